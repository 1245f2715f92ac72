/- Contracts of functions of the program: each as a Lean function, and that its call does what that says; printed by cprint.py (this session) over print.py of the kit. Conditions: the hypotheses of each theorem. -/
import Derived.Test.YtlhniagacegbeaaDoorVZ
import Derived.Test.YtlhniagacegbeaaDoorP0
import Derived.Test.YtlhniagacegbeaaDoorP4
namespace Go.Proofs.YtlhniagacegbeaaDoor.P
open Go.RowKit Go.Proofs.YtlhniagacegbeaaDoorW.PrintWords Go.Proofs.YtlhniagacegbeaaDoorW.PrintWords.Kd Go.Proofs.YtlhniagacegbeaaDoorW.PrintLast Go.Proofs.YtlhniagacegbeaaDoorW.PrintMore Go.Proofs.YtlhniagacegbeaaDoorW.PrintMore.Kd
attribute [local go_sem] max2_int min2_int max_two min_two max_three min_three max_four min_four   -- for this text's walks alone
set_option linter.unusedVariables false
set_option maxHeartbeats 8000000
set_option maxRecDepth 100000
set_option linter.unusedSimpArgs false
def impl_TrmCell_ok.f (a0_0:Int) (a0_1:Int) (a0_2:ByteArray):Option (Bool):=if a0_0=1 then ((impl_in.f a0_1 0 99999).bind fun ch=>(if ch=true then (some (a0_2.toList == ([]:List UInt8))) else (some false))) else (if a0_0=2 then ((impl_in.f a0_1 (-9999) 9999).bind fun ci=>(if ci=true then (some (a0_2.toList == ([]:List UInt8))) else (some false))) else (if a0_0=3 then ((impl_in.f a0_1 0 3).bind fun cj=>(if cj=true then ((impl_nameOk.f a0_2).bind fun ck=>(some ck)) else (some false))) else (some false)))
theorem impl_TrmCell_ok.calls (a0_0:Int) (a0_1:Int) (a0_2:ByteArray) (r:Bool) (w:World) (h:impl_TrmCell_ok.f a0_0 a0_1 a0_2=some r) :
  Calls Tryd.prog 63 #[.agg #[.int .i64 a0_0,.int .i64 a0_1,.string a0_2]] w fun e w'=>e = .returned (.bool r)∧Below w.heap.size w w':=by
 have hu44:=Tryd.underlying44;have HB:=Am (Below.refl w.heap.size w);have H:(if a0_0=1 then ((impl_in.f a0_1 0 99999).bind fun ch=>(if ch=true then (some (a0_2.toList == ([]:List UInt8))) else (some false))) else (if a0_0=2 then ((impl_in.f a0_1 (-9999) 9999).bind fun ci=>(if ci=true then (some (a0_2.toList == ([]:List UInt8))) else (some false))) else (if a0_0=3 then ((impl_in.f a0_1 0 3).bind fun cj=>(if cj=true then ((impl_nameOk.f a0_2).bind fun ck=>(some ck)) else (some false))) else (some false))))=some r:=h;clear h;have HC2:=Am H;clear H;go_enter Tryd.func63,Tryd.ntmps63;go_upto_if 5 with (first|((with_reducible refine gate_dst (N:=1) rfl ?_);refine box_event ?hg (N:=1) ?hd (cs:=#[.int .i64 a0_0,.int .i64 a0_1,.string a0_2]) (t:=44) ?hr ?_;(case hd=>rfl);(case hg=>rfl);(case hr=>first|(go_simp;done)|(go_simp;rfl));intro en hg w3 hbox hb;have n_:=as3 (below_step Qd hb) (hbox) ((by rw [hg];exact (below_size Qd):w.heap.size≤en));clear HB;obtain ⟨HB,b1,bM⟩:=n_;clear hb hbox hg;obtain ⟨hcz4_0,hcz4_1,hcz4_2,hfz4_0,hfz4_1,hfz4_2⟩:=blk3 b1.1))
 (try simp only [Act.put,sA_,sZ_,sS_]);have H:=HC2.1;clear HC2;by_cases c5:a0_0=1
 ·rw [if_pos c5] at H
  obtain ⟨c5b0,c5b1⟩:=bqP c5;clear c5;(first|rw [c5b0]|rw [c5b1]|(simp only [i64_w,i32_w];rw [c5b0])|skip);obtain ⟨ch,A6,H⟩:=bnd H;(try dsimp only at H);by_cases c7:ch=true
  ·subst c7
   rw [if_pos rfl] at H;obtain rfl:=oi H;obtain ⟨hcz8_0,hcz8_1,hcz8_2,hfz8_0,hfz8_1,hfz8_2⟩:=blk3 b1.1
   go_wp2_with (first|(go_at_call 56;(with_reducible refine (impl_in.calls a0_1 0 99999 true _ A6.1).mono ?_);rintro e w' ⟨rfl,⟨nd,rfl⟩⟩))
   go_ret;exact ⟨Qg,Zk⟩
  ·replace c7:=Bool.eq_false_iff.mpr c7
   subst c7;rw [if_neg nft] at H;obtain rfl:=oi H;obtain ⟨hcz9_0,hcz9_1,eW,hfz9_0,hfz9_1,eX⟩:=blk3 b1.1
   go_wp2_with (first|(go_at_call 56;(with_reducible refine (impl_in.calls a0_1 0 99999 false _ A6.1).mono ?_);rintro e w' ⟨rfl,⟨nd,rfl⟩⟩))
   go_ret;exact ⟨Qg,Zk⟩
 ·rw [if_neg c5] at H
  obtain ⟨c5b0,c5b1⟩:=bqN c5;(first|rw [c5b0]|rw [c5b1]|(simp only [i64_w,i32_w];rw [c5b0])|skip);by_cases c10:a0_0=2
  ·rw [if_pos c10] at H
   obtain ⟨c10b0,c10b1⟩:=bqP c10;clear c10;obtain ⟨ci,A11,H⟩:=bnd H;(try dsimp only at H);by_cases c12:ci=true
   ·subst c12
    rw [if_pos rfl] at H;obtain rfl:=oi H;obtain ⟨hcz13_0,hcz13_1,hcz13_2,hfz13_0,hfz13_1,hfz13_2⟩:=blk3 b1.1
    go_wp2_with (first|(go_at_call 56;(with_reducible refine (impl_in.calls a0_1 (-9999) 9999 true _ A11.1).mono ?_);rintro e w' ⟨rfl,⟨nd,rfl⟩⟩))
    go_ret;exact ⟨Qg,Zk⟩
   ·replace c12:=Bool.eq_false_iff.mpr c12
    subst c12;rw [if_neg nft] at H;obtain rfl:=oi H;obtain ⟨hcz14_0,hcz14_1,hcz14_2,hfz14_0,hfz14_1,hfz14_2⟩:=blk3 b1.1
    go_wp2_with (first|(go_at_call 56;(with_reducible refine (impl_in.calls a0_1 (-9999) 9999 false _ A11.1).mono ?_);rintro e w' ⟨rfl,⟨nd,rfl⟩⟩))
    go_ret;exact ⟨Qg,Zk⟩
  ·rw [if_neg c10] at H
   obtain ⟨c10b0,c10b1⟩:=bqN c10;by_cases c15:a0_0=3
   ·rw [if_pos c15] at H
    obtain ⟨c15b0,c15b1⟩:=bqP c15;clear c15;obtain ⟨cj,A16,H⟩:=bnd H;(try dsimp only at H);by_cases c17:cj=true
    ·subst c17
     rw [if_pos rfl] at H;obtain ⟨ck,eo,H⟩:=bnd H;(try dsimp only at H);obtain rfl:=oi H;obtain ⟨hcz19_0,hcz19_1,hcz19_2,hfz19_0,hfz19_1,hfz19_2⟩:=blk3 b1.1
     go_wp2_with (first|(go_at_call 56;(with_reducible refine (impl_in.calls a0_1 0 3 true _ A16.1).mono ?_);rintro e w' ⟨rfl,⟨nd,rfl⟩⟩)|(go_at_call 55;(with_reducible refine (impl_nameOk.calls a0_2 ck _ eo.1).mono ?_);rintro e w20 ⟨rfl,hb⟩;have n_:=as2 (blk_below (blkp b1.1) hb) (below_step Zk hb);clear b1 HB;obtain ⟨b1,HB⟩:=n_;clear hb))
     go_ret;exact ⟨Qg,Zk⟩
    ·replace c17:=Bool.eq_false_iff.mpr c17
     subst c17;rw [if_neg nft] at H;obtain rfl:=oi H;obtain ⟨hcz21_0,hcz21_1,hcz21_2,hfz21_0,hfz21_1,hfz21_2⟩:=blk3 b1.1
     go_wp2_with (first|(go_at_call 56;(with_reducible refine (impl_in.calls a0_1 0 3 false _ A16.1).mono ?_);rintro e w' ⟨rfl,⟨nd,rfl⟩⟩))
     go_ret;exact ⟨Qg,Zk⟩
   ·rw [if_neg c15] at H
    obtain ⟨c15b0,c15b1⟩:=bqN c15;obtain rfl:=oi H;go_wp2;go_ret;exact ⟨Qg,Zk⟩
def impl_TrmCell_arity.f (a0_0:Int) (a0_1:Int) (a0_2:ByteArray):Option (Int):=if a0_0=3 then (some a0_1) else (some 0)
theorem impl_TrmCell_arity.calls (a0_0:Int) (a0_1:Int) (a0_2:ByteArray) (r:Int) (w:World) (h:impl_TrmCell_arity.f a0_0 a0_1 a0_2=some r) :
  Calls Tryd.prog 71 #[.agg #[.int .i64 a0_0,.int .i64 a0_1,.string a0_2]] w fun e w'=>e = .returned (.int .i64 r)∧Below w.heap.size w w':=by
 have hu44:=Tryd.underlying44;have HB:=Am (Below.refl w.heap.size w);have H:(if a0_0=3 then (some a0_1) else (some 0))=some r:=h;clear h;have HC2:=Am H;clear H;go_enter Tryd.func71,Tryd.ntmps71;go_upto_if 5 with (first|((with_reducible refine gate_dst (N:=1) rfl ?_);refine box_event ?hg (N:=1) ?hd (cs:=#[.int .i64 a0_0,.int .i64 a0_1,.string a0_2]) (t:=44) ?hr ?_;(case hd=>rfl);(case hg=>rfl);(case hr=>first|(go_simp;done)|(go_simp;rfl));intro ep hg w3 hbox hb;have n_:=as3 (below_step Qd hb) (hbox) ((by rw [hg];exact (below_size Qd):w.heap.size≤ep));clear HB;obtain ⟨HB,dJ,bU⟩:=n_;clear hb hbox hg;obtain ⟨hcz4_0,hcz4_1,hcz4_2,hfz4_0,hfz4_1,hfz4_2⟩:=blk3 dJ.1))
 (try simp only [Act.put,sA_,sZ_,sS_]);have H:=HC2.1;clear HC2;by_cases c5:a0_0=3
 ·rw [if_pos c5] at H
  obtain ⟨c5b0,c5b1⟩:=bqP c5;clear c5;(first|rw [c5b0]|rw [c5b1]|(simp only [i64_w,i32_w];rw [c5b0])|skip);obtain rfl:=oi H;obtain ⟨hcz6_0,hcz6_1,hcz6_2,hfz6_0,hfz6_1,hfz6_2⟩:=blk3 dJ.1;go_wp2;go_ret;exact ⟨Qg,YM⟩
 ·rw [if_neg c5] at H
  obtain ⟨c5b0,c5b1⟩:=bqN c5;(first|rw [c5b0]|rw [c5b1]|(simp only [i64_w,i32_w];rw [c5b0])|skip);obtain rfl:=oi H;go_wp2;go_ret;exact ⟨Qg,YM⟩
def impl_size.l0:Nat→List (S44)→Int→Int→Option (Int)
 | 0,_,_,_=>none
 | k+1,x0,x3,x4=>if x4<x3 then (if x4=(x0.length:Int) then (some (wrap64 ((x0.length:Int)+1))) else (if 0≤x4 then (if x4<(x0.length:Int) then ((impl_TrmCell_arity.f ((rd_T44 x0 x4).f0) ((rd_T44 x0 x4).f1) ((rd_T44 x0 x4).f2)).bind fun cR=>(impl_size.l0 k x0 (wrap64 (x3+cR)) (wrap64 (x4+1)))) else (none)) else (none))) else (some x3)
def impl_size.f (k:Nat) (l0:List (S44)):Option (Int):=impl_size.l0 k l0 1 0
theorem impl_size.calls (k:Nat) (A0:Option Addr) (c0:Nat) (l0:List (S44)) (r:Int) (w:World) (hr0:Kd.C k44 w A0 l0.length l0) (hc0:l0.length≤c0) (h:impl_size.f k l0=some r) :
  Calls Tryd.prog 65 #[.slice A0 l0.length c0] w fun e w'=>e = .returned (.int .i64 r)∧Below w.heap.size w w':=by
 have hu44:=Tryd.underlying44;have HR0:=Am hr0;have HC0:=Am hc0;clear hr0 hc0;have HB:=Am (Below.refl w.heap.size w);have H:(impl_size.l0 k l0 1 0)=some r:=h;clear h;have H':=Am H;clear H;go_enter Tryd.func65,Tryd.ntmps65;go_wp2
 go_loopg [3,4] k (fun kq v3 v4 w'=>∃ (x3_1:Int) (x4_1:Int),v3 = .int .i64 x3_1∧v4 = .int .i64 x4_1∧Aside0 (impl_size.l0 kq l0 x3_1 x4_1=some r)∧Aside0 (kq≤k)∧Aside0 (Below w.heap.size w w'))
 case atStart=>exact ⟨(1),(0),Qf,Qf,H',⟨Nat.le_refl _⟩,⟨Qd⟩⟩
 case round=>
  clear H';obtain ⟨x3_1,x4_1,rfl,rfl,HA,HK1,HB⟩:=hrel;cases gk with
  | zero=>exact absurd HA.1 (by simp [impl_size.l0])
  | succ k1=>
   have H:=HA.1;clear HA;simp only [impl_size.l0] at H;by_cases c2:x4_1<x3_1
   ·rw [if_pos c2] at H
    have c2b0:=decide_eq_true c2;clear c2;by_cases c3:x4_1=(l0.length:Int)
    ·rw [if_pos c3] at H
     obtain ⟨c3b0,c3b1⟩:=bqP c3;clear c3;obtain rfl:=oi H;go_wp2;go_ret;exact ⟨Qg,Qd⟩
    ·rw [if_neg c3] at H
     obtain ⟨c3b0,c3b1⟩:=bqN c3;obtain ⟨c4,H⟩:=ifS H;have c4b0:=decide_eq_true c4;clear c4;obtain ⟨c5,H⟩:=ifS H;have c5b0:=decide_eq_true c5;clear c5;obtain ⟨cR,A6,H⟩:=bnd H;(try dsimp only at H);have H':=Am H;clear H;have df:0≤(x4_1:Int):=of_decide_eq_true Qc;have dg:x4_1<(l0.length:Int):=of_decide_eq_true Qc;obtain ⟨eY,eq,dK,dL,dM⟩:=at_T44 HR0.1 x4_1 df dg;cases eq
     replace dK:=cB dK HB.1;replace dL:=cB dL HB.1;replace dM:=cB dM HB.1;obtain ⟨df,dg⟩:=et2 df dg
     go_wp2_with (first|(go_at_call 71;(with_reducible refine (impl_TrmCell_arity.calls ((rd_T44 l0 x4_1).f0) ((rd_T44 l0 x4_1).f1) ((rd_T44 l0 x4_1).f2) cR _ A6.1).mono ?_);rintro e w7 ⟨rfl,hb⟩;replace HB:=Am (below_step Qd hb);clear hb))
     go_roundg k1
     case measure=>have:=HK1.1;omega
     case rel=>exact ⟨(wrap64 (x3_1+cR)),(wrap64 (x4_1+1)),Qf,Qf,H',⟨QA⟩,⟨Qd⟩⟩
   ·rw [if_neg c2] at H
    have c2b0:=decide_eq_false c2;clear c2;obtain rfl:=oi H;go_wp2;go_ret;exact ⟨Qg,Qd⟩
def firstAt (p:Cat.Cell→Bool):List Cat.Cell→Nat→Int
 | [],_=>-1
 | c :: l,i=>if p c then (i:Int) else firstAt p l (i+1)
theorem firstAt_any (p:Cat.Cell→Bool):∀ (l:List Cat.Cell) (i:Nat),decide (firstAt p l i≥0)=l.any p
 | [],i=>by simp [firstAt]
 | c :: l,i=>by
  unfold firstAt;by_cases h:p c=true
  ·simp [h]
  ·have h':p c=false:=by simpa using h
   simp only [h',List.any_cons,Bool.false_or];exact firstAt_any p l (i+1)
theorem firstAt_drop (p:Cat.Cell→Bool) (l:List Cat.Cell) (i:Nat) (h:i<l.length):firstAt p (l.drop i) i=if p (rd_T44 l (i:Int)) then (i:Int) else firstAt p (l.drop (i+1)) (i+1):=by
 rw [List.drop_eq_getElem_cons h];have:rd_T44 l (i:Int)=l[i]:=by simp [rd_T44,List.getD,h]
 rw [this];rfl
def PredC (g:Nat) (lb:Array Value) (p:Cat.Cell→Bool) (w:World):Prop:=
 ∀ (W:World) (x:Cat.Cell),Below w.heap.size w W→Calls Tryd.prog g (#[.agg #[.int .i64 x.f0,.int .i64 x.f1,.string x.f2]]++lb) W fun e w'=>e = .returned (.bool (p x))∧Below W.heap.size W w'
set_option maxHeartbeats 4000000 in
theorem indexFunc_cells (g:Nat) (lb:Array Value) (p:Cat.Cell→Bool) (eg:∀ args w,(callFunc g args).run Tryd.prog w = .ok (.enter g args) w) (A0:Option Addr) (c0:Nat) (l0:List (S44)) (w:World)
  (hr0:Kd.C k44 w A0 l0.length l0) (hc0:l0.length≤c0) (hp:PredC g lb p w) :
  Calls Tryd.prog 82 #[.slice A0 l0.length c0,.func (.func g) #[] lb] w fun e w'=>e = .returned (.int .i64 (firstAt p l0 0))∧Below w.heap.size w w':=by
 have HR:=Am hr0;have HP:=Am hp;have hm:l0.length≤9223372036854775807:=hr0.2.1;clear hr0 hp;go_enter Tryd.func82,Tryd.ntmps82;go_wp2
 go_loopg [5,8] l0.length (fun gg _ s8 wr=>∃ kk:Nat,kk≤l0.length∧l0.length - kk≤gg∧s8 = .int .i64 kk∧Aside0 (Below w.heap.size w wr)∧Aside0 (firstAt p l0 0=firstAt p (l0.drop kk) kk))
 case atStart=>exact ⟨0,Nat.zero_le _,Qe,rfl,⟨Below.refl _ w⟩,⟨rfl⟩⟩
 case round=>
  obtain ⟨kk,hkk,hg,rfl,BW,A⟩:=hrel;by_cases hlt:kk<l0.length
  ·have hltz:(kk:Int)<(l0.length:Int):=by omega
   have dN:=Am (firstAt_drop p l0 kk hlt);obtain ⟨ad,e1,hx0,hx1,hx2⟩:=at_T44 HR.1 (kk:Int) Qe hltz;cases e1
   rw [Int.toNat_natCast] at hx0 hx1 hx2;replace hx0:=cB hx0 BW.1;replace hx1:=cB hx1 BW.1;replace hx2:=cB hx2 BW.1;have hcall:=HP.1 wr (rd_T44 l0 (kk:Int)) BW.1
   generalize hy:rd_T44 l0 (kk:Int)=y at hx0 hx1 hx2 hcall
   have B:=Am hy;clear hy;cases hq:p y with
   | true=>
    rw [hq] at hcall;have Q:=Am hq;clear hq
    go_wp2_with (go_at_fn g;refine hcall.mono ?_;rintro e w' ⟨rfl,hb'⟩)
    go_ret;refine ⟨?_,below_step BW.1 hb'⟩;rw [A.1,dN.1,B.1,if_pos Q.1];rfl
   | false=>
    rw [hq] at hcall;have Q:=Am hq;clear hq
    go_wp2_with (go_at_fn g;refine hcall.mono ?_;rintro e w' ⟨rfl,hb'⟩)
    go_roundg (l0.length - (kk+1))
    case measure=>omega
    case rel=>
     refine ⟨kk+1,Qe,Qe,by go_num,⟨below_step BW.1 hb'⟩,⟨?_⟩⟩;rw [A.1,dN.1,B.1,if_neg (by rw [Q.1];simp)]
  ·have hltz:¬ (kk:Int)<(l0.length:Int):=by omega
   have e:kk=l0.length:=Qe;have hE:=Am e;clear e;go_wp2;go_ret;refine ⟨?_,BW.1⟩;rw [A.1,hE.1,List.drop_length];rfl
theorem in_pure (a b c:Int):impl_in.f a b c=some (decide (b≤a∧a≤c)):=by
 unfold impl_in.f;by_cases h:a≥b
 ·rw [if_pos h]
  have:b≤a:=h
  simp [this]
 ·rw [if_neg h]
  have:¬ b≤a:=h
  simp [this]
theorem dropWhile_nil {α:Type} (p:α→Bool):∀ l:List α,l.dropWhile p=[]↔∀ x ∈ l,p x=true
 | []=>by simp
 | a :: l=>by
  rw [List.dropWhile_cons];by_cases h:p a=true
  ·rw [if_pos h,dropWhile_nil p l];simp [h]
  ·rw [if_neg h];simp [h]
theorem dropWhile_head {α:Type} (p:α→Bool):∀ (l:List α) (h:l.dropWhile p≠[]),p ((l.dropWhile p).head h)=false
 | [],h=>absurd rfl h
 | a :: l,h=>by
  by_cases ha:p a=true
  ·have e:(a :: l).dropWhile p=l.dropWhile p:=by rw [List.dropWhile_cons,if_pos ha]
   have:=dropWhile_head p l (by rw [← e];exact h)
   simpa only [e] using this
  ·have e:(a :: l).dropWhile p=a :: l:=by rw [List.dropWhile_cons,if_neg ha]
   simp only [e,List.head_cons]
   simpa using ha
theorem trim_az (l:List UInt8):(Lib.trimS l [97,98,99,100,101,102,103,104,105,106,107,108,109,110,111,112,113,114,115,116,117,118,119,120,121,122]=[])↔l.all (fun b=>decide (97≤b.toNat∧b.toNat≤122))=true:=by
 have hc:∀ b:UInt8,([97,98,99,100,101,102,103,104,105,106,107,108,109,110,111,112,113,114,115,116,117,118,119,120,121,122]:List UInt8).contains b=decide (97≤b.toNat∧b.toNat≤122):=by
  intro b;have:∀ n:Fin 256,([97,98,99,100,101,102,103,104,105,106,107,108,109,110,111,112,113,114,115,116,117,118,119,120,121,122]:List UInt8).contains (UInt8.ofNat n.val)=decide (97≤(UInt8.ofNat n.val).toNat∧(UInt8.ofNat n.val).toNat≤122):=Qa;have h2:=this ⟨b.toNat,b.toNat_lt⟩
  simpa using h2
 unfold Lib.trimS Lib.trimLeftS Lib.trimRightS;simp only [hc];rw [dropWhile_nil];rw [List.all_eq_true]
 constructor
 ·intro h x hx
  by_cases hd:(l.reverse.dropWhile fun b=>decide (97≤b.toNat∧b.toNat≤122))=[]
  ·rw [dropWhile_nil] at hd
   exact hd x (by simpa using hx)
  ·exfalso
   have h1:=dropWhile_head (fun b:UInt8=>decide (97≤b.toNat∧b.toNat≤122)) l.reverse hd;have h2:=h ((l.reverse.dropWhile fun b=>decide (97≤b.toNat∧b.toNat≤122)).head hd) Qj;rw [h1] at h2;cases h2
 ·intro h x hx
  have:x ∈ l.reverse.dropWhile (fun b:UInt8=>decide (97≤b.toNat∧b.toNat≤122)):=by simpa using hx
  exact h x (by simpa using (List.dropWhile_sublist _).mem this)
theorem nameOk_pure (s:ByteArray):impl_nameOk.f s=some (Cat.nameOk s):=by
 have hs:s.data.toList.length=s.size:=by rw [Array.length_toList];rfl
 unfold impl_nameOk.f;rw [in_pure];simp only [Option.bind_some];unfold Cat.nameOk Cat.nameOkL;rw [hs];by_cases h:(1:Int)≤(s.size:Int)∧(s.size:Int)≤8
 ·have h':1≤s.size∧s.size≤8:=by omega
  rw [if_pos (by simpa using h)];unfold strings_Trim.f;rw [if_pos Qe,if_pos Qa,if_pos Qa];simp only [Option.bind_some,ByteArray.toList_eq];have ha:=trim_az s.data.toList;by_cases hz:s.data.toList.all (fun b=>decide (97≤b.toNat∧b.toNat≤122))=true
  ·rw [if_pos (ha.2 hz),hz]
   simp [h',bne]
  ·rw [if_neg (fun e=>hz (ha.1 e)),Bool.not_eq_true _ |>.mp hz]
   simp
 ·have h':¬ (1≤s.size∧s.size≤8):=by omega
  rw [if_neg (by simpa using h)]
  simp [h']
theorem cellOk_pure (c:Cat.Cell):impl_TrmCell_ok.f c.f0 c.f1 c.f2=some (Cat.cellOk c):=by
 unfold impl_TrmCell_ok.f Cat.cellOk;simp only [in_pure,nameOk_pure,Option.bind_some,ByteArray.toList_eq];have e:∀ l:List UInt8,(l == [])=l.isEmpty:=by intro l;cases l <;> rfl
 by_cases h1:c.f0=1
 ·rw [if_pos h1,if_pos h1]
  by_cases h:(0:Int)≤c.f1∧c.f1≤99999
  ·rw [if_pos (by simpa using h),e];simp [h]
  ·rw [if_neg (by simpa using h)];simp only [decide_eq_false h,Bool.false_and]
 rw [if_neg h1,if_neg h1];by_cases h2:c.f0=2
 ·rw [if_pos h2,if_pos h2]
  by_cases h:(-9999:Int)≤c.f1∧c.f1≤9999
  ·rw [if_pos (by simpa using h),e];simp [h]
  ·rw [if_neg (by simpa using h)];simp only [decide_eq_false h,Bool.false_and]
 rw [if_neg h2,if_neg h2];by_cases h3:c.f0=3
 ·rw [if_pos h3,if_pos h3]
  by_cases h:(0:Int)≤c.f1∧c.f1≤3
  ·rw [if_pos (by simpa using h)];simp only [decide_eq_true h,Bool.true_and]
  ·rw [if_neg (by simpa using h)];simp only [decide_eq_false h,Bool.false_and]
 rw [if_neg h3,if_neg h3]
theorem cellOk_ar {c:Cat.Cell} (h:Cat.cellOk c=true):(if c.f0=3 then some c.f1 else some 0:Option Int)=some ((Cat.ar c:Nat):Int)∧Cat.ar c≤3:=by
 unfold Cat.ar;by_cases h3:c.f0=3
 ·unfold Cat.cellOk at h
  rw [if_neg Qe,if_neg Qe,if_pos h3] at h;have h:=(Bool.and_eq_true_iff.1 h).1;have h:=of_decide_eq_true h;rw [if_pos h3,if_pos h3];refine ⟨congrArg some ?_,?_⟩ <;> omega
 ·rw [if_neg h3,if_neg h3]
  exact ⟨rfl,Qe⟩
theorem size_l0:∀ (r a:List Cat.Cell) (m:Nat),(a++r).length≤1099511627776→Cat.okl (a++r)→m≤1+3 * a.length→
  Ev (fun k=>impl_size.l0 k (a++r) ((a.length+m:Nat):Int) ((a.length:Nat):Int)) (match Cat.skip m r with
   | some s=>(((a++r).length - s.length:Nat):Int)
   | none=>(((a++r).length+1:Nat):Int)):=by
 intro r
 induction r with
 | nil=>
  intro a m hl ho hm;refine Ev.step (fun k=>rfl) ?_;simp only [impl_size.l0];cases m with
  | zero=>
   rw [Cat.skip_zero];refine Ev.ifn Qe ?_;exact Ev.pure Qj
  | succ n=>
   rw [Cat.skip_nil];refine Ev.ifp Qe (Ev.ifp Qj ?_);refine Ev.pure ?_;have:(a++[]).length≤1099511627776:=hl;rw [IntWalk.wrap64_in _ ⟨Qe,Qe⟩];rfl
 | cons c r ih=>
  intro a m hl ho hm;refine Ev.step (fun k=>rfl) ?_;simp only [impl_size.l0];cases m with
  | zero=>
   rw [Cat.skip_zero];refine Ev.ifn Qe ?_;exact Ev.pure Qj
  | succ n=>
   have hc:Cat.cellOk c=true:=ho c Qj;obtain ⟨h1,h2⟩:=cellOk_ar hc;have hll:a.length+(r.length+1)≤1099511627776:=by simpa using hl
   have e1:((a.length:Nat):Int)<((a++c :: r).length:Int):=by simp;omega
   have er:rd_T44 (a++c :: r) ((a.length:Nat):Int)=c:=by simp [rd_T44,List.getD]
   refine Ev.ifp Qe (Ev.ifn Qe (Ev.ifp Qe (Ev.ifp e1 ?_)));rw [er];refine Ev.bindv (a:=((Cat.ar c:Nat):Int)) h1 ?_;have e:(a++[c])++r=a++c :: r:=Qj;have I:=ih (a++[c]) (n+Cat.ar c) (by rw [e];exact hl) (by rw [e];exact ho) (by simp;omega);rw [e] at I;rw [Cat.skip_cons]
   have e2:wrap64 (((a.length+(n+1):Nat):Int)+((Cat.ar c:Nat):Int))=(((a++[c]).length+(n+Cat.ar c):Nat):Int):=by
    rw [IntWalk.wrap64_in _ ⟨Qe,Qe⟩];simp;omega
   have e3:wrap64 (((a.length:Nat):Int)+1)=(((a++[c]).length:Nat):Int):=by
    rw [IntWalk.wrap64_in _ ⟨Qe,Qe⟩];simp
   rw [e2,e3];exact I
theorem size_ev (l:List Cat.Cell) (hl:l.length≤1099511627776) (ho:Cat.okl l):Ev (fun k=>impl_size.f k l) ((Cat.sizeOf l:Nat):Int):=by
 have h:=size_l0 l [] 1 (by simpa using hl) (by simpa using ho) Qj;unfold impl_size.f;unfold Cat.sizeOf;simp only [List.nil_append,List.length_nil,Nat.zero_add] at h;cases hs:Cat.skip 1 l with
 | none=>rw [hs] at h;exact h
 | some s=>rw [hs] at h;exact h
theorem skip_len:∀ (l:List Cat.Cell) (n:Nat) (r:List Cat.Cell),Cat.skip n l=some r→r.length≤l.length:=by
 intro l n r h;obtain ⟨p,e,_⟩:=Cat.skip_split l n r h;rw [e];simp
theorem sizeOf_eq (l:List Cat.Cell):(Cat.sizeOf l=l.length)↔Cat.skip 1 l=some []:=by
 unfold Cat.sizeOf;cases h:Cat.skip 1 l with
 | none=>simp
 | some s=>
  have:=skip_len l 1 s h;simp only [Option.some.injEq]
  constructor
  ·intro e
   cases s with
   | nil=>rfl
   | cons c s=>
    cases l with
    | nil=>simp at this
    | cons d l=>simp at e this;omega
  ·rintro rfl;simp
set_option maxHeartbeats 4000000 in
theorem containsFunc_cells (g:Nat) (lb:Array Value) (p:Cat.Cell→Bool) (eg:∀ args w,(callFunc g args).run Tryd.prog w = .ok (.enter g args) w) (A0:Option Addr) (c0:Nat) (l0:List (S44)) (w:World)
  (hr0:Kd.C k44 w A0 l0.length l0) (hc0:l0.length≤c0) (hp:PredC g lb p w) :
  Calls Tryd.prog 64 #[.slice A0 l0.length c0,.func (.func g) #[] lb] w fun e w'=>e = .returned (.bool (l0.any p))∧Below w.heap.size w w':=by
 have H:=Am (indexFunc_cells g lb p eg A0 c0 l0 w hr0 hc0 hp);have HA:=Am (firstAt_any p l0 0);clear hr0 hp;go_enter Tryd.func64,Tryd.ntmps64
 go_wp2_with (go_at_call 82;refine H.1.mono ?_;rintro e w' ⟨rfl,hb⟩)
 go_ret;exact ⟨by rw [← HA.1];rfl,hb⟩
set_option maxHeartbeats 4000000 in
theorem trmOk_wrong (x:Cat.Cell) (w:World):Calls Tryd.prog 62 #[.agg #[.int .i64 x.f0,.int .i64 x.f1,.string x.f2]] w fun e w'=>e = .returned (.bool (!Cat.cellOk x))∧Below w.heap.size w w':=by
 have A:=Am (cellOk_pure x);go_enter Tryd.func62,Tryd.ntmps62
 go_wp2_with (go_at_call 63;(with_reducible refine (impl_TrmCell_ok.calls x.f0 x.f1 x.f2 (Cat.cellOk x) _ A.1).mono ?_);rintro e w' ⟨rfl,hb⟩)
 go_ret;exact ⟨rfl,below_step (below_alloc (Below.refl _ _) _) hb⟩
def impl_TrmOk.f (l0:List (S44)):Option (Bool):=some (Cat.isTerm l0)
set_option maxHeartbeats 4000000 in
theorem impl_TrmOk.calls (A0:Option Addr) (c0:Nat) (l0:List (S44)) (r:Bool) (w:World) (hr0:Kd.C k44 w A0 l0.length l0) (hc0:l0.length≤c0) (h:impl_TrmOk.f l0=some r) :
  Calls Tryd.prog 39 #[.slice A0 l0.length c0] w fun e w'=>e = .returned (.bool r)∧Below w.heap.size w w':=by
 obtain rfl:=Option.some.inj h;clear h;have eg:∀ args w,(callFunc 62 args).run Tryd.prog w = .ok (.enter 62 args) w:=by intro args w;first|rfl|kernel_rfl
 have HF:=Am (containsFunc_cells 62 #[] (fun c=>!Cat.cellOk c) eg A0 c0 l0);have HC:=Am hr0;have HL:=Am hc0;have P1:=Am (fun w=>fun (W:World) (x:Cat.Cell) (_:Below w.heap.size w W)=>trmOk_wrong x W:∀ w:World,PredC 62 #[] (fun c=>!Cat.cellOk c) w);clear hr0 hc0 eg;by_cases h1:1≤l0.length∧l0.length≤40
 case neg=>
  have A:=Am (show impl_in.f (l0.length:Int) 1 40=some false by rw [in_pure];exact congrArg some (decide_eq_false Qe));have R:=Am (show Cat.isTerm l0=false by unfold Cat.isTerm;rw [decide_eq_false h1];rfl);clear h1;go_enter Tryd.func39,Tryd.ntmps39
  go_wp2_with (go_at_call 56;(with_reducible refine (impl_in.calls (l0.length:Int) 1 40 false _ A.1).mono ?_);rintro e w' ⟨rfl,⟨nd,rfl⟩⟩)
  go_ret;exact ⟨by rw [R.1];rfl,pw_below_drewN (Below.refl _ _) _⟩
 have A:=Am (show impl_in.f (l0.length:Int) 1 40=some true by rw [in_pure];exact congrArg some (decide_eq_true Qe));by_cases h2:l0.all Cat.cellOk=true
 case neg=>
  have Q:=Am (show (l0.any (fun c=>!Cat.cellOk c))=true by simpa [List.any_eq_true,List.all_eq_true] using h2);have R:=Am (show Cat.isTerm l0=false by unfold Cat.isTerm;rw [Bool.eq_false_iff.2 h2,Bool.false_and,Bool.and_false]);clear h1 h2;go_enter Tryd.func39,Tryd.ntmps39
  go_wp2_with (first|(go_at_call 56;(with_reducible refine (impl_in.calls (l0.length:Int) 1 40 true _ A.1).mono ?_);rintro e w' ⟨rfl,⟨nd,rfl⟩⟩)|(go_at_call 64;(refine (HF.1 _ (C_drewN HC.1 _) HL.1 (P1.1 _)).mono ?_);rintro e w' ⟨rfl,hb⟩;rw [Q.1]))
  go_ret;exact ⟨by rw [R.1];rfl,below_step (pw_below_drewN (Below.refl _ _) _) hb⟩
 have Q:=Am (show (l0.any (fun c=>!Cat.cellOk c))=false by simpa [List.any_eq_false,List.all_eq_true] using h2);obtain ⟨k,hk⟩:=(size_ev l0 Qe (fun c hc=>List.all_eq_true.1 h2 c hc)).rounds;have S:=Am hk;clear hk;by_cases h3:Cat.sizeOf l0=l0.length
 case neg=>
  have R:=Am (show Cat.isTerm l0=false by
   unfold Cat.isTerm;rw [decide_eq_false (fun e=>h3 ((sizeOf_eq l0).2 e)),Bool.and_false,Bool.and_false])
  have e0:(((Cat.sizeOf l0:Nat):Int) == (l0.length:Int))=false:=beq_eq_false_iff_ne.2 Qe;clear h1 h2 h3;go_enter Tryd.func39,Tryd.ntmps39
  go_wp2_with (first|(go_at_call 56;(with_reducible refine (impl_in.calls (l0.length:Int) 1 40 true _ A.1).mono ?_);rintro e w' ⟨rfl,⟨nd,rfl⟩⟩)|(go_at_call 64;(refine (HF.1 _ (C_drewN HC.1 _) HL.1 (P1.1 _)).mono ?_);rintro e w' ⟨rfl,hb⟩;rw [Q.1];have HB:=Am (below_step (pw_below_drewN (Below.refl w.heap.size w) _) hb);clear hb)|(go_at_call 65;(refine (impl_size.calls k A0 c0 l0 _ _ (C_below HC.1 HB.1) HL.1 S.1).mono ?_);rintro e w'' ⟨rfl,hb⟩))
  go_ret;exact ⟨by rw [R.1];rfl,below_step HB.1 hb⟩
 have R:=Am (show Cat.isTerm l0=true by
  unfold Cat.isTerm;rw [decide_eq_true ((sizeOf_eq l0).1 h3),decide_eq_true h1,h2];rfl)
 have e0:(((Cat.sizeOf l0:Nat):Int) == (l0.length:Int))=true:=beq_iff_eq.2 Qe;clear h1 h2 h3;go_enter Tryd.func39,Tryd.ntmps39
 go_wp2_with (first|(go_at_call 56;(with_reducible refine (impl_in.calls (l0.length:Int) 1 40 true _ A.1).mono ?_);rintro e w' ⟨rfl,⟨nd,rfl⟩⟩)|(go_at_call 64;(refine (HF.1 _ (C_drewN HC.1 _) HL.1 (P1.1 _)).mono ?_);rintro e w' ⟨rfl,hb⟩;rw [Q.1];have HB:=Am (below_step (pw_below_drewN (Below.refl w.heap.size w) _) hb);clear hb)|(go_at_call 65;(refine (impl_size.calls k A0 c0 l0 _ _ (C_below HC.1 HB.1) HL.1 S.1).mono ?_);rintro e w'' ⟨rfl,hb⟩))
 go_ret;exact ⟨by rw [R.1];rfl,below_step HB.1 hb⟩
def impl_called.f (l0:List (S44)):Option (Bool):=(impl_TrmOk.f l0).bind fun cl=>(if cl=true then (if 0<(l0.length:Int) then (some (((rd_T44 l0 0).f0) == 3)) else (none)) else (some false))
theorem impl_called.calls (A0:Option Addr) (c0:Nat) (l0:List (S44)) (r:Bool) (w:World) (hr0:Kd.C k44 w A0 l0.length l0) (hc0:l0.length≤c0) (h:impl_called.f l0=some r) :
  Calls Tryd.prog 31 #[.slice A0 l0.length c0] w fun e w'=>e = .returned (.bool r)∧Below w.heap.size w w':=by
 have HR0:=Am hr0;have HC0:=Am hc0;clear hr0 hc0;have HB:=Am (Below.refl w.heap.size w);have H:((impl_TrmOk.f l0).bind fun cl=>(if cl=true then (if 0<(l0.length:Int) then (some (((rd_T44 l0 0).f0) == 3)) else (none)) else (some false)))=some r:=h;clear h;obtain ⟨cl,A2,H⟩:=bnd H;(try dsimp only at H);by_cases c3:cl=true
 ·subst c3
  rw [if_pos rfl] at H;obtain ⟨c4,H⟩:=ifS H;have c4b0:=decide_eq_true c4;have c4b1:decide (0<l0.length)=true:=decide_eq_true Qe;clear c4;obtain rfl:=oi H;go_enter Tryd.func31,Tryd.ntmps31
  go_wp2_with (first|(go_at_call 39;(with_reducible refine (impl_TrmOk.calls _ _ l0 true _ ?side1 ?side2 A2.1).mono ?_);(case side1=>exact Zr);(case side2=>exact HC0.1);rintro e w5 ⟨rfl,hb⟩;replace HB:=Am (below_step Qd hb);clear hb;have dh:0≤(0:Int):=Qe;have di:0<(l0.length:Int):=of_decide_eq_true Qc;obtain ⟨eZ,es,cm,cn,co⟩:=at_T44 HR0.1 0 dh di;cases es;have e4:(0<l0.length)=True:=eq_true Qe;(try rw [tn0] at cm);(try rw [show 0 * 3=0 from rfl] at cm);(try rw [Addr.add_zero'] at cm);(try rw [tn0] at cn);(try rw [show 0 * 3=0 from rfl] at cn);(try rw [Addr.add_zero'] at cn);(try rw [tn0] at co);(try rw [show 0 * 3=0 from rfl] at co);(try rw [Addr.add_zero'] at co);replace cm:=cB cm HB.1;replace cn:=cB cn HB.1;replace co:=cB co HB.1;replace dh:=eq_true dh;replace di:=eq_true di))
  go_ret;exact ⟨Qg,Qd⟩
 ·replace c3:=Bool.eq_false_iff.mpr c3
  subst c3;rw [if_neg nft] at H;obtain rfl:=oi H;go_enter Tryd.func31,Tryd.ntmps31
  go_wp2_with (first|(go_at_call 39;(with_reducible refine (impl_TrmOk.calls _ _ l0 false _ ?side1 ?side2 A2.1).mono ?_);(case side1=>exact Zr);(case side2=>exact HC0.1);rintro e w6 ⟨rfl,hb⟩;replace HB:=Am (below_step Qd hb);clear hb))
  go_ret;exact ⟨Qg,Qd⟩
set_option maxHeartbeats 4000000 in
theorem below_pred (x:Cat.Cell) (v:Int) (gb:Nat) (w:World) (hv:w.cell? ⟨gb,0,none⟩=some (.int .i64 v)):Calls Tryd.prog 83 #[.agg #[.int .i64 x.f0,.int .i64 x.f1,.string x.f2],.pointer (some ⟨gb,0,none⟩)] w fun e w'=>e = .returned (.bool (decide (x.f0=1) && decide (v≤x.f1)))∧Below w.heap.size w w':=by
 have HV:=Am hv;clear hv;have HB:=Am (Below.refl w.heap.size w);by_cases c2:x.f0=1
 ·have c2b0:(x.f0 == 1)=true:=beq_iff_eq.mpr c2
  have R:=Am (show decide (x.f0=1)=true from decide_eq_true c2);clear c2;go_enter Tryd.func83,Tryd.ntmps83
  go_wp2_with (first|((with_reducible refine gate_dst (N:=2) rfl ?_);refine box_event ?hg (N:=2) ?hd (cs:=#[.int .i64 x.f0,.int .i64 x.f1,.string x.f2]) (t:=44) ?hr ?_;(case hd=>rfl);(case hg=>rfl);(case hr=>first|(go_simp;done)|(go_simp;rfl));intro gq hg w3 hbox hb;have n_:=as2 (below_step Qd hb) (hbox);clear HB;obtain ⟨HB,BK⟩:=n_;clear hb hbox hg;obtain ⟨hcz4_0,hcz4_1,hcz4_2,_,_,_⟩:=blk3 BK.1;have hv:=(HB.1.cell (World.block_lt_of_cell? w _ HV.1)).trans HV.1))
  go_ret;exact ⟨by rw [R.1];rfl,HB.1⟩
 ·have c2b0:(x.f0 == 1)=false:=beq_eq_false_iff_ne.mpr c2
  have R:=Am (show decide (x.f0=1)=false from decide_eq_false c2);clear c2;go_enter Tryd.func83,Tryd.ntmps83
  go_wp2_with (first|((with_reducible refine gate_dst (N:=2) rfl ?_);refine box_event ?hg (N:=2) ?hd (cs:=#[.int .i64 x.f0,.int .i64 x.f1,.string x.f2]) (t:=44) ?hr ?_;(case hd=>rfl);(case hg=>rfl);(case hr=>first|(go_simp;done)|(go_simp;rfl));intro gq hg w3 hbox hb;have n_:=as2 (below_step Qd hb) (hbox);clear HB;obtain ⟨HB,BK⟩:=n_;clear hb hbox hg;obtain ⟨hcz4_0,hcz4_1,hcz4_2,_,_,_⟩:=blk3 BK.1))
  go_ret;exact ⟨by rw [R.1];rfl,HB.1⟩
theorem below_pred' (x:Cat.Cell) (v:Int) (gb:Nat) (w:World) (hv:w.cell? ⟨gb,0,none⟩=some (.int .i64 v)):Calls Tryd.prog 83 (#[.agg #[.int .i64 x.f0,.int .i64 x.f1,.string x.f2]] ++ #[.pointer (some ⟨gb,0,none⟩)]) w fun e w'=>e = .returned (.bool (decide (x.f0=1) && decide (v≤x.f1)))∧Below w.heap.size w w':=by
 have ea:(#[.agg #[.int .i64 x.f0,.int .i64 x.f1,.string x.f2]] ++ #[.pointer (some ⟨gb,0,none⟩)]:Array Value) = #[.agg #[.int .i64 x.f0,.int .i64 x.f1,.string x.f2],.pointer (some ⟨gb,0,none⟩)]:=rfl;rw [ea];exact below_pred x v gb w hv
theorem below_predC (v:Int) (gb:Nat) (w:World) (hv:w.cell? ⟨gb,0,none⟩=some (.int .i64 v)):PredC 83 #[.pointer (some ⟨gb,0,none⟩)] (fun c=>decide (c.f0=1) && decide (v≤c.f1)) w:=by
 intro W x hb;exact below_pred' x v gb W ((hb.cell (World.block_lt_of_cell? w _ hv)).trans hv)
def impl_below.f (l0:List (S44)) (a1:Int):Option (Bool):=some (Cat.belowB a1 l0)
set_option maxHeartbeats 4000000 in
theorem impl_below.calls (A0:Option Addr) (c0:Nat) (l0:List (S44)) (a1:Int) (r:Bool) (w:World) (hr0:Kd.C k44 w A0 l0.length l0) (hc0:l0.length≤c0) (h:impl_below.f l0 a1=some r) :
  Calls Tryd.prog 67 #[.slice A0 l0.length c0,.int .i64 a1] w fun e w'=>e = .returned (.bool r)∧Below w.heap.size w w':=by
 obtain rfl:=Option.some.inj h;clear h;have eg:∀ args w,(callFunc 83 args).run Tryd.prog w = .ok (.enter 83 args) w:=by intro args w;first|rfl|kernel_rfl
 have HF:=Am (fun lb=>containsFunc_cells 83 lb (fun c=>decide (c.f0=1) && decide (a1≤c.f1)) eg A0 c0 l0);have HC:=Am hr0;have HL:=Am hc0;have R:=Am (show Cat.belowB a1 l0 = !(l0.any (fun c=>decide (c.f0=1) && decide (a1≤c.f1))) from rfl);have HB:=Am (Below.refl w.heap.size w);have P1:=Am (fun (gb:Nat) (w:World) (hv:w.cell? ⟨gb,0,none⟩=some (.int .i64 a1))=>below_predC a1 gb w hv);clear hr0 hc0 eg;go_enter Tryd.func67,Tryd.ntmps67
 go_wp2_with (first|((with_reducible refine gate_dst (N:=3) rfl ?_);refine box_event ?hg (N:=3) ?hd (cs:=#[.int .i64 a1]) (t:=3) ?hr ?_;(case hd=>rfl);(case hg=>rfl);(case hr=>first|(go_simp;done)|(go_simp;rfl));intro gq hg w3 hbox hb;have n_:=as2 (below_step Qd hb) (hbox);clear HB;obtain ⟨HB,BK⟩:=n_;clear hb hbox hg;have hcz4_0:=Am (show w3.cell? ⟨gq,0,none⟩=some (.int .i64 a1) from (blk_cell BK.1 0).trans rfl))|(go_at_call 64;(refine (HF.1 _ _ (C_below HC.1 HB.1) HL.1 (P1.1 _ _ hcz4_0.1)).mono ?_);rintro e w' ⟨rfl,hb⟩;replace HB:=Am (below_step HB.1 hb);clear hb))
 go_ret;exact ⟨by rw [R.1];rfl,HB.1⟩
def impl_inClause.f (l0:List (S44)):Option (Bool):=if (l0.length:Int)≤12 then ((impl_below.f l0 8).bind fun cq=>(some cq)) else (some false)
theorem impl_inClause.calls (A0:Option Addr) (c0:Nat) (l0:List (S44)) (r:Bool) (w:World) (hr0:Kd.C k44 w A0 l0.length l0) (hc0:l0.length≤c0) (h:impl_inClause.f l0=some r) :
  Calls Tryd.prog 45 #[.slice A0 l0.length c0] w fun e w'=>e = .returned (.bool r)∧Below w.heap.size w w':=by
 have HR0:=Am hr0;have HC0:=Am hc0;clear hr0 hc0;have HB:=Am (Below.refl w.heap.size w);have H:(if (l0.length:Int)≤12 then ((impl_below.f l0 8).bind fun cq=>(some cq)) else (some false))=some r:=h;clear h;by_cases c2:(l0.length:Int)≤12
 ·rw [if_pos c2] at H
  have c2b0:=decide_eq_true c2;have c2b1:decide (l0.length≤12)=true:=decide_eq_true Qe;clear c2;obtain ⟨cq,A3,H⟩:=bnd H;(try dsimp only at H);obtain rfl:=oi H;go_enter Tryd.func45,Tryd.ntmps45
  go_wp2_with (first|(go_at_call 67;(with_reducible refine (impl_below.calls _ _ l0 8 cq _ ?side1 ?side2 A3.1).mono ?_);(case side1=>exact Zr);(case side2=>exact HC0.1);rintro e w4 ⟨rfl,hb⟩;replace HB:=Am (below_step Qd hb);clear hb))
  go_ret;exact ⟨Qg,Qd⟩
 ·rw [if_neg c2] at H
  have c2b0:=decide_eq_false c2;have c2b1:decide (l0.length≤12)=false:=decide_eq_false Qe;clear c2;obtain rfl:=oi H;go_enter Tryd.func45,Tryd.ntmps45;go_wp2;go_ret;exact ⟨Qg,Qd⟩
def shapeOk (k:Int) (a b c:List Cat.Cell):Bool:=
 if k=1∨k=6 then (Cat.called a && Cat.inCl a) && (((b.length:Int) == 0) && ((c.length:Int) == 0))
 else if k=2∨k=4 then (Cat.isTerm a && Cat.inCl a) && ((Cat.isTerm b && Cat.inCl b) && ((c.length:Int) == 0))
 else if k=5 then (Cat.isTerm a && Cat.inCl a) && ((Cat.isTerm b && Cat.inCl b) && (Cat.isTerm c && Cat.inCl c))
 else if k=3 then ((a.length:Int) == 0) && (((b.length:Int) == 0) && ((c.length:Int) == 0))
 else false
theorem inClause_pure (l:List Cat.Cell):impl_inClause.f l=some (Cat.inCl l):=by
 unfold impl_inClause.f Cat.inCl;by_cases h:(l.length:Int)≤12
 ·rw [if_pos h,decide_eq_true (by omega:l.length≤12),Bool.true_and];rfl
 ·rw [if_neg h,decide_eq_false (by omega:¬ l.length≤12),Bool.false_and]
theorem called_pure (l:List Cat.Cell):impl_called.f l=some (Cat.called l):=by
 unfold impl_called.f Cat.called
 show ((some (Cat.isTerm l)).bind _)=_
 rw [Option.bind_some];by_cases h:Cat.isTerm l=true
 ·rw [if_pos h,h,Bool.true_and]
  cases l with
  | nil=>exact absurd h Qa
  | cons c l=>
   rw [if_pos (by rw [List.length_cons];omega)];rfl
 ·rw [if_neg h,Bool.eq_false_iff.2 h,Bool.false_and]
theorem goesF_ {P : Program} {ops : Array Oper} {Q : Exit → Act → World → Prop} {oi : Oper} {N : Option Tmp} {a : Act} {w : World} {K : Act → World → Prop} {f : FuncId} {fn : Func} {xs : Array Operand} {ts : Array TypeId} {t : Tmp} (hf : P.funcs[f]? = some fn) (hname : (fn.name == "runtime.NumGoroutine") = false) (hb : fn.body.isSome = true) (args : Array Value)
  (hw:Region.wanted oi (yielded ops a.tmps)=true) (hN:oi.dst=N) (hop:oi.op = .call { callee:=.value (.tmp t),args:=xs,argTypes:=ts }) (et:a.eval (.tmp t) = .func (.func f) #[] #[]) (hargs:xs.map a.eval=args)
  (h:Calls P f args w fun e w'=>∃ v,e = .returned v∧K (a.put N v) w'):if Region.wanted oi (yielded ops a.tmps)=true then Oper.wp P oi a w K Q else K (a.put N undef) w:=by
 refine call_ f args hw hN ?_ h;have he:=enters_ hf hname hb args w;unfold execOp
 simp [hop,et,resolve,Deferred.ofValue,invoke,hargs,he]
def impl_goalShape.f (a0_0:Int) (l0_1:List (S44)) (l0_2:List (S44)) (l0_3:List (S44)):Option (Bool):=some (shapeOk a0_0 l0_1 l0_2 l0_3)
def impl_goalShape.T1:Bool × List (List Nat × List Nat):=(true,[([],[]),([0],[0]),([1],[1]),([2],[2]),([],[]),([4],[4]),([5],[5]),([6],[6]),([],[]),([8],[8]),([9],[9]),([10],[10]),([3,0,1,2,3],[3]),([7,12,0,1,2,3,4,5,6,7,12],[7]),([11,13,0,1,2,3,4,5,6,7,8,9,10,11,12,13],[11])])
def impl_goalShape.B1:List Nat:=[0,1,3,7,0,16,48,112,0,256,768,1792,15,4351,16383]
theorem impl_goalShape.tab1:rtab .any (opsOf Tryd.f44 1)=impl_goalShape.T1:=Qb
theorem impl_goalShape.bits1:waitsOk impl_goalShape.T1.2 impl_goalShape.B1=true:=Qb
def impl_goalShape.T9:Bool × List (List Nat × List Nat):=(true,[([],[]),([0],[0]),([1],[1]),([2,2],[2]),([3],[3]),([3],[3]),([5,3],[3,5]),([4,6,3,3],[3,4,6]),([3,7],[3,7]),([],[]),([9],[9]),([10,7],[10]),([11,11],[11]),([12],[12]),([12],[12]),([14,12],[12,14]),([13,15,12,12],[12,13,15]),([12,16],[12,16]),([8,16,0,1,2,3,4,5,6,7,8],[8]),([17,18,0,1,2,3,4,5,6,7,8,9,10,11,12,13,14,15,16,17,18],[17])])
def impl_goalShape.B9:List Nat:=[0,1,3,7,15,15,47,127,255,0,512,1791,3839,7935,7935,24319,65279,130815,131071,524287]
theorem impl_goalShape.tab9:rtab .any (opsOf Tryd.f44 9)=impl_goalShape.T9:=Qb
theorem impl_goalShape.bits9:waitsOk impl_goalShape.T9.2 impl_goalShape.B9=true:=Qb
def impl_goalShape.T11:Bool × List (List Nat × List Nat):=(true,[([],[]),([0],[0]),([1],[1]),([2,2],[2]),([3],[3]),([3],[3]),([5,3],[3,5]),([4,6,3,3],[3,4,6]),([3,7],[3,7]),([],[]),([9],[9]),([10,7],[10]),([11,11],[11]),([12],[12]),([12],[12]),([14,12],[12,14]),([13,15,12,12],[12,13,15]),([12,16],[12,16]),([],[]),([18],[18]),([19,16],[19]),([20,20],[20]),([21],[21]),([21],[21]),([23,21],[21,23]),([22,24,21,21],[21,22,24]),([21,25],[21,25]),([8,25,0,1,2,3,4,5,6,7,8],[8]),([17,27,0,1,2,3,4,5,6,7,8,9,10,11,12,13,14,15,16,17,27],[17]),([26,28,0,1,2,3,4,5,6,7,8,9,10,11,12,13,14,15,16,17,18,19,20,21,22,23,24,25,26,27,28],[26])])
def impl_goalShape.B11:List Nat:=[0,1,3,7,15,15,47,127,255,0,512,1791,3839,7935,7935,24319,65279,130815,0,262144,917247,1965823,4062975,4062975,12451583,33423103,66977535,66977791,201326591,536870911]
theorem impl_goalShape.tab11:rtab .any (opsOf Tryd.f44 11)=impl_goalShape.T11:=Qb
theorem impl_goalShape.bits11:waitsOk impl_goalShape.T11.2 impl_goalShape.B11=true:=Qb
set_option maxHeartbeats 40000000 in
theorem impl_goalShape.calls (a0_0:Int) (A0_1:Option Addr) (c0_1:Nat) (l0_1:List (S44)) (A0_2:Option Addr) (c0_2:Nat) (l0_2:List (S44)) (A0_3:Option Addr) (c0_3:Nat) (l0_3:List (S44)) (r:Bool) (w:World) (hr0_1:Kd.C k44 w A0_1 l0_1.length l0_1) (hc0_1:l0_1.length≤c0_1) (hr0_2:Kd.C k44 w A0_2 l0_2.length l0_2) (hc0_2:l0_2.length≤c0_2) (hr0_3:Kd.C k44 w A0_3 l0_3.length l0_3) (hc0_3:l0_3.length≤c0_3) (h:impl_goalShape.f a0_0 l0_1 l0_2 l0_3=some r) :
  Calls Tryd.prog 44 #[.agg #[.int .i64 a0_0,.slice A0_1 l0_1.length c0_1,.slice A0_2 l0_2.length c0_2,.slice A0_3 l0_3.length c0_3],.func (.func 45) #[] #[]] w fun e w'=>e = .returned (.bool r)∧Below w.heap.size w w':=by
 have e5:=Tryd.underlying29;have HR0_1:=Am hr0_1;have HC0_1:=Am hc0_1;clear hr0_1 hc0_1;have HR0_2:=Am hr0_2;have HC0_2:=Am hc0_2;clear hr0_2 hc0_2;have HR0_3:=Am hr0_3;have HC0_3:=Am hc0_3;clear hr0_3 hc0_3;have HB:=Am (Below.refl w.heap.size w);have cS:=Am (show impl_TrmOk.f l0_1=some (Cat.isTerm l0_1) from rfl);have cT:=Am (show impl_TrmOk.f l0_2=some (Cat.isTerm l0_2) from rfl);have dP:=Am (show impl_TrmOk.f l0_3=some (Cat.isTerm l0_3) from rfl);have dk:=Am (called_pure l0_1);have cc:=Am (inClause_pure l0_1);have cU:=Am (inClause_pure l0_2);have dQ:=Am (inClause_pure l0_3);have aB:=Am (Option.some.inj h).symm;clear h;unfold shapeOk at aB
 generalize Cat.isTerm l0_1=tA at cS aB
 generalize Cat.isTerm l0_2=tB at cT aB
 generalize Cat.isTerm l0_3=tC at dP aB
 generalize Cat.called l0_1=tD at dk aB
 generalize Cat.inCl l0_1=mA at cc aB
 generalize Cat.inCl l0_2=mB at cU aB
 generalize Cat.inCl l0_3=mC at dQ aB
 go_enter Tryd.func44,Tryd.ntmps44;(try go_wp2_with (first|((with_reducible refine gate_dst (N:=2) rfl ?_);refine box_event ?hg (N:=2) ?hd (cs:=#[.int .i64 a0_0,.slice A0_1 l0_1.length c0_1,.slice A0_2 l0_2.length c0_2,.slice A0_3 l0_3.length c0_3]) (t:=29) ?hr ?_;(case hd=>rfl);(case hg=>rfl);(case hr=>first|(go_simp;done)|(go_simp;rfl));intro gb166 hg w3 hbox hb;have n_:=as3 (below_step Qd hb) (hbox) ((by rw [hg];exact (below_size Qd):w.heap.size≤gb166));clear HB;obtain ⟨HB,BK166,GE166⟩:=n_;clear hb hbox hg)));have n_:=as2 (blk_drew BK166.1) (below_drew1 HB.1);clear BK166 HB;obtain ⟨BK166,HB⟩:=n_;refine start_ (n:=15) (S:=fun w'=>w'.cell? ⟨gb166,0,none⟩=some (.int .i64 a0_0)∧w'.cell? ⟨gb166,1,none⟩=some (.slice A0_1 l0_1.length c0_1)∧w'.cell? ⟨gb166,2,none⟩=some (.slice A0_2 l0_2.length c0_2)∧w'.cell? ⟨gb166,3,none⟩=some (.slice A0_3 l0_3.length c0_3)) (ds:=[]) (bs 15 0) Qb rfl rfl ⟨(blk_cell BK166.1 0).trans rfl,(blk_cell BK166.1 1).trans rfl,(blk_cell BK166.1 2).trans rfl,(blk_cell BK166.1 3).trans rfl⟩ (fun hHeld=>?_);refine with_tabW impl_goalShape.tab1 impl_goalShape.bits1 (fun HT_ HW_=>?_)
 generalize w3.drew=w4 at BK166 HB hHeld ⊢
 refine pu_ 8 0 (bs 15 1) HT_.1 ?_;refine pu_ 12 4 (bs 15 17) HT_.1 ?_;refine pu_ 16 8 (bs 15 273) HT_.1 ?_;refine ta_ 9 1 (bs 15 275) HT_.1 HW_.1 hHeld ?_;refine pu_ 10 2 (bs 15 279) HT_.1 ?_;refine pu_ 11 3 (bs 15 287) HT_.1 ?_;refine pu_ 5 12 (bs 15 4383) HT_.1 ?_;refine ta_ 13 5 (bs 15 4415) HT_.1 HW_.1 hHeld ?_;refine pu_ 14 6 (bs 15 4479) HT_.1 ?_;refine pu_ 15 7 (bs 15 4607) HT_.1 ?_;refine pu_ 6 13 (bs 15 12799) HT_.1 ?_;refine ta_ 17 9 (bs 15 13311) HT_.1 HW_.1 hHeld ?_;refine pu_ 18 10 (bs 15 14335) HT_.1 ?_;refine pu_ 19 11 (bs 15 16383) HT_.1 ?_;refine pu_ 7 14 (bs 15 32767) HT_.1 ?_;refine done_ (done_of HT_.1 Qb) ?_;obtain ⟨hcz5_0,hcz5_1,hcz5_2,e6,hfz5_0,hfz5_1,hfz5_2,e7⟩:=blk4 BK166.1;go_upto_block 0 with (fail)
 go_cut [5,6,7] (fun v5 v6 v7 wc=>∃ a b c:Bool,v5 = .bool a∧v6 = .bool b∧v7 = .bool c∧Aside0 (r=(a && (b && c)))∧Aside0 (Below w.heap.size w wc))
 case first=>
  by_cases h1:a0_0=1
  ·have aO:=Am (aB.1.trans (if_pos (.inl h1)))
   have cd:(a0_0 == 1)=true:=beq_iff_eq.mpr h1;clear aB h1;cases tD
   all_goals
    go_wp2_with (first|(go_at_call 31;(with_reducible refine (impl_called.calls _ _ l0_1 _ _ ?side1 ?side2 dk.1).mono ?_);(case side1=>exact Qr);(case side2=>exact HC0_1.1);rintro e w14 ⟨rfl,hb⟩;have n_:=as2 (blk_below (blkp BK166.1) hb) (below_step Qy hb);clear BK166 HB;obtain ⟨BK166,HB⟩:=n_;clear hb;obtain ⟨hcz15_0,hcz15_1,hcz15_2,eu,hfz15_0,hfz15_1,hfz15_2,ev⟩:=blk4 BK166.1)|((first|go_at_call 45|go_at_fn 45);(with_reducible refine (impl_inClause.calls _ _ l0_1 _ _ ?side1 ?side2 cc.1).mono ?_);(case side1=>exact Qr);(case side2=>exact HC0_1.1);rintro e w16 ⟨rfl,hb⟩;have n_:=as2 (blk_below (blkp BK166.1) hb) (below_step Qy hb);clear BK166 HB;obtain ⟨BK166,HB⟩:=n_;clear hb))
    (try go_wp2);go_meet
    case rel=>exact ⟨_,_,_,rfl,rfl,rfl,⟨aO.1⟩,⟨Qy⟩⟩
  by_cases h6:a0_0=6
  ·have aO:=Am (aB.1.trans (if_pos (.inr h6)))
   have cd:(a0_0 == 1)=false:=beq_eq_false_iff_ne.mpr h1;have cr:(a0_0 == 6)=true:=beq_iff_eq.mpr h6;clear aB h1 h6;cases tD
   all_goals
    go_wp2_with (first|(go_at_call 31;(with_reducible refine (impl_called.calls _ _ l0_1 _ _ ?side1 ?side2 dk.1).mono ?_);(case side1=>exact Qr);(case side2=>exact HC0_1.1);rintro e w14 ⟨rfl,hb⟩;have n_:=as2 (blk_below (blkp BK166.1) hb) (below_step Qy hb);clear BK166 HB;obtain ⟨BK166,HB⟩:=n_;clear hb;obtain ⟨hcz15_0,hcz15_1,hcz15_2,eu,hfz15_0,hfz15_1,hfz15_2,ev⟩:=blk4 BK166.1)|((first|go_at_call 45|go_at_fn 45);(with_reducible refine (impl_inClause.calls _ _ l0_1 _ _ ?side1 ?side2 cc.1).mono ?_);(case side1=>exact Qr);(case side2=>exact HC0_1.1);rintro e w16 ⟨rfl,hb⟩;have n_:=as2 (blk_below (blkp BK166.1) hb) (below_step Qy hb);clear BK166 HB;obtain ⟨BK166,HB⟩:=n_;clear hb))
    (try go_wp2);go_meet
    case rel=>exact ⟨_,_,_,rfl,rfl,rfl,⟨aO.1⟩,⟨Qy⟩⟩
  by_cases h2:a0_0=2
  ·have aO:=Am (aB.1.trans ((if_neg (fun e=>e.elim h1 h6)).trans (if_pos (.inl h2))))
   have cd:(a0_0 == 1)=false:=beq_eq_false_iff_ne.mpr h1;have cr:(a0_0 == 6)=false:=beq_eq_false_iff_ne.mpr h6;have cV:(a0_0 == 2)=true:=beq_iff_eq.mpr h2;clear aB h1 h6 h2;cases tA <;> cases tB
   all_goals
    (try go_wp2);have n_:=as2 (blk_drew BK166.1) (below_drew1 HB.1);clear BK166 HB;obtain ⟨BK166,HB⟩:=n_;refine start_ (n:=20) (S:=fun w'=>w'.cell? ⟨gb166,0,none⟩=some (.int .i64 a0_0)∧w'.cell? ⟨gb166,1,none⟩=some (.slice A0_1 l0_1.length c0_1)∧w'.cell? ⟨gb166,2,none⟩=some (.slice A0_2 l0_2.length c0_2)∧w'.cell? ⟨gb166,3,none⟩=some (.slice A0_3 l0_3.length c0_3)) (ds:=[]) (bs 20 0) Qb rfl rfl ⟨(blk_cell BK166.1 0).trans rfl,(blk_cell BK166.1 1).trans rfl,(blk_cell BK166.1 2).trans rfl,(blk_cell BK166.1 3).trans rfl⟩ (fun hHeld=>?_);refine with_tabW impl_goalShape.tab9 impl_goalShape.bits9 (fun HT_ HW_=>?_)
    generalize w4.drew=w38 at BK166 HB hHeld ⊢
    refine pu_ 37 0 (bs 20 1) HT_.1 ?_;refine pu_ 46 9 (bs 20 513) HT_.1 ?_;refine ta_ 38 1 (bs 20 515) HT_.1 HW_.1 hHeld ?_;refine ta_ 47 10 (bs 20 1539) HT_.1 HW_.1 hHeld ?_;refine on_ 39 2 (bs 20 1543) HT_.1 (fun K hK=>?_);refine goes_ Tryd.func39 Qb rfl #[.slice A0_1 l0_1.length c0_1] (by rfl) rfl rfl Qo ?_;with_reducible refine (impl_TrmOk.calls _ _ l0_1 _ _ ?side1 ?side2 cS.1).mono ?_;(case side1=>exact Qr);(case side2=>exact HC0_1.1);rintro e w39 ⟨rfl,hb⟩;refine ⟨_,rfl,?_⟩;have n_:=as2 (blk_below (blkp BK166.1) hb) (below_step Qy hb);clear BK166 HB;obtain ⟨BK166,HB⟩:=n_;clear hb;refine hK.out _ _ ⟨(blk_cell BK166.1 0).trans rfl,(blk_cell BK166.1 1).trans rfl,(blk_cell BK166.1 2).trans rfl,(blk_cell BK166.1 3).trans rfl⟩ (fun hHeld=>?_);clear hK K;refine no_ 39 ?_
    refine pu_ 40 3 (bs 20 1551) HT_.1 ?_;(first|(refine pu_ 41 4 (bs 20 1567) HT_.1 ?_)|(refine pure_ (i:=4) (N:=some 41) (v:=undef) (a':=?_) (bs 20 1567) rfl rfl (any_of HT_.1 Qb) (fun _ _ _ h=>h) (Or.inr ⟨by rfl,rfl⟩) ?_ ?_;rotate_left;(focus (simp only [Act.put,sA_,sZ_,sS_,i64_w,i32_w];rfl))));(first|(refine pu_ 42 5 (bs 20 1599) HT_.1 ?_)|(refine pure_ (i:=5) (N:=some 42) (v:=undef) (a':=?_) (bs 20 1599) rfl rfl (any_of HT_.1 Qb) (fun _ _ _ h=>h) (Or.inr ⟨by rfl,rfl⟩) ?_ ?_;rotate_left;(focus (simp only [Act.put,sA_,sZ_,sS_,i64_w,i32_w];rfl))));(first|(refine ta_ 43 6 (bs 20 1663) HT_.1 HW_.1 hHeld ?_)|(refine pure_ (i:=6) (N:=some 43) (v:=undef) (a':=?_) (bs 20 1663) rfl rfl (any_of HT_.1 Qb) (fun _ _ _ h=>h) (Or.inr ⟨by rfl,rfl⟩) ?_ ?_;rotate_left;(focus (simp only [Act.put,sA_,sZ_,sS_,i64_w,i32_w];rfl))));(first|(refine on_ 44 7 (bs 20 1791) HT_.1 (fun K hK=>?_);refine goesF_ Tryd.func45 Qb rfl #[.slice A0_1 l0_1.length c0_1] (by rfl) rfl rfl (by rfl) Qo ?_;with_reducible refine (impl_inClause.calls _ _ l0_1 _ _ ?side1 ?side2 cc.1).mono ?_;(case side1=>exact Qr);(case side2=>exact HC0_1.1);rintro e w40 ⟨rfl,hb⟩;refine ⟨_,rfl,?_⟩;have n_:=as2 (blk_below (blkp BK166.1) hb) (below_step Qy hb);clear BK166 HB;obtain ⟨BK166,HB⟩:=n_;clear hb;refine hK.out _ _ ⟨(blk_cell BK166.1 0).trans rfl,(blk_cell BK166.1 1).trans rfl,(blk_cell BK166.1 2).trans rfl,(blk_cell BK166.1 3).trans rfl⟩ (fun hHeld=>?_);clear hK K;refine no_ 44 ?_)|(refine pure_ (i:=7) (N:=some 44) (v:=undef) (a':=?_) (bs 20 1791) rfl rfl (any_of HT_.1 Qb) (fun _ _ _ h=>h) (Or.inr ⟨by rfl,rfl⟩) ?_ ?_;rotate_left;(focus (simp only [Act.put,sA_,sZ_,sS_,i64_w,i32_w];rfl))));refine pu_ 45 8 (bs 20 2047) HT_.1 ?_;refine on_ 48 11 (bs 20 4095) HT_.1 (fun K hK=>?_);refine goes_ Tryd.func39 Qb rfl #[.slice A0_2 l0_2.length c0_2] (by rfl) rfl rfl Qo ?_;with_reducible refine (impl_TrmOk.calls _ _ l0_2 _ _ ?side1 ?side2 cT.1).mono ?_;(case side1=>exact QO);(case side2=>exact HC0_2.1);rintro e w41 ⟨rfl,hb⟩;refine ⟨_,rfl,?_⟩;have n_:=as2 (blk_below (blkp BK166.1) hb) (below_step Qy hb);clear BK166 HB;obtain ⟨BK166,HB⟩:=n_;clear hb;refine hK.out _ _ ⟨(blk_cell BK166.1 0).trans rfl,(blk_cell BK166.1 1).trans rfl,(blk_cell BK166.1 2).trans rfl,(blk_cell BK166.1 3).trans rfl⟩ (fun hHeld=>?_);clear hK K;refine no_ 48 ?_
    refine pu_ 49 12 (bs 20 8191) HT_.1 ?_;(first|(refine pu_ 50 13 (bs 20 16383) HT_.1 ?_)|(refine pure_ (i:=13) (N:=some 50) (v:=undef) (a':=?_) (bs 20 16383) rfl rfl (any_of HT_.1 Qb) (fun _ _ _ h=>h) (Or.inr ⟨by rfl,rfl⟩) ?_ ?_;rotate_left;(focus (simp only [Act.put,sA_,sZ_,sS_,i64_w,i32_w];rfl))));(first|(refine pu_ 51 14 (bs 20 32767) HT_.1 ?_)|(refine pure_ (i:=14) (N:=some 51) (v:=undef) (a':=?_) (bs 20 32767) rfl rfl (any_of HT_.1 Qb) (fun _ _ _ h=>h) (Or.inr ⟨by rfl,rfl⟩) ?_ ?_;rotate_left;(focus (simp only [Act.put,sA_,sZ_,sS_,i64_w,i32_w];rfl))));(first|(refine ta_ 52 15 (bs 20 65535) HT_.1 HW_.1 hHeld ?_)|(refine pure_ (i:=15) (N:=some 52) (v:=undef) (a':=?_) (bs 20 65535) rfl rfl (any_of HT_.1 Qb) (fun _ _ _ h=>h) (Or.inr ⟨by rfl,rfl⟩) ?_ ?_;rotate_left;(focus (simp only [Act.put,sA_,sZ_,sS_,i64_w,i32_w];rfl))));(first|(refine on_ 53 16 (bs 20 131071) HT_.1 (fun K hK=>?_);refine goesF_ Tryd.func45 Qb rfl #[.slice A0_2 l0_2.length c0_2] (by rfl) rfl rfl (by rfl) Qo ?_;with_reducible refine (impl_inClause.calls _ _ l0_2 _ _ ?side1 ?side2 cU.1).mono ?_;(case side1=>exact QO);(case side2=>exact HC0_2.1);rintro e w42 ⟨rfl,hb⟩;refine ⟨_,rfl,?_⟩;have n_:=as2 (blk_below (blkp BK166.1) hb) (below_step Qy hb);clear BK166 HB;obtain ⟨BK166,HB⟩:=n_;clear hb;refine hK.out _ _ ⟨(blk_cell BK166.1 0).trans rfl,(blk_cell BK166.1 1).trans rfl,(blk_cell BK166.1 2).trans rfl,(blk_cell BK166.1 3).trans rfl⟩ (fun hHeld=>?_);clear hK K;refine no_ 53 ?_)|(refine pure_ (i:=16) (N:=some 53) (v:=undef) (a':=?_) (bs 20 131071) rfl rfl (any_of HT_.1 Qb) (fun _ _ _ h=>h) (Or.inr ⟨by rfl,rfl⟩) ?_ ?_;rotate_left;(focus (simp only [Act.put,sA_,sZ_,sS_,i64_w,i32_w];rfl))));refine pu_ 54 17 (bs 20 262143) HT_.1 ?_;refine pu_ 5 18 (bs 20 524287) HT_.1 ?_;refine pu_ 6 19 (bs 20 1048575) HT_.1 ?_;refine done_ (done_of HT_.1 Qb) ?_;(try go_wp2);go_meet
    case rel=>exact ⟨_,_,_,rfl,rfl,rfl,⟨aO.1⟩,⟨Qy⟩⟩
  by_cases h4:a0_0=4
  ·have aO:=Am (aB.1.trans ((if_neg (fun e=>e.elim h1 h6)).trans (if_pos (.inr h4))))
   have cd:(a0_0 == 1)=false:=beq_eq_false_iff_ne.mpr h1;have cr:(a0_0 == 6)=false:=beq_eq_false_iff_ne.mpr h6;have cV:(a0_0 == 2)=false:=beq_eq_false_iff_ne.mpr h2;have dl:(a0_0 == 4)=true:=beq_iff_eq.mpr h4;clear aB h1 h6 h2 h4;cases tA <;> cases tB
   all_goals
    (try go_wp2);have n_:=as2 (blk_drew BK166.1) (below_drew1 HB.1);clear BK166 HB;obtain ⟨BK166,HB⟩:=n_;refine start_ (n:=20) (S:=fun w'=>w'.cell? ⟨gb166,0,none⟩=some (.int .i64 a0_0)∧w'.cell? ⟨gb166,1,none⟩=some (.slice A0_1 l0_1.length c0_1)∧w'.cell? ⟨gb166,2,none⟩=some (.slice A0_2 l0_2.length c0_2)∧w'.cell? ⟨gb166,3,none⟩=some (.slice A0_3 l0_3.length c0_3)) (ds:=[]) (bs 20 0) Qb rfl rfl ⟨(blk_cell BK166.1 0).trans rfl,(blk_cell BK166.1 1).trans rfl,(blk_cell BK166.1 2).trans rfl,(blk_cell BK166.1 3).trans rfl⟩ (fun hHeld=>?_);refine with_tabW impl_goalShape.tab9 impl_goalShape.bits9 (fun HT_ HW_=>?_)
    generalize w4.drew=w38 at BK166 HB hHeld ⊢
    refine pu_ 37 0 (bs 20 1) HT_.1 ?_;refine pu_ 46 9 (bs 20 513) HT_.1 ?_;refine ta_ 38 1 (bs 20 515) HT_.1 HW_.1 hHeld ?_;refine ta_ 47 10 (bs 20 1539) HT_.1 HW_.1 hHeld ?_;refine on_ 39 2 (bs 20 1543) HT_.1 (fun K hK=>?_);refine goes_ Tryd.func39 Qb rfl #[.slice A0_1 l0_1.length c0_1] (by rfl) rfl rfl Qo ?_;with_reducible refine (impl_TrmOk.calls _ _ l0_1 _ _ ?side1 ?side2 cS.1).mono ?_;(case side1=>exact Qr);(case side2=>exact HC0_1.1);rintro e w39 ⟨rfl,hb⟩;refine ⟨_,rfl,?_⟩;have n_:=as2 (blk_below (blkp BK166.1) hb) (below_step Qy hb);clear BK166 HB;obtain ⟨BK166,HB⟩:=n_;clear hb;refine hK.out _ _ ⟨(blk_cell BK166.1 0).trans rfl,(blk_cell BK166.1 1).trans rfl,(blk_cell BK166.1 2).trans rfl,(blk_cell BK166.1 3).trans rfl⟩ (fun hHeld=>?_);clear hK K;refine no_ 39 ?_
    refine pu_ 40 3 (bs 20 1551) HT_.1 ?_;(first|(refine pu_ 41 4 (bs 20 1567) HT_.1 ?_)|(refine pure_ (i:=4) (N:=some 41) (v:=undef) (a':=?_) (bs 20 1567) rfl rfl (any_of HT_.1 Qb) (fun _ _ _ h=>h) (Or.inr ⟨by rfl,rfl⟩) ?_ ?_;rotate_left;(focus (simp only [Act.put,sA_,sZ_,sS_,i64_w,i32_w];rfl))));(first|(refine pu_ 42 5 (bs 20 1599) HT_.1 ?_)|(refine pure_ (i:=5) (N:=some 42) (v:=undef) (a':=?_) (bs 20 1599) rfl rfl (any_of HT_.1 Qb) (fun _ _ _ h=>h) (Or.inr ⟨by rfl,rfl⟩) ?_ ?_;rotate_left;(focus (simp only [Act.put,sA_,sZ_,sS_,i64_w,i32_w];rfl))));(first|(refine ta_ 43 6 (bs 20 1663) HT_.1 HW_.1 hHeld ?_)|(refine pure_ (i:=6) (N:=some 43) (v:=undef) (a':=?_) (bs 20 1663) rfl rfl (any_of HT_.1 Qb) (fun _ _ _ h=>h) (Or.inr ⟨by rfl,rfl⟩) ?_ ?_;rotate_left;(focus (simp only [Act.put,sA_,sZ_,sS_,i64_w,i32_w];rfl))));(first|(refine on_ 44 7 (bs 20 1791) HT_.1 (fun K hK=>?_);refine goesF_ Tryd.func45 Qb rfl #[.slice A0_1 l0_1.length c0_1] (by rfl) rfl rfl (by rfl) Qo ?_;with_reducible refine (impl_inClause.calls _ _ l0_1 _ _ ?side1 ?side2 cc.1).mono ?_;(case side1=>exact Qr);(case side2=>exact HC0_1.1);rintro e w40 ⟨rfl,hb⟩;refine ⟨_,rfl,?_⟩;have n_:=as2 (blk_below (blkp BK166.1) hb) (below_step Qy hb);clear BK166 HB;obtain ⟨BK166,HB⟩:=n_;clear hb;refine hK.out _ _ ⟨(blk_cell BK166.1 0).trans rfl,(blk_cell BK166.1 1).trans rfl,(blk_cell BK166.1 2).trans rfl,(blk_cell BK166.1 3).trans rfl⟩ (fun hHeld=>?_);clear hK K;refine no_ 44 ?_)|(refine pure_ (i:=7) (N:=some 44) (v:=undef) (a':=?_) (bs 20 1791) rfl rfl (any_of HT_.1 Qb) (fun _ _ _ h=>h) (Or.inr ⟨by rfl,rfl⟩) ?_ ?_;rotate_left;(focus (simp only [Act.put,sA_,sZ_,sS_,i64_w,i32_w];rfl))));refine pu_ 45 8 (bs 20 2047) HT_.1 ?_;refine on_ 48 11 (bs 20 4095) HT_.1 (fun K hK=>?_);refine goes_ Tryd.func39 Qb rfl #[.slice A0_2 l0_2.length c0_2] (by rfl) rfl rfl Qo ?_;with_reducible refine (impl_TrmOk.calls _ _ l0_2 _ _ ?side1 ?side2 cT.1).mono ?_;(case side1=>exact QO);(case side2=>exact HC0_2.1);rintro e w41 ⟨rfl,hb⟩;refine ⟨_,rfl,?_⟩;have n_:=as2 (blk_below (blkp BK166.1) hb) (below_step Qy hb);clear BK166 HB;obtain ⟨BK166,HB⟩:=n_;clear hb;refine hK.out _ _ ⟨(blk_cell BK166.1 0).trans rfl,(blk_cell BK166.1 1).trans rfl,(blk_cell BK166.1 2).trans rfl,(blk_cell BK166.1 3).trans rfl⟩ (fun hHeld=>?_);clear hK K;refine no_ 48 ?_
    refine pu_ 49 12 (bs 20 8191) HT_.1 ?_;(first|(refine pu_ 50 13 (bs 20 16383) HT_.1 ?_)|(refine pure_ (i:=13) (N:=some 50) (v:=undef) (a':=?_) (bs 20 16383) rfl rfl (any_of HT_.1 Qb) (fun _ _ _ h=>h) (Or.inr ⟨by rfl,rfl⟩) ?_ ?_;rotate_left;(focus (simp only [Act.put,sA_,sZ_,sS_,i64_w,i32_w];rfl))));(first|(refine pu_ 51 14 (bs 20 32767) HT_.1 ?_)|(refine pure_ (i:=14) (N:=some 51) (v:=undef) (a':=?_) (bs 20 32767) rfl rfl (any_of HT_.1 Qb) (fun _ _ _ h=>h) (Or.inr ⟨by rfl,rfl⟩) ?_ ?_;rotate_left;(focus (simp only [Act.put,sA_,sZ_,sS_,i64_w,i32_w];rfl))));(first|(refine ta_ 52 15 (bs 20 65535) HT_.1 HW_.1 hHeld ?_)|(refine pure_ (i:=15) (N:=some 52) (v:=undef) (a':=?_) (bs 20 65535) rfl rfl (any_of HT_.1 Qb) (fun _ _ _ h=>h) (Or.inr ⟨by rfl,rfl⟩) ?_ ?_;rotate_left;(focus (simp only [Act.put,sA_,sZ_,sS_,i64_w,i32_w];rfl))));(first|(refine on_ 53 16 (bs 20 131071) HT_.1 (fun K hK=>?_);refine goesF_ Tryd.func45 Qb rfl #[.slice A0_2 l0_2.length c0_2] (by rfl) rfl rfl (by rfl) Qo ?_;with_reducible refine (impl_inClause.calls _ _ l0_2 _ _ ?side1 ?side2 cU.1).mono ?_;(case side1=>exact QO);(case side2=>exact HC0_2.1);rintro e w42 ⟨rfl,hb⟩;refine ⟨_,rfl,?_⟩;have n_:=as2 (blk_below (blkp BK166.1) hb) (below_step Qy hb);clear BK166 HB;obtain ⟨BK166,HB⟩:=n_;clear hb;refine hK.out _ _ ⟨(blk_cell BK166.1 0).trans rfl,(blk_cell BK166.1 1).trans rfl,(blk_cell BK166.1 2).trans rfl,(blk_cell BK166.1 3).trans rfl⟩ (fun hHeld=>?_);clear hK K;refine no_ 53 ?_)|(refine pure_ (i:=16) (N:=some 53) (v:=undef) (a':=?_) (bs 20 131071) rfl rfl (any_of HT_.1 Qb) (fun _ _ _ h=>h) (Or.inr ⟨by rfl,rfl⟩) ?_ ?_;rotate_left;(focus (simp only [Act.put,sA_,sZ_,sS_,i64_w,i32_w];rfl))));refine pu_ 54 17 (bs 20 262143) HT_.1 ?_;refine pu_ 5 18 (bs 20 524287) HT_.1 ?_;refine pu_ 6 19 (bs 20 1048575) HT_.1 ?_;refine done_ (done_of HT_.1 Qb) ?_;(try go_wp2);go_meet
    case rel=>exact ⟨_,_,_,rfl,rfl,rfl,⟨aO.1⟩,⟨Qy⟩⟩
  by_cases h5:a0_0=5
  ·have aO:=Am (aB.1.trans ((if_neg (fun e=>e.elim h1 h6)).trans ((if_neg (fun e=>e.elim h2 h4)).trans (if_pos h5))))
   have cd:(a0_0 == 1)=false:=beq_eq_false_iff_ne.mpr h1;have cr:(a0_0 == 6)=false:=beq_eq_false_iff_ne.mpr h6;have cV:(a0_0 == 2)=false:=beq_eq_false_iff_ne.mpr h2;have dl:(a0_0 == 4)=false:=beq_eq_false_iff_ne.mpr h4;have dR:(a0_0 == 5)=true:=beq_iff_eq.mpr h5;clear aB h1 h6 h2 h4 h5;cases tA <;> cases tB <;> cases tC
   all_goals
    (try go_wp2);have n_:=as2 (blk_drew BK166.1) (below_drew1 HB.1);clear BK166 HB;obtain ⟨BK166,HB⟩:=n_;refine start_ (n:=30) (S:=fun w'=>w'.cell? ⟨gb166,0,none⟩=some (.int .i64 a0_0)∧w'.cell? ⟨gb166,1,none⟩=some (.slice A0_1 l0_1.length c0_1)∧w'.cell? ⟨gb166,2,none⟩=some (.slice A0_2 l0_2.length c0_2)∧w'.cell? ⟨gb166,3,none⟩=some (.slice A0_3 l0_3.length c0_3)) (ds:=[]) (bs 30 0) Qb rfl rfl ⟨(blk_cell BK166.1 0).trans rfl,(blk_cell BK166.1 1).trans rfl,(blk_cell BK166.1 2).trans rfl,(blk_cell BK166.1 3).trans rfl⟩ (fun hHeld=>?_);refine with_tabW impl_goalShape.tab11 impl_goalShape.bits11 (fun HT_ HW_=>?_)
    generalize w4.drew=w38 at BK166 HB hHeld ⊢
    refine pu_ 57 0 (bs 30 1) HT_.1 ?_;refine pu_ 66 9 (bs 30 513) HT_.1 ?_;refine pu_ 75 18 (bs 30 262657) HT_.1 ?_;refine ta_ 58 1 (bs 30 262659) HT_.1 HW_.1 hHeld ?_;refine ta_ 67 10 (bs 30 263683) HT_.1 HW_.1 hHeld ?_;refine ta_ 76 19 (bs 30 787971) HT_.1 HW_.1 hHeld ?_;refine on_ 59 2 (bs 30 787975) HT_.1 (fun K hK=>?_);refine goes_ Tryd.func39 Qb rfl #[.slice A0_1 l0_1.length c0_1] (by rfl) rfl rfl Qo ?_;with_reducible refine (impl_TrmOk.calls _ _ l0_1 _ _ ?side1 ?side2 cS.1).mono ?_;(case side1=>exact Qr);(case side2=>exact HC0_1.1);rintro e w85 ⟨rfl,hb⟩;refine ⟨_,rfl,?_⟩;have n_:=as2 (blk_below (blkp BK166.1) hb) (below_step Qy hb);clear BK166 HB;obtain ⟨BK166,HB⟩:=n_;clear hb;refine hK.out _ _ ⟨(blk_cell BK166.1 0).trans rfl,(blk_cell BK166.1 1).trans rfl,(blk_cell BK166.1 2).trans rfl,(blk_cell BK166.1 3).trans rfl⟩ (fun hHeld=>?_);clear hK K;refine no_ 59 ?_
    refine pu_ 60 3 (bs 30 787983) HT_.1 ?_;(first|(refine pu_ 61 4 (bs 30 787999) HT_.1 ?_)|(refine pure_ (i:=4) (N:=some 61) (v:=undef) (a':=?_) (bs 30 787999) rfl rfl (any_of HT_.1 Qb) (fun _ _ _ h=>h) (Or.inr ⟨by rfl,rfl⟩) ?_ ?_;rotate_left;(focus (simp only [Act.put,sA_,sZ_,sS_,i64_w,i32_w];rfl))));(first|(refine pu_ 62 5 (bs 30 788031) HT_.1 ?_)|(refine pure_ (i:=5) (N:=some 62) (v:=undef) (a':=?_) (bs 30 788031) rfl rfl (any_of HT_.1 Qb) (fun _ _ _ h=>h) (Or.inr ⟨by rfl,rfl⟩) ?_ ?_;rotate_left;(focus (simp only [Act.put,sA_,sZ_,sS_,i64_w,i32_w];rfl))));(first|(refine ta_ 63 6 (bs 30 788095) HT_.1 HW_.1 hHeld ?_)|(refine pure_ (i:=6) (N:=some 63) (v:=undef) (a':=?_) (bs 30 788095) rfl rfl (any_of HT_.1 Qb) (fun _ _ _ h=>h) (Or.inr ⟨by rfl,rfl⟩) ?_ ?_;rotate_left;(focus (simp only [Act.put,sA_,sZ_,sS_,i64_w,i32_w];rfl))));(first|(refine on_ 64 7 (bs 30 788223) HT_.1 (fun K hK=>?_);refine goesF_ Tryd.func45 Qb rfl #[.slice A0_1 l0_1.length c0_1] (by rfl) rfl rfl (by rfl) Qo ?_;with_reducible refine (impl_inClause.calls _ _ l0_1 _ _ ?side1 ?side2 cc.1).mono ?_;(case side1=>exact Qr);(case side2=>exact HC0_1.1);rintro e w86 ⟨rfl,hb⟩;refine ⟨_,rfl,?_⟩;have n_:=as2 (blk_below (blkp BK166.1) hb) (below_step Qy hb);clear BK166 HB;obtain ⟨BK166,HB⟩:=n_;clear hb;refine hK.out _ _ ⟨(blk_cell BK166.1 0).trans rfl,(blk_cell BK166.1 1).trans rfl,(blk_cell BK166.1 2).trans rfl,(blk_cell BK166.1 3).trans rfl⟩ (fun hHeld=>?_);clear hK K;refine no_ 64 ?_)|(refine pure_ (i:=7) (N:=some 64) (v:=undef) (a':=?_) (bs 30 788223) rfl rfl (any_of HT_.1 Qb) (fun _ _ _ h=>h) (Or.inr ⟨by rfl,rfl⟩) ?_ ?_;rotate_left;(focus (simp only [Act.put,sA_,sZ_,sS_,i64_w,i32_w];rfl))));refine pu_ 65 8 (bs 30 788479) HT_.1 ?_;refine on_ 68 11 (bs 30 790527) HT_.1 (fun K hK=>?_);refine goes_ Tryd.func39 Qb rfl #[.slice A0_2 l0_2.length c0_2] (by rfl) rfl rfl Qo ?_;with_reducible refine (impl_TrmOk.calls _ _ l0_2 _ _ ?side1 ?side2 cT.1).mono ?_;(case side1=>exact QO);(case side2=>exact HC0_2.1);rintro e w87 ⟨rfl,hb⟩;refine ⟨_,rfl,?_⟩;have n_:=as2 (blk_below (blkp BK166.1) hb) (below_step Qy hb);clear BK166 HB;obtain ⟨BK166,HB⟩:=n_;clear hb;refine hK.out _ _ ⟨(blk_cell BK166.1 0).trans rfl,(blk_cell BK166.1 1).trans rfl,(blk_cell BK166.1 2).trans rfl,(blk_cell BK166.1 3).trans rfl⟩ (fun hHeld=>?_);clear hK K;refine no_ 68 ?_
    refine pu_ 69 12 (bs 30 794623) HT_.1 ?_;(first|(refine pu_ 70 13 (bs 30 802815) HT_.1 ?_)|(refine pure_ (i:=13) (N:=some 70) (v:=undef) (a':=?_) (bs 30 802815) rfl rfl (any_of HT_.1 Qb) (fun _ _ _ h=>h) (Or.inr ⟨by rfl,rfl⟩) ?_ ?_;rotate_left;(focus (simp only [Act.put,sA_,sZ_,sS_,i64_w,i32_w];rfl))));(first|(refine pu_ 71 14 (bs 30 819199) HT_.1 ?_)|(refine pure_ (i:=14) (N:=some 71) (v:=undef) (a':=?_) (bs 30 819199) rfl rfl (any_of HT_.1 Qb) (fun _ _ _ h=>h) (Or.inr ⟨by rfl,rfl⟩) ?_ ?_;rotate_left;(focus (simp only [Act.put,sA_,sZ_,sS_,i64_w,i32_w];rfl))));(first|(refine ta_ 72 15 (bs 30 851967) HT_.1 HW_.1 hHeld ?_)|(refine pure_ (i:=15) (N:=some 72) (v:=undef) (a':=?_) (bs 30 851967) rfl rfl (any_of HT_.1 Qb) (fun _ _ _ h=>h) (Or.inr ⟨by rfl,rfl⟩) ?_ ?_;rotate_left;(focus (simp only [Act.put,sA_,sZ_,sS_,i64_w,i32_w];rfl))));(first|(refine on_ 73 16 (bs 30 917503) HT_.1 (fun K hK=>?_);refine goesF_ Tryd.func45 Qb rfl #[.slice A0_2 l0_2.length c0_2] (by rfl) rfl rfl (by rfl) Qo ?_;with_reducible refine (impl_inClause.calls _ _ l0_2 _ _ ?side1 ?side2 cU.1).mono ?_;(case side1=>exact QO);(case side2=>exact HC0_2.1);rintro e e8 ⟨rfl,hb⟩;refine ⟨_,rfl,?_⟩;have n_:=as2 (blk_below (blkp BK166.1) hb) (below_step Qy hb);clear BK166 HB;obtain ⟨BK166,HB⟩:=n_;clear hb;refine hK.out _ _ ⟨(blk_cell BK166.1 0).trans rfl,(blk_cell BK166.1 1).trans rfl,(blk_cell BK166.1 2).trans rfl,(blk_cell BK166.1 3).trans rfl⟩ (fun hHeld=>?_);clear hK K;refine no_ 73 ?_)|(refine pure_ (i:=16) (N:=some 73) (v:=undef) (a':=?_) (bs 30 917503) rfl rfl (any_of HT_.1 Qb) (fun _ _ _ h=>h) (Or.inr ⟨by rfl,rfl⟩) ?_ ?_;rotate_left;(focus (simp only [Act.put,sA_,sZ_,sS_,i64_w,i32_w];rfl))));refine pu_ 74 17 (bs 30 1048575) HT_.1 ?_;refine on_ 77 20 (bs 30 2097151) HT_.1 (fun K hK=>?_);refine goes_ Tryd.func39 Qb rfl #[.slice A0_3 l0_3.length c0_3] (by rfl) rfl rfl Qo ?_;with_reducible refine (impl_TrmOk.calls _ _ l0_3 _ _ ?side1 ?side2 dP.1).mono ?_;(case side1=>exact Zo);(case side2=>exact HC0_3.1);rintro e e9 ⟨rfl,hb⟩;refine ⟨_,rfl,?_⟩;have n_:=as2 (blk_below (blkp BK166.1) hb) (below_step Qy hb);clear BK166 HB;obtain ⟨BK166,HB⟩:=n_;clear hb;refine hK.out _ _ ⟨(blk_cell BK166.1 0).trans rfl,(blk_cell BK166.1 1).trans rfl,(blk_cell BK166.1 2).trans rfl,(blk_cell BK166.1 3).trans rfl⟩ (fun hHeld=>?_);clear hK K;refine no_ 77 ?_
    refine pu_ 78 21 (bs 30 4194303) HT_.1 ?_;(first|(refine pu_ 79 22 (bs 30 8388607) HT_.1 ?_)|(refine pure_ (i:=22) (N:=some 79) (v:=undef) (a':=?_) (bs 30 8388607) rfl rfl (any_of HT_.1 Qb) (fun _ _ _ h=>h) (Or.inr ⟨by rfl,rfl⟩) ?_ ?_;rotate_left;(focus (simp only [Act.put,sA_,sZ_,sS_,i64_w,i32_w];rfl))));(first|(refine pu_ 80 23 (bs 30 16777215) HT_.1 ?_)|(refine pure_ (i:=23) (N:=some 80) (v:=undef) (a':=?_) (bs 30 16777215) rfl rfl (any_of HT_.1 Qb) (fun _ _ _ h=>h) (Or.inr ⟨by rfl,rfl⟩) ?_ ?_;rotate_left;(focus (simp only [Act.put,sA_,sZ_,sS_,i64_w,i32_w];rfl))));(first|(refine ta_ 81 24 (bs 30 33554431) HT_.1 HW_.1 hHeld ?_)|(refine pure_ (i:=24) (N:=some 81) (v:=undef) (a':=?_) (bs 30 33554431) rfl rfl (any_of HT_.1 Qb) (fun _ _ _ h=>h) (Or.inr ⟨by rfl,rfl⟩) ?_ ?_;rotate_left;(focus (simp only [Act.put,sA_,sZ_,sS_,i64_w,i32_w];rfl))));(first|(refine on_ 82 25 (bs 30 67108863) HT_.1 (fun K hK=>?_);refine goesF_ Tryd.func45 Qb rfl #[.slice A0_3 l0_3.length c0_3] (by rfl) rfl rfl (by rfl) Qo ?_;with_reducible refine (impl_inClause.calls _ _ l0_3 _ _ ?side1 ?side2 dQ.1).mono ?_;(case side1=>exact Zo);(case side2=>exact HC0_3.1);rintro e fa ⟨rfl,hb⟩;refine ⟨_,rfl,?_⟩;have n_:=as2 (blk_below (blkp BK166.1) hb) (below_step Qy hb);clear BK166 HB;obtain ⟨BK166,HB⟩:=n_;clear hb;refine hK.out _ _ ⟨(blk_cell BK166.1 0).trans rfl,(blk_cell BK166.1 1).trans rfl,(blk_cell BK166.1 2).trans rfl,(blk_cell BK166.1 3).trans rfl⟩ (fun hHeld=>?_);clear hK K;refine no_ 82 ?_)|(refine pure_ (i:=25) (N:=some 82) (v:=undef) (a':=?_) (bs 30 67108863) rfl rfl (any_of HT_.1 Qb) (fun _ _ _ h=>h) (Or.inr ⟨by rfl,rfl⟩) ?_ ?_;rotate_left;(focus (simp only [Act.put,sA_,sZ_,sS_,i64_w,i32_w];rfl))));refine pu_ 83 26 (bs 30 134217727) HT_.1 ?_;refine pu_ 5 27 (bs 30 268435455) HT_.1 ?_;refine pu_ 6 28 (bs 30 536870911) HT_.1 ?_;refine pu_ 7 29 (bs 30 1073741823) HT_.1 ?_;refine done_ (done_of HT_.1 Qb) ?_;(try go_wp2);go_meet
    case rel=>exact ⟨_,_,_,rfl,rfl,rfl,⟨aO.1⟩,⟨Qy⟩⟩
  by_cases h3:a0_0=3
  ·have aO:=Am (aB.1.trans ((if_neg (fun e=>e.elim h1 h6)).trans ((if_neg (fun e=>e.elim h2 h4)).trans ((if_neg h5).trans (if_pos h3)))))
   have cd:(a0_0 == 1)=false:=beq_eq_false_iff_ne.mpr h1;have cr:(a0_0 == 6)=false:=beq_eq_false_iff_ne.mpr h6;have cV:(a0_0 == 2)=false:=beq_eq_false_iff_ne.mpr h2;have dl:(a0_0 == 4)=false:=beq_eq_false_iff_ne.mpr h4;have dR:(a0_0 == 5)=false:=beq_eq_false_iff_ne.mpr h5;have ew:(a0_0 == 3)=true:=beq_iff_eq.mpr h3;clear aB h1 h6 h2 h4 h5 h3;(try go_wp2);go_meet
   case rel=>exact ⟨_,_,_,rfl,rfl,rfl,⟨aO.1⟩,⟨Qy⟩⟩
  have aO:=Am (aB.1.trans ((if_neg (fun e=>e.elim h1 h6)).trans ((if_neg (fun e=>e.elim h2 h4)).trans ((if_neg h5).trans (if_neg h3)))));have cd:(a0_0 == 1)=false:=beq_eq_false_iff_ne.mpr h1;have cr:(a0_0 == 6)=false:=beq_eq_false_iff_ne.mpr h6;have cV:(a0_0 == 2)=false:=beq_eq_false_iff_ne.mpr h2;have dl:(a0_0 == 4)=false:=beq_eq_false_iff_ne.mpr h4;have dR:(a0_0 == 5)=false:=beq_eq_false_iff_ne.mpr h5;have ew:(a0_0 == 3)=false:=beq_eq_false_iff_ne.mpr h3;clear aB h1 h6 h2 h4 h5 h3;go_wp2;go_ret;exact ⟨by rw [aO.1];rfl,Qy⟩
 case rest=>
  obtain ⟨a_,b_,c_,rfl,rfl,rfl,aO,HB⟩:=hcut;cases a_ <;> cases b_ <;> cases c_
  all_goals
   go_wp2;go_ret;exact ⟨by rw [aO.1];rfl,by repeat (first|exact HB.1|apply below_alloc|apply pw_below_drewN|apply below_drew1)⟩
def impl_GoalOk.f (a0_0:Int) (l0_1:List (S44)) (l0_2:List (S44)) (l0_3:List (S44)):Option (Bool):=if a0_0=6 then (some false) else ((impl_goalShape.f a0_0 l0_1 l0_2 l0_3).bind fun ct=>(some ct))
theorem impl_GoalOk.calls (a0_0:Int) (A0_1:Option Addr) (c0_1:Nat) (l0_1:List (S44)) (A0_2:Option Addr) (c0_2:Nat) (l0_2:List (S44)) (A0_3:Option Addr) (c0_3:Nat) (l0_3:List (S44)) (r:Bool) (w:World) (hr0_1:Kd.C k44 w A0_1 l0_1.length l0_1) (hc0_1:l0_1.length≤c0_1) (hr0_2:Kd.C k44 w A0_2 l0_2.length l0_2) (hc0_2:l0_2.length≤c0_2) (hr0_3:Kd.C k44 w A0_3 l0_3.length l0_3) (hc0_3:l0_3.length≤c0_3) (h:impl_GoalOk.f a0_0 l0_1 l0_2 l0_3=some r) :
  Calls Tryd.prog 21 #[.agg #[.int .i64 a0_0,.slice A0_1 l0_1.length c0_1,.slice A0_2 l0_2.length c0_2,.slice A0_3 l0_3.length c0_3]] w fun e w'=>e = .returned (.bool r)∧Below w.heap.size w w':=by
 have hu29:=Tryd.underlying29;have HR0_1:=Am hr0_1;have HC0_1:=Am hc0_1;clear hr0_1 hc0_1;have HR0_2:=Am hr0_2;have HC0_2:=Am hc0_2;clear hr0_2 hc0_2;have HR0_3:=Am hr0_3;have HC0_3:=Am hc0_3;clear hr0_3 hc0_3;have HB:=Am (Below.refl w.heap.size w);have H:(if a0_0=6 then (some false) else ((impl_goalShape.f a0_0 l0_1 l0_2 l0_3).bind fun ct=>(some ct)))=some r:=h;clear h;by_cases c2:a0_0=6
 ·rw [if_pos c2] at H
  obtain ⟨c2b0,c2b1⟩:=bqP c2;clear c2;obtain rfl:=oi H;go_enter Tryd.func21,Tryd.ntmps21
  go_wp2_with (first|((with_reducible refine gate_dst (N:=1) rfl ?_);refine box_event ?hg (N:=1) ?hd (cs:=#[.int .i64 a0_0,.slice A0_1 l0_1.length c0_1,.slice A0_2 l0_2.length c0_2,.slice A0_3 l0_3.length c0_3]) (t:=29) ?hr ?_;(case hd=>rfl);(case hg=>rfl);(case hr=>first|(go_simp;done)|(go_simp;rfl));intro dm hg w3 hbox hb;have n_:=as3 (below_step Qd hb) (hbox) ((by rw [hg];exact (below_size Qd):w.heap.size≤dm));clear HB;obtain ⟨HB,ce,bu⟩:=n_;clear hb hbox hg;obtain ⟨hcz4_0,hcz4_1,hcz4_2,ez,hfz4_0,hfz4_1,hfz4_2,eA⟩:=blk4 ce.1))
  go_ret;exact ⟨Qg,Yp⟩
 ·rw [if_neg c2] at H
  obtain ⟨c2b0,c2b1⟩:=bqN c2;obtain ⟨ct,A5,H⟩:=bnd H;(try dsimp only at H);obtain rfl:=oi H;go_enter Tryd.func21,Tryd.ntmps21
  go_wp2_with (first|((with_reducible refine gate_dst (N:=1) rfl ?_);refine box_event ?hg (N:=1) ?hd (cs:=#[.int .i64 a0_0,.slice A0_1 l0_1.length c0_1,.slice A0_2 l0_2.length c0_2,.slice A0_3 l0_3.length c0_3]) (t:=29) ?hr ?_;(case hd=>rfl);(case hg=>rfl);(case hr=>first|(go_simp;done)|(go_simp;rfl));intro dm hg w6 hbox hb;have n_:=as3 (below_step Qd hb) (hbox) ((by rw [hg];exact (below_size Qd):w.heap.size≤dm));clear HB;obtain ⟨HB,ce,bu⟩:=n_;clear hb hbox hg;obtain ⟨fb,fc,fd,fe,ff,fg,fh,fi⟩:=blk4 ce.1)|(go_at_call 44;(with_reducible refine (impl_goalShape.calls a0_0 _ _ l0_1 _ _ l0_2 _ _ l0_3 ct _ ?side1 ?side2 ?side3 ?side4 ?side5 ?side6 A5.1).mono ?_);(case side1=>exact Qr);(case side2=>exact HC0_1.1);(case side3=>exact QO);(case side4=>exact HC0_2.1);(case side5=>exact Zo);(case side6=>exact HC0_3.1);rintro e w8 ⟨rfl,hb⟩;have n_:=as2 (blk_below (blkp ce.1) hb) (below_step Yp hb);clear ce HB;obtain ⟨ce,HB⟩:=n_;clear hb))
  go_ret;exact ⟨Qg,Yp⟩
def impl_clauseOk_1.f (a0_0:Int) (l0_1:List (S44)) (l0_2:List (S44)) (l0_3:List (S44)):Option (Bool):=(impl_GoalOk.f a0_0 l0_1 l0_2 l0_3).bind fun cu=>(some (!cu))
theorem impl_clauseOk_1.calls (a0_0:Int) (A0_1:Option Addr) (c0_1:Nat) (l0_1:List (S44)) (A0_2:Option Addr) (c0_2:Nat) (l0_2:List (S44)) (A0_3:Option Addr) (c0_3:Nat) (l0_3:List (S44)) (r:Bool) (w:World) (hr0_1:Kd.C k44 w A0_1 l0_1.length l0_1) (hc0_1:l0_1.length≤c0_1) (hr0_2:Kd.C k44 w A0_2 l0_2.length l0_2) (hc0_2:l0_2.length≤c0_2) (hr0_3:Kd.C k44 w A0_3 l0_3.length l0_3) (hc0_3:l0_3.length≤c0_3) (h:impl_clauseOk_1.f a0_0 l0_1 l0_2 l0_3=some r) :
  Calls Tryd.prog 79 #[.agg #[.int .i64 a0_0,.slice A0_1 l0_1.length c0_1,.slice A0_2 l0_2.length c0_2,.slice A0_3 l0_3.length c0_3]] w fun e w'=>e = .returned (.bool r)∧Below w.heap.size w w':=by
 have hu29:=Tryd.underlying29;have HR0_1:=Am hr0_1;have HC0_1:=Am hc0_1;clear hr0_1 hc0_1;have HR0_2:=Am hr0_2;have HC0_2:=Am hc0_2;clear hr0_2 hc0_2;have HR0_3:=Am hr0_3;have HC0_3:=Am hc0_3;clear hr0_3 hc0_3;have HB:=Am (Below.refl w.heap.size w);have H:((impl_GoalOk.f a0_0 l0_1 l0_2 l0_3).bind fun cu=>(some (!cu)))=some r:=h;clear h;obtain ⟨cu,A2,H⟩:=bnd H;(try dsimp only at H);obtain rfl:=oi H;go_enter Tryd.func79,Tryd.ntmps79
 go_wp2_with (first|((with_reducible refine gate_dst (N:=1) rfl ?_);refine box_event ?hg (N:=1) ?hd (cs:=#[.int .i64 a0_0,.slice A0_1 l0_1.length c0_1,.slice A0_2 l0_2.length c0_2,.slice A0_3 l0_3.length c0_3]) (t:=29) ?hr ?_;(case hd=>rfl);(case hg=>rfl);(case hr=>first|(go_simp;done)|(go_simp;rfl));intro eB hg w3 hbox hb;have n_:=as3 (below_step Qd hb) (hbox) ((by rw [hg];exact (below_size Qd):w.heap.size≤eB));clear HB;obtain ⟨HB,cW,bR⟩:=n_;clear hb hbox hg;obtain ⟨hcz4_0,hcz4_1,hcz4_2,ez,hfz4_0,hfz4_1,hfz4_2,eA⟩:=blk4 cW.1)|(go_at_call 21;(with_reducible refine (impl_GoalOk.calls a0_0 _ _ l0_1 _ _ l0_2 _ _ l0_3 cu _ ?side1 ?side2 ?side3 ?side4 ?side5 ?side6 A2.1).mono ?_);(case side1=>exact Qr);(case side2=>exact HC0_1.1);(case side3=>exact QO);(case side4=>exact HC0_2.1);(case side5=>exact Zo);(case side6=>exact HC0_3.1);rintro e w5 ⟨rfl,hb⟩;have n_:=as2 (blk_below (blkp cW.1) hb) (below_step YN hb);clear cW HB;obtain ⟨cW,HB⟩:=n_;clear hb))
 go_ret;exact ⟨Qg,YN⟩
def slices_IndexFunc_PrgGoal.l0:Nat→List (S29)→Int→Int→Option (Int)
 | 0,_,_,_=>none
 | k+1,x0,x7,x8=>if x8<x7 then (if 0≤x8 then (if x8<(x0.length:Int) then ((impl_clauseOk_1.f ((rd_T29 x0 x8).f0) ((rd_T29 x0 x8).f1) ((rd_T29 x0 x8).f2) ((rd_T29 x0 x8).f3)).bind fun cX=>(if cX=true then (some x8) else (slices_IndexFunc_PrgGoal.l0 k x0 x7 (wrap64 (x8+1))))) else (none)) else (none)) else (some (-1))
def slices_IndexFunc_PrgGoal.f (k:Nat) (l0:List (S29)):Option (Int):=slices_IndexFunc_PrgGoal.l0 k l0 (l0.length:Int) 0
theorem slices_IndexFunc_PrgGoal.calls (k:Nat) (A0:Option Addr) (c0:Nat) (l0:List (S29)) (r:Int) (w:World) (hr0:Kd.C k29 w A0 l0.length l0) (hc0:l0.length≤c0) (h:slices_IndexFunc_PrgGoal.f k l0=some r) :
  Calls Tryd.prog 98 #[.slice A0 l0.length c0,.func (.func 79) #[] #[]] w fun e w'=>e = .returned (.int .i64 r)∧Below w.heap.size w w':=by
 have hu29:=Tryd.underlying29;have HR0:=Am hr0;have HC0:=Am hc0;clear hr0 hc0;have HB:=Am (Below.refl w.heap.size w);have H:(slices_IndexFunc_PrgGoal.l0 k l0 (l0.length:Int) 0)=some r:=h;clear h;have H':=Am H;clear H;go_enter Tryd.func98,Tryd.ntmps98;go_wp2
 go_loopg [8] k (fun kq v8 w'=>∃ (x8_1:Int),v8 = .int .i64 x8_1∧Aside0 (slices_IndexFunc_PrgGoal.l0 kq l0 (l0.length:Int) x8_1=some r)∧Aside0 (kq≤k)∧Aside0 (Below w.heap.size w w'))
 case atStart=>exact ⟨(0),Qf,H',⟨Nat.le_refl _⟩,⟨Qd⟩⟩
 case round=>
  clear H';obtain ⟨x8_1,rfl,HA,HK1,HB⟩:=hrel;cases gk with
  | zero=>exact absurd HA.1 (by simp [slices_IndexFunc_PrgGoal.l0])
  | succ k1=>
   have H:=HA.1;clear HA;simp only [slices_IndexFunc_PrgGoal.l0] at H;by_cases c2:x8_1<(l0.length:Int)
   ·rw [if_pos c2] at H
    have c2b0:=decide_eq_true c2;clear c2;obtain ⟨c3,H⟩:=ifS H;have c3b0:=decide_eq_true c3;clear c3;obtain ⟨c4,H⟩:=ifS H;have c4b0:=decide_eq_true c4;clear c4;obtain ⟨cX,A5,H⟩:=bnd H;(try dsimp only at H);have HC6:=Am H;clear H;have dn:0≤(x8_1:Int):=of_decide_eq_true Qc;have dp:x8_1<(l0.length:Int):=of_decide_eq_true Qc;obtain ⟨fj,fk,fl,fm,fo,fp,fq,eC,dS,dT,dU,dV,dW,dX,dY,dZ,d0,d1⟩:=at_T29 HR0.1 x8_1 dn dp;cases eC
    replace dS:=cB dS HB.1;replace dT:=cB dT HB.1;replace dU:=cB dU HB.1;replace dV:=cB dV HB.1;have eD:=Am dX;have eE:=Am dW;clear dX dW;have eF:=Am dZ;have eG:=Am dY;clear dZ dY;have eH:=Am d1;have eI:=Am d0;clear d1 d0;obtain ⟨dn,dp⟩:=et2 dn dp;go_upto_if 16 with (first|((first|go_at_call 79|go_at_fn 79);(with_reducible refine (impl_clauseOk_1.calls ((rd_T29 l0 x8_1).f0) _ _ ((rd_T29 l0 x8_1).f1) _ _ ((rd_T29 l0 x8_1).f2) _ _ ((rd_T29 l0 x8_1).f3) cX _ ?side1 ?side2 ?side3 ?side4 ?side5 ?side6 A5.1).mono ?_);(case side1=>repeat (first|exact (C_below eD.1 HB.1)|(with_reducible refine C_alloc ?_ _)|(with_reducible refine C_drewN ?_ _)|(with_reducible refine C_drew ?_)));(case side2=>exact eE.1);(case side3=>repeat (first|exact (C_below eF.1 HB.1)|(with_reducible refine C_alloc ?_ _)|(with_reducible refine C_drewN ?_ _)|(with_reducible refine C_drew ?_)));(case side4=>exact eG.1);(case side5=>repeat (first|exact (C_below eH.1 HB.1)|(with_reducible refine C_alloc ?_ _)|(with_reducible refine C_drewN ?_ _)|(with_reducible refine C_drew ?_)));(case side6=>exact eI.1);rintro e w7 ⟨rfl,hb⟩;replace HB:=Am (below_step Qd hb);clear hb))
    (try simp only [Act.put,sA_,sZ_,sS_]);have H:=HC6.1;clear HC6;by_cases c8:cX=true
    ·subst c8
     rw [if_pos rfl] at H;obtain rfl:=oi H;go_wp2;go_ret;exact ⟨Qg,Qd⟩
    ·replace c8:=Bool.eq_false_iff.mpr c8
     subst c8;rw [if_neg nft] at H;have H':=Am H;clear H;go_wp2;go_roundg k1
     case measure=>have:=HK1.1;omega
     case rel=>exact ⟨(wrap64 (x8_1+1)),Qf,H',⟨QA⟩,⟨Qd⟩⟩
   ·rw [if_neg c2] at H
    have c2b0:=decide_eq_false c2;clear c2;obtain rfl:=oi H;go_wp2;go_ret;exact ⟨Qg,Qd⟩
def slices_ContainsFunc_PrgGoal.f (k:Nat) (l0:List (S29)):Option (Bool):=(slices_IndexFunc_PrgGoal.f k l0).bind fun cv=>(some (decide (cv≥0)))
theorem slices_ContainsFunc_PrgGoal.calls (k:Nat) (A0:Option Addr) (c0:Nat) (l0:List (S29)) (r:Bool) (w:World) (hr0:Kd.C k29 w A0 l0.length l0) (hc0:l0.length≤c0) (h:slices_ContainsFunc_PrgGoal.f k l0=some r) :
  Calls Tryd.prog 80 #[.slice A0 l0.length c0,.func (.func 79) #[] #[]] w fun e w'=>e = .returned (.bool r)∧Below w.heap.size w w':=by
 have HR0:=Am hr0;have HC0:=Am hc0;clear hr0 hc0;have HB:=Am (Below.refl w.heap.size w);have H:((slices_IndexFunc_PrgGoal.f k l0).bind fun cv=>(some (decide (cv≥0))))=some r:=h;clear h;obtain ⟨cv,A2,H⟩:=bnd H;(try dsimp only at H);obtain rfl:=oi H;go_enter Tryd.func80,Tryd.ntmps80
 go_wp2_with (first|(go_at_call 98;(with_reducible refine (slices_IndexFunc_PrgGoal.calls k _ _ l0 cv _ ?side1 ?side2 A2.1).mono ?_);(case side1=>exact Zr);(case side2=>exact HC0.1);rintro e w3 ⟨rfl,hb⟩;replace HB:=Am (below_step Qd hb);clear hb))
 go_ret;exact ⟨Qg,Qd⟩
def impl_clauseOk.f (k:Nat) (l0_0:List (S44)) (l0_1:List (S29)):Option (Bool):=(impl_called.f l0_0).bind fun cw=>(if cw=true then ((impl_inClause.f l0_0).bind fun cx=>(if cx=true then (if (l0_1.length:Int)≤4 then ((slices_ContainsFunc_PrgGoal.f k l0_1).bind fun cy=>(some (!cy))) else (some false)) else (some false))) else (some false))
theorem impl_clauseOk.calls (k:Nat) (A0_0:Option Addr) (c0_0:Nat) (l0_0:List (S44)) (A0_1:Option Addr) (c0_1:Nat) (l0_1:List (S29)) (r:Bool) (w:World) (hr0_0:Kd.C k44 w A0_0 l0_0.length l0_0) (hc0_0:l0_0.length≤c0_0) (hr0_1:Kd.C k29 w A0_1 l0_1.length l0_1) (hc0_1:l0_1.length≤c0_1) (h:impl_clauseOk.f k l0_0 l0_1=some r) :
  Calls Tryd.prog 58 #[.agg #[.slice A0_0 l0_0.length c0_0,.slice A0_1 l0_1.length c0_1]] w fun e w'=>e = .returned (.bool r)∧Below w.heap.size w w':=by
 have hu69:=Tryd.underlying69;have HR0_0:=Am hr0_0;have HC0_0:=Am hc0_0;clear hr0_0 hc0_0;have HR0_1:=Am hr0_1;have HC0_1:=Am hc0_1;clear hr0_1 hc0_1;have HB:=Am (Below.refl w.heap.size w);have H:((impl_called.f l0_0).bind fun cw=>(if cw=true then ((impl_inClause.f l0_0).bind fun cx=>(if cx=true then (if (l0_1.length:Int)≤4 then ((slices_ContainsFunc_PrgGoal.f k l0_1).bind fun cy=>(some (!cy))) else (some false)) else (some false))) else (some false)))=some r:=h;clear h;obtain ⟨cw,A2,H⟩:=bnd H;(try dsimp only at H);by_cases c3:cw=true
 ·subst c3
  rw [if_pos rfl] at H;obtain ⟨cx,A4,H⟩:=bnd H;(try dsimp only at H);by_cases c5:cx=true
  ·subst c5
   rw [if_pos rfl] at H;by_cases c6:(l0_1.length:Int)≤4
   ·rw [if_pos c6] at H
    have c6b0:=decide_eq_true c6;have c6b1:decide (l0_1.length≤4)=true:=decide_eq_true Qe;clear c6;obtain ⟨cy,A7,H⟩:=bnd H;(try dsimp only at H);obtain rfl:=oi H;go_enter Tryd.func58,Tryd.ntmps58
    go_wp2_with (first|((with_reducible refine gate_dst (N:=1) rfl ?_);(try (refine gate_guard (by rfl) ?_;dsimp only));refine box_event ?hg (N:=1) ?hd (cs:=#[.slice A0_0 l0_0.length c0_0,.slice A0_1 l0_1.length c0_1]) (t:=69) ?hr ?_;(case hd=>rfl);(case hg=>rfl);(case hr=>first|(go_simp;done)|(go_simp;rfl));intro b4 hg w8 hbox hb;have n_:=as3 (below_step Qd hb) (hbox) ((by rw [hg];exact (below_size Qd):w.heap.size≤b4));clear HB;obtain ⟨HB,L,ba⟩:=n_;clear hb hbox hg;obtain ⟨hcz9_0,hcz9_1,hfz9_0,hfz9_1⟩:=blk2 L.1)|(go_at_call 31;(with_reducible refine (impl_called.calls _ _ l0_0 true _ ?side1 ?side2 A2.1).mono ?_);(case side1=>exact Qz);(case side2=>exact HC0_0.1);rintro e w10 ⟨rfl,hb⟩;have n_:=as2 (blk_below (blkp L.1) hb) (below_step Q0 hb);clear L HB;obtain ⟨L,HB⟩:=n_;clear hb;obtain ⟨hcz11_0,hcz11_1,hfz11_0,hfz11_1⟩:=blk2 L.1)|(go_at_call 45;(with_reducible refine (impl_inClause.calls _ _ l0_0 true _ ?side1 ?side2 A4.1).mono ?_);(case side1=>exact Qz);(case side2=>exact HC0_0.1);rintro e w12 ⟨rfl,hb⟩;have n_:=as2 (blk_below (blkp L.1) hb) (below_step Q0 hb);clear L HB;obtain ⟨L,HB⟩:=n_;clear hb;obtain ⟨hcz13_0,hcz13_1,hfz13_0,hfz13_1⟩:=blk2 L.1)|(go_at_call 80;(with_reducible refine (slices_ContainsFunc_PrgGoal.calls k _ _ l0_1 cy _ ?side1 ?side2 A7.1).mono ?_);(case side1=>exact Qr);(case side2=>exact HC0_1.1);rintro e w14 ⟨rfl,hb⟩;have n_:=as2 (blk_below (blkp L.1) hb) (below_step Q0 hb);clear L HB;obtain ⟨L,HB⟩:=n_;clear hb))
    go_ret;exact ⟨Qg,Q0⟩
   ·rw [if_neg c6] at H
    have c6b0:=decide_eq_false c6;have c6b1:decide (l0_1.length≤4)=false:=decide_eq_false Qe;clear c6;obtain rfl:=oi H;go_enter Tryd.func58,Tryd.ntmps58
    go_wp2_with (first|((with_reducible refine gate_dst (N:=1) rfl ?_);(try (refine gate_guard (by rfl) ?_;dsimp only));refine box_event ?hg (N:=1) ?hd (cs:=#[.slice A0_0 l0_0.length c0_0,.slice A0_1 l0_1.length c0_1]) (t:=69) ?hr ?_;(case hd=>rfl);(case hg=>rfl);(case hr=>first|(go_simp;done)|(go_simp;rfl));intro b4 hg w15 hbox hb;have n_:=as3 (below_step Qd hb) (hbox) ((by rw [hg];exact (below_size Qd):w.heap.size≤b4));clear HB;obtain ⟨HB,L,ba⟩:=n_;clear hb hbox hg;obtain ⟨hcz16_0,hcz16_1,hfz16_0,hfz16_1⟩:=blk2 L.1)|(go_at_call 31;(with_reducible refine (impl_called.calls _ _ l0_0 true _ ?side1 ?side2 A2.1).mono ?_);(case side1=>exact Qz);(case side2=>exact HC0_0.1);rintro e w17 ⟨rfl,hb⟩;have n_:=as2 (blk_below (blkp L.1) hb) (below_step Q0 hb);clear L HB;obtain ⟨L,HB⟩:=n_;clear hb;obtain ⟨hcz18_0,hcz18_1,hfz18_0,hfz18_1⟩:=blk2 L.1)|(go_at_call 45;(with_reducible refine (impl_inClause.calls _ _ l0_0 true _ ?side1 ?side2 A4.1).mono ?_);(case side1=>exact Qz);(case side2=>exact HC0_0.1);rintro e w19 ⟨rfl,hb⟩;have n_:=as2 (blk_below (blkp L.1) hb) (below_step Q0 hb);clear L HB;obtain ⟨L,HB⟩:=n_;clear hb;obtain ⟨hcz20_0,hcz20_1,hfz20_0,hfz20_1⟩:=blk2 L.1))
    go_ret;exact ⟨Qg,Q0⟩
  ·replace c5:=Bool.eq_false_iff.mpr c5
   subst c5;rw [if_neg nft] at H;obtain rfl:=oi H;go_enter Tryd.func58,Tryd.ntmps58
   go_wp2_with (first|((with_reducible refine gate_dst (N:=1) rfl ?_);(try (refine gate_guard (by rfl) ?_;dsimp only));refine box_event ?hg (N:=1) ?hd (cs:=#[.slice A0_0 l0_0.length c0_0,.slice A0_1 l0_1.length c0_1]) (t:=69) ?hr ?_;(case hd=>rfl);(case hg=>rfl);(case hr=>first|(go_simp;done)|(go_simp;rfl));intro b4 hg w21 hbox hb;have n_:=as3 (below_step Qd hb) (hbox) ((by rw [hg];exact (below_size Qd):w.heap.size≤b4));clear HB;obtain ⟨HB,L,ba⟩:=n_;clear hb hbox hg;obtain ⟨hcz22_0,hcz22_1,hfz22_0,hfz22_1⟩:=blk2 L.1)|(go_at_call 31;(with_reducible refine (impl_called.calls _ _ l0_0 true _ ?side1 ?side2 A2.1).mono ?_);(case side1=>exact Qz);(case side2=>exact HC0_0.1);rintro e w23 ⟨rfl,hb⟩;have n_:=as2 (blk_below (blkp L.1) hb) (below_step Q0 hb);clear L HB;obtain ⟨L,HB⟩:=n_;clear hb;obtain ⟨hcz24_0,hcz24_1,hfz24_0,hfz24_1⟩:=blk2 L.1)|(go_at_call 45;(with_reducible refine (impl_inClause.calls _ _ l0_0 false _ ?side1 ?side2 A4.1).mono ?_);(case side1=>exact Qz);(case side2=>exact HC0_0.1);rintro e w25 ⟨rfl,hb⟩;have n_:=as2 (blk_below (blkp L.1) hb) (below_step Q0 hb);clear L HB;obtain ⟨L,HB⟩:=n_;clear hb))
   go_ret;exact ⟨Qg,Q0⟩
 ·replace c3:=Bool.eq_false_iff.mpr c3
  subst c3;rw [if_neg nft] at H;obtain rfl:=oi H;go_enter Tryd.func58,Tryd.ntmps58
  go_wp2_with (first|((with_reducible refine gate_dst (N:=1) rfl ?_);(try (refine gate_guard (by rfl) ?_;dsimp only));refine box_event ?hg (N:=1) ?hd (cs:=#[.slice A0_0 l0_0.length c0_0,.slice A0_1 l0_1.length c0_1]) (t:=69) ?hr ?_;(case hd=>rfl);(case hg=>rfl);(case hr=>first|(go_simp;done)|(go_simp;rfl));intro b4 hg w26 hbox hb;have n_:=as3 (below_step Qd hb) (hbox) ((by rw [hg];exact (below_size Qd):w.heap.size≤b4));clear HB;obtain ⟨HB,L,ba⟩:=n_;clear hb hbox hg;obtain ⟨hcz27_0,hcz27_1,hfz27_0,hfz27_1⟩:=blk2 L.1)|(go_at_call 31;(with_reducible refine (impl_called.calls _ _ l0_0 false _ ?side1 ?side2 A2.1).mono ?_);(case side1=>exact Qz);(case side2=>exact HC0_0.1);rintro e w28 ⟨rfl,hb⟩;have n_:=as2 (blk_below (blkp L.1) hb) (below_step Q0 hb);clear L HB;obtain ⟨L,HB⟩:=n_;clear hb))
  go_ret;exact ⟨Qg,Q0⟩
def impl_PrgOk_1.f (k:Nat) (l0_0:List (S44)) (l0_1:List (S29)):Option (Bool):=(impl_clauseOk.f k l0_0 l0_1).bind fun cz=>(some (!cz))
theorem impl_PrgOk_1.calls (k:Nat) (A0_0:Option Addr) (c0_0:Nat) (l0_0:List (S44)) (A0_1:Option Addr) (c0_1:Nat) (l0_1:List (S29)) (r:Bool) (w:World) (hr0_0:Kd.C k44 w A0_0 l0_0.length l0_0) (hc0_0:l0_0.length≤c0_0) (hr0_1:Kd.C k29 w A0_1 l0_1.length l0_1) (hc0_1:l0_1.length≤c0_1) (h:impl_PrgOk_1.f k l0_0 l0_1=some r) :
  Calls Tryd.prog 57 #[.agg #[.slice A0_0 l0_0.length c0_0,.slice A0_1 l0_1.length c0_1]] w fun e w'=>e = .returned (.bool r)∧Below w.heap.size w w':=by
 have hu69:=Tryd.underlying69;have HR0_0:=Am hr0_0;have HC0_0:=Am hc0_0;clear hr0_0 hc0_0;have HR0_1:=Am hr0_1;have HC0_1:=Am hc0_1;clear hr0_1 hc0_1;have HB:=Am (Below.refl w.heap.size w);have H:((impl_clauseOk.f k l0_0 l0_1).bind fun cz=>(some (!cz)))=some r:=h;clear h;obtain ⟨cz,A2,H⟩:=bnd H;(try dsimp only at H);obtain rfl:=oi H;go_enter Tryd.func57,Tryd.ntmps57
 go_wp2_with (first|((with_reducible refine gate_dst (N:=1) rfl ?_);refine box_event ?hg (N:=1) ?hd (cs:=#[.slice A0_0 l0_0.length c0_0,.slice A0_1 l0_1.length c0_1]) (t:=69) ?hr ?_;(case hd=>rfl);(case hg=>rfl);(case hr=>first|(go_simp;done)|(go_simp;rfl));intro eJ hg w3 hbox hb;have n_:=as3 (below_step Qd hb) (hbox) ((by rw [hg];exact (below_size Qd):w.heap.size≤eJ));clear HB;obtain ⟨HB,cY,bQ⟩:=n_;clear hb hbox hg;obtain ⟨hcz4_0,hcz4_1,hfz4_0,hfz4_1⟩:=blk2 cY.1)|(go_at_call 58;(with_reducible refine (impl_clauseOk.calls k _ _ l0_0 _ _ l0_1 cz _ ?side1 ?side2 ?side3 ?side4 A2.1).mono ?_);(case side1=>exact Qz);(case side2=>exact HC0_0.1);(case side3=>exact Qr);(case side4=>exact HC0_1.1);rintro e w5 ⟨rfl,hb⟩;have n_:=as2 (blk_below (blkp cY.1) hb) (below_step YO hb);clear cY HB;obtain ⟨cY,HB⟩:=n_;clear hb))
 go_ret;exact ⟨Qg,YO⟩
def slices_IndexFunc_PrgClause.l0:Nat→List (S69)→Int→Int→Option (Int)
 | 0,_,_,_=>none
 | k+1,x0,x7,x8=>if x8<x7 then (if 0≤x8 then (if x8<(x0.length:Int) then ((impl_PrgOk_1.f k ((rd_T69 x0 x8).f0) ((rd_T69 x0 x8).f1)).bind fun cZ=>(if cZ=true then (some x8) else (slices_IndexFunc_PrgClause.l0 k x0 x7 (wrap64 (x8+1))))) else (none)) else (none)) else (some (-1))
def slices_IndexFunc_PrgClause.f (k:Nat) (l0:List (S69)):Option (Int):=slices_IndexFunc_PrgClause.l0 k l0 (l0.length:Int) 0
theorem slices_IndexFunc_PrgClause.calls (k:Nat) (A0:Option Addr) (c0:Nat) (l0:List (S69)) (r:Int) (w:World) (hr0:Kd.C k69 w A0 l0.length l0) (hc0:l0.length≤c0) (h:slices_IndexFunc_PrgClause.f k l0=some r) :
  Calls Tryd.prog 81 #[.slice A0 l0.length c0,.func (.func 57) #[] #[]] w fun e w'=>e = .returned (.int .i64 r)∧Below w.heap.size w w':=by
 have hu69:=Tryd.underlying69;have HR0:=Am hr0;have HC0:=Am hc0;clear hr0 hc0;have HB:=Am (Below.refl w.heap.size w);have H:(slices_IndexFunc_PrgClause.l0 k l0 (l0.length:Int) 0)=some r:=h;clear h;have H':=Am H;clear H;go_enter Tryd.func81,Tryd.ntmps81;go_wp2
 go_loopg [8] k (fun kq v8 w'=>∃ (x8_1:Int),v8 = .int .i64 x8_1∧Aside0 (slices_IndexFunc_PrgClause.l0 kq l0 (l0.length:Int) x8_1=some r)∧Aside0 (kq≤k)∧Aside0 (Below w.heap.size w w'))
 case atStart=>exact ⟨(0),Qf,H',⟨Nat.le_refl _⟩,⟨Qd⟩⟩
 case round=>
  clear H';obtain ⟨x8_1,rfl,HA,HK1,HB⟩:=hrel;cases gk with
  | zero=>exact absurd HA.1 (by simp [slices_IndexFunc_PrgClause.l0])
  | succ k1=>
   have H:=HA.1;clear HA;simp only [slices_IndexFunc_PrgClause.l0] at H;by_cases c2:x8_1<(l0.length:Int)
   ·rw [if_pos c2] at H
    have c2b0:=decide_eq_true c2;clear c2;obtain ⟨c3,H⟩:=ifS H;have c3b0:=decide_eq_true c3;clear c3;obtain ⟨c4,H⟩:=ifS H;have c4b0:=decide_eq_true c4;clear c4;obtain ⟨cZ,A5,H⟩:=bnd H;(try dsimp only at H);have HC6:=Am H;clear H;have dq:0≤(x8_1:Int):=of_decide_eq_true Qc;have dr:x8_1<(l0.length:Int):=of_decide_eq_true Qc;obtain ⟨fr,fs,ft,fu,fv,eK,d2,d3,d4,d5,d6,d7⟩:=at_T69 HR0.1 x8_1 dq dr;cases eK
    replace d2:=cB d2 HB.1;replace d3:=cB d3 HB.1;have eL:=Am d5;have eM:=Am d4;clear d5 d4;have eN:=Am d7;have eO:=Am d6;clear d7 d6;obtain ⟨dq,dr⟩:=et2 dq dr;go_upto_if 16 with (first|((first|go_at_call 57|go_at_fn 57);(with_reducible refine (impl_PrgOk_1.calls k1 _ _ ((rd_T69 l0 x8_1).f0) _ _ ((rd_T69 l0 x8_1).f1) cZ _ ?side1 ?side2 ?side3 ?side4 A5.1).mono ?_);(case side1=>repeat (first|exact (C_below eL.1 HB.1)|(with_reducible refine C_alloc ?_ _)|(with_reducible refine C_drewN ?_ _)|(with_reducible refine C_drew ?_)));(case side2=>exact eM.1);(case side3=>repeat (first|exact (C_below eN.1 HB.1)|(with_reducible refine C_alloc ?_ _)|(with_reducible refine C_drewN ?_ _)|(with_reducible refine C_drew ?_)));(case side4=>exact eO.1);rintro e w7 ⟨rfl,hb⟩;replace HB:=Am (below_step Qd hb);clear hb))
    (try simp only [Act.put,sA_,sZ_,sS_]);have H:=HC6.1;clear HC6;by_cases c8:cZ=true
    ·subst c8
     rw [if_pos rfl] at H;obtain rfl:=oi H;go_wp2;go_ret;exact ⟨Qg,Qd⟩
    ·replace c8:=Bool.eq_false_iff.mpr c8
     subst c8;rw [if_neg nft] at H;have H':=Am H;clear H;go_wp2;go_roundg k1
     case measure=>have:=HK1.1;omega
     case rel=>exact ⟨(wrap64 (x8_1+1)),Qf,H',⟨QA⟩,⟨Qd⟩⟩
   ·rw [if_neg c2] at H
    have c2b0:=decide_eq_false c2;clear c2;obtain rfl:=oi H;go_wp2;go_ret;exact ⟨Qg,Qd⟩
def slices_ContainsFunc_PrgClause.f (k:Nat) (l0:List (S69)):Option (Bool):=(slices_IndexFunc_PrgClause.f k l0).bind fun cA=>(some (decide (cA≥0)))
theorem slices_ContainsFunc_PrgClause.calls (k:Nat) (A0:Option Addr) (c0:Nat) (l0:List (S69)) (r:Bool) (w:World) (hr0:Kd.C k69 w A0 l0.length l0) (hc0:l0.length≤c0) (h:slices_ContainsFunc_PrgClause.f k l0=some r) :
  Calls Tryd.prog 59 #[.slice A0 l0.length c0,.func (.func 57) #[] #[]] w fun e w'=>e = .returned (.bool r)∧Below w.heap.size w w':=by
 have HR0:=Am hr0;have HC0:=Am hc0;clear hr0 hc0;have HB:=Am (Below.refl w.heap.size w);have H:((slices_IndexFunc_PrgClause.f k l0).bind fun cA=>(some (decide (cA≥0))))=some r:=h;clear h;obtain ⟨cA,A2,H⟩:=bnd H;(try dsimp only at H);obtain rfl:=oi H;go_enter Tryd.func59,Tryd.ntmps59
 go_wp2_with (first|(go_at_call 81;(with_reducible refine (slices_IndexFunc_PrgClause.calls k _ _ l0 cA _ ?side1 ?side2 A2.1).mono ?_);(case side1=>exact Zr);(case side2=>exact HC0.1);rintro e w3 ⟨rfl,hb⟩;replace HB:=Am (below_step Qd hb);clear hb))
 go_ret;exact ⟨Qg,Qd⟩
mutual
def impl_PrgOk.l0:Nat→List (S47)→Int→Int→List (S69)→List (S47)→Option (Bool)
 | 0,_,_,_,_,_=>none
 | k+1,x9,x10,x11,x798000,x798001=>if x11<x10 then (if 0≤x11 then (if x11<(x9.length:Int) then ((impl_nameOk.f ((rd_T47 x9 x11).f0)).bind fun dt=>(if dt=true then ((impl_in.f ((rd_T47 x9 x11).f1) 0 3).bind fun du=>(if du=true then ((impl_in.f ((rd_T47 x9 x11).f2) 1 2).bind fun da=>(impl_PrgOk.j1 k x11 x9 x10 x11 (!da) x798000 x798001 ((rd_T47 x9 x11).f0) ((rd_T47 x9 x11).f1) ((rd_T47 x9 x11).f2))) else (impl_PrgOk.j1 k x11 x9 x10 x11 true x798000 x798001 ((rd_T47 x9 x11).f0) ((rd_T47 x9 x11).f1) ((rd_T47 x9 x11).f2)))) else (impl_PrgOk.j1 k x11 x9 x10 x11 true x798000 x798001 ((rd_T47 x9 x11).f0) ((rd_T47 x9 x11).f1) ((rd_T47 x9 x11).f2)))) else (none)) else (none)) else (if (x798000.length:Int)≤12 then (if (x798001.length:Int)≤6 then ((slices_ContainsFunc_PrgClause.f k x798000).bind fun dv=>(some (!dv))) else (some false)) else (some false))
def impl_PrgOk.j1:Nat→Int→List (S47)→Int→Int→Bool→List (S69)→List (S47)→ByteArray→Int→Int→Option (Bool)
 | 0,_,_,_,_,_,_,_,_,_,_=>none
 | k+1,x3,x9,x10,x11,x31,x798000,x798001,x801000,x801001,x801002=>if x31=true then (some false) else (if 0≤x3 then (if x3≤(x798001.length:Int) then ((some (x798001.take (x3:Int).toNat:List (S47))).bind fun aS=>(impl_PrgOk.l1 k x9 x10 x11 aS (aS.length:Int) 0 x798000 x798001 x801000 x801001 x801002)) else (none)) else (none))
def impl_PrgOk.l1:Nat→List (S47)→Int→Int→List (S47)→Int→Int→List (S69)→List (S47)→ByteArray→Int→Int→Option (Bool)
 | 0,_,_,_,_,_,_,_,_,_,_,_=>none
 | k+1,x9,x10,x11,x35,x36,x37,x798000,x798001,x801000,x801001,x801002=>if x37<x36 then (if 0≤x37 then (if x37<(x35.length:Int) then (if x801000.toList=((rd_T47 x35 x37).f0).toList then (if x801001=((rd_T47 x35 x37).f1) then (some false) else (impl_PrgOk.l1 k x9 x10 x11 x35 x36 (wrap64 (x37+1)) x798000 x798001 x801000 x801001 x801002)) else (impl_PrgOk.l1 k x9 x10 x11 x35 x36 (wrap64 (x37+1)) x798000 x798001 x801000 x801001 x801002)) else (none)) else (none)) else (impl_PrgOk.l0 k x9 x10 (wrap64 (x11+1)) x798000 x798001)
end
def impl_PrgOk.f (k:Nat) (l0_0:List (S69)) (l0_1:List (S47)):Option (Bool):=impl_PrgOk.l0 k l0_1 (l0_1.length:Int) 0 l0_0 l0_1
theorem impl_PrgOk.calls (k:Nat) (A0_0:Option Addr) (c0_0:Nat) (l0_0:List (S69)) (A0_1:Option Addr) (c0_1:Nat) (l0_1:List (S47)) (r:Bool) (w:World) (hr0_0:Kd.C k69 w A0_0 l0_0.length l0_0) (hc0_0:l0_0.length≤c0_0) (hr0_1:Kd.C k47 w A0_1 l0_1.length l0_1) (hc0_1:l0_1.length≤c0_1) (h:impl_PrgOk.f k l0_0 l0_1=some r) :
  Calls Tryd.prog 30 #[.agg #[.slice A0_0 l0_0.length c0_0,.slice A0_1 l0_1.length c0_1]] w fun e w'=>e = .returned (.bool r)∧Below w.heap.size w w':=by
 have hu37:=Tryd.underlying37;have hu47:=Tryd.underlying47;have HR0_0:=Am hr0_0;have HC0_0:=Am hc0_0;clear hr0_0 hc0_0;have HR0_1:=Am hr0_1;have HC0_1:=Am hc0_1;clear hr0_1 hc0_1;have HB:=Am (Below.refl w.heap.size w);have H:(impl_PrgOk.l0 k l0_1 (l0_1.length:Int) 0 l0_0 l0_1)=some r:=h;clear h;have H':=Am H;clear H;go_enter Tryd.func30,Tryd.ntmps30
 go_wp2_with (first|((with_reducible refine gate_dst (N:=1) rfl ?_);(try (refine gate_guard (by rfl) ?_;dsimp only));refine box_event ?hg (N:=1) ?hd (cs:=#[.slice A0_0 l0_0.length c0_0,.slice A0_1 l0_1.length c0_1]) (t:=37) ?hr ?_;(case hd=>rfl);(case hg=>rfl);(case hr=>first|(go_simp;done)|(go_simp;rfl));intro b2 hg w2 hbox hb;have n_:=as3 (below_step Qd hb) (hbox) ((by rw [hg];exact (below_size Qd):w.heap.size≤b2));clear HB;obtain ⟨HB,D,bl⟩:=n_;clear hb hbox hg;obtain ⟨dw,dx,dy,dz⟩:=blk2 D.1))
 go_loopg [11] k (fun kq v11 w'=>∃ (x11_1:Int),v11 = .int .i64 x11_1∧Aside0 (impl_PrgOk.l0 kq l0_1 (l0_1.length:Int) x11_1 l0_0 l0_1=some r)∧Aside0 (kq≤k)∧Aside0 (w'.heap[b2]?=some (.cells #[(.slice A0_0 l0_0.length c0_0),(.slice A0_1 l0_1.length c0_1)] 37 (0,0)))∧Aside0 (Below w.heap.size w w'))
 case atStart=>exact ⟨(0),Qf,H',⟨Nat.le_refl _⟩,⟨blkp D.1⟩,⟨Zw⟩⟩
 case round=>
  clear H';(try clear dw);(try clear dx);(try clear dy);(try clear dz);obtain ⟨x11_1,rfl,HA,HK1,D,HB⟩:=hrel;cases gk with
  | zero=>exact absurd HA.1 (by simp [impl_PrgOk.l0])
  | succ k1=>
   have H:=HA.1;clear HA;simp only [impl_PrgOk.l0] at H;by_cases c4:x11_1<(l0_1.length:Int)
   ·rw [if_pos c4] at H
    have c4b0:=decide_eq_true c4;clear c4;obtain ⟨c5,H⟩:=ifS H;have c5b0:=decide_eq_true c5;clear c5;obtain ⟨c6,H⟩:=ifS H;have c6b0:=decide_eq_true c6;clear c6;have dA:=Am H;clear H;have cC:0≤(x11_1:Int):=of_decide_eq_true Qc;have cD:x11_1<(l0_1.length:Int):=of_decide_eq_true Qc;obtain ⟨cf,eP,db,dc,dd⟩:=at_T47 HR0_1.1 x11_1 cC cD;cases eP
    replace db:=cB db HB.1;replace dc:=cB dc HB.1;replace dd:=cB dd HB.1;obtain ⟨cC,cD⟩:=et2 cC cD;go_upto_region 4 with (first|((with_reducible refine gate_dst (N:=4) rfl ?_);(try (refine gate_guard (by rfl) ?_;dsimp only));refine box_event ?hg (N:=4) ?hd (cs:=#[.string (⟨#[]⟩:BA),.int .i64 0,.int .i64 0]) (t:=47) ?hr ?_;(case hd=>rfl);(case hg=>rfl);(case hr=>first|(go_simp;done)|(go_simp;rfl));intro b3 hg w8 hbox hb;have n_:=as6 (blk_below (blkp D.1) hb) (below_step Zw hb) (hbox) ((by rw [hg];exact (below_size Zw):w.heap.size≤b3)) ((by rw [hg];exact Nat.ne_of_lt (blk_lt (blkp D.1)):b2≠b3)) ((by rw [hg];exact Nat.ne_of_gt (blk_lt (blkp D.1)):b3≠b2));clear D HB;obtain ⟨D,HB,O,bx,aR,b5⟩:=n_;clear hb hbox hg;have hnb9:=b5.1;have hnc9:=aR.1;obtain ⟨hcz10_0,hcz10_1,hcz10_2,hfz10_0,hfz10_1,hfz10_2⟩:=blk3 O.1))
    (try simp only [Act.put,sA_,sZ_,sS_]);go_cut [31] (fun v31 wc=>∃ (kq:Nat) (de:Bool),v31 = .bool de∧Aside0 (impl_PrgOk.j1 kq x11_1 l0_1 (l0_1.length:Int) x11_1 de l0_0 l0_1 ((rd_T47 l0_1 x11_1).f0) ((rd_T47 l0_1 x11_1).f1) ((rd_T47 l0_1 x11_1).f2)=some r)∧Aside0 (kq≤k1)∧Aside0 (wc.heap[b2]?=some (.cells #[(.slice A0_0 l0_0.length c0_0),(.slice (some cf) l0_1.length c0_1)] 37 (0,0)))∧Aside0 (wc.heap[b3]?=some (.cells #[.string ((rd_T47 l0_1 x11_1).f0),.int .i64 ((rd_T47 l0_1 x11_1).f1),.int .i64 ((rd_T47 l0_1 x11_1).f2)] 47 (0,0)))∧Aside0 (Below w.heap.size w wc))
    case first=>
     have H:=dA.1;clear dA;obtain ⟨dt,A11,H⟩:=bnd H;(try dsimp only at H);by_cases c12:dt=true
     ·subst c12
      rw [if_pos rfl] at H;obtain ⟨du,d8,H⟩:=bnd H;(try dsimp only at H);by_cases c14:du=true
      ·subst c14
       rw [if_pos rfl] at H;obtain ⟨da,A15,H⟩:=bnd H;(try dsimp only at H);have H':=Am H;clear H;have hnb16:=b5.1;have hnc16:=aR.1;obtain ⟨hcz17_0,hcz17_1,hcz17_2,hfz17_0,hfz17_1,hfz17_2⟩:=blk3 O.1
       go_wp2_with (first|(go_at_call 55;(with_reducible refine (impl_nameOk.calls ((rd_T47 l0_1 x11_1).f0) true _ A11.1).mono ?_);rintro e w18 ⟨rfl,hb⟩;have n_:=as3 (blk_below (blkp (blk_far (blk_far2 aR.1 D.1) aR.1 _)) hb) (blk_below (blkp (blk_put (cs:=#[.string ((rd_T47 l0_1 x11_1).f0),.int .i64 ((rd_T47 l0_1 x11_1).f1),.int .i64 0]) (blk_put (cs:=#[.string ((rd_T47 l0_1 x11_1).f0),.int .i64 0,.int .i64 0]) (blk_put (cs:=#[.string (⟨#[]⟩:BA),.int .i64 0,.int .i64 0]) O.1 0 _ rfl) 1 _ rfl) 2 _ rfl)) hb) (below_step QW hb);clear D O HB;obtain ⟨D,O,HB⟩:=n_;clear hb;obtain ⟨hcz19_0,hcz19_1,hcz19_2,hfz19_0,hfz19_1,hfz19_2⟩:=blk3 O.1)|(go_at_call 56;(with_reducible refine (impl_in.calls ((rd_T47 l0_1 x11_1).f1) 0 3 true _ d8.1).mono ?_);rintro e w' ⟨rfl,⟨nd,rfl⟩⟩)|(go_at_call 56;(with_reducible refine (impl_in.calls ((rd_T47 l0_1 x11_1).f2) 1 2 da _ A15.1).mono ?_);rintro e w' ⟨rfl,⟨nd,rfl⟩⟩))
       go_meet
       case rel=>exact ⟨_,(!da),Qf,H',⟨QE⟩,⟨blkp D.1⟩,⟨blkp O.1⟩,⟨QW⟩⟩
      ·replace c14:=Bool.eq_false_iff.mpr c14
       subst c14;rw [if_neg nft] at H;have H':=Am H;clear H;have fw:=b5.1;have fx:=aR.1;obtain ⟨hcz21_0,hcz21_1,hcz21_2,hfz21_0,hfz21_1,hfz21_2⟩:=blk3 O.1
       go_wp2_with (first|(go_at_call 55;(with_reducible refine (impl_nameOk.calls ((rd_T47 l0_1 x11_1).f0) true _ A11.1).mono ?_);rintro e w22 ⟨rfl,hb⟩;have n_:=as3 (blk_below (blkp (blk_far (blk_far2 aR.1 D.1) aR.1 _)) hb) (blk_below (blkp (blk_put (cs:=#[.string ((rd_T47 l0_1 x11_1).f0),.int .i64 ((rd_T47 l0_1 x11_1).f1),.int .i64 0]) (blk_put (cs:=#[.string ((rd_T47 l0_1 x11_1).f0),.int .i64 0,.int .i64 0]) (blk_put (cs:=#[.string (⟨#[]⟩:BA),.int .i64 0,.int .i64 0]) O.1 0 _ rfl) 1 _ rfl) 2 _ rfl)) hb) (below_step QW hb);clear D O HB;obtain ⟨D,O,HB⟩:=n_;clear hb;obtain ⟨hcz23_0,hcz23_1,hcz23_2,hfz23_0,hfz23_1,hfz23_2⟩:=blk3 O.1)|(go_at_call 56;(with_reducible refine (impl_in.calls ((rd_T47 l0_1 x11_1).f1) 0 3 false _ d8.1).mono ?_);rintro e w' ⟨rfl,⟨nd,rfl⟩⟩))
       go_meet
       case rel=>exact ⟨_,(true),Qf,H',⟨QE⟩,⟨blkp D.1⟩,⟨blkp O.1⟩,⟨QW⟩⟩
     ·replace c12:=Bool.eq_false_iff.mpr c12
      subst c12;rw [if_neg nft] at H;have H':=Am H;clear H;have fy:=b5.1;have fz:=aR.1;obtain ⟨hcz25_0,hcz25_1,hcz25_2,hfz25_0,hfz25_1,hfz25_2⟩:=blk3 O.1
      go_wp2_with (first|(go_at_call 55;(with_reducible refine (impl_nameOk.calls ((rd_T47 l0_1 x11_1).f0) false _ A11.1).mono ?_);rintro e w26 ⟨rfl,hb⟩;have n_:=as3 (blk_below (blkp (blk_far (blk_far2 aR.1 D.1) aR.1 _)) hb) (blk_below (blkp (blk_put (cs:=#[.string ((rd_T47 l0_1 x11_1).f0),.int .i64 ((rd_T47 l0_1 x11_1).f1),.int .i64 0]) (blk_put (cs:=#[.string ((rd_T47 l0_1 x11_1).f0),.int .i64 0,.int .i64 0]) (blk_put (cs:=#[.string (⟨#[]⟩:BA),.int .i64 0,.int .i64 0]) O.1 0 _ rfl) 1 _ rfl) 2 _ rfl)) hb) (below_step QW hb);clear D O HB;obtain ⟨D,O,HB⟩:=n_;clear hb))
      go_meet
      case rel=>exact ⟨_,(true),Qf,H',⟨QE⟩,⟨blkp D.1⟩,⟨blkp O.1⟩,⟨QW⟩⟩
    case rest=>
     clear dA;(try clear c4);(try clear c4b0);(try clear c5);(try clear c5b0);(try clear c6);(try clear c6b0);(try clear hcz10_0);(try clear hcz10_1);(try clear hcz10_2);(try clear dw);(try clear dx);(try clear hfz10_0);(try clear hfz10_1);(try clear hfz10_2);(try clear dy);(try clear dz);(try clear db);(try clear dc);(try clear dd);(try clear cC);(try clear cD);obtain ⟨kq,de,rfl,HA,cg,D,O,HB⟩:=hcut;cases kq with
     | zero=>exact absurd HA.1 (by simp [impl_PrgOk.j1])
     | succ d9=>
      have H:=HA.1;clear HA;simp only [impl_PrgOk.j1] at H;by_cases c27:de=true
      ·subst c27
       rw [if_pos rfl] at H;obtain rfl:=oi H;go_wp2;go_ret;exact ⟨Qg,QW⟩
      ·replace c27:=Bool.eq_false_iff.mpr c27
       subst c27;rw [if_neg nft] at H;obtain ⟨c28,H⟩:=ifS H;have c28b0:=eq_true c28;have c28b1:=decide_eq_true c28;clear c28;obtain ⟨c29,H⟩:=ifS H;have c29b0:=eq_true c29;have c29b1:=decide_eq_true c29;clear c29;obtain ⟨aS,dB⟩:∃ y_:List (S47),y_=(l0_1.take (x11_1:Int).toNat):=⟨_,rfl⟩;(first|rw [← dB] at H|skip);try dsimp only [Option.bind_some] at H
       have eb:=Am dB;clear dB;have H':=Am H;clear H;have hnb30:=aR.1;have hnc30:=b5.1;obtain ⟨hcz31_0,hcz31_1,hfz31_0,hfz31_1⟩:=blk2 D.1;have q32:(x11_1:Int)≤((l0_1.length:Int):Int):=of_decide_eq_true Qc;obtain ⟨fA,ec,_,eQ,_⟩:=info_parts info47;have ed:l0_1.length≤c0_1:=HC0_1.1;have ee:Kd.C k47 _ (some cf) l0_1.length l0_1:=HR0_1.1;have eR:=cut_to (P:=Tryd.prog) 35 47 .i64 Tryd.underlying35 ec (some cf) l0_1.length c0_1 x11_1 (of_decide_eq_true Qc) q32 ed;have dC:=C_take (m:=(x11_1:Int).toNat) ee Qe;have hy32:aS.length=(x11_1:Int).toNat:=(by rw [eb.1,List.length_take];omega);rw [← eb.1] at dC;rw [← hy32] at eR;have ef:=Am dC;have fB:=Am (show aS.length≤c0_1 from Qe);clear dC ee ed ec eQ;have fC:=Am hy32;clear hy32;replace q32:=eq_true q32;go_wp2
       go_loopg [37] d9 (fun kq v37 w'=>∃ (aP:Int),v37 = .int .i64 aP∧Aside0 (impl_PrgOk.l1 kq l0_1 (l0_1.length:Int) x11_1 aS (aS.length:Int) aP l0_0 l0_1 ((rd_T47 l0_1 x11_1).f0) ((rd_T47 l0_1 x11_1).f1) ((rd_T47 l0_1 x11_1).f2)=some r)∧Aside0 (kq≤d9)∧Aside0 (w'.heap[b2]?=some (.cells #[(.slice A0_0 l0_0.length c0_0),(.slice (some cf) l0_1.length c0_1)] 37 (0,0)))∧Aside0 (w'.heap[b3]?=some (.cells #[.string ((rd_T47 l0_1 x11_1).f0),.int .i64 ((rd_T47 l0_1 x11_1).f1),.int .i64 ((rd_T47 l0_1 x11_1).f2)] 47 (0,0)))∧Aside0 (Below w.heap.size w w'))
       case atStart=>exact ⟨(0),Qf,H',⟨Nat.le_refl _⟩,⟨blkp D.1⟩,⟨blkp O.1⟩,⟨QW⟩⟩
       case round=>
        clear H';(try clear c4);(try clear c4b0);(try clear c5);(try clear c5b0);(try clear c6);(try clear c6b0);(try clear c27);(try clear c28);(try clear c28b0);(try clear c28b1);(try clear c29);(try clear c29b0);(try clear c29b1);(try clear q32);(try clear hcz10_0);(try clear hcz10_1);(try clear hcz10_2);(try clear hcz31_0);(try clear hcz31_1);(try clear dw);(try clear dx);(try clear hfz10_0);(try clear hfz10_1);(try clear hfz10_2);(try clear hfz31_0);(try clear hfz31_1);(try clear dy);(try clear dz);(try clear db);(try clear dc);(try clear dd);(try clear cC);(try clear q32);(try clear cD);obtain ⟨aP,rfl,HA,HK3,D,O,HB⟩:=hrel;cases gk with
        | zero=>exact absurd HA.1 (by simp [impl_PrgOk.l1])
        | succ k3=>
         have H:=HA.1;clear HA;simp only [impl_PrgOk.l1] at H;by_cases c33:aP<(aS.length:Int)
         ·rw [if_pos c33] at H
          have c33b0:=decide_eq_true c33;clear c33;obtain ⟨c34,H⟩:=ifS H;have c34b0:=decide_eq_true c34;clear c34;obtain ⟨c35,H⟩:=ifS H;have c35b0:=decide_eq_true c35;clear c35;by_cases cE:((rd_T47 l0_1 x11_1).f0).toList=((rd_T47 aS aP).f0).toList
          ·rw [if_pos cE] at H
           obtain ⟨eS,eT⟩:=bqP cE;clear cE;have eh:=Am H;clear H;have b6:0≤(aP:Int):=of_decide_eq_true Qc;have b7:aP<(aS.length:Int):=of_decide_eq_true Qc;obtain ⟨dD,dE,cF,cG,cH⟩:=at_T47 ef.1 aP b6 b7;obtain rfl:cf=dD:=(by injection dE);replace cF:=cB cF HB.1;replace cG:=cB cG HB.1;replace cH:=cB cH HB.1;obtain ⟨b6,b7⟩:=et2 b6 b7;go_upto_if 52 with (first|((with_reducible refine gate_dst (N:=6) rfl ?_);(try (refine gate_guard (by rfl) ?_;dsimp only));refine box_event ?hg (N:=6) ?hd (cs:=#[.string (⟨#[]⟩:BA),.int .i64 0,.int .i64 0]) (t:=47) ?hr ?_;(case hd=>rfl);(case hg=>rfl);(case hr=>first|(go_simp;done)|(go_simp;rfl));intro bt hg w38 hbox hb;have n_:=as9 (blk_below (blkp D.1) hb) (blk_below (blkp O.1) hb) (below_step QW hb) (hbox) ((by rw [hg];exact (below_size QW):w.heap.size≤bt)) ((by rw [hg];exact Nat.ne_of_lt (blk_lt (blkp D.1)):b2≠bt)) ((by rw [hg];exact Nat.ne_of_gt (blk_lt (blkp D.1)):bt≠b2)) ((by rw [hg];exact Nat.ne_of_lt (blk_lt (blkp O.1)):b3≠bt)) ((by rw [hg];exact Nat.ne_of_gt (blk_lt (blkp O.1)):bt≠b3));clear D O HB;obtain ⟨D,O,HB,dF,bw,b8,dG,b9,dH⟩:=n_;clear hb hbox hg;have hnb39:=dG.1;have hnc39:=b8.1;have fD:=dH.1;have fE:=b9.1;obtain ⟨hcz41_0,hcz41_1,hcz41_2,hfz41_0,hfz41_1,hfz41_2⟩:=blk3 dF.1;have fF:=b5.1;have fG:=aR.1;obtain ⟨hcz43_0,hcz43_1,hcz43_2,hfz43_0,hfz43_1,hfz43_2⟩:=blk3 O.1))
           (try simp only [Act.put,sA_,sZ_,sS_]);have H:=eh.1;clear eh;by_cases c44:((rd_T47 l0_1 x11_1).f1)=((rd_T47 aS aP).f1)
           ·rw [if_pos c44] at H
            obtain ⟨c44b0,c44b1⟩:=bqP c44;clear c44;(first|rw [c44b0]|rw [c44b1]|(simp only [i64_w,i32_w];rw [c44b0])|skip);obtain rfl:=oi H;go_wp2;go_ret;exact ⟨Qg,Yq⟩
           ·rw [if_neg c44] at H
            obtain ⟨c44b0,c44b1⟩:=bqN c44;(first|rw [c44b0]|rw [c44b1]|(simp only [i64_w,i32_w];rw [c44b0])|skip);have H':=Am H;clear H;go_wp2;go_roundg k3
            case measure=>have:=HK1.1;have:=cg.1;have:=HK3.1;omega
            case rel=>exact ⟨(wrap64 (aP+1)),Qf,H',⟨by have:=HK1.1;have:=cg.1;have:=HK3.1;omega⟩,⟨blkp (blk_far (blk_far2 b8.1 D.1) b8.1 _)⟩,⟨blkp (blk_far (blk_far2 b9.1 O.1) b9.1 _)⟩,⟨Yq⟩⟩
          ·rw [if_neg cE] at H
           obtain ⟨eS,eT⟩:=bqN cE;have H':=Am H;clear H;have b6:0≤(aP:Int):=of_decide_eq_true Qc;have b7:aP<(aS.length:Int):=of_decide_eq_true Qc;obtain ⟨dD,dE,cF,cG,cH⟩:=at_T47 ef.1 aP b6 b7;obtain rfl:cf=dD:=(by injection dE);replace cF:=cB cF HB.1;replace cG:=cB cG HB.1;replace cH:=cB cH HB.1;obtain ⟨b6,b7⟩:=et2 b6 b7
           go_wp2_with (first|((with_reducible refine gate_dst (N:=6) rfl ?_);(try (refine gate_guard (by rfl) ?_;dsimp only));refine box_event ?hg (N:=6) ?hd (cs:=#[.string (⟨#[]⟩:BA),.int .i64 0,.int .i64 0]) (t:=47) ?hr ?_;(case hd=>rfl);(case hg=>rfl);(case hr=>first|(go_simp;done)|(go_simp;rfl));intro bt hg w45 hbox hb;have n_:=as9 (blk_below (blkp D.1) hb) (blk_below (blkp O.1) hb) (below_step QW hb) (hbox) ((by rw [hg];exact (below_size QW):w.heap.size≤bt)) ((by rw [hg];exact Nat.ne_of_lt (blk_lt (blkp D.1)):b2≠bt)) ((by rw [hg];exact Nat.ne_of_gt (blk_lt (blkp D.1)):bt≠b2)) ((by rw [hg];exact Nat.ne_of_lt (blk_lt (blkp O.1)):b3≠bt)) ((by rw [hg];exact Nat.ne_of_gt (blk_lt (blkp O.1)):bt≠b3));clear D O HB;obtain ⟨D,O,HB,dF,bw,b8,dG,b9,dH⟩:=n_;clear hb hbox hg;have fH:=dG.1;have fI:=b8.1;have fJ:=dH.1;have fK:=b9.1;obtain ⟨fL,fM,fN,fO,fP,fQ⟩:=blk3 dF.1;have fR:=b5.1;have fS:=aR.1;obtain ⟨hcz50_0,hcz50_1,hcz50_2,hfz50_0,hfz50_1,hfz50_2⟩:=blk3 O.1))
           go_roundg k3
           case measure=>have:=HK1.1;have:=cg.1;have:=HK3.1;omega
           case rel=>exact ⟨(wrap64 (aP+1)),Qf,H',⟨by have:=HK1.1;have:=cg.1;have:=HK3.1;omega⟩,⟨blkp (blk_far (blk_far2 b8.1 D.1) b8.1 _)⟩,⟨blkp (blk_far (blk_far2 b9.1 O.1) b9.1 _)⟩,⟨Yq⟩⟩
         ·rw [if_neg c33] at H
          have c33b0:=decide_eq_false c33;clear c33;have H':=Am H;clear H;go_wp2;go_roundg k3
          case measure=>have:=HK1.1;have:=cg.1;have:=HK3.1;omega
          case rel=>exact ⟨(wrap64 (x11_1+1)),Qf,H',⟨by have:=HK1.1;have:=cg.1;have:=HK3.1;omega⟩,⟨blkp D.1⟩,⟨QW⟩⟩
   ·rw [if_neg c4] at H
    have c4b0:=decide_eq_false c4;clear c4;by_cases c51:(l0_0.length:Int)≤12
    ·rw [if_pos c51] at H
     have c51b0:=decide_eq_true c51;have c51b1:decide (l0_0.length≤12)=true:=decide_eq_true Qe;clear c51;by_cases c52:(l0_1.length:Int)≤6
     ·rw [if_pos c52] at H
      have c52b0:=decide_eq_true c52;have c52b1:decide (l0_1.length≤6)=true:=decide_eq_true Qe;clear c52;obtain ⟨dv,eU,H⟩:=bnd H;(try dsimp only at H);obtain rfl:=oi H;obtain ⟨hcz54_0,hcz54_1,hfz54_0,hfz54_1⟩:=blk2 D.1
      go_wp2_with (first|(go_at_call 59;(with_reducible refine (slices_ContainsFunc_PrgClause.calls k1 _ _ l0_0 dv _ ?side1 ?side2 eU.1).mono ?_);(case side1=>exact Qz);(case side2=>exact HC0_0.1);rintro e w55 ⟨rfl,hb⟩;have n_:=as2 (blk_below (blkp D.1) hb) (below_step Zw hb);clear D HB;obtain ⟨D,HB⟩:=n_;clear hb))
      go_ret;exact ⟨Qg,Zw⟩
     ·rw [if_neg c52] at H
      have c52b0:=decide_eq_false c52;have c52b1:decide (l0_1.length≤6)=false:=decide_eq_false Qe;clear c52;obtain rfl:=oi H;obtain ⟨hcz56_0,hcz56_1,hfz56_0,hfz56_1⟩:=blk2 D.1;go_wp2;go_ret;exact ⟨Qg,Zw⟩
    ·rw [if_neg c51] at H
     have c51b0:=decide_eq_false c51;have c51b1:decide (l0_0.length≤12)=false:=decide_eq_false Qe;clear c51;obtain rfl:=oi H;obtain ⟨hcz57_0,hcz57_1,hfz57_0,hfz57_1⟩:=blk2 D.1;go_wp2;go_ret;exact ⟨Qg,Zw⟩
def impl_PrgProg_node.l0:Nat→List (S44)→List (S47)→Int→Int→Option (Int)
 | 0,_,_,_,_=>none
 | k+1,x1,x8,x9,x10=>if x10<x9 then (if 0≤x10 then (if x10<(x8.length:Int) then (if 0<(x1.length:Int) then (if ((rd_T47 x8 x10).f0).toList=((rd_T44 x1 0).f2).toList then (if ((rd_T47 x8 x10).f1)=((rd_T44 x1 0).f1) then (some ((rd_T47 x8 x10).f2)) else (impl_PrgProg_node.l0 k x1 x8 x9 (wrap64 (x10+1)))) else (impl_PrgProg_node.l0 k x1 x8 x9 (wrap64 (x10+1)))) else (none)) else (none)) else (none)) else (some 0)
def impl_PrgProg_node.f (k:Nat) (l0_0:List (S69)) (l0_1:List (S47)) (l1:List (S44)):Option (Int):=impl_PrgProg_node.l0 k l1 l0_1 (l0_1.length:Int) 0
theorem impl_PrgProg_node.calls (k:Nat) (A0_0:Option Addr) (c0_0:Nat) (l0_0:List (S69)) (A0_1:Option Addr) (c0_1:Nat) (l0_1:List (S47)) (A1:Option Addr) (c1:Nat) (l1:List (S44)) (r:Int) (w:World) (hr0_0:Kd.C k69 w A0_0 l0_0.length l0_0) (hc0_0:l0_0.length≤c0_0) (hr0_1:Kd.C k47 w A0_1 l0_1.length l0_1) (hc0_1:l0_1.length≤c0_1) (hr1:Kd.C k44 w A1 l1.length l1) (hc1:l1.length≤c1) (h:impl_PrgProg_node.f k l0_0 l0_1 l1=some r) :
  Calls Tryd.prog 32 #[.agg #[.slice A0_0 l0_0.length c0_0,.slice A0_1 l0_1.length c0_1],.slice A1 l1.length c1] w fun e w'=>e = .returned (.int .i64 r)∧Below w.heap.size w w':=by
 have hu37:=Tryd.underlying37;have hu47:=Tryd.underlying47;have HR0_0:=Am hr0_0;have HC0_0:=Am hc0_0;clear hr0_0 hc0_0;have HR0_1:=Am hr0_1;have HC0_1:=Am hc0_1;clear hr0_1 hc0_1;have HR1:=Am hr1;have HC1:=Am hc1;clear hr1 hc1;have HB:=Am (Below.refl w.heap.size w);have H:(impl_PrgProg_node.l0 k l1 l0_1 (l0_1.length:Int) 0)=some r:=h;clear h;have H':=Am H;clear H;go_enter Tryd.func32,Tryd.ntmps32
 go_wp2_with (first|((with_reducible refine gate_dst (N:=2) rfl ?_);refine box_event ?hg (N:=2) ?hd (cs:=#[.slice A0_0 l0_0.length c0_0,.slice A0_1 l0_1.length c0_1]) (t:=37) ?hr ?_;(case hd=>rfl);(case hg=>rfl);(case hr=>first|(go_simp;done)|(go_simp;rfl));intro aF hg w3 hbox hb;have n_:=as3 (below_step Qd hb) (hbox) ((by rw [hg];exact (below_size Qd):w.heap.size≤aF));clear HB;obtain ⟨HB,E,a8⟩:=n_;clear hb hbox hg;obtain ⟨hcz4_0,hcz4_1,hfz4_0,hfz4_1⟩:=blk2 E.1))
 repeat (go_quiet (first|((with_reducible refine gate_dst (N:=2) rfl ?_);refine box_event ?hg (N:=2) ?hd (cs:=#[.slice A0_0 l0_0.length c0_0,.slice A0_1 l0_1.length c0_1]) (t:=37) ?hr ?_;(case hd=>rfl);(case hg=>rfl);(case hr=>first|(go_simp;done)|(go_simp;rfl));intro aF hg w3 hbox hb;have n_:=as3 (below_step Qd hb) (hbox) ((by rw [hg];exact (below_size Qd):w.heap.size≤aF));clear HB;obtain ⟨HB,E,a8⟩:=n_;clear hb hbox hg;obtain ⟨hcz4_0,hcz4_1,hfz4_0,hfz4_1⟩:=blk2 E.1));try go_wp2_with (first|((with_reducible refine gate_dst (N:=2) rfl ?_);refine box_event ?hg (N:=2) ?hd (cs:=#[.slice A0_0 l0_0.length c0_0,.slice A0_1 l0_1.length c0_1]) (t:=37) ?hr ?_;(case hd=>rfl);(case hg=>rfl);(case hr=>first|(go_simp;done)|(go_simp;rfl));intro aF hg w3 hbox hb;have n_:=as3 (below_step Qd hb) (hbox) ((by rw [hg];exact (below_size Qd):w.heap.size≤aF));clear HB;obtain ⟨HB,E,a8⟩:=n_;clear hb hbox hg;obtain ⟨hcz4_0,hcz4_1,hfz4_0,hfz4_1⟩:=blk2 E.1)))
 go_loopg [10] k (fun kq v10 w'=>∃ (x10_1:Int),v10 = .int .i64 x10_1∧Aside0 (impl_PrgProg_node.l0 kq l1 l0_1 (l0_1.length:Int) x10_1=some r)∧Aside0 (kq≤k)∧Aside0 (w'.heap[aF]?=some (.cells #[(.slice A0_0 l0_0.length c0_0),(.slice A0_1 l0_1.length c0_1)] 37 (0,0)))∧Aside0 (Below w.heap.size w w'))
 case atStart=>exact ⟨(0),Qf,H',⟨Nat.le_refl _⟩,⟨blkp E.1⟩,⟨QG⟩⟩
 case round=>
  clear H';(try clear c1);(try clear hcz4_0);(try clear hcz4_1);(try clear hfz4_0);(try clear hfz4_1);obtain ⟨x10_1,rfl,HA,HK1,E,HB⟩:=hrel;cases gk with
  | zero=>exact absurd HA.1 (by simp [impl_PrgProg_node.l0])
  | succ k1=>
   have H:=HA.1;clear HA;simp only [impl_PrgProg_node.l0] at H;by_cases c5:x10_1<(l0_1.length:Int)
   ·rw [if_pos c5] at H
    have c5b0:=decide_eq_true c5;clear c5;obtain ⟨c6,H⟩:=ifS H;have c6b0:=decide_eq_true c6;clear c6;obtain ⟨c7,H⟩:=ifS H;have c7b0:=decide_eq_true c7;clear c7;obtain ⟨c8,H⟩:=ifS H;have c8b0:=decide_eq_true c8;have c8b1:decide (0<l1.length)=true:=decide_eq_true Qe;clear c8;by_cases c9:((rd_T47 l0_1 x10_1).f0).toList=((rd_T44 l1 0).f2).toList
    ·rw [if_pos c9] at H
     obtain ⟨c9b0,c9b1⟩:=bqP c9;clear c9;have ei:=Am H;clear H;have ca:0≤(x10_1:Int):=of_decide_eq_true Qc;have cb:x10_1<(l0_1.length:Int):=of_decide_eq_true Qc;obtain ⟨eV,dI,cI,cJ,cK⟩:=at_T47 HR0_1.1 x10_1 ca cb;cases dI
     replace cI:=cB cI HB.1;replace cJ:=cB cJ HB.1;replace cK:=cB cK HB.1;obtain ⟨ca,cb⟩:=et2 ca cb
     go_upto_if 29 with (first|((with_reducible refine gate_dst (N:=6) rfl ?_);refine box_event ?hg (N:=6) ?hd (cs:=#[.string (⟨#[]⟩:BA),.int .i64 0,.int .i64 0]) (t:=47) ?hr ?_;(case hd=>rfl);(case hg=>rfl);(case hr=>first|(go_simp;done)|(go_simp;rfl));intro j hg w11 hbox hb;have n_:=as7 (blk_below (blkp E.1) hb) (below_step QG hb) (hbox) ((by rw [hg];exact (below_size QG):w.heap.size≤j)) ((by rw [hg];exact (below_size QG):w.heap.size≤j)) ((by rw [hg];exact Nat.ne_of_lt (blk_lt (blkp E.1)):aF≠j)) ((by rw [hg];exact Nat.ne_of_gt (blk_lt (blkp E.1)):j≠aF));clear E HB;obtain ⟨E,HB,a0,X,a5,aL,a2⟩:=n_;clear hb hbox hg;have hnb12:=a2.1;have hnc12:=aL.1;obtain ⟨hcz13_0,hcz13_1,hcz13_2,hfz13_0,hfz13_1,hfz13_2⟩:=blk3 a0.1;have Y:0≤(0:Int):=Qe;have Z:0<(l1.length:Int):=of_decide_eq_true Qc;obtain ⟨U,bY,o,q,u⟩:=at_T44 HR1.1 0 Y Z;cases bY;have cL:(0<l1.length)=True:=eq_true Qe;(try rw [tn0] at o);(try rw [show 0 * 3=0 from rfl] at o);(try rw [Addr.add_zero'] at o);(try rw [tn0] at q);(try rw [show 0 * 3=0 from rfl] at q);(try rw [Addr.add_zero'] at q);(try rw [tn0] at u);(try rw [show 0 * 3=0 from rfl] at u);(try rw [Addr.add_zero'] at u);have aD:U.block≠j:=Nat.ne_of_lt (Nat.lt_of_lt_of_le (by have:=World.block_lt_of_cell? _ _ o;first|rwa [add_block] at this|exact this) X.1);have aG:U.block≠j:=Nat.ne_of_lt (Nat.lt_of_lt_of_le (by have:=World.block_lt_of_cell? _ _ o;first|rwa [add_block] at this|exact this) X.1);have aC:U.block≠j:=Nat.ne_of_lt (Nat.lt_of_lt_of_le (by have:=World.block_lt_of_cell? _ _ o;first|rwa [add_block] at this|exact this) X.1);replace o:=cB o HB.1;replace q:=cB q HB.1;replace u:=cB u HB.1;replace o:=(cell_far (p:=⟨j,0,none⟩) QJ (.string ((rd_T47 l0_1 x10_1).f0))).trans o;replace q:=(cell_far (p:=⟨j,0,none⟩) QJ (.string ((rd_T47 l0_1 x10_1).f0))).trans q;replace u:=(cell_far (p:=⟨j,0,none⟩) QJ (.string ((rd_T47 l0_1 x10_1).f0))).trans u;replace o:=(cell_far (p:=⟨j,1,none⟩) QK (.int .i64 ((rd_T47 l0_1 x10_1).f1))).trans o;replace q:=(cell_far (p:=⟨j,1,none⟩) QK (.int .i64 ((rd_T47 l0_1 x10_1).f1))).trans q;replace u:=(cell_far (p:=⟨j,1,none⟩) QK (.int .i64 ((rd_T47 l0_1 x10_1).f1))).trans u;replace o:=(cell_far (p:=⟨j,2,none⟩) QL (.int .i64 ((rd_T47 l0_1 x10_1).f2))).trans o;replace q:=(cell_far (p:=⟨j,2,none⟩) QL (.int .i64 ((rd_T47 l0_1 x10_1).f2))).trans q;replace u:=(cell_far (p:=⟨j,2,none⟩) QL (.int .i64 ((rd_T47 l0_1 x10_1).f2))).trans u;(try have cM:=fun (n_:Nat)=>(show (((((w11.drewN n_).setCell ⟨j,0,none⟩ (.string ((rd_T47 l0_1 x10_1).f0))).setCell ⟨j,1,none⟩ (.int .i64 ((rd_T47 l0_1 x10_1).f1))).setCell ⟨j,2,none⟩ (.int .i64 ((rd_T47 l0_1 x10_1).f2)))).cell? _=some _ from o));(try have cN:=fun (n_:Nat)=>(show (((((w11.drewN n_).setCell ⟨j,0,none⟩ (.string ((rd_T47 l0_1 x10_1).f0))).setCell ⟨j,1,none⟩ (.int .i64 ((rd_T47 l0_1 x10_1).f1))).setCell ⟨j,2,none⟩ (.int .i64 ((rd_T47 l0_1 x10_1).f2)))).cell? _=some _ from q));(try have cO:=fun (n_:Nat)=>(show (((((w11.drewN n_).setCell ⟨j,0,none⟩ (.string ((rd_T47 l0_1 x10_1).f0))).setCell ⟨j,1,none⟩ (.int .i64 ((rd_T47 l0_1 x10_1).f1))).setCell ⟨j,2,none⟩ (.int .i64 ((rd_T47 l0_1 x10_1).f2)))).cell? _=some _ from u));clear aD aG aC;replace Y:=eq_true Y;replace Z:=eq_true Z;have bZ:0≤(0:Int):=Qe;have b0:0<(l1.length:Int):=of_decide_eq_true Qc;obtain ⟨cP,cQ,z,G,J⟩:=at_T44 HR1.1 0 bZ b0;obtain rfl:U=cP:=(by injection cQ);have ej:(0<l1.length)=True:=eq_true Qe;(try rw [tn0] at z);(try rw [show 0 * 3=0 from rfl] at z);(try rw [Addr.add_zero'] at z);(try rw [tn0] at G);(try rw [show 0 * 3=0 from rfl] at G);(try rw [Addr.add_zero'] at G);(try rw [tn0] at J);(try rw [show 0 * 3=0 from rfl] at J);(try rw [Addr.add_zero'] at J);have aT:U.block≠j:=Nat.ne_of_lt (Nat.lt_of_lt_of_le (by have:=World.block_lt_of_cell? _ _ z;first|rwa [add_block] at this|exact this) X.1);have aQ:U.block≠j:=Nat.ne_of_lt (Nat.lt_of_lt_of_le (by have:=World.block_lt_of_cell? _ _ z;first|rwa [add_block] at this|exact this) X.1);have aU:U.block≠j:=Nat.ne_of_lt (Nat.lt_of_lt_of_le (by have:=World.block_lt_of_cell? _ _ z;first|rwa [add_block] at this|exact this) X.1);replace z:=cB z HB.1;replace G:=cB G HB.1;replace J:=cB J HB.1;replace z:=(cell_far (p:=⟨j,0,none⟩) Zd (.string ((rd_T47 l0_1 x10_1).f0))).trans z;replace G:=(cell_far (p:=⟨j,0,none⟩) Zd (.string ((rd_T47 l0_1 x10_1).f0))).trans G;replace J:=(cell_far (p:=⟨j,0,none⟩) Zd (.string ((rd_T47 l0_1 x10_1).f0))).trans J;replace z:=(cell_far (p:=⟨j,1,none⟩) Ze (.int .i64 ((rd_T47 l0_1 x10_1).f1))).trans z;replace G:=(cell_far (p:=⟨j,1,none⟩) Ze (.int .i64 ((rd_T47 l0_1 x10_1).f1))).trans G;replace J:=(cell_far (p:=⟨j,1,none⟩) Ze (.int .i64 ((rd_T47 l0_1 x10_1).f1))).trans J;replace z:=(cell_far (p:=⟨j,2,none⟩) Zf (.int .i64 ((rd_T47 l0_1 x10_1).f2))).trans z;replace G:=(cell_far (p:=⟨j,2,none⟩) Zf (.int .i64 ((rd_T47 l0_1 x10_1).f2))).trans G;replace J:=(cell_far (p:=⟨j,2,none⟩) Zf (.int .i64 ((rd_T47 l0_1 x10_1).f2))).trans J;(try have ek:=fun (n_:Nat)=>(show (((((w11.drewN n_).setCell ⟨j,0,none⟩ (.string ((rd_T47 l0_1 x10_1).f0))).setCell ⟨j,1,none⟩ (.int .i64 ((rd_T47 l0_1 x10_1).f1))).setCell ⟨j,2,none⟩ (.int .i64 ((rd_T47 l0_1 x10_1).f2)))).cell? _=some _ from z));(try have el:=fun (n_:Nat)=>(show (((((w11.drewN n_).setCell ⟨j,0,none⟩ (.string ((rd_T47 l0_1 x10_1).f0))).setCell ⟨j,1,none⟩ (.int .i64 ((rd_T47 l0_1 x10_1).f1))).setCell ⟨j,2,none⟩ (.int .i64 ((rd_T47 l0_1 x10_1).f2)))).cell? _=some _ from G));(try have em:=fun (n_:Nat)=>(show (((((w11.drewN n_).setCell ⟨j,0,none⟩ (.string ((rd_T47 l0_1 x10_1).f0))).setCell ⟨j,1,none⟩ (.int .i64 ((rd_T47 l0_1 x10_1).f1))).setCell ⟨j,2,none⟩ (.int .i64 ((rd_T47 l0_1 x10_1).f2)))).cell? _=some _ from J));clear aT aQ aU;replace bZ:=eq_true bZ;replace b0:=eq_true b0))
     repeat (go_quiet (first|((with_reducible refine gate_dst (N:=6) rfl ?_);refine box_event ?hg (N:=6) ?hd (cs:=#[.string (⟨#[]⟩:BA),.int .i64 0,.int .i64 0]) (t:=47) ?hr ?_;(case hd=>rfl);(case hg=>rfl);(case hr=>first|(go_simp;done)|(go_simp;rfl));intro j hg w11 hbox hb;have n_:=as7 (blk_below (blkp E.1) hb) (below_step QG hb) (hbox) ((by rw [hg];exact (below_size QG):w.heap.size≤j)) ((by rw [hg];exact (below_size QG):w.heap.size≤j)) ((by rw [hg];exact Nat.ne_of_lt (blk_lt (blkp E.1)):aF≠j)) ((by rw [hg];exact Nat.ne_of_gt (blk_lt (blkp E.1)):j≠aF));clear E HB;obtain ⟨E,HB,a0,X,a5,aL,a2⟩:=n_;clear hb hbox hg;have hnb12:=a2.1;have hnc12:=aL.1;obtain ⟨hcz13_0,hcz13_1,hcz13_2,hfz13_0,hfz13_1,hfz13_2⟩:=blk3 a0.1;have Y:0≤(0:Int):=Qe;have Z:0<(l1.length:Int):=of_decide_eq_true Qc;obtain ⟨U,bY,o,q,u⟩:=at_T44 HR1.1 0 Y Z;cases bY;have cL:(0<l1.length)=True:=eq_true Qe;(try rw [tn0] at o);(try rw [show 0 * 3=0 from rfl] at o);(try rw [Addr.add_zero'] at o);(try rw [tn0] at q);(try rw [show 0 * 3=0 from rfl] at q);(try rw [Addr.add_zero'] at q);(try rw [tn0] at u);(try rw [show 0 * 3=0 from rfl] at u);(try rw [Addr.add_zero'] at u);have aD:U.block≠j:=Nat.ne_of_lt (Nat.lt_of_lt_of_le (by have:=World.block_lt_of_cell? _ _ o;first|rwa [add_block] at this|exact this) X.1);have aG:U.block≠j:=Nat.ne_of_lt (Nat.lt_of_lt_of_le (by have:=World.block_lt_of_cell? _ _ o;first|rwa [add_block] at this|exact this) X.1);have aC:U.block≠j:=Nat.ne_of_lt (Nat.lt_of_lt_of_le (by have:=World.block_lt_of_cell? _ _ o;first|rwa [add_block] at this|exact this) X.1);replace o:=cB o HB.1;replace q:=cB q HB.1;replace u:=cB u HB.1;replace o:=(cell_far (p:=⟨j,0,none⟩) QJ (.string ((rd_T47 l0_1 x10_1).f0))).trans o;replace q:=(cell_far (p:=⟨j,0,none⟩) QJ (.string ((rd_T47 l0_1 x10_1).f0))).trans q;replace u:=(cell_far (p:=⟨j,0,none⟩) QJ (.string ((rd_T47 l0_1 x10_1).f0))).trans u;replace o:=(cell_far (p:=⟨j,1,none⟩) QK (.int .i64 ((rd_T47 l0_1 x10_1).f1))).trans o;replace q:=(cell_far (p:=⟨j,1,none⟩) QK (.int .i64 ((rd_T47 l0_1 x10_1).f1))).trans q;replace u:=(cell_far (p:=⟨j,1,none⟩) QK (.int .i64 ((rd_T47 l0_1 x10_1).f1))).trans u;replace o:=(cell_far (p:=⟨j,2,none⟩) QL (.int .i64 ((rd_T47 l0_1 x10_1).f2))).trans o;replace q:=(cell_far (p:=⟨j,2,none⟩) QL (.int .i64 ((rd_T47 l0_1 x10_1).f2))).trans q;replace u:=(cell_far (p:=⟨j,2,none⟩) QL (.int .i64 ((rd_T47 l0_1 x10_1).f2))).trans u;(try have cM:=fun (n_:Nat)=>(show (((((w11.drewN n_).setCell ⟨j,0,none⟩ (.string ((rd_T47 l0_1 x10_1).f0))).setCell ⟨j,1,none⟩ (.int .i64 ((rd_T47 l0_1 x10_1).f1))).setCell ⟨j,2,none⟩ (.int .i64 ((rd_T47 l0_1 x10_1).f2)))).cell? _=some _ from o));(try have cN:=fun (n_:Nat)=>(show (((((w11.drewN n_).setCell ⟨j,0,none⟩ (.string ((rd_T47 l0_1 x10_1).f0))).setCell ⟨j,1,none⟩ (.int .i64 ((rd_T47 l0_1 x10_1).f1))).setCell ⟨j,2,none⟩ (.int .i64 ((rd_T47 l0_1 x10_1).f2)))).cell? _=some _ from q));(try have cO:=fun (n_:Nat)=>(show (((((w11.drewN n_).setCell ⟨j,0,none⟩ (.string ((rd_T47 l0_1 x10_1).f0))).setCell ⟨j,1,none⟩ (.int .i64 ((rd_T47 l0_1 x10_1).f1))).setCell ⟨j,2,none⟩ (.int .i64 ((rd_T47 l0_1 x10_1).f2)))).cell? _=some _ from u));clear aD aG aC;replace Y:=eq_true Y;replace Z:=eq_true Z;have bZ:0≤(0:Int):=Qe;have b0:0<(l1.length:Int):=of_decide_eq_true Qc;obtain ⟨cP,cQ,z,G,J⟩:=at_T44 HR1.1 0 bZ b0;obtain rfl:U=cP:=(by injection cQ);have ej:(0<l1.length)=True:=eq_true Qe;(try rw [tn0] at z);(try rw [show 0 * 3=0 from rfl] at z);(try rw [Addr.add_zero'] at z);(try rw [tn0] at G);(try rw [show 0 * 3=0 from rfl] at G);(try rw [Addr.add_zero'] at G);(try rw [tn0] at J);(try rw [show 0 * 3=0 from rfl] at J);(try rw [Addr.add_zero'] at J);have aT:U.block≠j:=Nat.ne_of_lt (Nat.lt_of_lt_of_le (by have:=World.block_lt_of_cell? _ _ z;first|rwa [add_block] at this|exact this) X.1);have aQ:U.block≠j:=Nat.ne_of_lt (Nat.lt_of_lt_of_le (by have:=World.block_lt_of_cell? _ _ z;first|rwa [add_block] at this|exact this) X.1);have aU:U.block≠j:=Nat.ne_of_lt (Nat.lt_of_lt_of_le (by have:=World.block_lt_of_cell? _ _ z;first|rwa [add_block] at this|exact this) X.1);replace z:=cB z HB.1;replace G:=cB G HB.1;replace J:=cB J HB.1;replace z:=(cell_far (p:=⟨j,0,none⟩) Zd (.string ((rd_T47 l0_1 x10_1).f0))).trans z;replace G:=(cell_far (p:=⟨j,0,none⟩) Zd (.string ((rd_T47 l0_1 x10_1).f0))).trans G;replace J:=(cell_far (p:=⟨j,0,none⟩) Zd (.string ((rd_T47 l0_1 x10_1).f0))).trans J;replace z:=(cell_far (p:=⟨j,1,none⟩) Ze (.int .i64 ((rd_T47 l0_1 x10_1).f1))).trans z;replace G:=(cell_far (p:=⟨j,1,none⟩) Ze (.int .i64 ((rd_T47 l0_1 x10_1).f1))).trans G;replace J:=(cell_far (p:=⟨j,1,none⟩) Ze (.int .i64 ((rd_T47 l0_1 x10_1).f1))).trans J;replace z:=(cell_far (p:=⟨j,2,none⟩) Zf (.int .i64 ((rd_T47 l0_1 x10_1).f2))).trans z;replace G:=(cell_far (p:=⟨j,2,none⟩) Zf (.int .i64 ((rd_T47 l0_1 x10_1).f2))).trans G;replace J:=(cell_far (p:=⟨j,2,none⟩) Zf (.int .i64 ((rd_T47 l0_1 x10_1).f2))).trans J;(try have ek:=fun (n_:Nat)=>(show (((((w11.drewN n_).setCell ⟨j,0,none⟩ (.string ((rd_T47 l0_1 x10_1).f0))).setCell ⟨j,1,none⟩ (.int .i64 ((rd_T47 l0_1 x10_1).f1))).setCell ⟨j,2,none⟩ (.int .i64 ((rd_T47 l0_1 x10_1).f2)))).cell? _=some _ from z));(try have el:=fun (n_:Nat)=>(show (((((w11.drewN n_).setCell ⟨j,0,none⟩ (.string ((rd_T47 l0_1 x10_1).f0))).setCell ⟨j,1,none⟩ (.int .i64 ((rd_T47 l0_1 x10_1).f1))).setCell ⟨j,2,none⟩ (.int .i64 ((rd_T47 l0_1 x10_1).f2)))).cell? _=some _ from G));(try have em:=fun (n_:Nat)=>(show (((((w11.drewN n_).setCell ⟨j,0,none⟩ (.string ((rd_T47 l0_1 x10_1).f0))).setCell ⟨j,1,none⟩ (.int .i64 ((rd_T47 l0_1 x10_1).f1))).setCell ⟨j,2,none⟩ (.int .i64 ((rd_T47 l0_1 x10_1).f2)))).cell? _=some _ from J));clear aT aQ aU;replace bZ:=eq_true bZ;replace b0:=eq_true b0));go_upto_if 29 with (first|((with_reducible refine gate_dst (N:=6) rfl ?_);refine box_event ?hg (N:=6) ?hd (cs:=#[.string (⟨#[]⟩:BA),.int .i64 0,.int .i64 0]) (t:=47) ?hr ?_;(case hd=>rfl);(case hg=>rfl);(case hr=>first|(go_simp;done)|(go_simp;rfl));intro j hg w11 hbox hb;have n_:=as7 (blk_below (blkp E.1) hb) (below_step QG hb) (hbox) ((by rw [hg];exact (below_size QG):w.heap.size≤j)) ((by rw [hg];exact (below_size QG):w.heap.size≤j)) ((by rw [hg];exact Nat.ne_of_lt (blk_lt (blkp E.1)):aF≠j)) ((by rw [hg];exact Nat.ne_of_gt (blk_lt (blkp E.1)):j≠aF));clear E HB;obtain ⟨E,HB,a0,X,a5,aL,a2⟩:=n_;clear hb hbox hg;have hnb12:=a2.1;have hnc12:=aL.1;obtain ⟨hcz13_0,hcz13_1,hcz13_2,hfz13_0,hfz13_1,hfz13_2⟩:=blk3 a0.1;have Y:0≤(0:Int):=Qe;have Z:0<(l1.length:Int):=of_decide_eq_true Qc;obtain ⟨U,bY,o,q,u⟩:=at_T44 HR1.1 0 Y Z;cases bY;have cL:(0<l1.length)=True:=eq_true Qe;(try rw [tn0] at o);(try rw [show 0 * 3=0 from rfl] at o);(try rw [Addr.add_zero'] at o);(try rw [tn0] at q);(try rw [show 0 * 3=0 from rfl] at q);(try rw [Addr.add_zero'] at q);(try rw [tn0] at u);(try rw [show 0 * 3=0 from rfl] at u);(try rw [Addr.add_zero'] at u);have aD:U.block≠j:=Nat.ne_of_lt (Nat.lt_of_lt_of_le (by have:=World.block_lt_of_cell? _ _ o;first|rwa [add_block] at this|exact this) X.1);have aG:U.block≠j:=Nat.ne_of_lt (Nat.lt_of_lt_of_le (by have:=World.block_lt_of_cell? _ _ o;first|rwa [add_block] at this|exact this) X.1);have aC:U.block≠j:=Nat.ne_of_lt (Nat.lt_of_lt_of_le (by have:=World.block_lt_of_cell? _ _ o;first|rwa [add_block] at this|exact this) X.1);replace o:=cB o HB.1;replace q:=cB q HB.1;replace u:=cB u HB.1;replace o:=(cell_far (p:=⟨j,0,none⟩) QJ (.string ((rd_T47 l0_1 x10_1).f0))).trans o;replace q:=(cell_far (p:=⟨j,0,none⟩) QJ (.string ((rd_T47 l0_1 x10_1).f0))).trans q;replace u:=(cell_far (p:=⟨j,0,none⟩) QJ (.string ((rd_T47 l0_1 x10_1).f0))).trans u;replace o:=(cell_far (p:=⟨j,1,none⟩) QK (.int .i64 ((rd_T47 l0_1 x10_1).f1))).trans o;replace q:=(cell_far (p:=⟨j,1,none⟩) QK (.int .i64 ((rd_T47 l0_1 x10_1).f1))).trans q;replace u:=(cell_far (p:=⟨j,1,none⟩) QK (.int .i64 ((rd_T47 l0_1 x10_1).f1))).trans u;replace o:=(cell_far (p:=⟨j,2,none⟩) QL (.int .i64 ((rd_T47 l0_1 x10_1).f2))).trans o;replace q:=(cell_far (p:=⟨j,2,none⟩) QL (.int .i64 ((rd_T47 l0_1 x10_1).f2))).trans q;replace u:=(cell_far (p:=⟨j,2,none⟩) QL (.int .i64 ((rd_T47 l0_1 x10_1).f2))).trans u;(try have cM:=fun (n_:Nat)=>(show (((((w11.drewN n_).setCell ⟨j,0,none⟩ (.string ((rd_T47 l0_1 x10_1).f0))).setCell ⟨j,1,none⟩ (.int .i64 ((rd_T47 l0_1 x10_1).f1))).setCell ⟨j,2,none⟩ (.int .i64 ((rd_T47 l0_1 x10_1).f2)))).cell? _=some _ from o));(try have cN:=fun (n_:Nat)=>(show (((((w11.drewN n_).setCell ⟨j,0,none⟩ (.string ((rd_T47 l0_1 x10_1).f0))).setCell ⟨j,1,none⟩ (.int .i64 ((rd_T47 l0_1 x10_1).f1))).setCell ⟨j,2,none⟩ (.int .i64 ((rd_T47 l0_1 x10_1).f2)))).cell? _=some _ from q));(try have cO:=fun (n_:Nat)=>(show (((((w11.drewN n_).setCell ⟨j,0,none⟩ (.string ((rd_T47 l0_1 x10_1).f0))).setCell ⟨j,1,none⟩ (.int .i64 ((rd_T47 l0_1 x10_1).f1))).setCell ⟨j,2,none⟩ (.int .i64 ((rd_T47 l0_1 x10_1).f2)))).cell? _=some _ from u));clear aD aG aC;replace Y:=eq_true Y;replace Z:=eq_true Z;have bZ:0≤(0:Int):=Qe;have b0:0<(l1.length:Int):=of_decide_eq_true Qc;obtain ⟨cP,cQ,z,G,J⟩:=at_T44 HR1.1 0 bZ b0;obtain rfl:U=cP:=(by injection cQ);have ej:(0<l1.length)=True:=eq_true Qe;(try rw [tn0] at z);(try rw [show 0 * 3=0 from rfl] at z);(try rw [Addr.add_zero'] at z);(try rw [tn0] at G);(try rw [show 0 * 3=0 from rfl] at G);(try rw [Addr.add_zero'] at G);(try rw [tn0] at J);(try rw [show 0 * 3=0 from rfl] at J);(try rw [Addr.add_zero'] at J);have aT:U.block≠j:=Nat.ne_of_lt (Nat.lt_of_lt_of_le (by have:=World.block_lt_of_cell? _ _ z;first|rwa [add_block] at this|exact this) X.1);have aQ:U.block≠j:=Nat.ne_of_lt (Nat.lt_of_lt_of_le (by have:=World.block_lt_of_cell? _ _ z;first|rwa [add_block] at this|exact this) X.1);have aU:U.block≠j:=Nat.ne_of_lt (Nat.lt_of_lt_of_le (by have:=World.block_lt_of_cell? _ _ z;first|rwa [add_block] at this|exact this) X.1);replace z:=cB z HB.1;replace G:=cB G HB.1;replace J:=cB J HB.1;replace z:=(cell_far (p:=⟨j,0,none⟩) Zd (.string ((rd_T47 l0_1 x10_1).f0))).trans z;replace G:=(cell_far (p:=⟨j,0,none⟩) Zd (.string ((rd_T47 l0_1 x10_1).f0))).trans G;replace J:=(cell_far (p:=⟨j,0,none⟩) Zd (.string ((rd_T47 l0_1 x10_1).f0))).trans J;replace z:=(cell_far (p:=⟨j,1,none⟩) Ze (.int .i64 ((rd_T47 l0_1 x10_1).f1))).trans z;replace G:=(cell_far (p:=⟨j,1,none⟩) Ze (.int .i64 ((rd_T47 l0_1 x10_1).f1))).trans G;replace J:=(cell_far (p:=⟨j,1,none⟩) Ze (.int .i64 ((rd_T47 l0_1 x10_1).f1))).trans J;replace z:=(cell_far (p:=⟨j,2,none⟩) Zf (.int .i64 ((rd_T47 l0_1 x10_1).f2))).trans z;replace G:=(cell_far (p:=⟨j,2,none⟩) Zf (.int .i64 ((rd_T47 l0_1 x10_1).f2))).trans G;replace J:=(cell_far (p:=⟨j,2,none⟩) Zf (.int .i64 ((rd_T47 l0_1 x10_1).f2))).trans J;(try have ek:=fun (n_:Nat)=>(show (((((w11.drewN n_).setCell ⟨j,0,none⟩ (.string ((rd_T47 l0_1 x10_1).f0))).setCell ⟨j,1,none⟩ (.int .i64 ((rd_T47 l0_1 x10_1).f1))).setCell ⟨j,2,none⟩ (.int .i64 ((rd_T47 l0_1 x10_1).f2)))).cell? _=some _ from z));(try have el:=fun (n_:Nat)=>(show (((((w11.drewN n_).setCell ⟨j,0,none⟩ (.string ((rd_T47 l0_1 x10_1).f0))).setCell ⟨j,1,none⟩ (.int .i64 ((rd_T47 l0_1 x10_1).f1))).setCell ⟨j,2,none⟩ (.int .i64 ((rd_T47 l0_1 x10_1).f2)))).cell? _=some _ from G));(try have em:=fun (n_:Nat)=>(show (((((w11.drewN n_).setCell ⟨j,0,none⟩ (.string ((rd_T47 l0_1 x10_1).f0))).setCell ⟨j,1,none⟩ (.int .i64 ((rd_T47 l0_1 x10_1).f1))).setCell ⟨j,2,none⟩ (.int .i64 ((rd_T47 l0_1 x10_1).f2)))).cell? _=some _ from J));clear aT aQ aU;replace bZ:=eq_true bZ;replace b0:=eq_true b0)))
     (try simp only [Act.put,sA_,sZ_,sS_]);have H:=ei.1;clear ei;by_cases c14:((rd_T47 l0_1 x10_1).f1)=((rd_T44 l1 0).f1)
     ·rw [if_pos c14] at H
      obtain ⟨c14b0,c14b1⟩:=bqP c14;clear c14;(first|rw [c14b0]|rw [c14b1]|(simp only [i64_w,i32_w];rw [c14b0])|skip);obtain rfl:=oi H;have hnb15:=a2.1;have hnc15:=aL.1;obtain ⟨hcz16_0,hcz16_1,hcz16_2,hfz16_0,hfz16_1,hfz16_2⟩:=blk3 a0.1;go_wp2
      repeat (go_quiet (fail);try go_wp2)
      go_ret;exact ⟨Qg,Yr⟩
     ·rw [if_neg c14] at H
      obtain ⟨c14b0,c14b1⟩:=bqN c14;(first|rw [c14b0]|rw [c14b1]|(simp only [i64_w,i32_w];rw [c14b0])|skip);have H':=Am H;clear H;go_wp2
      repeat (go_quiet (fail);try go_wp2)
      go_roundg k1
      case measure=>have:=HK1.1;omega
      case rel=>exact ⟨(wrap64 (x10_1+1)),Qf,H',⟨QA⟩,⟨blkp (blk_far (blk_far2 aL.1 E.1) aL.1 _)⟩,⟨Yr⟩⟩
    ·rw [if_neg c9] at H
     obtain ⟨c9b0,c9b1⟩:=bqN c9;have H':=Am H;clear H;have ca:0≤(x10_1:Int):=of_decide_eq_true Qc;have cb:x10_1<(l0_1.length:Int):=of_decide_eq_true Qc;obtain ⟨eV,dI,cI,cJ,cK⟩:=at_T47 HR0_1.1 x10_1 ca cb;cases dI
     replace cI:=cB cI HB.1;replace cJ:=cB cJ HB.1;replace cK:=cB cK HB.1;obtain ⟨ca,cb⟩:=et2 ca cb
     go_wp2_with (first|((with_reducible refine gate_dst (N:=6) rfl ?_);refine box_event ?hg (N:=6) ?hd (cs:=#[.string (⟨#[]⟩:BA),.int .i64 0,.int .i64 0]) (t:=47) ?hr ?_;(case hd=>rfl);(case hg=>rfl);(case hr=>first|(go_simp;done)|(go_simp;rfl));intro j hg w17 hbox hb;have n_:=as7 (blk_below (blkp E.1) hb) (below_step QG hb) (hbox) ((by rw [hg];exact (below_size QG):w.heap.size≤j)) ((by rw [hg];exact (below_size QG):w.heap.size≤j)) ((by rw [hg];exact Nat.ne_of_lt (blk_lt (blkp E.1)):aF≠j)) ((by rw [hg];exact Nat.ne_of_gt (blk_lt (blkp E.1)):j≠aF));clear E HB;obtain ⟨E,HB,a0,X,a5,aL,a2⟩:=n_;clear hb hbox hg;have hnb18:=a2.1;have hnc18:=aL.1;obtain ⟨hcz19_0,hcz19_1,hcz19_2,hfz19_0,hfz19_1,hfz19_2⟩:=blk3 a0.1;have Y:0≤(0:Int):=Qe;have Z:0<(l1.length:Int):=of_decide_eq_true Qc;obtain ⟨U,bY,o,q,u⟩:=at_T44 HR1.1 0 Y Z;cases bY;have cL:(0<l1.length)=True:=eq_true Qe;(try rw [tn0] at o);(try rw [show 0 * 3=0 from rfl] at o);(try rw [Addr.add_zero'] at o);(try rw [tn0] at q);(try rw [show 0 * 3=0 from rfl] at q);(try rw [Addr.add_zero'] at q);(try rw [tn0] at u);(try rw [show 0 * 3=0 from rfl] at u);(try rw [Addr.add_zero'] at u);have aD:U.block≠j:=Nat.ne_of_lt (Nat.lt_of_lt_of_le (by have:=World.block_lt_of_cell? _ _ o;first|rwa [add_block] at this|exact this) X.1);have aG:U.block≠j:=Nat.ne_of_lt (Nat.lt_of_lt_of_le (by have:=World.block_lt_of_cell? _ _ o;first|rwa [add_block] at this|exact this) X.1);have aC:U.block≠j:=Nat.ne_of_lt (Nat.lt_of_lt_of_le (by have:=World.block_lt_of_cell? _ _ o;first|rwa [add_block] at this|exact this) X.1);replace o:=cB o HB.1;replace q:=cB q HB.1;replace u:=cB u HB.1;replace o:=(cell_far (p:=⟨j,0,none⟩) QJ (.string ((rd_T47 l0_1 x10_1).f0))).trans o;replace q:=(cell_far (p:=⟨j,0,none⟩) QJ (.string ((rd_T47 l0_1 x10_1).f0))).trans q;replace u:=(cell_far (p:=⟨j,0,none⟩) QJ (.string ((rd_T47 l0_1 x10_1).f0))).trans u;replace o:=(cell_far (p:=⟨j,1,none⟩) QK (.int .i64 ((rd_T47 l0_1 x10_1).f1))).trans o;replace q:=(cell_far (p:=⟨j,1,none⟩) QK (.int .i64 ((rd_T47 l0_1 x10_1).f1))).trans q;replace u:=(cell_far (p:=⟨j,1,none⟩) QK (.int .i64 ((rd_T47 l0_1 x10_1).f1))).trans u;replace o:=(cell_far (p:=⟨j,2,none⟩) QL (.int .i64 ((rd_T47 l0_1 x10_1).f2))).trans o;replace q:=(cell_far (p:=⟨j,2,none⟩) QL (.int .i64 ((rd_T47 l0_1 x10_1).f2))).trans q;replace u:=(cell_far (p:=⟨j,2,none⟩) QL (.int .i64 ((rd_T47 l0_1 x10_1).f2))).trans u;(try have cM:=fun (n_:Nat)=>(show (((((w17.drewN n_).setCell ⟨j,0,none⟩ (.string ((rd_T47 l0_1 x10_1).f0))).setCell ⟨j,1,none⟩ (.int .i64 ((rd_T47 l0_1 x10_1).f1))).setCell ⟨j,2,none⟩ (.int .i64 ((rd_T47 l0_1 x10_1).f2)))).cell? _=some _ from o));(try have cN:=fun (n_:Nat)=>(show (((((w17.drewN n_).setCell ⟨j,0,none⟩ (.string ((rd_T47 l0_1 x10_1).f0))).setCell ⟨j,1,none⟩ (.int .i64 ((rd_T47 l0_1 x10_1).f1))).setCell ⟨j,2,none⟩ (.int .i64 ((rd_T47 l0_1 x10_1).f2)))).cell? _=some _ from q));(try have cO:=fun (n_:Nat)=>(show (((((w17.drewN n_).setCell ⟨j,0,none⟩ (.string ((rd_T47 l0_1 x10_1).f0))).setCell ⟨j,1,none⟩ (.int .i64 ((rd_T47 l0_1 x10_1).f1))).setCell ⟨j,2,none⟩ (.int .i64 ((rd_T47 l0_1 x10_1).f2)))).cell? _=some _ from u));clear aD aG aC;replace Y:=eq_true Y;replace Z:=eq_true Z))
     repeat (go_quiet (first|((with_reducible refine gate_dst (N:=6) rfl ?_);refine box_event ?hg (N:=6) ?hd (cs:=#[.string (⟨#[]⟩:BA),.int .i64 0,.int .i64 0]) (t:=47) ?hr ?_;(case hd=>rfl);(case hg=>rfl);(case hr=>first|(go_simp;done)|(go_simp;rfl));intro j hg w17 hbox hb;have n_:=as7 (blk_below (blkp E.1) hb) (below_step QG hb) (hbox) ((by rw [hg];exact (below_size QG):w.heap.size≤j)) ((by rw [hg];exact (below_size QG):w.heap.size≤j)) ((by rw [hg];exact Nat.ne_of_lt (blk_lt (blkp E.1)):aF≠j)) ((by rw [hg];exact Nat.ne_of_gt (blk_lt (blkp E.1)):j≠aF));clear E HB;obtain ⟨E,HB,a0,X,a5,aL,a2⟩:=n_;clear hb hbox hg;have hnb18:=a2.1;have hnc18:=aL.1;obtain ⟨hcz19_0,hcz19_1,hcz19_2,hfz19_0,hfz19_1,hfz19_2⟩:=blk3 a0.1;have Y:0≤(0:Int):=Qe;have Z:0<(l1.length:Int):=of_decide_eq_true Qc;obtain ⟨U,bY,o,q,u⟩:=at_T44 HR1.1 0 Y Z;cases bY;have cL:(0<l1.length)=True:=eq_true Qe;(try rw [tn0] at o);(try rw [show 0 * 3=0 from rfl] at o);(try rw [Addr.add_zero'] at o);(try rw [tn0] at q);(try rw [show 0 * 3=0 from rfl] at q);(try rw [Addr.add_zero'] at q);(try rw [tn0] at u);(try rw [show 0 * 3=0 from rfl] at u);(try rw [Addr.add_zero'] at u);have aD:U.block≠j:=Nat.ne_of_lt (Nat.lt_of_lt_of_le (by have:=World.block_lt_of_cell? _ _ o;first|rwa [add_block] at this|exact this) X.1);have aG:U.block≠j:=Nat.ne_of_lt (Nat.lt_of_lt_of_le (by have:=World.block_lt_of_cell? _ _ o;first|rwa [add_block] at this|exact this) X.1);have aC:U.block≠j:=Nat.ne_of_lt (Nat.lt_of_lt_of_le (by have:=World.block_lt_of_cell? _ _ o;first|rwa [add_block] at this|exact this) X.1);replace o:=cB o HB.1;replace q:=cB q HB.1;replace u:=cB u HB.1;replace o:=(cell_far (p:=⟨j,0,none⟩) QJ (.string ((rd_T47 l0_1 x10_1).f0))).trans o;replace q:=(cell_far (p:=⟨j,0,none⟩) QJ (.string ((rd_T47 l0_1 x10_1).f0))).trans q;replace u:=(cell_far (p:=⟨j,0,none⟩) QJ (.string ((rd_T47 l0_1 x10_1).f0))).trans u;replace o:=(cell_far (p:=⟨j,1,none⟩) QK (.int .i64 ((rd_T47 l0_1 x10_1).f1))).trans o;replace q:=(cell_far (p:=⟨j,1,none⟩) QK (.int .i64 ((rd_T47 l0_1 x10_1).f1))).trans q;replace u:=(cell_far (p:=⟨j,1,none⟩) QK (.int .i64 ((rd_T47 l0_1 x10_1).f1))).trans u;replace o:=(cell_far (p:=⟨j,2,none⟩) QL (.int .i64 ((rd_T47 l0_1 x10_1).f2))).trans o;replace q:=(cell_far (p:=⟨j,2,none⟩) QL (.int .i64 ((rd_T47 l0_1 x10_1).f2))).trans q;replace u:=(cell_far (p:=⟨j,2,none⟩) QL (.int .i64 ((rd_T47 l0_1 x10_1).f2))).trans u;(try have cM:=fun (n_:Nat)=>(show (((((w17.drewN n_).setCell ⟨j,0,none⟩ (.string ((rd_T47 l0_1 x10_1).f0))).setCell ⟨j,1,none⟩ (.int .i64 ((rd_T47 l0_1 x10_1).f1))).setCell ⟨j,2,none⟩ (.int .i64 ((rd_T47 l0_1 x10_1).f2)))).cell? _=some _ from o));(try have cN:=fun (n_:Nat)=>(show (((((w17.drewN n_).setCell ⟨j,0,none⟩ (.string ((rd_T47 l0_1 x10_1).f0))).setCell ⟨j,1,none⟩ (.int .i64 ((rd_T47 l0_1 x10_1).f1))).setCell ⟨j,2,none⟩ (.int .i64 ((rd_T47 l0_1 x10_1).f2)))).cell? _=some _ from q));(try have cO:=fun (n_:Nat)=>(show (((((w17.drewN n_).setCell ⟨j,0,none⟩ (.string ((rd_T47 l0_1 x10_1).f0))).setCell ⟨j,1,none⟩ (.int .i64 ((rd_T47 l0_1 x10_1).f1))).setCell ⟨j,2,none⟩ (.int .i64 ((rd_T47 l0_1 x10_1).f2)))).cell? _=some _ from u));clear aD aG aC;replace Y:=eq_true Y;replace Z:=eq_true Z));try go_wp2_with (first|((with_reducible refine gate_dst (N:=6) rfl ?_);refine box_event ?hg (N:=6) ?hd (cs:=#[.string (⟨#[]⟩:BA),.int .i64 0,.int .i64 0]) (t:=47) ?hr ?_;(case hd=>rfl);(case hg=>rfl);(case hr=>first|(go_simp;done)|(go_simp;rfl));intro j hg w17 hbox hb;have n_:=as7 (blk_below (blkp E.1) hb) (below_step QG hb) (hbox) ((by rw [hg];exact (below_size QG):w.heap.size≤j)) ((by rw [hg];exact (below_size QG):w.heap.size≤j)) ((by rw [hg];exact Nat.ne_of_lt (blk_lt (blkp E.1)):aF≠j)) ((by rw [hg];exact Nat.ne_of_gt (blk_lt (blkp E.1)):j≠aF));clear E HB;obtain ⟨E,HB,a0,X,a5,aL,a2⟩:=n_;clear hb hbox hg;have hnb18:=a2.1;have hnc18:=aL.1;obtain ⟨hcz19_0,hcz19_1,hcz19_2,hfz19_0,hfz19_1,hfz19_2⟩:=blk3 a0.1;have Y:0≤(0:Int):=Qe;have Z:0<(l1.length:Int):=of_decide_eq_true Qc;obtain ⟨U,bY,o,q,u⟩:=at_T44 HR1.1 0 Y Z;cases bY;have cL:(0<l1.length)=True:=eq_true Qe;(try rw [tn0] at o);(try rw [show 0 * 3=0 from rfl] at o);(try rw [Addr.add_zero'] at o);(try rw [tn0] at q);(try rw [show 0 * 3=0 from rfl] at q);(try rw [Addr.add_zero'] at q);(try rw [tn0] at u);(try rw [show 0 * 3=0 from rfl] at u);(try rw [Addr.add_zero'] at u);have aD:U.block≠j:=Nat.ne_of_lt (Nat.lt_of_lt_of_le (by have:=World.block_lt_of_cell? _ _ o;first|rwa [add_block] at this|exact this) X.1);have aG:U.block≠j:=Nat.ne_of_lt (Nat.lt_of_lt_of_le (by have:=World.block_lt_of_cell? _ _ o;first|rwa [add_block] at this|exact this) X.1);have aC:U.block≠j:=Nat.ne_of_lt (Nat.lt_of_lt_of_le (by have:=World.block_lt_of_cell? _ _ o;first|rwa [add_block] at this|exact this) X.1);replace o:=cB o HB.1;replace q:=cB q HB.1;replace u:=cB u HB.1;replace o:=(cell_far (p:=⟨j,0,none⟩) QJ (.string ((rd_T47 l0_1 x10_1).f0))).trans o;replace q:=(cell_far (p:=⟨j,0,none⟩) QJ (.string ((rd_T47 l0_1 x10_1).f0))).trans q;replace u:=(cell_far (p:=⟨j,0,none⟩) QJ (.string ((rd_T47 l0_1 x10_1).f0))).trans u;replace o:=(cell_far (p:=⟨j,1,none⟩) QK (.int .i64 ((rd_T47 l0_1 x10_1).f1))).trans o;replace q:=(cell_far (p:=⟨j,1,none⟩) QK (.int .i64 ((rd_T47 l0_1 x10_1).f1))).trans q;replace u:=(cell_far (p:=⟨j,1,none⟩) QK (.int .i64 ((rd_T47 l0_1 x10_1).f1))).trans u;replace o:=(cell_far (p:=⟨j,2,none⟩) QL (.int .i64 ((rd_T47 l0_1 x10_1).f2))).trans o;replace q:=(cell_far (p:=⟨j,2,none⟩) QL (.int .i64 ((rd_T47 l0_1 x10_1).f2))).trans q;replace u:=(cell_far (p:=⟨j,2,none⟩) QL (.int .i64 ((rd_T47 l0_1 x10_1).f2))).trans u;(try have cM:=fun (n_:Nat)=>(show (((((w17.drewN n_).setCell ⟨j,0,none⟩ (.string ((rd_T47 l0_1 x10_1).f0))).setCell ⟨j,1,none⟩ (.int .i64 ((rd_T47 l0_1 x10_1).f1))).setCell ⟨j,2,none⟩ (.int .i64 ((rd_T47 l0_1 x10_1).f2)))).cell? _=some _ from o));(try have cN:=fun (n_:Nat)=>(show (((((w17.drewN n_).setCell ⟨j,0,none⟩ (.string ((rd_T47 l0_1 x10_1).f0))).setCell ⟨j,1,none⟩ (.int .i64 ((rd_T47 l0_1 x10_1).f1))).setCell ⟨j,2,none⟩ (.int .i64 ((rd_T47 l0_1 x10_1).f2)))).cell? _=some _ from q));(try have cO:=fun (n_:Nat)=>(show (((((w17.drewN n_).setCell ⟨j,0,none⟩ (.string ((rd_T47 l0_1 x10_1).f0))).setCell ⟨j,1,none⟩ (.int .i64 ((rd_T47 l0_1 x10_1).f1))).setCell ⟨j,2,none⟩ (.int .i64 ((rd_T47 l0_1 x10_1).f2)))).cell? _=some _ from u));clear aD aG aC;replace Y:=eq_true Y;replace Z:=eq_true Z)))
     go_roundg k1
     case measure=>have:=HK1.1;omega
     case rel=>exact ⟨(wrap64 (x10_1+1)),Qf,H',⟨QA⟩,⟨blkp (blk_far (blk_far2 aL.1 E.1) aL.1 _)⟩,⟨Yr⟩⟩
   ·rw [if_neg c5] at H
    have c5b0:=decide_eq_false c5;clear c5;obtain rfl:=oi H;go_wp2
    repeat (go_quiet (fail);try go_wp2)
    go_ret;exact ⟨Qg,QG⟩
end Go.Proofs.YtlhniagacegbeaaDoor.P
