/- Contracts of functions of the program: each as a Lean function, and that its call does what that says; printed by cprint.py (this session) over print.py of the kit. Conditions: the hypotheses of each theorem. -/
import Derived.Test.YtlhniagacegbeaaDoorVZ
import Derived.Test.YtlhniagacegbeaaDoorP0
import Derived.Test.YtlhniagacegbeaaDoorP1
import Derived.Test.YtlhniagacegbeaaDoorP2
import Derived.Test.YtlhniagacegbeaaDoorP5
namespace Go.Proofs.YtlhniagacegbeaaDoor.P
open Go.RowKit Go.Proofs.YtlhniagacegbeaaDoorW.PrintWords Go.Proofs.YtlhniagacegbeaaDoorW.PrintWords.Kd Go.Proofs.YtlhniagacegbeaaDoorW.PrintLast Go.Proofs.YtlhniagacegbeaaDoorW.PrintMore Go.Proofs.YtlhniagacegbeaaDoorW.PrintMore.Kd
attribute [local go_sem] max2_int min2_int max_two min_two max_three min_three max_four min_four   -- for this text's walks alone
set_option linter.unusedVariables false
set_option maxHeartbeats 8000000
set_option maxRecDepth 100000
set_option linter.unusedSimpArgs false
def impl_PrgNode.f (k:Nat) (l0_0:List (S69)) (l0_1:List (S47)) (l1:List (S44)):Option (Int):=(impl_PrgOk.f k l0_0 l0_1).bind fun U=>(if U=true then ((impl_called.f l1).bind fun L=>(if L=true then ((impl_PrgProg_node.f k l0_0 l0_1 l1).bind fun W=>(some W)) else (some (-1)))) else (some (-1)))
theorem impl_PrgNode.calls (k:Nat) (A0_0:Option Addr) (c0_0:Nat) (l0_0:List (S69)) (A0_1:Option Addr) (c0_1:Nat) (l0_1:List (S47)) (A1:Option Addr) (c1:Nat) (l1:List (S44)) (r:Int) (w:World) (hr0_0:Kd.C k69 w A0_0 l0_0.length l0_0) (hc0_0:l0_0.length≤c0_0) (hr0_1:Kd.C k47 w A0_1 l0_1.length l0_1) (hc0_1:l0_1.length≤c0_1) (hr1:Kd.C k44 w A1 l1.length l1) (hc1:l1.length≤c1) (h:impl_PrgNode.f k l0_0 l0_1 l1=some r) :
  Calls Tryd.prog 11 #[.agg #[.slice A0_0 l0_0.length c0_0,.slice A0_1 l0_1.length c0_1],.slice A1 l1.length c1] w fun e w'=>e = .returned (.int .i64 r)∧Below w.heap.size w w':=by
 have hu37:=Tryd.underlying37;have HR0_0:=Am hr0_0;have HC0_0:=Am hc0_0;clear hr0_0 hc0_0;have HR0_1:=Am hr0_1;have HC0_1:=Am hc0_1;clear hr0_1 hc0_1;have HR1:=Am hr1;have HC1:=Am hc1;clear hr1 hc1;have HB:=Am (Below.refl w.heap.size w);have H:((impl_PrgOk.f k l0_0 l0_1).bind fun U=>(if U=true then ((impl_called.f l1).bind fun L=>(if L=true then ((impl_PrgProg_node.f k l0_0 l0_1 l1).bind fun W=>(some W)) else (some (-1)))) else (some (-1))))=some r:=h;clear h;obtain ⟨U,A3,H⟩:=bnd H;(try dsimp only at H);by_cases c4:U=true
 ·subst c4
  rw [if_pos rfl] at H;obtain ⟨L,A5,H⟩:=bnd H;(try dsimp only at H);have HC6:=Am H;clear H;go_enter Tryd.func11,Tryd.ntmps11;go_upto_if 12 with (first|((with_reducible refine gate_dst (N:=2) rfl ?_);refine box_event ?hg (N:=2) ?hd (cs:=#[.slice A0_0 l0_0.length c0_0,.slice A0_1 l0_1.length c0_1]) (t:=37) ?hr ?_;(case hd=>rfl);(case hg=>rfl);(case hr=>first|(go_simp;done)|(go_simp;rfl));intro b1 hg w7 hbox hb;have n_:=as3 (below_step Qd hb) (hbox) ((by rw [hg];exact (below_size Qd):w.heap.size≤b1));clear HB;obtain ⟨HB,m,bB⟩:=n_;clear hb hbox hg;obtain ⟨hcz8_0,hcz8_1,hfz8_0,hfz8_1⟩:=blk2 m.1)|(go_at_call 30;(with_reducible refine (impl_PrgOk.calls k _ _ l0_0 _ _ l0_1 true _ ?side1 ?side2 ?side3 ?side4 A3.1).mono ?_);(case side1=>exact Qz);(case side2=>exact HC0_0.1);(case side3=>exact Qr);(case side4=>exact HC0_1.1);rintro e w9 ⟨rfl,hb⟩;have n_:=as2 (blk_below (blkp m.1) hb) (below_step Zx hb);clear m HB;obtain ⟨m,HB⟩:=n_;clear hb)|(go_at_call 31;(with_reducible refine (impl_called.calls _ _ l1 L _ ?side1 ?side2 A5.1).mono ?_);(case side1=>exact ZA);(case side2=>exact HC1.1);rintro e w10 ⟨rfl,hb⟩;have n_:=as2 (blk_below (blkp m.1) hb) (below_step Zx hb);clear m HB;obtain ⟨m,HB⟩:=n_;clear hb))
  (try simp only [Act.put,sA_,sZ_,sS_]);have H:=HC6.1;clear HC6;by_cases c11:L=true
  ·subst c11
   rw [if_pos rfl] at H;obtain ⟨W,A12,H⟩:=bnd H;(try dsimp only at H);obtain rfl:=oi H;obtain ⟨hcz13_0,hcz13_1,hfz13_0,hfz13_1⟩:=blk2 m.1
   go_wp2_with (first|(go_at_call 32;(with_reducible refine (impl_PrgProg_node.calls k _ _ l0_0 _ _ l0_1 _ _ l1 W _ ?side1 ?side2 ?side3 ?side4 ?side5 ?side6 A12.1).mono ?_);(case side1=>exact Qz);(case side2=>exact HC0_0.1);(case side3=>exact Qr);(case side4=>exact HC0_1.1);(case side5=>exact ZA);(case side6=>exact HC1.1);rintro e w14 ⟨rfl,hb⟩;have n_:=as2 (blk_below (blkp m.1) hb) (below_step Zx hb);clear m HB;obtain ⟨m,HB⟩:=n_;clear hb))
   go_ret;exact ⟨Qg,Zx⟩
  ·replace c11:=Bool.eq_false_iff.mpr c11
   subst c11;rw [if_neg nft] at H;obtain rfl:=oi H;go_wp2;go_ret;exact ⟨Qg,Zx⟩
 ·replace c4:=Bool.eq_false_iff.mpr c4
  subst c4;rw [if_neg nft] at H;obtain rfl:=oi H;go_enter Tryd.func11,Tryd.ntmps11
  go_wp2_with (first|((with_reducible refine gate_dst (N:=2) rfl ?_);refine box_event ?hg (N:=2) ?hd (cs:=#[.slice A0_0 l0_0.length c0_0,.slice A0_1 l0_1.length c0_1]) (t:=37) ?hr ?_;(case hd=>rfl);(case hg=>rfl);(case hr=>first|(go_simp;done)|(go_simp;rfl));intro b1 hg w15 hbox hb;have n_:=as3 (below_step Qd hb) (hbox) ((by rw [hg];exact (below_size Qd):w.heap.size≤b1));clear HB;obtain ⟨HB,m,bB⟩:=n_;clear hb hbox hg;obtain ⟨hcz16_0,hcz16_1,hfz16_0,hfz16_1⟩:=blk2 m.1)|(go_at_call 30;(with_reducible refine (impl_PrgOk.calls k _ _ l0_0 _ _ l0_1 false _ ?side1 ?side2 ?side3 ?side4 A3.1).mono ?_);(case side1=>exact Qz);(case side2=>exact HC0_0.1);(case side3=>exact Qr);(case side4=>exact HC0_1.1);rintro e w17 ⟨rfl,hb⟩;have n_:=as2 (blk_below (blkp m.1) hb) (below_step Zx hb);clear m HB;obtain ⟨m,HB⟩:=n_;clear hb))
  go_ret;exact ⟨Qg,Zx⟩
def spec_l3Node.l0:Nat→List (S44)→Int→List (S69)→List (S47)→Option (Int)
 | 0,_,_,_,_=>none
 | k+1,x1,x5,x820000,x820001=>if x5<(x820001.length:Int) then (if 0≤x5 then (if 0<(x1.length:Int) then (if ((rd_T47 x820001 x5).f0).toList=((rd_T44 x1 0).f2).toList then (if ((rd_T47 x820001 x5).f1)=((rd_T44 x1 0).f1) then (some ((rd_T47 x820001 x5).f2)) else (spec_l3Node.l0 k x1 (wrap64 (x5+1)) x820000 x820001)) else (spec_l3Node.l0 k x1 (wrap64 (x5+1)) x820000 x820001)) else (none)) else (none)) else (some 0)
def spec_l3Node.f (k:Nat) (l0_0:List (S69)) (l0_1:List (S47)) (l1:List (S44)):Option (Int):=spec_l3Node.l0 k l1 0 l0_0 l0_1
theorem spec_l3Node.calls (k:Nat) (A0_0:Option Addr) (c0_0:Nat) (l0_0:List (S69)) (A0_1:Option Addr) (c0_1:Nat) (l0_1:List (S47)) (A1:Option Addr) (c1:Nat) (l1:List (S44)) (r:Int) (w:World) (hr0_0:Kd.C k69 w A0_0 l0_0.length l0_0) (hc0_0:l0_0.length≤c0_0) (hr0_1:Kd.C k47 w A0_1 l0_1.length l0_1) (hc0_1:l0_1.length≤c0_1) (hr1:Kd.C k44 w A1 l1.length l1) (hc1:l1.length≤c1) (h:spec_l3Node.f k l0_0 l0_1 l1=some r) :
  Calls Tryd.prog 34 #[.agg #[.slice A0_0 l0_0.length c0_0,.slice A0_1 l0_1.length c0_1],.slice A1 l1.length c1] w fun e w'=>e = .returned (.int .i64 r)∧Below w.heap.size w w':=by
 have hu37:=Tryd.underlying37;have HR0_0:=Am hr0_0;have HC0_0:=Am hc0_0;clear hr0_0 hc0_0;have HR0_1:=Am hr0_1;have HC0_1:=Am hc0_1;clear hr0_1 hc0_1;have HR1:=Am hr1;have HC1:=Am hc1;clear hr1 hc1;have HB:=Am (Below.refl w.heap.size w);have H:(spec_l3Node.l0 k l1 0 l0_0 l0_1)=some r:=h;clear h;have H':=Am H;clear H;go_enter Tryd.func34,Tryd.ntmps34
 go_wp2_with (first|((with_reducible refine gate_dst (N:=2) rfl ?_);refine box_event ?hg (N:=2) ?hd (cs:=#[.slice A0_0 l0_0.length c0_0,.slice A0_1 l0_1.length c0_1]) (t:=37) ?hr ?_;(case hd=>rfl);(case hg=>rfl);(case hr=>first|(go_simp;done)|(go_simp;rfl));intro O hg w3 hbox hb;have n_:=as3 (below_step Qd hb) (hbox) ((by rw [hg];exact (below_size Qd):w.heap.size≤O));clear HB;obtain ⟨HB,A,bd⟩:=n_;clear hb hbox hg))
 repeat (go_quiet (first|((with_reducible refine gate_dst (N:=2) rfl ?_);refine box_event ?hg (N:=2) ?hd (cs:=#[.slice A0_0 l0_0.length c0_0,.slice A0_1 l0_1.length c0_1]) (t:=37) ?hr ?_;(case hd=>rfl);(case hg=>rfl);(case hr=>first|(go_simp;done)|(go_simp;rfl));intro O hg w3 hbox hb;have n_:=as3 (below_step Qd hb) (hbox) ((by rw [hg];exact (below_size Qd):w.heap.size≤O));clear HB;obtain ⟨HB,A,bd⟩:=n_;clear hb hbox hg));try go_wp2_with (first|((with_reducible refine gate_dst (N:=2) rfl ?_);refine box_event ?hg (N:=2) ?hd (cs:=#[.slice A0_0 l0_0.length c0_0,.slice A0_1 l0_1.length c0_1]) (t:=37) ?hr ?_;(case hd=>rfl);(case hg=>rfl);(case hr=>first|(go_simp;done)|(go_simp;rfl));intro O hg w3 hbox hb;have n_:=as3 (below_step Qd hb) (hbox) ((by rw [hg];exact (below_size Qd):w.heap.size≤O));clear HB;obtain ⟨HB,A,bd⟩:=n_;clear hb hbox hg)))
 go_loopg [5] k (fun kq v5 w'=>∃ (x5_1:Int),v5 = .int .i64 x5_1∧Aside0 (spec_l3Node.l0 kq l1 x5_1 l0_0 l0_1=some r)∧Aside0 (kq≤k)∧Aside0 (w'.heap[O]?=some (.cells #[(.slice A0_0 l0_0.length c0_0),(.slice A0_1 l0_1.length c0_1)] 37 (0,0)))∧Aside0 (Below w.heap.size w w'))
 case atStart=>exact ⟨(0),Qf,H',⟨Nat.le_refl _⟩,⟨blkp A.1⟩,⟨ZO⟩⟩
 case round=>
  clear H';(try clear c1);obtain ⟨x5_1,rfl,HA,HK1,A,HB⟩:=hrel;cases gk with
  | zero=>exact absurd HA.1 (by simp [spec_l3Node.l0])
  | succ k1=>
   have H:=HA.1;clear HA;simp only [spec_l3Node.l0] at H;by_cases c4:x5_1<(l0_1.length:Int)
   ·rw [if_pos c4] at H
    have c4b0:=decide_eq_true c4;clear c4;obtain ⟨c5,H⟩:=ifS H;have c5b0:=decide_eq_true c5;clear c5;obtain ⟨c6,H⟩:=ifS H;have c6b0:=decide_eq_true c6;have c6b1:decide (0<l1.length)=true:=decide_eq_true Qe;clear c6;by_cases c7:((rd_T47 l0_1 x5_1).f0).toList=((rd_T44 l1 0).f2).toList
    ·rw [if_pos c7] at H
     obtain ⟨c7b0,c7b1⟩:=bqP c7;clear c7;by_cases c8:((rd_T47 l0_1 x5_1).f1)=((rd_T44 l1 0).f1)
     ·rw [if_pos c8] at H
      obtain ⟨c8b0,c8b1⟩:=bqP c8;clear c8;obtain rfl:=oi H;obtain ⟨hcz9_0,hcz9_1,hfz9_0,hfz9_1⟩:=blk2 A.1;have o:0≤(x5_1:Int):=of_decide_eq_true Qc;have q:x5_1<(l0_1.length:Int):=of_decide_eq_true Qc;obtain ⟨X,Y,B,D,E⟩:=at_T47 HR0_1.1 x5_1 o q;cases Y
      replace B:=cB B HB.1;replace D:=cB D HB.1;replace E:=cB E HB.1;obtain ⟨o,q⟩:=et2 o q;have s:0≤(0:Int):=Qe;have u:0<(l1.length:Int):=of_decide_eq_true Qc;obtain ⟨bt,Z,i,j,l⟩:=at_T44 HR1.1 0 s u;cases Z
      have cd:(0<l1.length)=True:=eq_true Qe;(try rw [tn0] at i);(try rw [show 0 * 3=0 from rfl] at i);(try rw [Addr.add_zero'] at i);(try rw [tn0] at j);(try rw [show 0 * 3=0 from rfl] at j);(try rw [Addr.add_zero'] at j);(try rw [tn0] at l);(try rw [show 0 * 3=0 from rfl] at l);(try rw [Addr.add_zero'] at l);replace i:=cB i HB.1;replace j:=cB j HB.1;replace l:=cB l HB.1;obtain ⟨s,u⟩:=et2 s u;have G:0≤(x5_1:Int):=of_decide_eq_true Qc;have I:x5_1<(l0_1.length:Int):=of_decide_eq_true Qc;obtain ⟨b2,b3,ad,aP,a1⟩:=at_T47 HR0_1.1 x5_1 G I;obtain rfl:X=b2:=(by injection b3);replace ad:=cB ad HB.1;replace aP:=cB aP HB.1;replace a1:=cB a1 HB.1;obtain ⟨G,I⟩:=et2 G I;have J:0≤(0:Int):=Qe;have K:0<(l1.length:Int):=of_decide_eq_true Qc;obtain ⟨b4,b5,x,y,z⟩:=at_T44 HR1.1 0 J K;obtain rfl:bt=b4:=(by injection b5);have co:(0<l1.length)=True:=eq_true Qe;(try rw [tn0] at x);(try rw [show 0 * 3=0 from rfl] at x);(try rw [Addr.add_zero'] at x);(try rw [tn0] at y);(try rw [show 0 * 3=0 from rfl] at y);(try rw [Addr.add_zero'] at y);(try rw [tn0] at z);(try rw [show 0 * 3=0 from rfl] at z);(try rw [Addr.add_zero'] at z);replace x:=cB x HB.1;replace y:=cB y HB.1;replace z:=cB z HB.1;obtain ⟨J,K⟩:=et2 J K;have b6:0≤(x5_1:Int):=of_decide_eq_true Qc;have b7:x5_1<(l0_1.length:Int):=of_decide_eq_true Qc;obtain ⟨cp,cq,ce,cf,cg⟩:=at_T47 HR0_1.1 x5_1 b6 b7;obtain rfl:X=cp:=(by injection cq);replace ce:=cB ce HB.1;replace cf:=cB cf HB.1;replace cg:=cB cg HB.1;obtain ⟨b6,b7⟩:=et2 b6 b7;go_wp2
      repeat (go_quiet (fail);try go_wp2)
      go_ret;exact ⟨Qg,ZO⟩
     ·rw [if_neg c8] at H
      obtain ⟨c8b0,c8b1⟩:=bqN c8;have H':=Am H;clear H;obtain ⟨hcz10_0,hcz10_1,hfz10_0,hfz10_1⟩:=blk2 A.1;have o:0≤(x5_1:Int):=of_decide_eq_true Qc;have q:x5_1<(l0_1.length:Int):=of_decide_eq_true Qc;obtain ⟨X,Y,B,D,E⟩:=at_T47 HR0_1.1 x5_1 o q;cases Y
      replace B:=cB B HB.1;replace D:=cB D HB.1;replace E:=cB E HB.1;obtain ⟨o,q⟩:=et2 o q;have s:0≤(0:Int):=Qe;have u:0<(l1.length:Int):=of_decide_eq_true Qc;obtain ⟨bt,Z,i,j,l⟩:=at_T44 HR1.1 0 s u;cases Z
      have cd:(0<l1.length)=True:=eq_true Qe;(try rw [tn0] at i);(try rw [show 0 * 3=0 from rfl] at i);(try rw [Addr.add_zero'] at i);(try rw [tn0] at j);(try rw [show 0 * 3=0 from rfl] at j);(try rw [Addr.add_zero'] at j);(try rw [tn0] at l);(try rw [show 0 * 3=0 from rfl] at l);(try rw [Addr.add_zero'] at l);replace i:=cB i HB.1;replace j:=cB j HB.1;replace l:=cB l HB.1;obtain ⟨s,u⟩:=et2 s u;have G:0≤(x5_1:Int):=of_decide_eq_true Qc;have I:x5_1<(l0_1.length:Int):=of_decide_eq_true Qc;obtain ⟨b2,b3,ad,aP,a1⟩:=at_T47 HR0_1.1 x5_1 G I;obtain rfl:X=b2:=(by injection b3);replace ad:=cB ad HB.1;replace aP:=cB aP HB.1;replace a1:=cB a1 HB.1;obtain ⟨G,I⟩:=et2 G I;have J:0≤(0:Int):=Qe;have K:0<(l1.length:Int):=of_decide_eq_true Qc;obtain ⟨b4,b5,x,y,z⟩:=at_T44 HR1.1 0 J K;obtain rfl:bt=b4:=(by injection b5);have co:(0<l1.length)=True:=eq_true Qe;(try rw [tn0] at x);(try rw [show 0 * 3=0 from rfl] at x);(try rw [Addr.add_zero'] at x);(try rw [tn0] at y);(try rw [show 0 * 3=0 from rfl] at y);(try rw [Addr.add_zero'] at y);(try rw [tn0] at z);(try rw [show 0 * 3=0 from rfl] at z);(try rw [Addr.add_zero'] at z);replace x:=cB x HB.1;replace y:=cB y HB.1;replace z:=cB z HB.1;obtain ⟨J,K⟩:=et2 J K;go_wp2
      repeat (go_quiet (fail);try go_wp2)
      go_roundg k1
      case measure=>have:=HK1.1;omega
      case rel=>exact ⟨(wrap64 (x5_1+1)),Qf,H',⟨QA⟩,⟨blkp A.1⟩,⟨ZO⟩⟩
    ·rw [if_neg c7] at H
     obtain ⟨c7b0,c7b1⟩:=bqN c7;have H':=Am H;clear H;obtain ⟨hcz11_0,hcz11_1,hfz11_0,hfz11_1⟩:=blk2 A.1;have o:0≤(x5_1:Int):=of_decide_eq_true Qc;have q:x5_1<(l0_1.length:Int):=of_decide_eq_true Qc;obtain ⟨X,Y,B,D,E⟩:=at_T47 HR0_1.1 x5_1 o q;cases Y
     replace B:=cB B HB.1;replace D:=cB D HB.1;replace E:=cB E HB.1;obtain ⟨o,q⟩:=et2 o q;have s:0≤(0:Int):=Qe;have u:0<(l1.length:Int):=of_decide_eq_true Qc;obtain ⟨bt,Z,i,j,l⟩:=at_T44 HR1.1 0 s u;cases Z
     have cd:(0<l1.length)=True:=eq_true Qe;(try rw [tn0] at i);(try rw [show 0 * 3=0 from rfl] at i);(try rw [Addr.add_zero'] at i);(try rw [tn0] at j);(try rw [show 0 * 3=0 from rfl] at j);(try rw [Addr.add_zero'] at j);(try rw [tn0] at l);(try rw [show 0 * 3=0 from rfl] at l);(try rw [Addr.add_zero'] at l);replace i:=cB i HB.1;replace j:=cB j HB.1;replace l:=cB l HB.1;obtain ⟨s,u⟩:=et2 s u;go_wp2
     repeat (go_quiet (fail);try go_wp2)
     go_roundg k1
     case measure=>have:=HK1.1;omega
     case rel=>exact ⟨(wrap64 (x5_1+1)),Qf,H',⟨QA⟩,⟨blkp A.1⟩,⟨ZO⟩⟩
   ·rw [if_neg c4] at H
    have c4b0:=decide_eq_false c4;clear c4;obtain rfl:=oi H;obtain ⟨hcz12_0,hcz12_1,hfz12_0,hfz12_1⟩:=blk2 A.1;go_wp2
    repeat (go_quiet (fail);try go_wp2)
    go_ret;exact ⟨Qg,ZO⟩
def spec_PrgNode.j0:Nat→List (S44)→Bool→List (S69)→List (S47)→Option (Int)
 | 0,_,_,_,_=>none
 | k+1,x1,x17,x826000,x826001=>if x17=true then (some (-1)) else ((spec_l3Node.f k x826000 x826001 x1).bind fun b8=>(some b8))
def spec_PrgNode.f (k:Nat) (l0_0:List (S69)) (l0_1:List (S47)) (l1:List (S44)):Option (Int):=(spec_PrgOk.f k l0_0 l0_1).bind fun a2=>(if a2=true then ((spec_TrmOk.f k l1).bind fun bs=>(if bs=true then ((spec_l3Call.f l1).bind fun Q=>(spec_PrgNode.j0 k l1 (!Q) l0_0 l0_1)) else (spec_PrgNode.j0 k l1 true l0_0 l0_1))) else (spec_PrgNode.j0 k l1 true l0_0 l0_1))
theorem spec_PrgNode.calls (k:Nat) (A0_0:Option Addr) (c0_0:Nat) (l0_0:List (S69)) (A0_1:Option Addr) (c0_1:Nat) (l0_1:List (S47)) (A1:Option Addr) (c1:Nat) (l1:List (S44)) (r:Int) (w:World) (hr0_0:Kd.C k69 w A0_0 l0_0.length l0_0) (hc0_0:l0_0.length≤c0_0) (hr0_1:Kd.C k47 w A0_1 l0_1.length l0_1) (hc0_1:l0_1.length≤c0_1) (hr1:Kd.C k44 w A1 l1.length l1) (hc1:l1.length≤c1) (h:spec_PrgNode.f k l0_0 l0_1 l1=some r) :
  Calls Tryd.prog 12 #[.agg #[.slice A0_0 l0_0.length c0_0,.slice A0_1 l0_1.length c0_1],.slice A1 l1.length c1] w fun e w'=>e = .returned (.int .i64 r)∧Below w.heap.size w w':=by
 have hu37:=Tryd.underlying37;have HR0_0:=Am hr0_0;have HC0_0:=Am hc0_0;clear hr0_0 hc0_0;have HR0_1:=Am hr0_1;have HC0_1:=Am hc0_1;clear hr0_1 hc0_1;have HR1:=Am hr1;have HC1:=Am hc1;clear hr1 hc1;have HB:=Am (Below.refl w.heap.size w);have H:((spec_PrgOk.f k l0_0 l0_1).bind fun a2=>(if a2=true then ((spec_TrmOk.f k l1).bind fun bs=>(if bs=true then ((spec_l3Call.f l1).bind fun Q=>(spec_PrgNode.j0 k l1 (!Q) l0_0 l0_1)) else (spec_PrgNode.j0 k l1 true l0_0 l0_1))) else (spec_PrgNode.j0 k l1 true l0_0 l0_1)))=some r:=h;clear h;have HC3:=Am H;clear H;go_enter Tryd.func12,Tryd.ntmps12;go_upto_region 1 with (first|((with_reducible refine gate_dst (N:=2) rfl ?_);refine box_event ?hg (N:=2) ?hd (cs:=#[.slice A0_0 l0_0.length c0_0,.slice A0_1 l0_1.length c0_1]) (t:=37) ?hr ?_;(case hd=>rfl);(case hg=>rfl);(case hr=>first|(go_simp;done)|(go_simp;rfl));intro ch hg w4 hbox hb;have n_:=as3 (below_step Qd hb) (hbox) ((by rw [hg];exact (below_size Qd):w.heap.size≤ch));clear HB;obtain ⟨HB,g,bO⟩:=n_;clear hb hbox hg))
 (try simp only [Act.put,sA_,sZ_,sS_]);go_cut [17] (fun v17 wc=>∃ (kq:Nat) (bY:Bool),v17 = .bool bY∧Aside0 (spec_PrgNode.j0 kq l1 bY l0_0 l0_1=some r)∧Aside0 (kq≤k)∧Aside0 (wc.heap[ch]?=some (.cells #[(.slice A0_0 l0_0.length c0_0),(.slice A0_1 l0_1.length c0_1)] 37 (0,0)))∧Aside0 (Below w.heap.size w wc))
 case first=>
  have H:=HC3.1;clear HC3;obtain ⟨a2,A5,H⟩:=bnd H;(try dsimp only at H);by_cases c6:a2=true
  ·subst c6
   rw [if_pos rfl] at H;obtain ⟨bs,A7,H⟩:=bnd H;(try dsimp only at H);by_cases c8:bs=true
   ·subst c8
    rw [if_pos rfl] at H;obtain ⟨Q,A9,H⟩:=bnd H;(try dsimp only at H);have H':=Am H;clear H;obtain ⟨hcz10_0,hcz10_1,hfz10_0,hfz10_1⟩:=blk2 g.1
    go_wp2_with (first|(go_at_call 13;(with_reducible refine (spec_PrgOk.calls k _ _ l0_0 _ _ l0_1 true _ ?side1 ?side2 ?side3 ?side4 A5.1).mono ?_);(case side1=>exact Qz);(case side2=>exact HC0_0.1);(case side3=>exact Qr);(case side4=>exact HC0_1.1);rintro e w11 ⟨rfl,hb⟩;have n_:=as2 (blk_below (blkp g.1) hb) (below_step Q5 hb);clear g HB;obtain ⟨g,HB⟩:=n_;clear hb)|(go_at_call 14;(with_reducible refine (spec_TrmOk.calls k _ _ l1 true _ ?side1 ?side2 A7.1).mono ?_);(case side1=>exact ZA);(case side2=>exact HC1.1);rintro e w12 ⟨rfl,hb⟩;have n_:=as2 (blk_below (blkp g.1) hb) (below_step Q5 hb);clear g HB;obtain ⟨g,HB⟩:=n_;clear hb)|(go_at_call 33;(with_reducible refine (spec_l3Call.calls _ _ l1 Q _ ?side1 ?side2 A9.1).mono ?_);(case side1=>exact ZA);(case side2=>exact HC1.1);rintro e w' ⟨rfl,⟨nd,rfl⟩⟩))
    go_meet
    case rel=>exact ⟨_,(!Q),Qf,H',⟨Qt⟩,⟨blkp g.1⟩,⟨Q5⟩⟩
   ·replace c8:=Bool.eq_false_iff.mpr c8
    subst c8;rw [if_neg nft] at H;have H':=Am H;clear H;obtain ⟨hcz13_0,hcz13_1,hfz13_0,hfz13_1⟩:=blk2 g.1
    go_wp2_with (first|(go_at_call 13;(with_reducible refine (spec_PrgOk.calls k _ _ l0_0 _ _ l0_1 true _ ?side1 ?side2 ?side3 ?side4 A5.1).mono ?_);(case side1=>exact Qz);(case side2=>exact HC0_0.1);(case side3=>exact Qr);(case side4=>exact HC0_1.1);rintro e w14 ⟨rfl,hb⟩;have n_:=as2 (blk_below (blkp g.1) hb) (below_step Q5 hb);clear g HB;obtain ⟨g,HB⟩:=n_;clear hb)|(go_at_call 14;(with_reducible refine (spec_TrmOk.calls k _ _ l1 false _ ?side1 ?side2 A7.1).mono ?_);(case side1=>exact ZA);(case side2=>exact HC1.1);rintro e w15 ⟨rfl,hb⟩;have n_:=as2 (blk_below (blkp g.1) hb) (below_step Q5 hb);clear g HB;obtain ⟨g,HB⟩:=n_;clear hb))
    go_meet
    case rel=>exact ⟨_,(true),Qf,H',⟨Qt⟩,⟨blkp g.1⟩,⟨Q5⟩⟩
  ·replace c6:=Bool.eq_false_iff.mpr c6
   subst c6;rw [if_neg nft] at H;have H':=Am H;clear H;obtain ⟨hcz16_0,hcz16_1,hfz16_0,hfz16_1⟩:=blk2 g.1
   go_wp2_with (first|(go_at_call 13;(with_reducible refine (spec_PrgOk.calls k _ _ l0_0 _ _ l0_1 false _ ?side1 ?side2 ?side3 ?side4 A5.1).mono ?_);(case side1=>exact Qz);(case side2=>exact HC0_0.1);(case side3=>exact Qr);(case side4=>exact HC0_1.1);rintro e w17 ⟨rfl,hb⟩;have n_:=as2 (blk_below (blkp g.1) hb) (below_step Q5 hb);clear g HB;obtain ⟨g,HB⟩:=n_;clear hb))
   go_meet
   case rel=>exact ⟨_,(true),Qf,H',⟨Qt⟩,⟨blkp g.1⟩,⟨Q5⟩⟩
 case rest=>
  clear HC3;(try clear c1);obtain ⟨kq,bY,rfl,HA,HJ2,g,HB⟩:=hcut;cases kq with
  | zero=>exact absurd HA.1 (by simp [spec_PrgNode.j0])
  | succ kj2=>
   have H:=HA.1;clear HA;simp only [spec_PrgNode.j0] at H;by_cases c18:bY=true
   ·subst c18
    rw [if_pos rfl] at H;obtain rfl:=oi H;go_wp2;go_ret;exact ⟨Qg,Q5⟩
   ·replace c18:=Bool.eq_false_iff.mpr c18
    subst c18;rw [if_neg nft] at H;obtain ⟨b8,A19,H⟩:=bnd H;(try dsimp only at H);obtain rfl:=oi H;obtain ⟨hcz20_0,hcz20_1,hfz20_0,hfz20_1⟩:=blk2 g.1
    go_wp2_with (first|(go_at_call 34;(with_reducible refine (spec_l3Node.calls kj2 _ _ l0_0 _ _ l0_1 _ _ l1 b8 _ ?side1 ?side2 ?side3 ?side4 ?side5 ?side6 A19.1).mono ?_);(case side1=>exact Qz);(case side2=>exact HC0_0.1);(case side3=>exact Qr);(case side4=>exact HC0_1.1);(case side5=>exact ZA);(case side6=>exact HC1.1);rintro e w21 ⟨rfl,hb⟩;have n_:=as2 (blk_below (blkp g.1) hb) (below_step Q5 hb);clear g HB;obtain ⟨g,HB⟩:=n_;clear hb))
    go_ret;exact ⟨Qg,Q5⟩
def impl_TrmMake.l0:Nat→List (S44)→List (List (S44))→Int→Int→Option ((List (S44)))
 | 0,_,_,_,_=>none
 | k+1,x5,x13,x14,x15=>if x15<x14 then (if 0≤x15 then (if x15<(x13.length:Int) then ((impl_TrmOk.f (rd_L4 x13 x15)).bind fun bZ=>(if bZ=true then (if x5.length+(rd_L4 x13 x15).length<4398046511104 then (impl_TrmMake.l0 k (x5++(rd_L4 x13 x15)) x13 x14 (wrap64 (x15+1))) else (none)) else (some ([]:List (S44))))) else (none)) else (none)) else ((impl_TrmOk.f x5).bind fun b0=>(if b0=true then (some x5) else (some ([]:List (S44)))))
def impl_TrmMake.f (k:Nat) (a0:ByteArray) (l1:List (List (S44))):Option ((List (S44))):=impl_TrmMake.l0 k (([(⟨3,(l1.length:Int),a0⟩:S44)]:List (S44))) l1 (l1.length:Int) 0
theorem impl_TrmMake.calls (k:Nat) (a0:ByteArray) (A1:Option Addr) (c1:Nat) (l1:List (List (S44))) (r:List (S44)) (w:World) (hr1:Kd.C (Kd.slice 44 k44) w A1 l1.length l1) (hc1:l1.length≤c1) (h:impl_TrmMake.f k a0 l1=some r) :
  Calls Tryd.prog 16 #[.string a0,.slice A1 l1.length c1] w fun e w'=>∃ v0_:Value,e = .returned (v0_)∧Kd.R k44 44 w' w.heap.size (fun _=>True) v0_ r∧Below w.heap.size w w':=by
 have hu44:=Tryd.underlying44;have HR1:=Am hr1;have HC1:=Am hc1;clear hr1 hc1;have HB:=Am (Below.refl w.heap.size w);have H:(impl_TrmMake.l0 k (([(⟨3,(l1.length:Int),a0⟩:S44)]:List (S44))) l1 (l1.length:Int) 0)=some r:=h;clear h;obtain ⟨cr,b9⟩:∃ y_:List (S44),y_=(([(⟨3,(l1.length:Int),a0⟩:S44)]:List (S44))):=⟨_,rfl⟩;(first|rw [← b9] at H|skip);try dsimp only [Option.bind_some] at H
 have ci:=Am b9;clear b9;have H':=Am H;clear H;go_enter Tryd.func16,Tryd.ntmps16
 go_wp2_with (first|((with_reducible refine gate_dst (N:=12) rfl ?_);refine R_lit k44 _ 44 ?hg (N:=12) ?hd (xs:=([(⟨3,(l1.length:Int),a0⟩:S44)]:List (S44))) (inner:=[.int .i64 3,.int .i64 (l1.length:Int),.string a0]) (ok:=fun _=>True) (okp:=fun _=>True) ?hr ?hp (fun _ hk=>hk) trivial (Below.refl _ _) (Nat.le_refl _) Qj ?_;(case hd=>rfl);(case hg=>rfl);(case hr=>first|(go_simp;done)|(go_simp;rfl));(case hp=>exact (Reps.c3 (show Kd.M k44 _ _ _ (⟨3,(l1.length:Int),a0⟩:S44) [.int .i64 3,.int .i64 (l1.length:Int),.string a0] from (k44_mkM _ _ _ (⟨3,(l1.length:Int),a0⟩:S44) )) (Reps.none _ _)));intro cC w3 ho4 hb hg_ hnew_;clear hg_ hnew_;(first|rw [← ci.1] at ho4|(simp only [Int.reduceToNat] at ho4;rw [← ci.1] at ho4));have n_:=as2 (R_lower ho4 (below_size Qd)) (below_step Qd hb);clear HB;obtain ⟨ct,HB⟩:=n_;clear hb ho4))
 go_loopg [5,15] k (fun kq v5 v15 w'=>∃ (x5_1:List (S44)) (x15_1:Int),v15 = .int .i64 x15_1∧Aside0 (impl_TrmMake.l0 kq x5_1 l1 (l1.length:Int) x15_1=some r)∧Aside0 (kq≤k)∧Aside0 (Kd.R k44 44 w' w.heap.size (fun _=>True) v5 x5_1)∧Aside0 (Below w.heap.size w w'))
 case atStart=>exact ⟨(cr),(0),Qf,H',⟨Nat.le_refl _⟩,⟨Rp ct.1⟩,⟨Qd⟩⟩
 case round=>
  clear H';(try clear c1);obtain ⟨x5_1,x15_1,rfl,HA,HK1,HO_5,HB⟩:=hrel;cases gk with
  | zero=>exact absurd HA.1 (by simp [impl_TrmMake.l0])
  | succ k1=>
   have H:=HA.1;clear HA;simp only [impl_TrmMake.l0] at H;by_cases c5:x15_1<(l1.length:Int)
   ·rw [if_pos c5] at H
    have c5b0:=decide_eq_true c5;clear c5;obtain ⟨c6,H⟩:=ifS H;have c6b0:=decide_eq_true c6;clear c6;obtain ⟨c7,H⟩:=ifS H;have c7b0:=decide_eq_true c7;clear c7;obtain ⟨bZ,A8,H⟩:=bnd H;(try dsimp only at H);have cj:=Am H;clear H;have ca:0≤(x15_1:Int):=of_decide_eq_true Qc;have cb:x15_1<(l1.length:Int):=of_decide_eq_true Qc;obtain ⟨cD,cE,cF,cv,ck,cl,cm⟩:=at_L4 HR1.1 x15_1 ca cb;cases cv
    replace ck:=cB ck HB.1;have bm:=Am cm;have cw:=Am cl;clear cm cl;obtain ⟨ca,cb⟩:=et2 ca cb;go_upto_if 21 with (first|(go_at_call 39;(with_reducible refine (impl_TrmOk.calls _ _ (rd_L4 l1 x15_1) bZ _ ?side1 ?side2 A8.1).mono ?_);(case side1=>exact YP);(case side2=>exact cw.1);rintro e w10 ⟨rfl,hb⟩;have n_:=as2 (R_below (Rp HO_5.1) hb) (below_step Qd hb);clear HO_5 HB;obtain ⟨HO_5,HB⟩:=n_;clear hb))
    (try simp only [Act.put,sA_,sZ_,sS_]);have H:=cj.1;clear cj;by_cases c11:bZ=true
    ·subst c11
     rw [if_pos rfl] at H;obtain ⟨c12,H⟩:=ifS H;have cx:=Am c12;clear c12;obtain ⟨cy,cc⟩:∃ y_:List (S44),y_=(x5_1++(rd_L4 l1 x15_1)):=⟨_,rfl⟩;(first|rw [← cc] at H|skip);try dsimp only [Option.bind_some] at H
     have cz:=Am cc;clear cc;have H':=Am H;clear H
     go_wp2_with (first|((with_reducible refine gate_builtin (b:=.append) (xs:=#[.tmp 22,.tmp 23]) rfl ?_);at_builtin;refine R_append_rows k44 (w0:=w) w.heap.size rfl (.tmp 22) (.tmp 23) 27 44 (.agg #[(.int .i64 0),(.int .i64 0),(.string ⟨#[]⟩)]) 32 rfl Tryd.underlying27 info44 rfl Qa Qe u5 x5_1 (rd_L4 l1 x15_1) _ _ _ (fun _=>True) (fun _=>False) rfl rfl ?aO ?aR (fun _ _ h=>h) (fun _ h=>h.elim) ?aF ?aB ?aS ?aL ?_;(case aR=>exact YP);(case aB=>exact Qd);(case aF=>exact (fun _ _=>trivial));(case aO=>exact (Rp HO_5.1));(case aS=>exact (below_size Qd));(case aL=>have:=cx.1;omega);intro cG w13 ho hb hg hat;rw [← cz.1] at ho;have n_:=as2 (hb) (ho);clear HB HO_5;obtain ⟨HB,cA⟩:=n_;clear ho hb hg hat))
     go_roundg k1
     case measure=>have:=HK1.1;omega
     case rel=>exact ⟨(cy),(wrap64 (x15_1+1)),Qf,H',⟨QA⟩,⟨Rp cA.1⟩,⟨Qd⟩⟩
    ·replace c11:=Bool.eq_false_iff.mpr c11
     subst c11;rw [if_neg nft] at H;obtain rfl:=oi H;go_wp2;go_ret;exact ⟨_,Qg,QM,Qd⟩
   ·rw [if_neg c5] at H
    have c5b0:=decide_eq_false c5;clear c5;obtain ⟨b0,A14,H⟩:=bnd H;(try dsimp only at H);have cn:=Am H;clear H;obtain ⟨Ao16,co16,eo16⟩:=R_slice HO_5.1;subst eo16;go_upto_if 28 with (first|(go_at_call 39;(with_reducible refine (impl_TrmOk.calls _ _ x5_1 b0 _ ?side1 ?side2 A14.1).mono ?_);(case side1=>exact Yn);(case side2=>exact (R_reads' HO_5.1).2.1);rintro e w17 ⟨rfl,hb⟩;have n_:=as2 (R_below (Rp HO_5.1) hb) (below_step Qd hb);clear HO_5 HB;obtain ⟨HO_5,HB⟩:=n_;clear hb))
    (try simp only [Act.put,sA_,sZ_,sS_]);have H:=cn.1;clear cn;by_cases c18:b0=true
    ·subst c18
     rw [if_pos rfl] at H;obtain rfl:=oi H;go_wp2;go_ret;exact ⟨_,Qg,Yo,Qd⟩
    ·replace c18:=Bool.eq_false_iff.mpr c18
     subst c18;rw [if_neg nft] at H;obtain rfl:=oi H;go_wp2;go_ret;exact ⟨_,Qg,QM,Qd⟩
end Go.Proofs.YtlhniagacegbeaaDoor.P
