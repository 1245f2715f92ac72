/- Contracts of functions of the program: each as a Lean function, and that its call does what that says; printed by cprint.py (this session) over print.py of the kit. Conditions: the hypotheses of each theorem. -/
import Derived.Test.YtlhniagacegbeaaDoorVZ
import Derived.Test.YtlhniagacegbeaaDoorP0
import Derived.Test.YtlhniagacegbeaaDoorP1
namespace Go.Proofs.YtlhniagacegbeaaDoor.P
open Go.RowKit Go.Proofs.YtlhniagacegbeaaDoorW.PrintWords Go.Proofs.YtlhniagacegbeaaDoorW.PrintWords.Kd Go.Proofs.YtlhniagacegbeaaDoorW.PrintLast Go.Proofs.YtlhniagacegbeaaDoorW.PrintMore Go.Proofs.YtlhniagacegbeaaDoorW.PrintMore.Kd
attribute [local go_sem] max2_int min2_int max_two min_two max_three min_three max_four min_four   -- for this text's walks alone
set_option linter.unusedVariables false
set_option maxHeartbeats 8000000
set_option maxRecDepth 100000
set_option linter.unusedSimpArgs false
mutual
def spec_PrgOk.j0:Nat→Bool→List (S69)→List (S47)→Option (Bool)
 | 0,_,_,_=>none
 | k+1,x15,x139000,x139001=>if x15=true then (some false) else (spec_PrgOk.l0 k 0 x139000 x139001)
def spec_PrgOk.l0:Nat→Int→List (S69)→List (S47)→Option (Bool)
 | 0,_,_,_=>none
 | k+1,x3,x139000,x139001=>if x3<(x139000.length:Int) then (if 0≤x3 then ((spec_l3Clause.f k ((rd_T69 x139000 x3).f0) ((rd_T69 x139000 x3).f1)).bind fun t140=>(if t140=true then (spec_PrgOk.l0 k (wrap64 (x3+1)) x139000 x139001) else (some false))) else (none)) else (spec_PrgOk.l1 k 0 x139000 x139001)
def spec_PrgOk.l1:Nat→Int→List (S69)→List (S47)→Option (Bool)
 | 0,_,_,_=>none
 | k+1,x4,x139000,x139001=>if x4<(x139001.length:Int) then (if 0≤x4 then ((spec_l3Place.f k ((rd_T47 x139001 x4).f0) ((rd_T47 x139001 x4).f1) ((rd_T47 x139001 x4).f2)).bind fun t142=>(if t142=true then (spec_PrgOk.l2 k x4 0 x139000 x139001) else (some false))) else (none)) else (some true)
def spec_PrgOk.l2:Nat→Int→Int→List (S69)→List (S47)→Option (Bool)
 | 0,_,_,_,_=>none
 | k+1,x4,x5,x139000,x139001=>if x5<x4 then (if 0≤x5 then (if x5<(x139001.length:Int) then (if 0≤x4 then (if x4<(x139001.length:Int) then (if ((rd_T47 x139001 x5).f0).toList=((rd_T47 x139001 x4).f0).toList then (if ((rd_T47 x139001 x5).f1)=((rd_T47 x139001 x4).f1) then (some false) else (spec_PrgOk.l2 k x4 (wrap64 (x5+1)) x139000 x139001)) else (spec_PrgOk.l2 k x4 (wrap64 (x5+1)) x139000 x139001)) else (none)) else (none)) else (none)) else (none)) else (spec_PrgOk.l1 k (wrap64 (x4+1)) x139000 x139001)
end
def spec_PrgOk.f (k:Nat) (l0_0:List (S69)) (l0_1:List (S47)):Option (Bool):=if (l0_0.length:Int) > 12 then (spec_PrgOk.j0 k true l0_0 l0_1) else (spec_PrgOk.j0 k (decide ((l0_1.length:Int) > 6)) l0_0 l0_1)
theorem spec_PrgOk.calls (k:Nat) (A0_0:Option Addr) (c0_0:Nat) (l0_0:List (S69)) (A0_1:Option Addr) (c0_1:Nat) (l0_1:List (S47)) (r:Bool) (w:World) (hr0_0:Kd.C k69 w A0_0 l0_0.length l0_0) (hc0_0:l0_0.length≤c0_0) (hr0_1:Kd.C k47 w A0_1 l0_1.length l0_1) (hc0_1:l0_1.length≤c0_1) (h:spec_PrgOk.f k l0_0 l0_1=some r) :
  Calls Tryd.prog 13 #[.agg #[.slice A0_0 l0_0.length c0_0,.slice A0_1 l0_1.length c0_1]] w fun e w'=>e = .returned (.bool r)∧Below w.heap.size w w':=by
 have hu37:=Tryd.underlying37;have hu69:=Tryd.underlying69;have hu47:=Tryd.underlying47;have HR0_0:=Am hr0_0;have HC0_0:=Am hc0_0;clear hr0_0 hc0_0;have HR0_1:=Am hr0_1;have HC0_1:=Am hc0_1;clear hr0_1 hc0_1;have HB:=Am (Below.refl w.heap.size w);have H:(if (l0_0.length:Int) > 12 then (spec_PrgOk.j0 k true l0_0 l0_1) else (spec_PrgOk.j0 k (decide ((l0_1.length:Int) > 6)) l0_0 l0_1))=some r:=h;clear h;have HC2:=Am H;clear H;go_enter Tryd.func13,Tryd.ntmps13;go_upto_region 1 with (first|((with_reducible refine gate_dst (N:=1) rfl ?_);(try (refine gate_guard (by rfl) ?_;dsimp only));refine box_event ?hg (N:=1) ?hd (cs:=#[.slice A0_0 l0_0.length c0_0,.slice A0_1 l0_1.length c0_1]) (t:=37) ?hr ?_;(case hd=>rfl);(case hg=>rfl);(case hr=>first|(go_simp;done)|(go_simp;rfl));intro gb138 hg w3 hbox hb;have n_:=as3 (below_step Qd hb) (hbox) ((by rw [hg];exact (below_size Qd):w.heap.size≤gb138));clear HB;obtain ⟨HB,BK138,GE138⟩:=n_;clear hb hbox hg))
 repeat (go_quiet (first|((with_reducible refine gate_dst (N:=1) rfl ?_);(try (refine gate_guard (by rfl) ?_;dsimp only));refine box_event ?hg (N:=1) ?hd (cs:=#[.slice A0_0 l0_0.length c0_0,.slice A0_1 l0_1.length c0_1]) (t:=37) ?hr ?_;(case hd=>rfl);(case hg=>rfl);(case hr=>first|(go_simp;done)|(go_simp;rfl));intro gb138 hg w3 hbox hb;have n_:=as3 (below_step Qd hb) (hbox) ((by rw [hg];exact (below_size Qd):w.heap.size≤gb138));clear HB;obtain ⟨HB,BK138,GE138⟩:=n_;clear hb hbox hg));go_upto_region 1 with (first|((with_reducible refine gate_dst (N:=1) rfl ?_);(try (refine gate_guard (by rfl) ?_;dsimp only));refine box_event ?hg (N:=1) ?hd (cs:=#[.slice A0_0 l0_0.length c0_0,.slice A0_1 l0_1.length c0_1]) (t:=37) ?hr ?_;(case hd=>rfl);(case hg=>rfl);(case hr=>first|(go_simp;done)|(go_simp;rfl));intro gb138 hg w3 hbox hb;have n_:=as3 (below_step Qd hb) (hbox) ((by rw [hg];exact (below_size Qd):w.heap.size≤gb138));clear HB;obtain ⟨HB,BK138,GE138⟩:=n_;clear hb hbox hg)))
 (try simp only [Act.put,sA_,sZ_,sS_]);go_cut [15] (fun v15 wc=>∃ (kq:Nat) (x15_1:Bool),v15 = .bool x15_1∧Aside0 (spec_PrgOk.j0 kq x15_1 l0_0 l0_1=some r)∧Aside0 (kq≤k)∧Aside0 (wc.heap[gb138]?=some (.cells #[(.slice A0_0 l0_0.length c0_0),(.slice A0_1 l0_1.length c0_1)] 37 (0,0)))∧Aside0 (Below w.heap.size w wc))
 case first=>
  have H:=HC2.1;clear HC2;by_cases c4:(l0_0.length:Int) > 12
  ·rw [if_pos c4] at H
   have c4b0:=decide_eq_true c4;have c4b1:decide (12<l0_0.length)=true:=decide_eq_true Qe;clear c4;(first|rw [c4b0]|rw [c4b1]|(simp only [i64_w,i32_w];rw [c4b0])|skip);have H':=Am H;clear H;obtain ⟨hcz5_0,hcz5_1,hfz5_0,hfz5_1⟩:=blk2 BK138.1;go_wp2
   repeat (go_quiet (fail);try go_wp2)
   go_meet
   case rel=>exact ⟨_,(true),Qf,H',⟨Qt⟩,⟨blkp BK138.1⟩,⟨QF⟩⟩
  ·rw [if_neg c4] at H
   have c4b0:=decide_eq_false c4;have c4b1:decide (12<l0_0.length)=false:=decide_eq_false Qe;clear c4;(first|rw [c4b0]|rw [c4b1]|(simp only [i64_w,i32_w];rw [c4b0])|skip);have H':=Am H;clear H;obtain ⟨hcz6_0,hcz6_1,hfz6_0,hfz6_1⟩:=blk2 BK138.1;go_wp2
   repeat (go_quiet (fail);try go_wp2)
   go_meet
   case rel=>exact ⟨_,(decide ((l0_1.length:Int) > 6)),Qf,H',⟨Qt⟩,⟨blkp BK138.1⟩,⟨QF⟩⟩
 case rest=>
  clear HC2;obtain ⟨kq,x15_1,rfl,HA,HJ1,BK138,HB⟩:=hcut;cases kq with
  | zero=>exact absurd HA.1 (by simp [spec_PrgOk.j0])
  | succ kj1=>
   have H:=HA.1;clear HA;simp only [spec_PrgOk.j0] at H;by_cases c7:x15_1=true
   ·subst c7
    rw [if_pos rfl] at H;obtain rfl:=oi H;go_wp2
    repeat (go_quiet (fail);try go_wp2)
    go_ret;exact ⟨Qg,QF⟩
   ·replace c7:=Bool.eq_false_iff.mpr c7
    subst c7;rw [if_neg nft] at H;have H':=Am H;clear H;go_wp2
    repeat (go_quiet (fail);try go_wp2)
    go_loopg [3] kj1 (fun kq v3 w'=>∃ (x3_2:Int),v3 = .int .i64 x3_2∧Aside0 (spec_PrgOk.l0 kq x3_2 l0_0 l0_1=some r)∧Aside0 (kq≤kj1)∧Aside0 (w'.heap[gb138]?=some (.cells #[(.slice A0_0 l0_0.length c0_0),(.slice A0_1 l0_1.length c0_1)] 37 (0,0)))∧Aside0 (Below w.heap.size w w'))
    case atStart=>exact ⟨(0),Qf,H',⟨Nat.le_refl _⟩,⟨blkp BK138.1⟩,⟨QF⟩⟩
    case round=>
     clear H';(try clear c7);obtain ⟨x3_2,rfl,HA,HK2,BK138,HB⟩:=hrel;cases gk with
     | zero=>exact absurd HA.1 (by simp [spec_PrgOk.l0])
     | succ k2=>
      have H:=HA.1;clear HA;simp only [spec_PrgOk.l0] at H;by_cases c8:x3_2<(l0_0.length:Int)
      ·rw [if_pos c8] at H
       have c8b0:=decide_eq_true c8;clear c8;obtain ⟨c9,H⟩:=ifS H;have c9b0:=decide_eq_true c9;clear c9;obtain ⟨t140,A10,H⟩:=bnd H;(try dsimp only at H);have HC11:=Am H;clear H;obtain ⟨hcz12_0,hcz12_1,hfz12_0,hfz12_1⟩:=blk2 BK138.1;have p139:0≤(x3_2:Int):=of_decide_eq_true Qc;have q139:x3_2<(l0_0.length:Int):=of_decide_eq_true Qc;obtain ⟨ad139,A139_0,c139_0,A139_1,c139_1,e139,hx139_0,hx139_1,hl139_0,hi139_0,hl139_1,hi139_1⟩:=at_T69 HR0_0.1 x3_2 p139 q139;cases e139
       replace hx139_0:=cB hx139_0 HB.1;replace hx139_1:=cB hx139_1 HB.1;have HR139_0:=Am hi139_0;have HC139_0:=Am hl139_0;clear hi139_0 hl139_0;have HR139_1:=Am hi139_1;have HC139_1:=Am hl139_1;clear hi139_1 hl139_1;obtain ⟨p139,q139⟩:=et2 p139 q139;go_upto_if 29 with (first|(go_at_call 35;(with_reducible refine (spec_l3Clause.calls k2 _ _ ((rd_T69 l0_0 x3_2).f0) _ _ ((rd_T69 l0_0 x3_2).f1) t140 _ ?side1 ?side2 ?side3 ?side4 A10.1).mono ?_);(case side1=>exact Yd);(case side2=>exact HC139_0.1);(case side3=>exact Ye);(case side4=>exact HC139_1.1);rintro e w13 ⟨rfl,hb⟩;have n_:=as2 (blk_below (blkp BK138.1) hb) (below_step QF hb);clear BK138 HB;obtain ⟨BK138,HB⟩:=n_;clear hb))
       repeat (go_quiet (first|(go_at_call 35;(with_reducible refine (spec_l3Clause.calls k2 _ _ ((rd_T69 l0_0 x3_2).f0) _ _ ((rd_T69 l0_0 x3_2).f1) t140 _ ?side1 ?side2 ?side3 ?side4 A10.1).mono ?_);(case side1=>exact Yd);(case side2=>exact HC139_0.1);(case side3=>exact Ye);(case side4=>exact HC139_1.1);rintro e w13 ⟨rfl,hb⟩;have n_:=as2 (blk_below (blkp BK138.1) hb) (below_step QF hb);clear BK138 HB;obtain ⟨BK138,HB⟩:=n_;clear hb));go_upto_if 29 with (first|(go_at_call 35;(with_reducible refine (spec_l3Clause.calls k2 _ _ ((rd_T69 l0_0 x3_2).f0) _ _ ((rd_T69 l0_0 x3_2).f1) t140 _ ?side1 ?side2 ?side3 ?side4 A10.1).mono ?_);(case side1=>exact Yd);(case side2=>exact HC139_0.1);(case side3=>exact Ye);(case side4=>exact HC139_1.1);rintro e w13 ⟨rfl,hb⟩;have n_:=as2 (blk_below (blkp BK138.1) hb) (below_step QF hb);clear BK138 HB;obtain ⟨BK138,HB⟩:=n_;clear hb)))
       (try simp only [Act.put,sA_,sZ_,sS_]);have H:=HC11.1;clear HC11;by_cases c14:t140=true
       ·subst c14
        rw [if_pos rfl] at H;have H':=Am H;clear H;go_wp2
        repeat (go_quiet (fail);try go_wp2)
        go_roundg k2
        case measure=>have:=HJ1.1;have:=HK2.1;omega
        case rel=>exact ⟨(wrap64 (x3_2+1)),Qf,H',⟨Zm⟩,⟨blkp BK138.1⟩,⟨QF⟩⟩
       ·replace c14:=Bool.eq_false_iff.mpr c14
        subst c14;rw [if_neg nft] at H;obtain rfl:=oi H;go_wp2
        repeat (go_quiet (fail);try go_wp2)
        go_ret;exact ⟨Qg,QF⟩
      ·rw [if_neg c8] at H
       have c8b0:=decide_eq_false c8;clear c8;have H':=Am H;clear H;obtain ⟨hcz15_0,hcz15_1,hfz15_0,hfz15_1⟩:=blk2 BK138.1;go_wp2
       repeat (go_quiet (fail);try go_wp2)
       go_loopg [4] k2 (fun kq v4 w'=>∃ (x4_3:Int),v4 = .int .i64 x4_3∧Aside0 (spec_PrgOk.l1 kq x4_3 l0_0 l0_1=some r)∧Aside0 (kq≤k2)∧Aside0 (w'.heap[gb138]?=some (.cells #[(.slice A0_0 l0_0.length c0_0),(.slice A0_1 l0_1.length c0_1)] 37 (0,0)))∧Aside0 (Below w.heap.size w w'))
       case atStart=>exact ⟨(0),Qf,H',⟨Nat.le_refl _⟩,⟨blkp BK138.1⟩,⟨QF⟩⟩
       case round=>
        clear H';(try clear c7);(try clear c8);(try clear c8b0);(try clear hcz15_0);(try clear hcz15_1);(try clear hfz15_0);(try clear hfz15_1);obtain ⟨x4_3,rfl,HA,HK3,BK138,HB⟩:=hrel;cases gk with
        | zero=>exact absurd HA.1 (by simp [spec_PrgOk.l1])
        | succ k3=>
         have H:=HA.1;clear HA;simp only [spec_PrgOk.l1] at H;by_cases c16:x4_3<(l0_1.length:Int)
         ·rw [if_pos c16] at H
          have c16b0:=decide_eq_true c16;clear c16;obtain ⟨c17,H⟩:=ifS H;have c17b0:=decide_eq_true c17;clear c17;obtain ⟨t142,x,H⟩:=bnd H;(try dsimp only at H);have I:=Am H;clear H;obtain ⟨hcz20_0,hcz20_1,hfz20_0,hfz20_1⟩:=blk2 BK138.1;have p141:0≤(x4_3:Int):=of_decide_eq_true Qc;have q141:x4_3<(l0_1.length:Int):=of_decide_eq_true Qc;obtain ⟨ad141,e141,hx141_0,hx141_1,hx141_2⟩:=at_T47 HR0_1.1 x4_3 p141 q141;cases e141
          replace hx141_0:=cB hx141_0 HB.1;replace hx141_1:=cB hx141_1 HB.1;replace hx141_2:=cB hx141_2 HB.1;obtain ⟨p141,q141⟩:=et2 p141 q141;go_upto_if 43 with (first|(go_at_call 36;(with_reducible refine (spec_l3Place.calls k3 ((rd_T47 l0_1 x4_3).f0) ((rd_T47 l0_1 x4_3).f1) ((rd_T47 l0_1 x4_3).f2) t142 _ x.1).mono ?_);rintro e w21 ⟨rfl,hb⟩;have n_:=as2 (blk_below (blkp BK138.1) hb) (below_step QF hb);clear BK138 HB;obtain ⟨BK138,HB⟩:=n_;clear hb))
          repeat (go_quiet (first|(go_at_call 36;(with_reducible refine (spec_l3Place.calls k3 ((rd_T47 l0_1 x4_3).f0) ((rd_T47 l0_1 x4_3).f1) ((rd_T47 l0_1 x4_3).f2) t142 _ x.1).mono ?_);rintro e w21 ⟨rfl,hb⟩;have n_:=as2 (blk_below (blkp BK138.1) hb) (below_step QF hb);clear BK138 HB;obtain ⟨BK138,HB⟩:=n_;clear hb));go_upto_if 43 with (first|(go_at_call 36;(with_reducible refine (spec_l3Place.calls k3 ((rd_T47 l0_1 x4_3).f0) ((rd_T47 l0_1 x4_3).f1) ((rd_T47 l0_1 x4_3).f2) t142 _ x.1).mono ?_);rintro e w21 ⟨rfl,hb⟩;have n_:=as2 (blk_below (blkp BK138.1) hb) (below_step QF hb);clear BK138 HB;obtain ⟨BK138,HB⟩:=n_;clear hb)))
          (try simp only [Act.put,sA_,sZ_,sS_]);have H:=I.1;clear I;by_cases c22:t142=true
          ·subst c22
           rw [if_pos rfl] at H;have H':=Am H;clear H;go_wp2
           repeat (go_quiet (fail);try go_wp2)
           go_loopg [5] k3 (fun kq v5 w'=>∃ (x5_4:Int),v5 = .int .i64 x5_4∧Aside0 (spec_PrgOk.l2 kq x4_3 x5_4 l0_0 l0_1=some r)∧Aside0 (kq≤k3)∧Aside0 (w'.heap[gb138]?=some (.cells #[(.slice A0_0 l0_0.length c0_0),(.slice (some ad141) l0_1.length c0_1)] 37 (0,0)))∧Aside0 (Below w.heap.size w w'))
           case atStart=>exact ⟨(0),Qf,H',⟨Nat.le_refl _⟩,⟨blkp BK138.1⟩,⟨QF⟩⟩
           case round=>
            clear H';(try clear c7);(try clear c8);(try clear c8b0);(try clear c16);(try clear c16b0);(try clear c17);(try clear c17b0);(try clear c22);(try clear hcz15_0);(try clear hcz15_1);(try clear hcz20_0);(try clear hcz20_1);(try clear hfz15_0);(try clear hfz15_1);(try clear hfz20_0);(try clear hfz20_1);(try clear hx141_0);(try clear hx141_1);(try clear hx141_2);(try clear p141);(try clear q141);obtain ⟨x5_4,rfl,HA,HK4,BK138,HB⟩:=hrel;cases gk with
            | zero=>exact absurd HA.1 (by simp [spec_PrgOk.l2])
            | succ k4=>
             have H:=HA.1;clear HA;simp only [spec_PrgOk.l2] at H;by_cases c23:x5_4<x4_3
             ·rw [if_pos c23] at H
              have c23b0:=decide_eq_true c23;clear c23;(first|rw [c23b0]|rw [c23b1]|(simp only [i64_w,i32_w];rw [c23b0])|skip);obtain ⟨c24,H⟩:=ifS H;have c24b0:=decide_eq_true c24;clear c24;obtain ⟨c25,H⟩:=ifS H;have c25b0:=decide_eq_true c25;clear c25;obtain ⟨c26,H⟩:=ifS H;have c26b0:=decide_eq_true c26;clear c26;obtain ⟨c27,H⟩:=ifS H;have c27b0:=decide_eq_true c27;clear c27;by_cases c28:((rd_T47 l0_1 x5_4).f0).toList=((rd_T47 l0_1 x4_3).f0).toList
              ·rw [if_pos c28] at H
               obtain ⟨c28b0,c28b1⟩:=bqP c28;clear c28;by_cases c29:((rd_T47 l0_1 x5_4).f1)=((rd_T47 l0_1 x4_3).f1)
               ·rw [if_pos c29] at H
                obtain ⟨c29b0,c29b1⟩:=bqP c29;clear c29;obtain rfl:=oi H;obtain ⟨hcz30_0,hcz30_1,hfz30_0,hfz30_1⟩:=blk2 BK138.1;have p143:0≤(x5_4:Int):=of_decide_eq_true Qc;have q143:x5_4<(l0_1.length:Int):=of_decide_eq_true Qc;obtain ⟨ad143,e143,hx143_0,hx143_1,hx143_2⟩:=at_T47 HR0_1.1 x5_4 p143 q143;obtain rfl:ad141=ad143:=(by injection e143);replace hx143_0:=cB hx143_0 HB.1;replace hx143_1:=cB hx143_1 HB.1;replace hx143_2:=cB hx143_2 HB.1;obtain ⟨p143,q143⟩:=et2 p143 q143;have p144:0≤(x4_3:Int):=of_decide_eq_true Qc;have q144:x4_3<(l0_1.length:Int):=of_decide_eq_true Qc;obtain ⟨ad144,e144,hx144_0,hx144_1,hx144_2⟩:=at_T47 HR0_1.1 x4_3 p144 q144;obtain rfl:ad141=ad144:=(by injection e144);replace hx144_0:=cB hx144_0 HB.1;replace hx144_1:=cB hx144_1 HB.1;replace hx144_2:=cB hx144_2 HB.1;obtain ⟨p144,q144⟩:=et2 p144 q144;have p145:0≤(x5_4:Int):=of_decide_eq_true Qc;have q145:x5_4<(l0_1.length:Int):=of_decide_eq_true Qc;obtain ⟨ad145,e145,hx145_0,hx145_1,hx145_2⟩:=at_T47 HR0_1.1 x5_4 p145 q145;obtain rfl:ad141=ad145:=(by injection e145);replace hx145_0:=cB hx145_0 HB.1;replace hx145_1:=cB hx145_1 HB.1;replace hx145_2:=cB hx145_2 HB.1;obtain ⟨p145,q145⟩:=et2 p145 q145;have p146:0≤(x4_3:Int):=of_decide_eq_true Qc;have q146:x4_3<(l0_1.length:Int):=of_decide_eq_true Qc;obtain ⟨ad146,e146,hx146_0,hx146_1,hx146_2⟩:=at_T47 HR0_1.1 x4_3 p146 q146;obtain rfl:ad141=ad146:=(by injection e146);replace hx146_0:=cB hx146_0 HB.1;replace hx146_1:=cB hx146_1 HB.1;replace hx146_2:=cB hx146_2 HB.1;obtain ⟨p146,q146⟩:=et2 p146 q146;go_wp2
                repeat (go_quiet (fail);try go_wp2)
                go_ret;exact ⟨Qg,QF⟩
               ·rw [if_neg c29] at H
                obtain ⟨c29b0,c29b1⟩:=bqN c29;have H':=Am H;clear H;obtain ⟨hcz31_0,hcz31_1,hfz31_0,hfz31_1⟩:=blk2 BK138.1;have p143:0≤(x5_4:Int):=of_decide_eq_true Qc;have q143:x5_4<(l0_1.length:Int):=of_decide_eq_true Qc;obtain ⟨ad143,e143,hx143_0,hx143_1,hx143_2⟩:=at_T47 HR0_1.1 x5_4 p143 q143;obtain rfl:ad141=ad143:=(by injection e143);replace hx143_0:=cB hx143_0 HB.1;replace hx143_1:=cB hx143_1 HB.1;replace hx143_2:=cB hx143_2 HB.1;obtain ⟨p143,q143⟩:=et2 p143 q143;have p144:0≤(x4_3:Int):=of_decide_eq_true Qc;have q144:x4_3<(l0_1.length:Int):=of_decide_eq_true Qc;obtain ⟨ad144,e144,hx144_0,hx144_1,hx144_2⟩:=at_T47 HR0_1.1 x4_3 p144 q144;obtain rfl:ad141=ad144:=(by injection e144);replace hx144_0:=cB hx144_0 HB.1;replace hx144_1:=cB hx144_1 HB.1;replace hx144_2:=cB hx144_2 HB.1;obtain ⟨p144,q144⟩:=et2 p144 q144;have p145:0≤(x5_4:Int):=of_decide_eq_true Qc;have q145:x5_4<(l0_1.length:Int):=of_decide_eq_true Qc;obtain ⟨ad145,e145,hx145_0,hx145_1,hx145_2⟩:=at_T47 HR0_1.1 x5_4 p145 q145;obtain rfl:ad141=ad145:=(by injection e145);replace hx145_0:=cB hx145_0 HB.1;replace hx145_1:=cB hx145_1 HB.1;replace hx145_2:=cB hx145_2 HB.1;obtain ⟨p145,q145⟩:=et2 p145 q145;have p146:0≤(x4_3:Int):=of_decide_eq_true Qc;have q146:x4_3<(l0_1.length:Int):=of_decide_eq_true Qc;obtain ⟨ad146,e146,hx146_0,hx146_1,hx146_2⟩:=at_T47 HR0_1.1 x4_3 p146 q146;obtain rfl:ad141=ad146:=(by injection e146);replace hx146_0:=cB hx146_0 HB.1;replace hx146_1:=cB hx146_1 HB.1;replace hx146_2:=cB hx146_2 HB.1;obtain ⟨p146,q146⟩:=et2 p146 q146;go_wp2
                repeat (go_quiet (fail);try go_wp2)
                go_roundg k4
                case measure=>have:=HJ1.1;have:=HK2.1;have:=HK3.1;have:=HK4.1;omega
                case rel=>exact ⟨(wrap64 (x5_4+1)),Qf,H',⟨Yf⟩,⟨blkp BK138.1⟩,⟨QF⟩⟩
              ·rw [if_neg c28] at H
               obtain ⟨c28b0,c28b1⟩:=bqN c28;have H':=Am H;clear H;obtain ⟨hcz32_0,hcz32_1,hfz32_0,hfz32_1⟩:=blk2 BK138.1;have p143:0≤(x5_4:Int):=of_decide_eq_true Qc;have q143:x5_4<(l0_1.length:Int):=of_decide_eq_true Qc;obtain ⟨ad143,e143,hx143_0,hx143_1,hx143_2⟩:=at_T47 HR0_1.1 x5_4 p143 q143;obtain rfl:ad141=ad143:=(by injection e143);replace hx143_0:=cB hx143_0 HB.1;replace hx143_1:=cB hx143_1 HB.1;replace hx143_2:=cB hx143_2 HB.1;obtain ⟨p143,q143⟩:=et2 p143 q143;have p144:0≤(x4_3:Int):=of_decide_eq_true Qc;have q144:x4_3<(l0_1.length:Int):=of_decide_eq_true Qc;obtain ⟨ad144,e144,hx144_0,hx144_1,hx144_2⟩:=at_T47 HR0_1.1 x4_3 p144 q144;obtain rfl:ad141=ad144:=(by injection e144);replace hx144_0:=cB hx144_0 HB.1;replace hx144_1:=cB hx144_1 HB.1;replace hx144_2:=cB hx144_2 HB.1;obtain ⟨p144,q144⟩:=et2 p144 q144;go_wp2
               repeat (go_quiet (fail);try go_wp2)
               go_roundg k4
               case measure=>have:=HJ1.1;have:=HK2.1;have:=HK3.1;have:=HK4.1;omega
               case rel=>exact ⟨(wrap64 (x5_4+1)),Qf,H',⟨Yf⟩,⟨blkp BK138.1⟩,⟨QF⟩⟩
             ·rw [if_neg c23] at H
              have c23b0:=decide_eq_false c23;clear c23;(first|rw [c23b0]|rw [c23b1]|(simp only [i64_w,i32_w];rw [c23b0])|skip);have H':=Am H;clear H;go_wp2
              repeat (go_quiet (fail);try go_wp2)
              go_roundg k4
              case measure=>have:=HJ1.1;have:=HK2.1;have:=HK3.1;have:=HK4.1;omega
              case rel=>exact ⟨(wrap64 (x4_3+1)),Qf,H',⟨Yf⟩,⟨blkp BK138.1⟩,⟨QF⟩⟩
          ·replace c22:=Bool.eq_false_iff.mpr c22
           subst c22;rw [if_neg nft] at H;obtain rfl:=oi H;go_wp2
           repeat (go_quiet (fail);try go_wp2)
           go_ret;exact ⟨Qg,QF⟩
         ·rw [if_neg c16] at H
          have c16b0:=decide_eq_false c16;clear c16;obtain rfl:=oi H;obtain ⟨hcz33_0,hcz33_1,hfz33_0,hfz33_1⟩:=blk2 BK138.1;go_wp2
          repeat (go_quiet (fail);try go_wp2)
          go_ret;exact ⟨Qg,QF⟩
def spec_l3Words.l0:Nat→ByteArray→List ByteArray→ByteArray→Int→Option (List ByteArray)
 | 0,_,_,_,_=>none
 | k+1,x0,x3,x4,x5=>if x5<(x0.size:Int) then (if 0≤x5 then (if (bt x0 x5)=32 then (if x3.length<8796093022208 then (spec_l3Words.l0 k x0 (x3++[x4]) (⟨#[]⟩:BA) (wrap64 (x5+1))) else (none)) else (if x5≤(wrap64 (x5+1)) then (if (wrap64 (x5+1))≤(x0.size:Int) then (if x4.size+(x0.extract (x5:Int).toNat ((wrap64 (x5+1)):Int).toNat).size≤9223372036854775807 then (spec_l3Words.l0 k x0 x3 (x4++(x0.extract (x5:Int).toNat ((wrap64 (x5+1)):Int).toNat)) (wrap64 (x5+1))) else (none)) else (none)) else (none))) else (none)) else (if x3.length<8796093022208 then (some (x3++[x4])) else (none))
def spec_l3Words.f (k:Nat) (a0:ByteArray):Option (List ByteArray):=spec_l3Words.l0 k a0 (([]:List ByteArray)) (⟨#[]⟩:BA) 0
theorem spec_l3Words.calls (k:Nat) (a0:ByteArray) (r:List ByteArray) (w:World) (h:spec_l3Words.f k a0=some r) :
  Calls Tryd.prog 101 #[.string a0] w fun e w'=>∃ v0_:Value,e = .returned (v0_)∧Kd.R Kd.string 9 w' w.heap.size (fun _=>True) v0_ r∧Below w.heap.size w w':=by
 have HB:=Am (Below.refl w.heap.size w);have H:(spec_l3Words.l0 k a0 (([]:List ByteArray)) (⟨#[]⟩:BA) 0)=some r:=h;clear h;obtain ⟨y147,hy147⟩:∃ y_:List ByteArray,y_=(([]:List ByteArray)):=⟨_,rfl⟩;(first|rw [← hy147] at H|skip);try dsimp only [Option.bind_some] at H
 have Ny147:=Am hy147;clear hy147;have H':=Am H;clear H;go_enter Tryd.func101,Tryd.ntmps101
 go_wp2_with (first|((with_reducible refine gate_dst (N:=6) rfl ?_);refine R_lit Kd.string _ 9 ?hg (N:=6) ?hd (xs:=([]:List ByteArray)) (inner:=[]) (ok:=fun _=>True) (okp:=fun _=>True) ?hr ?hp (fun _ hk=>hk) trivial (Below.refl _ _) (Nat.le_refl _) Qj ?_;(case hd=>rfl);(case hg=>rfl);(case hr=>first|(go_simp;done)|(go_simp;rfl));(case hp=>exact (Reps.none _ _));intro v148 w2 ho3 hb hg_ hnew_;clear hg_ hnew_;(first|rw [← Ny147.1] at ho3|(simp only [Int.reduceToNat] at ho3;rw [← Ny147.1] at ho3));have n_:=as2 (R_lower ho3 (below_size Qd)) (below_step Qd hb);clear HB;obtain ⟨HO149,HB⟩:=n_;clear hb ho3))
 go_loopg [3,4,5] k (fun kq v3 v4 v5 w'=>∃ (x3_1:List ByteArray) (x4_1:ByteArray) (x5_1:Int),v4 = .string x4_1∧v5 = .int .i64 x5_1∧Aside0 (spec_l3Words.l0 kq a0 x3_1 x4_1 x5_1=some r)∧Aside0 (kq≤k)∧Aside0 (Kd.R Kd.string 9 w' w.heap.size (fun _=>True) v3 x3_1)∧Aside0 (Below w.heap.size w w'))
 case atStart=>exact ⟨(y147),((⟨#[]⟩:BA)),(0),Qf,Qf,H',⟨Nat.le_refl _⟩,⟨Rp HO149.1⟩,⟨Qd⟩⟩
 case round=>
  clear H';obtain ⟨x3_1,x4_1,x5_1,rfl,rfl,HA,HK1,HO_3,HB⟩:=hrel;cases gk with
  | zero=>exact absurd HA.1 (by simp [spec_l3Words.l0])
  | succ k1=>
   have H:=HA.1;clear HA;simp only [spec_l3Words.l0] at H;by_cases c4:x5_1<(a0.size:Int)
   ·rw [if_pos c4] at H
    have c4b0:=decide_eq_true c4;clear c4;obtain ⟨c5,H⟩:=ifS H;have c5b0:=decide_eq_true c5;clear c5;by_cases c7:(bt a0 x5_1)=32
    ·rw [if_pos c7] at H
     obtain ⟨c7b0,c7b1⟩:=bqP c7;clear c7;obtain ⟨c8,H⟩:=ifS H;have LMc8:=Am c8;clear c8;obtain ⟨y153,hy153⟩:∃ y_:List ByteArray,y_=(x3_1++[x4_1]):=⟨_,rfl⟩;(first|rw [← hy153] at H|skip);try dsimp only [Option.bind_some] at H
     have Ny153:=Am hy153;clear hy153;have H':=Am H;clear H;have p6:0≤(x5_1:Int):=of_decide_eq_true Qc;have q6:x5_1<(a0.size:Int):=of_decide_eq_true Qc;have hx6:=bt_at a0 x5_1;obtain ⟨p6,q6⟩:=et2 p6 q6
     go_wp2_with (first|((with_reducible refine gate_builtin (b:=.append) (xs:=#[.tmp 17,.tmp 19]) rfl ?_);at_builtin;refine R_append Kd.string (w0:=w) w.heap.size rfl (.tmp 17) (.tmp 19) 62 9 (.string ⟨#[]⟩) 16 rfl Tryd.underlying62 info9 rfl Qa Qe u3 x3_1 x4_1 [.string x4_1] (fun _=>True) (fun _=>False) rfl rfl ?aP (fun _ hk=>hk.elim) ?aF ?aO ?aB ?aS ?aL ?_;(case aP=>exact rfl);(case aB=>exact Qd);(case aF=>exact (fun _ _=>trivial));(case aO=>exact (Rp HO_3.1));(case aS=>exact (below_size Qd));(case aL=>have:=LMc8.1;omega);intro v154 w9 ho hb hg hat;rw [← Ny153.1] at ho;have n_:=as2 (hb) (ho);clear HB HO_3;obtain ⟨HB,HO155⟩:=n_;clear ho hb hg hat))
     go_roundg k1
     case measure=>have:=HK1.1;omega
     case rel=>exact ⟨(y153),((⟨#[]⟩:BA)),(wrap64 (x5_1+1)),Qf,Qf,H',⟨QA⟩,⟨Rp HO155.1⟩,⟨Qd⟩⟩
    ·rw [if_neg c7] at H
     obtain ⟨c7b0,c7b1⟩:=bqN c7;have c10b0:=eq_true (of_decide_eq_true Qc:0≤x5_1);obtain ⟨c11,H⟩:=ifS H;have c11b0:=eq_true c11;have c11b1:=decide_eq_true c11;obtain ⟨c12,H⟩:=ifS H;have c12b0:=eq_true c12;have c12b1:=decide_eq_true c12;obtain ⟨c13,H⟩:=ifS H;have c13b0:=eq_true c13;have c13b1:=decide_eq_true c13;(try have c13b2:(9223372036854775807<x4_1.size+(a0.extract (x5_1:Int).toNat ((wrap64 (x5_1+1)):Int).toNat).size)=False:=eq_false (Nat.not_lt.2 c13));have H':=Am H;clear H;have p6:0≤(x5_1:Int):=of_decide_eq_true Qc;have q6:x5_1<(a0.size:Int):=of_decide_eq_true Qc;have hx6:=bt_at a0 x5_1;obtain ⟨p6,q6⟩:=et2 p6 q6;go_wp2;go_roundg k1
     case measure=>have:=HK1.1;omega
     case rel=>exact ⟨(x3_1),(x4_1++(a0.extract (x5_1:Int).toNat ((wrap64 (x5_1+1)):Int).toNat)),(wrap64 (x5_1+1)),Qf,Qf,H',⟨QA⟩,⟨Rp HO_3.1⟩,⟨Qd⟩⟩
   ·rw [if_neg c4] at H
    have c4b0:=decide_eq_false c4;clear c4;obtain ⟨c14,H⟩:=ifS H;have LMc14:=Am c14;clear c14;obtain ⟨y150,hy150⟩:∃ y_:List ByteArray,y_=(x3_1++[x4_1]):=⟨_,rfl⟩;(first|rw [← hy150] at H|skip);try dsimp only [Option.bind_some] at H
    have Ny150:=Am hy150;clear hy150;obtain rfl:=oi H
    go_wp2_with (first|((with_reducible refine gate_builtin (b:=.append) (xs:=#[.tmp 28,.tmp 30]) rfl ?_);at_builtin;refine R_append Kd.string (w0:=w) w.heap.size rfl (.tmp 28) (.tmp 30) 62 9 (.string ⟨#[]⟩) 16 rfl Tryd.underlying62 info9 rfl Qa Qe u3 x3_1 x4_1 [.string x4_1] (fun _=>True) (fun _=>False) rfl rfl ?aP (fun _ hk=>hk.elim) ?aF ?aO ?aB ?aS ?aL ?_;(case aP=>exact rfl);(case aB=>exact Qd);(case aF=>exact (fun _ _=>trivial));(case aO=>exact (Rp HO_3.1));(case aS=>exact (below_size Qd));(case aL=>have:=LMc14.1;omega);intro v151 w15 ho hb hg hat;rw [← Ny150.1] at ho;have n_:=as2 (hb) (ho);clear HB HO_3;obtain ⟨HB,HO152⟩:=n_;clear ho hb hg hat))
    go_ret;exact ⟨_,Qg,by (with_reducible repeat (first|apply R_alloc|apply R_drewN|apply R_drew));exact HO152.1,Qd⟩
def spec_l3ReadPlace.j0:Nat→List ByteArray→Bool→Option (ByteArray × Int × Int × Bool)
 | 0,_,_=>none
 | k+1,x4,x30=>if x30=true then (some ((⟨#[]⟩:BA),0,0,false)) else (if 2<(x4.length:Int) then (if 3<(x4.length:Int) then (if 0<((rdOf ByteArray.empty x4 3).size:Int) then (if 1<(x4.length:Int) then (if 0<((rdOf ByteArray.empty x4 1).size:Int) then ((spec_l3Place.f k (rdOf ByteArray.empty x4 2) (wrap64 ((wrap64 (bt (rdOf ByteArray.empty x4 3) 0)) - 48)) (wrap64 ((wrap64 (bt (rdOf ByteArray.empty x4 1) 0)) - 48))).bind fun t167=>(some (rdOf ByteArray.empty x4 2,wrap64 ((wrap64 (bt (rdOf ByteArray.empty x4 3) 0)) - 48),wrap64 ((wrap64 (bt (rdOf ByteArray.empty x4 1) 0)) - 48),t167))) else (none)) else (none)) else (none)) else (none)) else (none))
def spec_l3ReadPlace.f (k:Nat) (a0:ByteArray):Option (ByteArray × Int × Int × Bool):=(spec_l3Words.f k a0).bind fun t157=>(if (t157.length:Int)=4 then (if 0<(t157.length:Int) then (if (rdOf ByteArray.empty t157 0).toList=([97,116]:List UInt8) then (if 1<(t157.length:Int) then (if ((rdOf ByteArray.empty t157 1).size:Int)=1 then (if 3<(t157.length:Int) then (spec_l3ReadPlace.j0 k t157 (((rdOf ByteArray.empty t157 3).size:Int) != 1)) else (none)) else (spec_l3ReadPlace.j0 k t157 true)) else (none)) else (spec_l3ReadPlace.j0 k t157 true)) else (none)) else (spec_l3ReadPlace.j0 k t157 true))
def spec_l3ReadPlace.T4:Bool × List (List Nat × List Nat):=(true,[([],[]),([0],[0]),([1],[1]),([],[]),([3],[3]),([4],[4]),([5],[5]),([6],[6]),([7],[7]),([],[]),([9],[9]),([10],[10]),([11],[11]),([12],[12]),([13],[13]),([2,8,14],[2,8,14]),([],[]),([16,15,0,1,2,3,4,5,6,7,8,9,10,11,12,13,14,15,16],[15,16])])
def spec_l3ReadPlace.B4:List Nat:=[0,1,3,0,8,24,56,120,248,0,512,1536,3584,7680,15872,32767,0,131071]
theorem spec_l3ReadPlace.tab4:rtab .any (opsOf Tryd.f86 4)=spec_l3ReadPlace.T4:=Qb
theorem spec_l3ReadPlace.bits4:waitsOk spec_l3ReadPlace.T4.2 spec_l3ReadPlace.B4=true:=Qb
theorem spec_l3ReadPlace.calls (k:Nat) (a0:ByteArray) (r1:ByteArray) (r2:Int) (r3:Int) (r4:Bool) (w:World) (h:spec_l3ReadPlace.f k a0=some (r1,r2,r3,r4)) :
  Calls Tryd.prog 86 #[.string a0] w fun e w'=>e = .returned (.tuple #[.agg #[.string r1,.int .i64 r2,.int .i64 r3],.bool r4])∧Below w.heap.size w w':=by
 have hu47:=Tryd.underlying47;have HB:=Am (Below.refl w.heap.size w);have H:((spec_l3Words.f k a0).bind fun t157=>(if (t157.length:Int)=4 then (if 0<(t157.length:Int) then (if (rdOf ByteArray.empty t157 0).toList=([97,116]:List UInt8) then (if 1<(t157.length:Int) then (if ((rdOf ByteArray.empty t157 1).size:Int)=1 then (if 3<(t157.length:Int) then (spec_l3ReadPlace.j0 k t157 (((rdOf ByteArray.empty t157 3).size:Int) != 1)) else (none)) else (spec_l3ReadPlace.j0 k t157 true)) else (none)) else (spec_l3ReadPlace.j0 k t157 true)) else (none)) else (spec_l3ReadPlace.j0 k t157 true)))=some (r1,r2,r3,r4):=h;clear h;obtain ⟨t157,A2,H⟩:=bnd H;(try dsimp only at H);have HC3:=Am H;clear H;go_enter Tryd.func86,Tryd.ntmps86;go_upto_region 2 with (first|((with_reducible refine gate_dst (N:=2) rfl ?_);(try (refine gate_guard (by rfl) ?_;dsimp only));refine box_event ?hg (N:=2) ?hd (cs:=#[.string (⟨#[]⟩:BA),.int .i64 0,.int .i64 0]) (t:=47) ?hr ?_;(case hd=>rfl);(case hg=>rfl);(case hr=>first|(go_simp;done)|(go_simp;rfl));intro gb156 hg w4 hbox hb;have n_:=as3 (below_step Qd hb) (hbox) ((by rw [hg];exact (below_size Qd):w.heap.size≤gb156));clear HB;obtain ⟨HB,BK156,GE156⟩:=n_;clear hb hbox hg)|(go_at_call 101;(with_reducible refine (spec_l3Words.calls k a0 t157 _ A2.1).mono ?_);rintro e w5 ⟨v158,rfl,ho0,hb⟩;have n_:=as3 (R_lower ho0 (below_size Zb)) (blk_below (blkp BK156.1) hb) (below_step Zb hb);clear BK156 HB;obtain ⟨HO159,BK156,HB⟩:=n_;clear hb ho0))
 (try simp only [Act.put,sA_,sZ_,sS_]);go_cut [30] (fun v30 wc=>∃ (kq:Nat) (o:Bool),v30 = .bool o∧Aside0 (spec_l3ReadPlace.j0 kq t157 o=some (r1,r2,r3,r4))∧Aside0 (kq≤k)∧Aside0 (Kd.R Kd.string 9 wc w.heap.size (fun _=>True) v158 t157)∧Aside0 (wc.heap[gb156]?=some (.cells #[.string (⟨#[]⟩:BA),.int .i64 0,.int .i64 0] 47 (0,0)))∧Aside0 (Below w.heap.size w wc))
 case first=>
  have H:=HC3.1;clear HC3;by_cases c6:(t157.length:Int)=4
  ·rw [if_pos c6] at H
   obtain ⟨c6b0,c6b1⟩:=bqP c6;clear c6;(first|rw [c6b0]|rw [c6b1]|(simp only [i64_w,i32_w];rw [c6b0])|skip);obtain ⟨c7,H⟩:=ifS H;have c7b0:=decide_eq_true c7;have c7b1:decide (0<t157.length)=true:=decide_eq_true Qe;clear c7;by_cases c8:(rdOf ByteArray.empty t157 0).toList=([97,116]:List UInt8)
   ·rw [if_pos c8] at H
    obtain ⟨c8b0,c8b1⟩:=bqP c8;clear c8;obtain ⟨c9,H⟩:=ifS H;have c9b0:=decide_eq_true c9;have c9b1:decide (1<t157.length)=true:=decide_eq_true Qe;clear c9;by_cases c10:((rdOf ByteArray.empty t157 1).size:Int)=1
    ·rw [if_pos c10] at H
     obtain ⟨c10b0,c10b1⟩:=bqP c10;clear c10;obtain ⟨c11,H⟩:=ifS H;have c11b0:=decide_eq_true c11;have c11b1:decide (3<t157.length)=true:=decide_eq_true Qe;clear c11;have H':=Am H;clear H;obtain ⟨Ao12,co12,eo12⟩:=R_slice HO159.1;subst eo12;have p160:0≤(0:Int):=Qe;have q160:0<(t157.length:Int):=of_decide_eq_true Qc;obtain ⟨ad160,e160,hx160_0⟩:=Kd.at_string (R_reads' HO159.1).2.2 0 p160 q160;cases e160
     have qi160:(0<t157.length)=True:=eq_true Qe;(try rw [tn0] at hx160_0);(try rw [Addr.add_zero'] at hx160_0);obtain ⟨p160,q160⟩:=et2 p160 q160;have p161:0≤(1:Int):=Qe;have q161:1<(t157.length:Int):=of_decide_eq_true Qc;obtain ⟨ad161,e161,hx161_0⟩:=Kd.at_string (R_reads' HO159.1).2.2 1 p161 q161;obtain rfl:ad160=ad161:=(by injection e161);(try simp only [show (1:Int).toNat=1 from rfl,Nat.reduceMul,Nat.reduceEqDiff,Go.Addr.add,↓reduceIte] at hx161_0);have qi161:(1<t157.length)=True:=eq_true Qe;(try rw [show ((1:Int)).toNat=1 from rfl] at hx161_0);obtain ⟨p161,q161⟩:=et2 p161 q161;have p162:0≤(3:Int):=Qe;have q162:3<(t157.length:Int):=of_decide_eq_true Qc;obtain ⟨ad162,e162,hx162_0⟩:=Kd.at_string (R_reads' HO159.1).2.2 3 p162 q162;obtain rfl:ad160=ad162:=(by injection e162);(try simp only [show (3:Int).toNat=3 from rfl,Nat.reduceMul,Nat.reduceEqDiff,Go.Addr.add,↓reduceIte] at hx162_0);have qi162:(3<t157.length)=True:=eq_true Qe;(try rw [show ((3:Int)).toNat=3 from rfl] at hx162_0);obtain ⟨p162,q162⟩:=et2 p162 q162;go_wp2;go_meet
     case rel=>exact ⟨_,((((rdOf ByteArray.empty t157 3).size:Int) != 1)),Qf,H',⟨Qt⟩,⟨Rp HO159.1⟩,⟨blkp BK156.1⟩,⟨Zb⟩⟩
    ·rw [if_neg c10] at H
     obtain ⟨c10b0,c10b1⟩:=bqN c10;have H':=Am H;clear H;obtain ⟨Ao13,co13,eo13⟩:=R_slice HO159.1;subst eo13;have p160:0≤(0:Int):=Qe;have q160:0<(t157.length:Int):=of_decide_eq_true Qc;obtain ⟨ad160,e160,hx160_0⟩:=Kd.at_string (R_reads' HO159.1).2.2 0 p160 q160;cases e160
     have qi160:(0<t157.length)=True:=eq_true Qe;(try rw [tn0] at hx160_0);(try rw [Addr.add_zero'] at hx160_0);obtain ⟨p160,q160⟩:=et2 p160 q160;have p161:0≤(1:Int):=Qe;have q161:1<(t157.length:Int):=of_decide_eq_true Qc;obtain ⟨ad161,e161,hx161_0⟩:=Kd.at_string (R_reads' HO159.1).2.2 1 p161 q161;obtain rfl:ad160=ad161:=(by injection e161);(try simp only [show (1:Int).toNat=1 from rfl,Nat.reduceMul,Nat.reduceEqDiff,Go.Addr.add,↓reduceIte] at hx161_0);have qi161:(1<t157.length)=True:=eq_true Qe;(try rw [show ((1:Int)).toNat=1 from rfl] at hx161_0);obtain ⟨p161,q161⟩:=et2 p161 q161;go_wp2;go_meet
     case rel=>exact ⟨_,(true),Qf,H',⟨Qt⟩,⟨Rp HO159.1⟩,⟨blkp BK156.1⟩,⟨Zb⟩⟩
   ·rw [if_neg c8] at H
    obtain ⟨c8b0,c8b1⟩:=bqN c8;have H':=Am H;clear H;obtain ⟨Ao14,co14,eo14⟩:=R_slice HO159.1;subst eo14;have p160:0≤(0:Int):=Qe;have q160:0<(t157.length:Int):=of_decide_eq_true Qc;obtain ⟨ad160,e160,hx160_0⟩:=Kd.at_string (R_reads' HO159.1).2.2 0 p160 q160;cases e160
    have qi160:(0<t157.length)=True:=eq_true Qe;(try rw [tn0] at hx160_0);(try rw [Addr.add_zero'] at hx160_0);obtain ⟨p160,q160⟩:=et2 p160 q160;go_wp2;go_meet
    case rel=>exact ⟨_,(true),Qf,H',⟨Qt⟩,⟨Rp HO159.1⟩,⟨blkp BK156.1⟩,⟨Zb⟩⟩
  ·rw [if_neg c6] at H
   obtain ⟨c6b0,c6b1⟩:=bqN c6;(first|rw [c6b0]|rw [c6b1]|(simp only [i64_w,i32_w];rw [c6b0])|skip);have H':=Am H;clear H;obtain ⟨Ao15,co15,eo15⟩:=R_slice HO159.1;subst eo15;go_wp2;go_meet
   case rel=>exact ⟨_,(true),Qf,H',⟨Qt⟩,⟨Rp HO159.1⟩,⟨blkp BK156.1⟩,⟨Zb⟩⟩
 case rest=>
  clear HC3;obtain ⟨kq,o,rfl,HA,HJ2,HO_4,BK156,HB⟩:=hcut;cases kq with
  | zero=>exact absurd HA.1 (by simp [spec_l3ReadPlace.j0])
  | succ kj2=>
   have H:=HA.1;clear HA;simp only [spec_l3ReadPlace.j0] at H;by_cases c16:o=true
   ·subst c16
    rw [if_pos rfl] at H;simp only [Option.some.injEq,Prod.mk.injEq] at H;obtain ⟨rfl,rfl,rfl,rfl⟩:=H;obtain ⟨hcz17_0,hcz17_1,hcz17_2,hfz17_0,hfz17_1,hfz17_2⟩:=blk3 BK156.1;go_wp2;refine bodyPost_ret (results_ct rfl _ _ gb156 47 #[.string (⟨#[]⟩:BA),.int .i64 0,.int .i64 0] (0,0) _ rfl (blkp (blk_put (cs:=#[.string (⟨#[]⟩:BA),.int .i64 0,.int .i64 0]) (blk_put (cs:=#[.string (⟨#[]⟩:BA),.int .i64 0,.int .i64 0]) (blk_put (cs:=#[.string (⟨#[]⟩:BA),.int .i64 0,.int .i64 0]) BK156.1 0 _ rfl) 1 _ rfl) 2 _ rfl)) Tryd.underlying47 rfl Qb) rfl ?_;exact ⟨Qg,Zb⟩
   ·replace c16:=Bool.eq_false_iff.mpr c16
    subst c16;rw [if_neg nft] at H;obtain ⟨c18,H⟩:=ifS H;have c18b0:=decide_eq_true c18;have c18b1:decide (2<t157.length)=true:=decide_eq_true Qe;clear c18;obtain ⟨c19,H⟩:=ifS H;have c19b0:=decide_eq_true c19;have c19b1:decide (3<t157.length)=true:=decide_eq_true Qe;clear c19;obtain ⟨c20,H⟩:=ifS H;have c20b0:=decide_eq_true c20;have c20b1:decide (0<(rdOf ByteArray.empty t157 3).size)=true:=decide_eq_true Qe;clear c20;obtain ⟨c22,H⟩:=ifS H;have c22b0:=decide_eq_true c22;have c22b1:decide (1<t157.length)=true:=decide_eq_true Qe;clear c22;obtain ⟨c23,H⟩:=ifS H;have c23b0:=decide_eq_true c23;have c23b1:decide (0<(rdOf ByteArray.empty t157 1).size)=true:=decide_eq_true Qe;clear c23;obtain ⟨t167,U,H⟩:=bnd H;(try dsimp only at H);simp only [Option.some.injEq,Prod.mk.injEq] at H;obtain ⟨rfl,rfl,rfl,rfl⟩:=H;(try go_wp2);have n_:=as3 (R_drew HO_4.1) (blk_drew BK156.1) (below_drew1 HB.1);clear HO_4 BK156 HB;obtain ⟨HO_4,BK156,HB⟩:=n_;obtain ⟨Ao27,co27,eo27⟩:=R_slice HO_4.1;(first|subst eo27|(injection eo27 with f1_ f2_ f3_;have f4_:=f1_.symm;have f5_:=f3_.symm;clear f1_ f2_ f3_;subst f4_;subst f5_));have p163:0≤(2:Int):=Qe;have q163:2<(t157.length:Int):=of_decide_eq_true Qc;obtain ⟨ad163,e163,hx163_0⟩:=Kd.at_string (R_reads' HO_4.1).2.2 2 p163 q163;cases e163
    (try simp only [show (2:Int).toNat=2 from rfl,Nat.reduceMul,Nat.reduceEqDiff,Go.Addr.add,↓reduceIte] at hx163_0);have qi163:(2<t157.length)=True:=eq_true Qe;(try rw [show ((2:Int)).toNat=2 from rfl] at hx163_0);obtain ⟨p163,q163⟩:=et2 p163 q163;have p164:0≤(3:Int):=Qe;have q164:3<(t157.length:Int):=of_decide_eq_true Qc;obtain ⟨ad164,e164,hx164_0⟩:=Kd.at_string (R_reads' HO_4.1).2.2 3 p164 q164;obtain rfl:ad163=ad164:=(by injection e164);(try simp only [show (3:Int).toNat=3 from rfl,Nat.reduceMul,Nat.reduceEqDiff,Go.Addr.add,↓reduceIte] at hx164_0);have qi164:(3<t157.length)=True:=eq_true Qe;(try rw [show ((3:Int)).toNat=3 from rfl] at hx164_0);obtain ⟨p164,q164⟩:=et2 p164 q164;have W:0≤(0:Int):=Qe;have J:0<(rdOf ByteArray.empty t157 3).size:=(by have:(0:Int)<((rdOf ByteArray.empty t157 3).size:Int):=of_decide_eq_true Qc;omega);have b0:∀ h:0<(rdOf ByteArray.empty t157 3).size,(((rdOf ByteArray.empty t157 3)[0]'h).toNat:Int)=bt (rdOf ByteArray.empty t157 3) 0:=bt_at (rdOf ByteArray.empty t157 3) 0;clear W;have b1:(0<((rdOf ByteArray.empty t157 3).size:Int))=True:=eq_true (of_decide_eq_true Qc);replace J:=eq_true J;have p165:0≤(1:Int):=Qe;have q165:1<(t157.length:Int):=of_decide_eq_true Qc;obtain ⟨ad165,e165,hx165_0⟩:=Kd.at_string (R_reads' HO_4.1).2.2 1 p165 q165;obtain rfl:ad163=ad165:=(by injection e165);(try simp only [show (1:Int).toNat=1 from rfl,Nat.reduceMul,Nat.reduceEqDiff,Go.Addr.add,↓reduceIte] at hx165_0);have qi165:(1<t157.length)=True:=eq_true Qe;(try rw [show ((1:Int)).toNat=1 from rfl] at hx165_0);obtain ⟨p165,q165⟩:=et2 p165 q165;have X:0≤(0:Int):=Qe;have q24:0<(rdOf ByteArray.empty t157 1).size:=(by have:(0:Int)<((rdOf ByteArray.empty t157 1).size:Int):=of_decide_eq_true Qc;omega);have hx24:∀ h:0<(rdOf ByteArray.empty t157 1).size,(((rdOf ByteArray.empty t157 1)[0]'h).toNat:Int)=bt (rdOf ByteArray.empty t157 1) 0:=bt_at (rdOf ByteArray.empty t157 1) 0;clear X;have b2:(0<((rdOf ByteArray.empty t157 1).size:Int))=True:=eq_true (of_decide_eq_true Qc);replace q24:=eq_true q24;refine start_ (n:=18) (S:=fun w'=>w'.cell? ⟨ad163.block,ad163.off+2,none⟩=some (.string (rdOf ByteArray.empty t157 2))∧w'.cell? ⟨ad163.block,ad163.off+3,none⟩=some (.string (rdOf ByteArray.empty t157 3))∧w'.cell? ⟨ad163.block,ad163.off+1,none⟩=some (.string (rdOf ByteArray.empty t157 1))) (ds:=[]) (bs 18 0) Qb rfl rfl ⟨hx163_0,hx164_0,hx165_0⟩ (fun hHeld=>?_);refine with_tabW spec_l3ReadPlace.tab4 spec_l3ReadPlace.bits4 (fun HT_ HW_=>?_)
    generalize wc.drew=w26 at HO_4 BK156 HB hx163_0 hx164_0 hx165_0 hHeld ⊢
    refine pu_ 32 0 (bs 18 1) HT_.1 ?_;refine pu_ 33 1 (bs 18 3) HT_.1 ?_;refine pu_ 35 3 (bs 18 11) HT_.1 ?_;refine pu_ 36 4 (bs 18 27) HT_.1 ?_;refine pu_ 41 9 (bs 18 539) HT_.1 ?_;refine pu_ 42 10 (bs 18 1563) HT_.1 ?_;refine ta_ 34 2 (bs 18 1567) HT_.1 HW_.1 hHeld ?_;refine ta_ 37 5 (bs 18 1599) HT_.1 HW_.1 hHeld ?_;refine ta_ 38 6 (bs 18 1663) HT_.1 HW_.1 hHeld ?_;refine pu_ 39 7 (bs 18 1791) HT_.1 ?_;refine pu_ 40 8 (bs 18 2047) HT_.1 ?_;refine ta_ 43 11 (bs 18 4095) HT_.1 HW_.1 hHeld ?_;refine ta_ 44 12 (bs 18 8191) HT_.1 HW_.1 hHeld ?_;refine pu_ 45 13 (bs 18 16383) HT_.1 ?_;refine pu_ 46 14 (bs 18 32767) HT_.1 ?_;refine pu_ 47 15 (bs 18 65535) HT_.1 ?_;refine on_ 5 16 (bs 18 131071) HT_.1 (fun K hK=>?_);refine box_step ?hg (N:=5) ?hd (cs:=#[.string (⟨#[]⟩:BA),.int .i64 0,.int .i64 0]) (t:=47) ?hr ?_;(case hd=>rfl);(case hg=>rfl);(case hr=>first|(go_simp;done)|(go_simp;rfl));intro gb166 hg w28 hbox hb;have HS0_:=(hb.cell (World.block_lt_of_cell? _ _ (hHeld.1))).trans (hHeld.1);have HS1_:=(hb.cell (World.block_lt_of_cell? _ _ (hHeld.2.1))).trans (hHeld.2.1);have HS2_:=(hb.cell (World.block_lt_of_cell? _ _ (hHeld.2.2))).trans (hHeld.2.2);have n_:=as7 (R_below (Rp HO_4.1) hb) (blk_below (blkp BK156.1) hb) (below_step Zb hb) (hbox) ((by rw [hg];exact (below_size Zb):w.heap.size≤gb166)) ((by rw [hg];exact Nat.ne_of_lt (blk_lt (blkp BK156.1)):gb156≠gb166)) ((by rw [hg];exact Nat.ne_of_gt (blk_lt (blkp BK156.1)):gb166≠gb156));clear HO_4 BK156 HB;obtain ⟨HO_4,BK156,HB,BK166,GE166,NB156_166,NB166_156⟩:=n_;clear hb hbox hg;refine hK.out _ _ ⟨HS0_,HS1_,HS2_⟩ (fun hHeld=>?_);clear hK K;refine no_ 5 ?_;refine one_ (i:=17) (N:=none) (bs 18 262143) rfl rfl (one_of HT_.1 Qb) Qa (fun K hK=>?_);have hs29:w28.cell? ⟨gb166,0,none⟩=some (.string (⟨#[]⟩:BA)):=(blk_cell BK166.1 0).trans rfl;have hfs29:=blk_frozen BK166.1 0;have b3:=NB156_166.1;have b4:=NB166_156.1;have b5:w28.cell? ⟨gb166,1,none⟩=some (.int .i64 0):=(blk_cell BK166.1 1).trans rfl;have b6:=blk_frozen BK166.1 1;have b7:=NB156_166.1;have b8:=NB166_156.1;have b9:w28.cell? ⟨gb166,2,none⟩=some (.int .i64 0):=(blk_cell BK166.1 2).trans rfl;have ca:=blk_frozen BK166.1 2;have cb:=NB156_166.1;have cc:=NB166_156.1;refine skip_ (w1:=?_) (by rfl) rfl ?_ ?_;rotate_left
    ·go_simp
     rfl
    refine hK.out _ _ ⟨((cell_far (p:=⟨gb166,_,none⟩) Zc _).trans (((cell_far (p:=⟨gb166,_,none⟩) Zc _).trans (((cell_far (p:=⟨gb166,_,none⟩) Zc _).trans (hHeld.1)))))),((cell_far (p:=⟨gb166,_,none⟩) Zc _).trans (((cell_far (p:=⟨gb166,_,none⟩) Zc _).trans (((cell_far (p:=⟨gb166,_,none⟩) Zc _).trans (hHeld.2.1)))))),((cell_far (p:=⟨gb166,_,none⟩) Zc _).trans (((cell_far (p:=⟨gb166,_,none⟩) Zc _).trans (((cell_far (p:=⟨gb166,_,none⟩) Zc _).trans (hHeld.2.2))))))⟩ (fun hHeld=>?_);clear hK K;refine done_ (done_of HT_.1 Qb) ?_;(try go_wp2);have n0_:Aside0 (Kd.R Kd.string 9 (((w28.setCell ⟨gb166,0,none⟩ (.string (rdOf ByteArray.empty t157 2))).setCell ⟨gb166,1,none⟩ (.int .i64 (wrap64 ((wrap64 (bt (rdOf ByteArray.empty t157 3) 0)) - 48)))).setCell ⟨gb166,2,none⟩ (.int .i64 (wrap64 ((wrap64 (bt (rdOf ByteArray.empty t157 1) 0)) - 48)))) w.heap.size (fun _=>True) (.slice (some ad163) t157.length co27) t157):=⟨Rp (R_mono (R_far (p:=⟨gb166,2,none⟩) (R_put2 HO_4.1 BK166.1) (fun _ hk=>hk.2) (.int .i64 (wrap64 ((wrap64 (bt (rdOf ByteArray.empty t157 1) 0)) - 48)))) (fun _ hk=>trivial))⟩;have n1_:Aside0 ((((w28.setCell ⟨gb166,0,none⟩ (.string (rdOf ByteArray.empty t157 2))).setCell ⟨gb166,1,none⟩ (.int .i64 (wrap64 ((wrap64 (bt (rdOf ByteArray.empty t157 3) 0)) - 48)))).setCell ⟨gb166,2,none⟩ (.int .i64 (wrap64 ((wrap64 (bt (rdOf ByteArray.empty t157 1) 0)) - 48)))).heap[gb156]?=some (.cells #[.string (⟨#[]⟩:BA),.int .i64 0,.int .i64 0] 47 (0,0))):=⟨blkp (blk_far (blk_far2 NB156_166.1 BK156.1) NB156_166.1 _)⟩;have n2_:Aside0 ((((w28.setCell ⟨gb166,0,none⟩ (.string (rdOf ByteArray.empty t157 2))).setCell ⟨gb166,1,none⟩ (.int .i64 (wrap64 ((wrap64 (bt (rdOf ByteArray.empty t157 3) 0)) - 48)))).setCell ⟨gb166,2,none⟩ (.int .i64 (wrap64 ((wrap64 (bt (rdOf ByteArray.empty t157 1) 0)) - 48)))).heap[gb166]?=some (.cells #[.string (rdOf ByteArray.empty t157 2),.int .i64 (wrap64 ((wrap64 (bt (rdOf ByteArray.empty t157 3) 0)) - 48)),.int .i64 (wrap64 ((wrap64 (bt (rdOf ByteArray.empty t157 1) 0)) - 48))] 47 (0,0))):=⟨blkp (blk_put (cs:=#[.string (rdOf ByteArray.empty t157 2),.int .i64 (wrap64 ((wrap64 (bt (rdOf ByteArray.empty t157 3) 0)) - 48)),.int .i64 0]) (blk_put (cs:=#[.string (rdOf ByteArray.empty t157 2),.int .i64 0,.int .i64 0]) (blk_put (cs:=#[.string (⟨#[]⟩:BA),.int .i64 0,.int .i64 0]) BK166.1 0 _ rfl) 1 _ rfl) 2 _ rfl)⟩;have n3_:Aside0 (Below w.heap.size w (((w28.setCell ⟨gb166,0,none⟩ (.string (rdOf ByteArray.empty t157 2))).setCell ⟨gb166,1,none⟩ (.int .i64 (wrap64 ((wrap64 (bt (rdOf ByteArray.empty t157 3) 0)) - 48)))).setCell ⟨gb166,2,none⟩ (.int .i64 (wrap64 ((wrap64 (bt (rdOf ByteArray.empty t157 1) 0)) - 48))))):=⟨Yg⟩;(try clear HO_4);(try clear BK156);(try clear BK166);(try clear HB)
    generalize (((w28.setCell ⟨gb166,0,none⟩ (.string (rdOf ByteArray.empty t157 2))).setCell ⟨gb166,1,none⟩ (.int .i64 (wrap64 ((wrap64 (bt (rdOf ByteArray.empty t157 3) 0)) - 48)))).setCell ⟨gb166,2,none⟩ (.int .i64 (wrap64 ((wrap64 (bt (rdOf ByteArray.empty t157 1) 0)) - 48))))=w32 at n0_ n1_ n2_ n3_ ⊢
    have HO_4:=n0_;have BK156:=n1_;have BK166:=n2_;have HB:=n3_;clear n0_ n1_ n2_ n3_;have n_:=as4 (R_drew HO_4.1) (blk_drew BK156.1) (blk_drew BK166.1) (below_drew1 HB.1);clear HO_4 BK156 BK166 HB;obtain ⟨HO_4,BK156,BK166,HB⟩:=n_;refine start_ (n:=5) (S:=fun w'=>w'.cell? ⟨gb166,0,none⟩=some (.string (rdOf ByteArray.empty t157 2))∧w'.cell? ⟨gb166,1,none⟩=some (.int .i64 (wrap64 ((wrap64 (bt (rdOf ByteArray.empty t157 3) 0)) - 48)))∧w'.cell? ⟨gb166,2,none⟩=some (.int .i64 (wrap64 ((wrap64 (bt (rdOf ByteArray.empty t157 1) 0)) - 48)))) (ds:=[]) (bs 5 0) Qb rfl rfl ⟨(blk_cell BK166.1 0).trans rfl,(blk_cell BK166.1 1).trans rfl,(blk_cell BK166.1 2).trans rfl⟩ (fun hHeld=>?_)
    generalize w32.drew=w33 at HO_4 BK156 BK166 HB hHeld ⊢
    refine take_ (i:=0) (N:=some 48) (v:=?_) (a':=?_) (bs 5 1) rfl rfl Qb (fun _ _ _ h=>h) (Or.inl ⟨by rfl,?_⟩) hHeld ?_ ?_;rotate_left
    ·rintro w' ⟨s0,s1,s2⟩
     go_simp;with_reducible rfl
    rotate_left
    ·simp only [Act.put,sA_,sZ_,sS_,i64_w,i32_w]
     rfl
    refine take_ (i:=1) (N:=some 49) (v:=?_) (a':=?_) (bs 5 3) rfl rfl Qb (fun _ _ _ h=>h) (Or.inl ⟨by rfl,?_⟩) hHeld ?_ ?_;rotate_left
    ·rintro w' ⟨s0,s1,s2⟩
     go_simp;with_reducible rfl
    rotate_left
    ·simp only [Act.put,sA_,sZ_,sS_,i64_w,i32_w]
     rfl
    refine one_ (i:=2) (N:=some 50) (bs 5 7) rfl rfl Qb Qa (fun K hK=>?_);refine goes_ Tryd.func36 Qb rfl #[.agg #[.string (rdOf ByteArray.empty t157 2),.int .i64 (wrap64 ((wrap64 (bt (rdOf ByteArray.empty t157 3) 0)) - 48)),.int .i64 (wrap64 ((wrap64 (bt (rdOf ByteArray.empty t157 1) 0)) - 48))]] (by rfl) rfl rfl Qo ?_;(with_reducible refine (spec_l3Place.calls kj2 (rdOf ByteArray.empty t157 2) (wrap64 ((wrap64 (bt (rdOf ByteArray.empty t157 3) 0)) - 48)) (wrap64 ((wrap64 (bt (rdOf ByteArray.empty t157 1) 0)) - 48)) t167 _ U.1).mono ?_);rintro e w34 ⟨rfl,hb⟩;refine ⟨_,rfl,?_⟩;have n_:=as4 (R_below (Rp HO_4.1) hb) (blk_below (blkp BK156.1) hb) (blk_below (blkp BK166.1) hb) (below_step Yg hb);clear HO_4 BK156 BK166 HB;obtain ⟨HO_4,BK156,BK166,HB⟩:=n_;(try clear hb);(try clear hb2);(try clear hk);(try clear hi);refine hK.out _ _ ⟨(blk_cell BK166.1 0).trans rfl,(blk_cell BK166.1 1).trans rfl,(blk_cell BK166.1 2).trans rfl⟩ (fun hHeld=>?_);clear hK K;refine no_ 50 ?_;refine one_ (i:=3) (N:=none) (bs 5 15) rfl rfl Qb Qa (fun K hK=>?_);have cd:w34.cell? ⟨gb156,0,none⟩=some (.string (⟨#[]⟩:BA)):=(blk_cell BK156.1 0).trans rfl;have ce:=blk_frozen BK156.1 0;have cf:=NB166_156.1;have cg:=NB156_166.1;have ch:w34.cell? ⟨gb156,1,none⟩=some (.int .i64 0):=(blk_cell BK156.1 1).trans rfl;have ci:=blk_frozen BK156.1 1;have cj:=NB166_156.1;have ck:=NB156_166.1;have cl:w34.cell? ⟨gb156,2,none⟩=some (.int .i64 0):=(blk_cell BK156.1 2).trans rfl;have cm:=blk_frozen BK156.1 2;have cn:=NB166_156.1;have co:=NB156_166.1;refine skip_ (w1:=?_) (by rfl) rfl ?_ ?_;rotate_left
    ·go_simp
     rfl
    refine hK.out _ _ ⟨((cell_far (p:=⟨gb156,_,none⟩) NB166_156.1 _).trans (((cell_far (p:=⟨gb156,_,none⟩) NB166_156.1 _).trans (((cell_far (p:=⟨gb156,_,none⟩) NB166_156.1 _).trans (hHeld.1)))))),((cell_far (p:=⟨gb156,_,none⟩) NB166_156.1 _).trans (((cell_far (p:=⟨gb156,_,none⟩) NB166_156.1 _).trans (((cell_far (p:=⟨gb156,_,none⟩) NB166_156.1 _).trans (hHeld.2.1)))))),((cell_far (p:=⟨gb156,_,none⟩) NB166_156.1 _).trans (((cell_far (p:=⟨gb156,_,none⟩) NB166_156.1 _).trans (((cell_far (p:=⟨gb156,_,none⟩) NB166_156.1 _).trans (hHeld.2.2))))))⟩ (fun hHeld=>?_);clear hK K;refine pure_ (i:=4) (N:=some 3) (v:=?_) (a':=?_) (bs 5 31) rfl rfl Qb (fun _ _ _ h=>h) (Or.inl ⟨by rfl,?_⟩) ?_ ?_;rotate_left
    ·intro w'
     go_simp;with_reducible rfl
    rotate_left
    ·simp only [Act.put,sA_,sZ_,sS_,i64_w,i32_w]
     rfl
    refine done_ Qb ?_;(try go_wp2);refine bodyPost_ret (results_ct rfl _ _ gb156 47 #[.string (rdOf ByteArray.empty t157 2),.int .i64 (wrap64 ((wrap64 (bt (rdOf ByteArray.empty t157 3) 0)) - 48)),.int .i64 (wrap64 ((wrap64 (bt (rdOf ByteArray.empty t157 1) 0)) - 48))] (0,0) _ rfl (blkp (blk_put (cs:=#[.string (rdOf ByteArray.empty t157 2),.int .i64 (wrap64 ((wrap64 (bt (rdOf ByteArray.empty t157 3) 0)) - 48)),.int .i64 0]) (blk_put (cs:=#[.string (rdOf ByteArray.empty t157 2),.int .i64 0,.int .i64 0]) (blk_put (cs:=#[.string (⟨#[]⟩:BA),.int .i64 0,.int .i64 0]) BK156.1 0 _ rfl) 1 _ rfl) 2 _ rfl)) Tryd.underlying47 rfl Qb) rfl ?_;exact ⟨Qg,Yg⟩
def spec_l1Plain.l0:Nat→Int→ByteArray→Option (ByteArray)
 | 0,_,_=>none
 | k+1,x0,x3=>if x0 > 9 then ((some (([(wrap64 (48+(Int.tmod x0 10))) % 256]:List Int):List Int)).bind fun y168=>(if (strOfNums y168).size+x3.size≤9223372036854775807 then (spec_l1Plain.l0 k (wrap64 (Int.tdiv x0 10)) ((strOfNums y168)++x3)) else (none))) else ((some (([(wrap64 (48+x0)) % 256]:List Int):List Int)).bind fun y171=>(if (strOfNums y171).size+x3.size≤9223372036854775807 then (some ((strOfNums y171)++x3)) else (none)))
def spec_l1Plain.f (k:Nat) (a0:Int):Option (ByteArray):=spec_l1Plain.l0 k a0 (⟨#[]⟩:BA)
theorem spec_l1Plain.calls (k:Nat) (a0:Int) (r:ByteArray) (w:World) (h:spec_l1Plain.f k a0=some r) :
  Calls Tryd.prog 66 #[.int .i64 a0] w fun e w'=>e = .returned (.string r)∧Below w.heap.size w w':=by
 have HB:=Am (Below.refl w.heap.size w);have H:(spec_l1Plain.l0 k a0 (⟨#[]⟩:BA))=some r:=h;clear h;have H':=Am H;clear H;go_enter Tryd.func66,Tryd.ntmps66;go_wp2
 go_loopg [0,3] k (fun kq v0 v3 w'=>∃ (x0_1:Int) (x3_1:ByteArray),v0 = .int .i64 x0_1∧v3 = .string x3_1∧Aside0 (spec_l1Plain.l0 kq x0_1 x3_1=some r)∧Aside0 (kq≤k)∧Aside0 (Below w.heap.size w w'))
 case atStart=>exact ⟨(a0),((⟨#[]⟩:BA)),Qf,Qf,H',⟨Nat.le_refl _⟩,⟨Qd⟩⟩
 case round=>
  clear H';obtain ⟨x0_1,x3_1,rfl,rfl,HA,HK1,HB⟩:=hrel;cases gk with
  | zero=>exact absurd HA.1 (by simp [spec_l1Plain.l0])
  | succ k1=>
   have H:=HA.1;clear HA;simp only [spec_l1Plain.l0] at H;by_cases c2:x0_1 > 9
   ·rw [if_pos c2] at H
    have c2b0:=decide_eq_true c2;clear c2;obtain ⟨y168,hy168⟩:∃ y_:List Int,y_=(([(wrap64 (48+(Int.tmod x0_1 10))) % 256]:List Int)):=⟨_,rfl⟩;(first|rw [← hy168] at H|skip);try dsimp only [Option.bind_some] at H
    have Ny168:=Am hy168;clear hy168;obtain ⟨c3,H⟩:=ifS H;have c3b0:=eq_true c3;have c3b1:=decide_eq_true c3;(try have c3b2:(9223372036854775807<(strOfNums y168).size+x3_1.size)=False:=eq_false (Nat.not_lt.2 c3));have H':=Am H;clear H
    go_wp2_with (first|((with_reducible refine gate_dst (N:=10) rfl ?_);refine R_lit (Kd.int .u8) _ 5 ?hg (N:=10) ?hd (xs:=([(wrap64 (48+(Int.tmod x0_1 10))) % 256]:List Int)) (inner:=[.int .u8 ((wrap64 (48+(Int.tmod x0_1 10))) % 256)]) (ok:=fun _=>True) (okp:=fun _=>True) ?hr ?hp (fun _ hk=>hk) trivial (Below.refl _ _) (Nat.le_refl _) Qj ?_;(case hd=>rfl);(case hg=>rfl);(case hr=>first|(go_simp;done)|(go_simp;rfl));(case hp=>exact (Reps.one (show Kd.M (Kd.int .u8) _ _ _ ((wrap64 (48+(Int.tmod x0_1 10))) % 256) [.int .u8 ((wrap64 (48+(Int.tmod x0_1 10))) % 256)] from rfl) (Reps.none _ _)));intro v169 w4 ho5 hb hg_ hnew_;clear hg_ hnew_;(first|rw [← Ny168.1] at ho5|(simp only [Int.reduceToNat] at ho5;rw [← Ny168.1] at ho5));have n_:=as2 (R_lower ho5 (below_size Qd)) (below_step Qd hb);clear HB;obtain ⟨HO170,HB⟩:=n_;clear hb ho5;have hcv6:=own_string (P:=Tryd.prog) Tryd.underlying33 Tryd.underlying5 Tryd.underlying9 (Kd.own_of_R HO170.1)))
    go_roundg k1
    case measure=>have:=HK1.1;omega
    case rel=>exact ⟨(wrap64 (Int.tdiv x0_1 10)),((strOfNums y168)++x3_1),Qf,Qf,H',⟨QA⟩,⟨Qd⟩⟩
   ·rw [if_neg c2] at H
    have c2b0:=decide_eq_false c2;clear c2;obtain ⟨y171,hy171⟩:∃ y_:List Int,y_=(([(wrap64 (48+x0_1)) % 256]:List Int)):=⟨_,rfl⟩;(first|rw [← hy171] at H|skip);try dsimp only [Option.bind_some] at H
    have Ny171:=Am hy171;clear hy171;obtain ⟨c7,H⟩:=ifS H;have c7b0:=eq_true c7;have c7b1:=decide_eq_true c7;(try have c7b2:(9223372036854775807<(strOfNums y171).size+x3_1.size)=False:=eq_false (Nat.not_lt.2 c7));obtain rfl:=oi H
    go_wp2_with (first|((with_reducible refine gate_dst (N:=19) rfl ?_);refine R_lit (Kd.int .u8) _ 5 ?hg (N:=19) ?hd (xs:=([(wrap64 (48+x0_1)) % 256]:List Int)) (inner:=[.int .u8 ((wrap64 (48+x0_1)) % 256)]) (ok:=fun _=>True) (okp:=fun _=>True) ?hr ?hp (fun _ hk=>hk) trivial (Below.refl _ _) (Nat.le_refl _) Qj ?_;(case hd=>rfl);(case hg=>rfl);(case hr=>first|(go_simp;done)|(go_simp;rfl));(case hp=>exact (Reps.one (show Kd.M (Kd.int .u8) _ _ _ ((wrap64 (48+x0_1)) % 256) [.int .u8 ((wrap64 (48+x0_1)) % 256)] from rfl) (Reps.none _ _)));intro v172 w8 ho9 hb hg_ hnew_;clear hg_ hnew_;(first|rw [← Ny171.1] at ho9|(simp only [Int.reduceToNat] at ho9;rw [← Ny171.1] at ho9));have n_:=as2 (R_lower ho9 (below_size Qd)) (below_step Qd hb);clear HB;obtain ⟨HO173,HB⟩:=n_;clear hb ho9;have hcv10:=own_string (P:=Tryd.prog) Tryd.underlying33 Tryd.underlying5 Tryd.underlying9 (Kd.own_of_R HO173.1)))
    go_ret;exact ⟨Qg,Qd⟩
def spec_l1Word.f (k:Nat) (a0_0:Int) (a0_1:Int) (a0_2:ByteArray):Option (ByteArray):=if a0_0=1 then ((spec_l1Plain.f k a0_1).bind fun t175=>(if 1+t175.size≤9223372036854775807 then (some ((⟨#[88]⟩:BA)++t175)) else (none))) else (if a0_0=2 then (if a0_1<0 then ((spec_l1Plain.f k (wrap64 (-a0_1))).bind fun t176=>(if 1+t176.size≤9223372036854775807 then (some ((⟨#[45]⟩:BA)++t176)) else (none))) else ((spec_l1Plain.f k a0_1).bind fun t177=>(some t177))) else (some a0_2))
theorem spec_l1Word.calls (k:Nat) (a0_0:Int) (a0_1:Int) (a0_2:ByteArray) (r:ByteArray) (w:World) (h:spec_l1Word.f k a0_0 a0_1 a0_2=some r) :
  Calls Tryd.prog 42 #[.agg #[.int .i64 a0_0,.int .i64 a0_1,.string a0_2]] w fun e w'=>e = .returned (.string r)∧Below w.heap.size w w':=by
 have hu44:=Tryd.underlying44;have HB:=Am (Below.refl w.heap.size w);have H:(if a0_0=1 then ((spec_l1Plain.f k a0_1).bind fun t175=>(if 1+t175.size≤9223372036854775807 then (some ((⟨#[88]⟩:BA)++t175)) else (none))) else (if a0_0=2 then (if a0_1<0 then ((spec_l1Plain.f k (wrap64 (-a0_1))).bind fun t176=>(if 1+t176.size≤9223372036854775807 then (some ((⟨#[45]⟩:BA)++t176)) else (none))) else ((spec_l1Plain.f k a0_1).bind fun t177=>(some t177))) else (some a0_2)))=some r:=h;clear h;have HC2:=Am H;clear H;go_enter Tryd.func42,Tryd.ntmps42;go_upto_if 5 with (first|((with_reducible refine gate_dst (N:=1) rfl ?_);refine box_event ?hg (N:=1) ?hd (cs:=#[.int .i64 a0_0,.int .i64 a0_1,.string a0_2]) (t:=44) ?hr ?_;(case hd=>rfl);(case hg=>rfl);(case hr=>first|(go_simp;done)|(go_simp;rfl));intro gb174 hg w3 hbox hb;have n_:=as3 (below_step Qd hb) (hbox) ((by rw [hg];exact (below_size Qd):w.heap.size≤gb174));clear HB;obtain ⟨HB,BK174,GE174⟩:=n_;clear hb hbox hg;obtain ⟨hcz4_0,hcz4_1,hcz4_2,hfz4_0,hfz4_1,hfz4_2⟩:=blk3 BK174.1))
 (try simp only [Act.put,sA_,sZ_,sS_]);have H:=HC2.1;clear HC2;by_cases c5:a0_0=1
 ·rw [if_pos c5] at H
  obtain ⟨c5b0,c5b1⟩:=bqP c5;clear c5;(first|rw [c5b0]|rw [c5b1]|(simp only [i64_w,i32_w];rw [c5b0])|skip);obtain ⟨t175,A6,H⟩:=bnd H;(try dsimp only at H);obtain ⟨c7,H⟩:=ifS H;have c7b0:=eq_true c7;have c7b1:=decide_eq_true c7;(try have c7b2:(9223372036854775807<1+t175.size)=False:=eq_false (Nat.not_lt.2 c7));obtain rfl:=oi H;obtain ⟨hcz8_0,hcz8_1,hcz8_2,hfz8_0,hfz8_1,hfz8_2⟩:=blk3 BK174.1
  go_wp2_with (first|(go_at_call 66;(with_reducible refine (spec_l1Plain.calls k a0_1 t175 _ A6.1).mono ?_);rintro e w9 ⟨rfl,hb⟩;have n_:=as2 (blk_below (blkp BK174.1) hb) (below_step Zu hb);clear BK174 HB;obtain ⟨BK174,HB⟩:=n_;clear hb))
  go_ret;exact ⟨Qg,Zu⟩
 ·rw [if_neg c5] at H
  obtain ⟨c5b0,c5b1⟩:=bqN c5;(first|rw [c5b0]|rw [c5b1]|(simp only [i64_w,i32_w];rw [c5b0])|skip);by_cases c10:a0_0=2
  ·rw [if_pos c10] at H
   obtain ⟨c10b0,c10b1⟩:=bqP c10;clear c10;by_cases c11:a0_1<0
   ·rw [if_pos c11] at H
    have c11b0:=decide_eq_true c11;clear c11;obtain ⟨t176,A12,H⟩:=bnd H;(try dsimp only at H);obtain ⟨c13,H⟩:=ifS H;have c13b0:=eq_true c13;have c13b1:=decide_eq_true c13;(try have c13b2:(9223372036854775807<1+t176.size)=False:=eq_false (Nat.not_lt.2 c13));obtain rfl:=oi H;obtain ⟨hcz14_0,hcz14_1,hcz14_2,hfz14_0,hfz14_1,hfz14_2⟩:=blk3 BK174.1
    go_wp2_with (first|(go_at_call 66;(with_reducible refine (spec_l1Plain.calls k (wrap64 (-a0_1)) t176 _ A12.1).mono ?_);rintro e w15 ⟨rfl,hb⟩;have n_:=as2 (blk_below (blkp BK174.1) hb) (below_step Zu hb);clear BK174 HB;obtain ⟨BK174,HB⟩:=n_;clear hb))
    go_ret;exact ⟨Qg,Zu⟩
   ·rw [if_neg c11] at H
    have c11b0:=decide_eq_false c11;clear c11;obtain ⟨t177,A16,H⟩:=bnd H;(try dsimp only at H);obtain rfl:=oi H;obtain ⟨hcz17_0,hcz17_1,hcz17_2,hfz17_0,hfz17_1,hfz17_2⟩:=blk3 BK174.1
    go_wp2_with (first|(go_at_call 66;(with_reducible refine (spec_l1Plain.calls k a0_1 t177 _ A16.1).mono ?_);rintro e w18 ⟨rfl,hb⟩;have n_:=as2 (blk_below (blkp BK174.1) hb) (below_step Zu hb);clear BK174 HB;obtain ⟨BK174,HB⟩:=n_;clear hb))
    go_ret;exact ⟨Qg,Zu⟩
  ·rw [if_neg c10] at H
   obtain ⟨c10b0,c10b1⟩:=bqN c10;obtain rfl:=oi H;obtain ⟨hcz19_0,hcz19_1,hcz19_2,hfz19_0,hfz19_1,hfz19_2⟩:=blk3 BK174.1;go_wp2;go_ret;exact ⟨Qg,Zu⟩
mutual
def spec_TrmText.l0:Nat→List (S44)→ByteArray→List Int→Int→Option (ByteArray)
 | 0,_,_,_,_=>none
 | k+1,x0,x3,x4,x5=>if x5<(x0.length:Int) then (if 0≤x5 then ((spec_l1Word.f k ((rd_T44 x0 x5).f0) ((rd_T44 x0 x5).f1) ((rd_T44 x0 x5).f2)).bind fun t183=>(if x3.size+t183.size≤9223372036854775807 then (if ((rd_T44 x0 x5).f0)=3 then (spec_TrmText.j1 k x0 (x3++t183) x4 x5 (decide (((rd_T44 x0 x5).f1) > 0))) else (spec_TrmText.j1 k x0 (x3++t183) x4 x5 false)) else (none))) else (none)) else (some x3)
def spec_TrmText.j1:Nat→List (S44)→ByteArray→List Int→Int→Bool→Option (ByteArray)
 | 0,_,_,_,_,_=>none
 | k+1,x0,x3,x4,x5,x36=>if x36=true then (if x3.size+1≤9223372036854775807 then (if 0≤x5 then (if x5<(x0.length:Int) then (if x4.length<17592186044416 then (spec_TrmText.l0 k x0 (x3++(⟨#[40]⟩:BA)) (x4++[(rd_T44 x0 x5).f1]) (wrap64 (x5+1))) else (none)) else (none)) else (none)) else (none)) else (spec_TrmText.l1 k x0 x3 x4 x5)
def spec_TrmText.l1:Nat→List (S44)→ByteArray→List Int→Int→Option (ByteArray)
 | 0,_,_,_,_=>none
 | k+1,x0,x3,x4,x5=>if (x4.length:Int) > 0 then (if 0≤(wrap64 ((x4.length:Int) - 1)) then (if (wrap64 ((x4.length:Int) - 1))<(x4.length:Int) then (if (rd x4 (wrap64 ((x4.length:Int) - 1)))=1 then (if x3.size+1≤9223372036854775807 then (if (wrap64 ((x4.length:Int) - 1))≤(x4.length:Int) then (spec_TrmText.l1 k x0 (x3++(⟨#[41]⟩:BA)) (x4.take ((wrap64 ((x4.length:Int) - 1)):Int).toNat) x5) else (none)) else (none)) else (if x3.size+1≤9223372036854775807 then (spec_TrmText.l0 k x0 (x3++(⟨#[44]⟩:BA)) (x4.set ((wrap64 ((x4.length:Int) - 1)):Int).toNat (wrap64 ((rd x4 (wrap64 ((x4.length:Int) - 1))) - 1))) (wrap64 (x5+1))) else (none))) else (none)) else (none)) else (spec_TrmText.l0 k x0 x3 x4 (wrap64 (x5+1)))
end
def spec_TrmText.f (k:Nat) (l0:List (S44)):Option (ByteArray):=(spec_TrmOk.f k l0).bind fun t178=>(if t178=true then (spec_TrmText.l0 k l0 (⟨#[]⟩:BA) (([]:List Int)) 0) else (some (⟨#[]⟩:BA)))
theorem spec_TrmText.calls (k:Nat) (A0:Option Addr) (c0:Nat) (l0:List (S44)) (r:ByteArray) (w:World) (hr0:Kd.C k44 w A0 l0.length l0) (hc0:l0.length≤c0) (h:spec_TrmText.f k l0=some r) :
  Calls Tryd.prog 19 #[.slice A0 l0.length c0] w fun e w'=>e = .returned (.string r)∧Below w.heap.size w w':=by
 have hu44:=Tryd.underlying44;have HR0:=Am hr0;have HC0:=Am hc0;clear hr0 hc0;have HB:=Am (Below.refl w.heap.size w);have H:((spec_TrmOk.f k l0).bind fun t178=>(if t178=true then (spec_TrmText.l0 k l0 (⟨#[]⟩:BA) (([]:List Int)) 0) else (some (⟨#[]⟩:BA))))=some r:=h;clear h;obtain ⟨t178,A2,H⟩:=bnd H;(try dsimp only at H);have HC3:=Am H;clear H;go_enter Tryd.func19,Tryd.ntmps19;go_upto_if 8 with (first|(go_at_call 14;(with_reducible refine (spec_TrmOk.calls k _ _ l0 t178 _ ?side1 ?side2 A2.1).mono ?_);(case side1=>exact Zr);(case side2=>exact HC0.1);rintro e w4 ⟨rfl,hb⟩;replace HB:=Am (below_step Qd hb);clear hb))
 (try simp only [Act.put,sA_,sZ_,sS_]);have H:=HC3.1;clear HC3;by_cases c5:t178=true
 ·subst c5
  rw [if_pos rfl] at H;obtain ⟨y179,hy179⟩:∃ y_:List Int,y_=(([]:List Int)):=⟨_,rfl⟩;(first|rw [← hy179] at H|skip);try dsimp only [Option.bind_some] at H
  have Ny179:=Am hy179;clear hy179;have H':=Am H;clear H
  go_wp2_with (first|((with_reducible refine gate_dst (N:=9) rfl ?_);(try (refine gate_guard (by rfl) ?_;dsimp only));refine R_lit (Kd.int .i64) _ 3 ?hg (N:=9) ?hd (xs:=([]:List Int)) (inner:=[]) (ok:=fun _=>True) (okp:=fun _=>True) ?hr ?hp (fun _ hk=>hk) trivial (Below.refl _ _) (Nat.le_refl _) Qj ?_;(case hd=>rfl);(case hg=>rfl);(case hr=>first|(go_simp;done)|(go_simp;rfl));(case hp=>exact (Reps.none _ _));intro v180 w6 l hb hg_ hnew_;clear hg_ hnew_;(first|rw [← Ny179.1] at l|(simp only [Int.reduceToNat] at l;rw [← Ny179.1] at l));have n_:=as2 (R_lower l (below_size Qd)) (below_step Qd hb);clear HB;obtain ⟨HO181,HB⟩:=n_;clear hb l))
  go_loopg [3,4,5] k (fun kq v3 v4 v5 w'=>∃ (x3_1:ByteArray) (x4_1:List Int) (x5_1:Int),v3 = .string x3_1∧v5 = .int .i64 x5_1∧Aside0 (spec_TrmText.l0 kq l0 x3_1 x4_1 x5_1=some r)∧Aside0 (kq≤k)∧Aside0 (Kd.R (Kd.int .i64) 3 w' w.heap.size (fun _=>True) v4 x4_1)∧Aside0 (Below w.heap.size w w'))
  case atStart=>exact ⟨((⟨#[]⟩:BA)),(y179),(0),Qf,Qf,H',⟨Nat.le_refl _⟩,⟨Rp HO181.1⟩,⟨Qd⟩⟩
  case round=>
   clear H';(try clear c5);obtain ⟨x3_1,x4_1,x5_1,rfl,rfl,HA,HK1,HO_4,HB⟩:=hrel;cases gk with
   | zero=>exact absurd HA.1 (by simp [spec_TrmText.l0])
   | succ k1=>
    have H:=HA.1;clear HA;simp only [spec_TrmText.l0] at H;by_cases c8:x5_1<(l0.length:Int)
    ·rw [if_pos c8] at H
     have c8b0:=decide_eq_true c8;clear c8;(first|rw [c8b0]|rw [c8b1]|(simp only [i64_w,i32_w];rw [c8b0])|skip);obtain ⟨c9,H⟩:=ifS H;have c9b0:=decide_eq_true c9;clear c9;obtain ⟨t183,A10,H⟩:=bnd H;(try dsimp only at H);obtain ⟨c11,H⟩:=ifS H;have c11b0:=eq_true c11;have c11b1:=decide_eq_true c11;(try have c11b2:(9223372036854775807<x3_1.size+t183.size)=False:=eq_false (Nat.not_lt.2 c11));have y:=Am H;clear H;have p182:0≤(x5_1:Int):=of_decide_eq_true Qc;have q182:x5_1<(l0.length:Int):=of_decide_eq_true Qc;obtain ⟨ad182,e182,hx182_0,hx182_1,hx182_2⟩:=at_T44 HR0.1 x5_1 p182 q182;cases e182
     replace hx182_0:=cB hx182_0 HB.1;replace hx182_1:=cB hx182_1 HB.1;replace hx182_2:=cB hx182_2 HB.1;obtain ⟨p182,q182⟩:=et2 p182 q182;go_upto_region 9 with (first|(go_at_call 42;(with_reducible refine (spec_l1Word.calls k1 ((rd_T44 l0 x5_1).f0) ((rd_T44 l0 x5_1).f1) ((rd_T44 l0 x5_1).f2) t183 _ A10.1).mono ?_);rintro e w13 ⟨rfl,hb⟩;have n_:=as2 (R_below (Rp HO_4.1) hb) (below_step Qd hb);clear HO_4 HB;obtain ⟨HO_4,HB⟩:=n_;clear hb))
     (try simp only [Act.put,sA_,sZ_,sS_]);go_cut [36] (fun v36 wc=>∃ (kq:Nat) (q:Bool),v36 = .bool q∧Aside0 (spec_TrmText.j1 kq l0 (x3_1++t183) x4_1 x5_1 q=some r)∧Aside0 (kq≤k1)∧Aside0 (Kd.R (Kd.int .i64) 3 wc w.heap.size (fun _=>True) u4 x4_1)∧Aside0 (Below w.heap.size w wc))
     case first=>
      have H:=y.1;clear y;by_cases c14:((rd_T44 l0 x5_1).f0)=3
      ·rw [if_pos c14] at H
       obtain ⟨c14b0,c14b1⟩:=bqP c14;clear c14;(first|rw [c14b0]|rw [c14b1]|(simp only [i64_w,i32_w];rw [c14b0])|skip);have H':=Am H;clear H;have p184:0≤(x5_1:Int):=of_decide_eq_true Qc;have q184:x5_1<(l0.length:Int):=of_decide_eq_true Qc;obtain ⟨ad184,e184,hx184_0,hx184_1,hx184_2⟩:=at_T44 HR0.1 x5_1 p184 q184;obtain rfl:ad182=ad184:=(by injection e184);replace hx184_0:=cB hx184_0 HB.1;replace hx184_1:=cB hx184_1 HB.1;replace hx184_2:=cB hx184_2 HB.1;obtain ⟨p184,q184⟩:=et2 p184 q184;have p185:0≤(x5_1:Int):=of_decide_eq_true Qc;have q185:x5_1<(l0.length:Int):=of_decide_eq_true Qc;obtain ⟨ad185,e185,hx185_0,hx185_1,hx185_2⟩:=at_T44 HR0.1 x5_1 p185 q185;obtain rfl:ad182=ad185:=(by injection e185);replace hx185_0:=cB hx185_0 HB.1;replace hx185_1:=cB hx185_1 HB.1;replace hx185_2:=cB hx185_2 HB.1;obtain ⟨p185,q185⟩:=et2 p185 q185;go_wp2;go_meet
       case rel=>exact ⟨_,(decide (((rd_T44 l0 x5_1).f1) > 0)),Qf,H',⟨QE⟩,⟨Rp HO_4.1⟩,⟨Qd⟩⟩
      ·rw [if_neg c14] at H
       obtain ⟨c14b0,c14b1⟩:=bqN c14;(first|rw [c14b0]|rw [c14b1]|(simp only [i64_w,i32_w];rw [c14b0])|skip);have H':=Am H;clear H;have p184:0≤(x5_1:Int):=of_decide_eq_true Qc;have q184:x5_1<(l0.length:Int):=of_decide_eq_true Qc;obtain ⟨ad184,e184,hx184_0,hx184_1,hx184_2⟩:=at_T44 HR0.1 x5_1 p184 q184;obtain rfl:ad182=ad184:=(by injection e184);replace hx184_0:=cB hx184_0 HB.1;replace hx184_1:=cB hx184_1 HB.1;replace hx184_2:=cB hx184_2 HB.1;obtain ⟨p184,q184⟩:=et2 p184 q184;go_wp2;go_meet
       case rel=>exact ⟨_,(false),Qf,H',⟨QE⟩,⟨Rp HO_4.1⟩,⟨Qd⟩⟩
     case rest=>
      clear y;(try clear c5);(try clear c8);(try clear c8b0);(try clear c9);(try clear c9b0);(try clear c11);(try clear c11b0);(try clear c11b1);(try clear c11b2);(try clear hx182_0);(try clear hx182_1);(try clear hx182_2);(try clear p182);(try clear q182);obtain ⟨kq,q,rfl,HA,j,HO_4,HB⟩:=hcut;cases kq with
      | zero=>exact absurd HA.1 (by simp [spec_TrmText.j1])
      | succ z=>
       have H:=HA.1;clear HA;simp only [spec_TrmText.j1] at H;by_cases c15:q=true
       ·subst c15
        rw [if_pos rfl] at H;obtain ⟨c16,H⟩:=ifS H;have c16b0:=eq_true c16;have c16b1:=decide_eq_true c16;(try (have Y:=c16b1;simp only [ByteArray.size_append] at Y));(try have Z:(9223372036854775807<(x3_1++t183).size+1)=False:=eq_false (Nat.not_lt.2 c16));(try (have ad:=Z;simp only [ByteArray.size_append] at ad));obtain ⟨c17,H⟩:=ifS H;have c17b0:=decide_eq_true c17;clear c17;obtain ⟨c18,H⟩:=ifS H;have c18b0:=decide_eq_true c18;clear c18;obtain ⟨c19,H⟩:=ifS H;have LMc19:=Am c19;clear c19;obtain ⟨y187,hy187⟩:∃ y_:List Int,y_=(x4_1++[(rd_T44 l0 x5_1).f1]):=⟨_,rfl⟩;(first|rw [← hy187] at H|skip);try dsimp only [Option.bind_some] at H
        have Ny187:=Am hy187;clear hy187;have H':=Am H;clear H;have p186:0≤(x5_1:Int):=of_decide_eq_true Qc;have q186:x5_1<(l0.length:Int):=of_decide_eq_true Qc;obtain ⟨ad186,e186,hx186_0,hx186_1,hx186_2⟩:=at_T44 HR0.1 x5_1 p186 q186;obtain rfl:ad182=ad186:=(by injection e186);replace hx186_0:=cB hx186_0 HB.1;replace hx186_1:=cB hx186_1 HB.1;replace hx186_2:=cB hx186_2 HB.1;obtain ⟨p186,q186⟩:=et2 p186 q186
        go_wp2_with (first|((with_reducible refine gate_builtin (b:=.append) (xs:=#[.tmp 39,.tmp 45]) rfl ?_);(try (refine gate_guard (by rfl) ?_;dsimp only));at_builtin;refine R_append (Kd.int .i64) (w0:=w) w.heap.size rfl (.tmp 39) (.tmp 45) 75 3 (.int .i64 0) 8 rfl Tryd.underlying75 info3 rfl Qa Qe u4 x4_1 ((rd_T44 l0 x5_1).f1) [.int .i64 ((rd_T44 l0 x5_1).f1)] (fun _=>True) (fun _=>False) rfl rfl ?aP (fun _ hk=>hk.elim) ?aF ?aO ?aB ?aS ?aL ?_;(case aP=>exact rfl);(case aB=>exact Qd);(case aF=>exact (fun _ _=>trivial));(case aO=>exact (Rp HO_4.1));(case aS=>exact (below_size Qd));(case aL=>have:=LMc19.1;omega);intro v188 w20 ho hb hg hat;rw [← Ny187.1] at ho;have n_:=as2 (hb) (ho);clear HB HO_4;obtain ⟨HB,HO189⟩:=n_;clear ho hb hg hat))
        go_roundg z
        case measure=>have:=HK1.1;have:=j.1;omega
        case rel=>exact ⟨((x3_1++t183)++(⟨#[40]⟩:BA)),(y187),(wrap64 (x5_1+1)),Qf,Qf,H',⟨by have:=HK1.1;have:=j.1;omega⟩,⟨Rp HO189.1⟩,⟨Qd⟩⟩
       ·replace c15:=Bool.eq_false_iff.mpr c15
        subst c15;rw [if_neg nft] at H;have H':=Am H;clear H;go_wp2
        go_loopg [3,4] z (fun kq v3 v4 w'=>∃ (x3_3:ByteArray) (x4_3:List Int),v3 = .string x3_3∧Aside0 (spec_TrmText.l1 kq l0 x3_3 x4_3 x5_1=some r)∧Aside0 (kq≤z)∧Aside0 (Kd.R (Kd.int .i64) 3 w' w.heap.size (fun _=>True) v4 x4_3)∧Aside0 (Below w.heap.size w w'))
        case atStart=>exact ⟨((x3_1++t183)),(x4_1),Qf,H',⟨Nat.le_refl _⟩,⟨Rp HO_4.1⟩,⟨Qd⟩⟩
        case round=>
         clear H';(try clear c5);(try clear c8);(try clear c8b0);(try clear c9);(try clear c9b0);(try clear c11);(try clear c11b0);(try clear c11b1);(try clear c11b2);(try clear c15);(try clear hx182_0);(try clear hx182_1);(try clear hx182_2);(try clear p182);(try clear q182);obtain ⟨x3_3,x4_3,rfl,HA,HK3,HO_4,HB⟩:=hrel;cases gk with
         | zero=>exact absurd HA.1 (by simp [spec_TrmText.l1])
         | succ k3=>
          have H:=HA.1;clear HA;simp only [spec_TrmText.l1] at H;by_cases c21:(x4_3.length:Int) > 0
          ·rw [if_pos c21] at H
           have c21b0:=decide_eq_true c21;have c21b1:decide (0<x4_3.length)=true:=decide_eq_true Qe;clear c21;obtain ⟨g,A⟩:∃ j_:Int,(wrap64 ((x4_3.length:Int) - 1))=j_:=⟨_,rfl⟩;replace H:(if 0≤(g) then (if (g)<(x4_3.length:Int) then (if (rd x4_3 (g))=1 then (if x3_3.size+1≤9223372036854775807 then (if (g)≤(x4_3.length:Int) then (spec_TrmText.l1 k3 l0 (x3_3++(⟨#[41]⟩:BA)) (x4_3.take ((g):Int).toNat) x5_1) else (none)) else (none)) else (if x3_3.size+1≤9223372036854775807 then (spec_TrmText.l0 k3 l0 (x3_3++(⟨#[44]⟩:BA)) (x4_3.set ((g):Int).toNat (wrap64 ((rd x4_3 (g)) - 1))) (wrap64 (x5_1+1))) else (none))) else (none)) else (none))=some r:=by first|(rw [A] at H;exact H)|(simp only [A] at H ⊢;exact H)
           have cp:(IntKind.i64.wrap ((x4_3.length:Int) - 1))=g:=(i64_w _).trans A;obtain ⟨c23,H⟩:=ifS H;have c23b0:=decide_eq_true c23;clear c23;obtain ⟨c24,H⟩:=ifS H;have c24b0:=decide_eq_true c24;clear c24;by_cases c25:(rd x4_3 (g))=1
           ·rw [if_pos c25] at H
            obtain ⟨c25b0,c25b1⟩:=bqP c25;clear c25;obtain ⟨c26,H⟩:=ifS H;have c26b0:=eq_true c26;have c26b1:=decide_eq_true c26;(try have cq:(9223372036854775807<x3_3.size+1)=False:=eq_false (Nat.not_lt.2 c26));obtain ⟨c27,H⟩:=ifS H;have c27b0:=eq_true c27;have c27b1:=decide_eq_true c27;clear c27;obtain ⟨y191,hy191⟩:∃ y_:List Int,y_=(x4_3.take ((g):Int).toNat):=⟨_,rfl⟩;(first|rw [← hy191] at H|skip);try dsimp only [Option.bind_some] at H
            have Ny191:=Am hy191;clear hy191;have H':=Am H;clear H;obtain ⟨Ao28,co28,eo28⟩:=R_slice HO_4.1;subst eo28;have p190:0≤((g):Int):=of_decide_eq_true Qc;have q190:(g)<(x4_3.length:Int):=of_decide_eq_true Qc;obtain ⟨ad190,e190,hx190_0⟩:=Kd.at_int (R_reads' HO_4.1).2.2 (g) p190 q190;cases e190
            obtain ⟨p190,q190⟩:=et2 p190 q190;have B:((g):Int)≤((x4_3.length:Int):Int):=of_decide_eq_true Qc;obtain ⟨cr,L,_,aR,_⟩:=info_parts info3;have a2:=cut_to (P:=Tryd.prog) 75 3 .i64 Tryd.underlying75 L (some ad190) x4_3.length co28 (g) (of_decide_eq_true Qc) B (R_reads' HO_4.1).2.1;have s:=R_take (m:=((g):Int).toNat) HO_4.1 Qe;have hy29:y191.length=((g):Int).toNat:=(by rw [Ny191.1,List.length_take];omega);rw [← Ny191.1] at s;rw [← hy29] at s a2;clear hy29 L aR HO_4;have HO193:=Am s;clear s;replace B:=eq_true B;go_wp2;go_roundg k3
            case measure=>have:=HK1.1;have:=j.1;have:=HK3.1;omega
            case rel=>exact ⟨(x3_3++(⟨#[41]⟩:BA)),(y191),Qf,H',⟨by have:=HK1.1;have:=j.1;have:=HK3.1;omega⟩,⟨Rp HO193.1⟩,⟨Qd⟩⟩
           ·rw [if_neg c25] at H
            obtain ⟨c25b0,c25b1⟩:=bqN c25;obtain ⟨c30,H⟩:=ifS H;have ct:=eq_true c30;have cu:=decide_eq_true c30;(try have cv:(9223372036854775807<x3_3.size+1)=False:=eq_false (Nat.not_lt.2 c30));obtain ⟨y195,hy195⟩:∃ y_:List Int,y_=(x4_3.set ((g):Int).toNat (wrap64 ((rd x4_3 (g)) - 1))):=⟨_,rfl⟩;(first|rw [← hy195] at H|skip);try dsimp only [Option.bind_some] at H
            have Ny195:=Am hy195;clear hy195;have H':=Am H;clear H;obtain ⟨Ao32,co32,eo32⟩:=R_slice HO_4.1;subst eo32;have p190:0≤((g):Int):=of_decide_eq_true Qc;have q190:(g)<(x4_3.length:Int):=of_decide_eq_true Qc;obtain ⟨ad190,e190,hx190_0⟩:=Kd.at_int (R_reads' HO_4.1).2.2 (g) p190 q190;cases e190
            obtain ⟨p190,q190⟩:=et2 p190 q190;have p194:0≤((g):Int):=of_decide_eq_true Qc;have q194:(g)<(x4_3.length:Int):=of_decide_eq_true Qc;obtain ⟨ad194,e194,hx194_0⟩:=Kd.at_int (R_reads' HO_4.1).2.2 (g) p194 q194;obtain rfl:ad190=ad194:=(by injection e194);obtain ⟨p194,q194⟩:=et2 p194 q194;have p31:0≤((g):Int):=of_decide_eq_true Qc;have D:((g):Int)<((x4_3.length:Int):Int):=of_decide_eq_true Qc;obtain ⟨E,co31,eo31,O,bY,cw,Q⟩:=R_form HO_4.1 Qe;(first|cases eo31|(injection eo31 with ea_ en_ ec_;(first|subst ea_|(injection ea_ with ea_;subst ea_));subst ec_;clear en_));have bZ:=Am O;have cx:=Am Q;clear O bY Q;(first|simp only [add_plain] at hx190_0|skip);(first|simp only [add_plain] at hx194_0|skip);obtain ⟨cy,cz⟩:=R_celln 0 HO_4.1 ((g):Int) p31 D;obtain ⟨p31,D⟩:=et2 p31 D;have G:=R_putg HO_4.1 ((g):Int) (wrap64 ((rd x4_3 (g)) - 1))
            go_wp2_with (first|((with_reducible refine gate_store (t:=3) (p:=82) rfl ?_);refine store_event (t:=3) (p:=82) (v:=?vo_w34) (w1:=(wr.setCell ⟨E,((g):Int).toNat,none⟩ (.int .i64 (wrap64 ((rd x4_3 (g)) - 1))))) ?hg ?ho ?hn ?hr ?_;(case ho=>rfl);(case hg=>rfl);(case hn=>rfl);(case hr=>first|(go_simp;done)|(go_simp;rfl));intro w34 hw;have hg:wr.grownBy w34 (some E):=(by rw [hw];exact G.2);have hp_:Kd.R (Kd.int .i64) 3 w34 w.heap.size (fun _=>True) (.slice (some ⟨E,0,none⟩) x4_3.length co32) y195:=(by rw [hw,Ny195.1];exact G.1);clear G;have n_:=as2 (hp_) ((by rw [hw];exact below_set (HB.1) bZ.1:Below w.heap.size w w34));clear HO_4 HB;obtain ⟨HO_4,HB⟩:=n_;clear hg hw hp_))
            go_roundg k3
            case measure=>have:=HK1.1;have:=j.1;have:=HK3.1;omega
            case rel=>exact ⟨(x3_3++(⟨#[44]⟩:BA)),(y195),(wrap64 (x5_1+1)),Qf,Qf,H',⟨by have:=HK1.1;have:=j.1;have:=HK3.1;omega⟩,⟨Rp HO_4.1⟩,⟨Qd⟩⟩
          ·rw [if_neg c21] at H
           have c21b0:=decide_eq_false c21;have c21b1:decide (0<x4_3.length)=false:=decide_eq_false Qe;clear c21;have H':=Am H;clear H;obtain ⟨Ao35,co35,eo35⟩:=R_slice HO_4.1;subst eo35;go_wp2;go_roundg k3
           case measure=>have:=HK1.1;have:=j.1;have:=HK3.1;omega
           case rel=>exact ⟨(x3_3),(x4_3),(wrap64 (x5_1+1)),Qf,Qf,H',⟨by have:=HK1.1;have:=j.1;have:=HK3.1;omega⟩,⟨Rp HO_4.1⟩,⟨Qd⟩⟩
    ·rw [if_neg c8] at H
     have c8b0:=decide_eq_false c8;clear c8;(first|rw [c8b0]|rw [c8b1]|(simp only [i64_w,i32_w];rw [c8b0])|skip);obtain rfl:=oi H;go_wp2;go_ret;exact ⟨Qg,Qd⟩
 ·replace c5:=Bool.eq_false_iff.mpr c5
  subst c5;rw [if_neg nft] at H;obtain rfl:=oi H;go_wp2;go_ret;exact ⟨Qg,Qd⟩
mutual
def spec_l1Digits.l0:Nat→ByteArray→Int→Option (Int)
 | 0,_,_=>none
 | k+1,x0,x5=>if x5<(x0.size:Int) then (if 0≤x5 then (if (bt x0 x5)≥48 then (spec_l1Digits.j1 k x0 x5 (decide ((bt x0 x5)≤57))) else (spec_l1Digits.j1 k x0 x5 false)) else (none)) else (spec_l1Digits.j1 k x0 x5 false)
def spec_l1Digits.j1:Nat→ByteArray→Int→Bool→Option (Int)
 | 0,_,_,_=>none
 | k+1,x0,x5,x22=>if x22=true then (spec_l1Digits.l0 k x0 (wrap64 (x5+1))) else (some x5)
end
def spec_l1Digits.f (k:Nat) (a0:ByteArray) (a1:Int):Option (Int):=spec_l1Digits.l0 k a0 a1
theorem spec_l1Digits.calls (k:Nat) (a0:ByteArray) (a1:Int) (r:Int) (w:World) (h:spec_l1Digits.f k a0 a1=some r) :
  Calls Tryd.prog 76 #[.string a0,.int .i64 a1] w fun e w'=>e = .returned (.int .i64 r)∧Drawn0 w w':=by
 have H:(spec_l1Digits.l0 k a0 a1)=some r:=h;clear h;have H':=Am H;clear H;go_enter Tryd.func76,Tryd.ntmps76;go_wp2
 go_loopg [5] k (fun kq v5 w'=>∃ (x5_1:Int),v5 = .int .i64 x5_1∧Aside0 (spec_l1Digits.l0 kq a0 x5_1=some r)∧Aside0 (kq≤k)∧Drawn0 w w')
 case atStart=>exact ⟨(a1),Qf,H',⟨Nat.le_refl _⟩,Qp⟩
 case round=>
  clear H';obtain ⟨x5_1,rfl,HA,HK1,⟨m1,rfl⟩⟩:=hrel;cases gk with
  | zero=>exact absurd HA.1 (by simp [spec_l1Digits.l0])
  | succ k1=>
   have H:=HA.1;clear HA;simp only [spec_l1Digits.l0] at H;have HC3:=Am H;clear H;go_upto_region 2 with (fail)
   go_cut [22] (fun v22 wc=>∃ (kq:Nat) (u:Bool),v22 = .bool u∧Aside0 (spec_l1Digits.j1 kq a0 x5_1 u=some r)∧Aside0 (kq≤k1)∧Drawn0 w wc)
   case first=>
    have H:=HC3.1;clear HC3;by_cases c4:x5_1<(a0.size:Int)
    ·rw [if_pos c4] at H
     have c4b0:=decide_eq_true c4;clear c4;(first|rw [c4b0]|rw [c4b1]|(simp only [i64_w,i32_w];rw [c4b0])|skip);obtain ⟨c5,H⟩:=ifS H;have c5b0:=decide_eq_true c5;clear c5;by_cases c7:(bt a0 x5_1)≥48
     ·rw [if_pos c7] at H
      have c7b0:=decide_eq_true c7;clear c7;have H':=Am H;clear H;have p6:0≤(x5_1:Int):=of_decide_eq_true Qc;have q6:x5_1<(a0.size:Int):=of_decide_eq_true Qc;have hx6:=bt_at a0 x5_1;obtain ⟨p6,q6⟩:=et2 p6 q6;have p8:0≤(x5_1:Int):=of_decide_eq_true Qc;have q8:x5_1<(a0.size:Int):=of_decide_eq_true Qc;have hx8:=bt_at a0 x5_1;obtain ⟨p8,q8⟩:=et2 p8 q8;go_wp2;go_meet
      case rel=>exact ⟨_,(decide ((bt a0 x5_1)≤57)),Qf,H',⟨QE⟩,Qp⟩
     ·rw [if_neg c7] at H
      have c7b0:=decide_eq_false c7;clear c7;have H':=Am H;clear H;have p6:0≤(x5_1:Int):=of_decide_eq_true Qc;have q6:x5_1<(a0.size:Int):=of_decide_eq_true Qc;have hx6:=bt_at a0 x5_1;obtain ⟨p6,q6⟩:=et2 p6 q6;go_wp2;go_meet
      case rel=>exact ⟨_,(false),Qf,H',⟨QE⟩,Qp⟩
    ·rw [if_neg c4] at H
     have c4b0:=decide_eq_false c4;clear c4;(first|rw [c4b0]|rw [c4b1]|(simp only [i64_w,i32_w];rw [c4b0])|skip);have H':=Am H;clear H;go_wp2;go_meet
     case rel=>exact ⟨_,(false),Qf,H',⟨QE⟩,Qp⟩
   case rest=>
    clear HC3;obtain ⟨kq,u,rfl,HA,HJ2,⟨cA,rfl⟩⟩:=hcut;cases kq with
    | zero=>exact absurd HA.1 (by simp [spec_l1Digits.j1])
    | succ kj2=>
     have H:=HA.1;clear HA;simp only [spec_l1Digits.j1] at H;by_cases c9:u=true
     ·subst c9
      rw [if_pos rfl] at H;have H':=Am H;clear H;go_wp2;go_roundg kj2
      case measure=>have:=HK1.1;have:=HJ2.1;omega
      case rel=>exact ⟨(wrap64 (x5_1+1)),Qf,H',⟨by have:=HK1.1;have:=HJ2.1;omega⟩,Qp⟩
     ·replace c9:=Bool.eq_false_iff.mpr c9
      subst c9;rw [if_neg nft] at H;obtain rfl:=oi H;go_wp2;go_ret;exact ⟨Qf,Qp⟩
end Go.Proofs.YtlhniagacegbeaaDoor.P
