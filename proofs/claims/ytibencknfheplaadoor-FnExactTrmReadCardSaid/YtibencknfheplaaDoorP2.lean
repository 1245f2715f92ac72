/- Contracts of functions of the program: each as a Lean function, and that its call does what that says; printed by cprint.py (this session) over print.py of the kit. Conditions: the hypotheses of each theorem. -/
import Derived.Test.YtibencknfheplaaDoorVZ
import Derived.Test.YtibencknfheplaaDoorP0
import Derived.Test.YtibencknfheplaaDoorP1
namespace Go.Proofs.YtibencknfheplaaDoor.P
open Go.RowKit Go.Proofs.YtibencknfheplaaDoorW.PrintWords Go.Proofs.YtibencknfheplaaDoorW.PrintLast Go.Proofs.YtibencknfheplaaDoorW.PrintMore
attribute [local go_sem] max2_int min2_int max_two min_two max_three min_three max_four min_four   -- for this text's walks alone
set_option linter.unusedVariables false
set_option linter.unusedSimpArgs false

/-! ### impl_args: function 40 -/
def impl_args.l0:Nat→List (List (S34))→List (S34)→Int→Int→Option ((List (List (S34))))
 | 0,_,_,_,_=>none
 | k+1,x3,x4,x11,x12=>if x12<x11 then ((impl_size.f k x4).bind fun t123=>(if 0≤t123 then (if t123≤(x4.length:Int) then (if x3.length<5864062014805 then (impl_args.l0 k (x3++[(x4.take (t123:Int).toNat)]) (x4.drop (t123:Int).toNat) x11 (wrap64 (x12+1))) else (none)) else (none)) else (none))) else (some x3)
def impl_args.f (k:Nat) (l0:List (S34)):Option ((List (List (S34)))):=if 1≤(l0.length:Int) then (if 0<(l0.length:Int) then ((impl_TrmCell_arity.f ((rd_T34 l0 0).f0) ((rd_T34 l0 0).f1) ((rd_T34 l0 0).f2)).bind fun t122=>(impl_args.l0 k ([]:List (List (S34))) (l0.drop 1) t122 0)) else (none)) else (none)
set_option maxHeartbeats 8000000 in
set_option maxRecDepth 100000 in
theorem impl_args.calls (k:Nat) (P0_:Nat→Prop) (A0:Option Addr) (c0:Nat) (l0:List (S34)) (r:List (List (S34))) (w:World) (hs0:Kd.V k34 34 w w.heap.size (fun k_=>P0_ k_) (.slice A0 l0.length c0) l0) (h:impl_args.f k l0=some r) :
  Calls Tryd.prog 40 #[.slice A0 l0.length c0] w fun e w'=>∃ v0_:Value,e = .returned (v0_)∧Kd.N (Kd.slice 34 k34) 25 w' w.heap.size (fun k_=>(P0_ k_∨w.heap.size≤k_)) v0_ r∧Below w.heap.size w w':=by
 have hu34:=Tryd.underlying34
 have HO0:=Aside0.mk (show Kd.V k34 34 w w.heap.size (fun k_=>(P0_ k_∨w.heap.size≤k_)) (.slice A0 l0.length c0) l0 from Kd.V_mono hs0 (fun k_ hk=>.inl hk))
 have HB:=Aside0.mk (Below.refl w.heap.size w)
 have H:(if 1≤(l0.length:Int) then (if 0<(l0.length:Int) then ((impl_TrmCell_arity.f ((rd_T34 l0 0).f0) ((rd_T34 l0 0).f1) ((rd_T34 l0 0).f2)).bind fun t122=>(impl_args.l0 k ([]:List (List (S34))) (l0.drop 1) t122 0)) else (none)) else (none))=some r:=h
 clear h
 by_cases c2:1≤(l0.length:Int)
 ·rw [if_pos c2] at H
  have c2b0:=eq_true c2
  have c2b1:decide (1≤(l0.length:Int))=true:=decide_eq_true c2
  clear c2
  obtain ⟨y116,hy116⟩:∃ y_:List (S34),y_=(l0.drop 1):=⟨_,rfl⟩
  replace H:(if 0<(l0.length:Int) then ((impl_TrmCell_arity.f ((rd_T34 l0 0).f0) ((rd_T34 l0 0).f1) ((rd_T34 l0 0).f2)).bind fun t122=>(impl_args.l0 k ([]:List (List (S34))) y116 t122 0)) else (none))=some r:=by first|(rw [hy116];exact H)|exact H
  have Ny116:=Aside0.mk hy116
  clear hy116
  by_cases c3:0<(l0.length:Int)
  ·rw [if_pos c3] at H
   have c3b0:decide (0<(l0.length:Int))=true:=decide_eq_true c3
   have c3b1:decide (0<l0.length)=true:=decide_eq_true (by omega)
   clear c3
   replace H:=Option.bind_eq_some_iff.mp H
   obtain ⟨t122,A40,H⟩:=H
   try dsimp only at H
   have A4:=Aside0.mk A40
   clear A40
   have H':=Aside0.mk H
   clear H
   have q5:(1:Int)≤((l0.length:Int):Int):=of_decide_eq_true qz4
   obtain ⟨i05,hi05,_,hsz5,_⟩:=info_parts info34
   have hroom5:l0.length≤c0:=(Kd.V_reads' HO0.out).2.1
   have hC5:Kd.F k34 _ _ A0 l0.length l0:=(Kd.V_at (base:=w.heap.size) HO0.out).2.2
   have hcut5:=cut_from (P:=Tryd.prog) 25 34 .i64 Tryd.underlying25 hi05 3 hsz5 A0 l0.length c0 1 (by omega) q5
   have hr5:=Kd.F_cut (m:=(1:Int).toNat) (c:=c0) hC5 (by omega) hroom5
   obtain ⟨A5,hA5⟩:∃ A1,A1=(if c0=(1:Int).toNat then A0 else (A0:Option Addr).map (·.add ((1:Int).toNat * 3))):=⟨_,rfl⟩
   obtain ⟨c5,hc5⟩:∃ c1,c1=c0 - (1:Int).toNat:=⟨_,rfl⟩
   have hy5:y116.length=l0.length - (1:Int).toNat:=(by rw [Ny116.out,List.length_drop] <;> omega)
   rw [show (l0).drop (1:Int).toNat=y116 from Ny116.out.symm] at hr5
   replace hr5:Kd.F k34 _ _ A5 y116.length y116:=(by rw [hA5];exact hr5)
   rw [← hy5,← hA5,← hc5] at hcut5
   have HO120:=Aside0.mk (show Kd.V k34 34 _ w.heap.size _ (.slice A5 y116.length c5) y116 from Kd.V_mk (by rw [hy5,hc5];exact Nat.sub_le_sub_right hroom5 _) hr5)
   have HC120:=Aside0.mk (show y116.length≤c5 from by rw [hy5,hc5];exact Nat.sub_le_sub_right hroom5 _)
   clear hr5 hC5 hroom5 hi05 hsz5 hc5
   have KY5:=Aside0.mk hy5
   have KA5:=Aside0.mk hA5
   clear hy5 hA5
   replace q5:=eq_true q5
   have p121:0≤(0:Int):=(by omega)
   have q121:0<(l0.length:Int):=of_decide_eq_true qz4
   obtain ⟨ad121,e121,hx121_0,hx121_1,hx121_2⟩:=at_T34 (Kd.V_reads' HO0.out).2.2 0 p121 q121
   cases e121
   have qi121:(0<l0.length)=True:=eq_true (by omega)
   (try rw [show ((0:Int)).toNat=0 from rfl] at hx121_0)
   (try rw [show 0 * 3=0 from rfl] at hx121_0)
   (try rw [Addr.add_zero'] at hx121_0)
   (try rw [show ((0:Int)).toNat=0 from rfl] at hx121_1)
   (try rw [show 0 * 3=0 from rfl] at hx121_1)
   (try rw [Addr.add_zero'] at hx121_1)
   (try rw [show ((0:Int)).toNat=0 from rfl] at hx121_2)
   (try rw [show 0 * 3=0 from rfl] at hx121_2)
   (try rw [Addr.add_zero'] at hx121_2)
   replace p121:=eq_true p121
   replace q121:=eq_true q121
   go_enter Tryd.func40,Tryd.ntmps40
   go_wp2_with (first|((with_reducible refine gate_callee (f:=41) rfl ?_);refine goesL_ (some 11) rfl rfl Tryd.func41 (by kernel_rfl) rfl #[.agg #[.int .i64 ((rd_T34 l0 0).f0),.int .i64 ((rd_T34 l0 0).f1),.string ((rd_T34 l0 0).f2)]] rfl qz3 ?_;(with_reducible refine (impl_TrmCell_arity.calls ((rd_T34 l0 0).f0) ((rd_T34 l0 0).f1) ((rd_T34 l0 0).f2) t122 _ A4.out).mono ?_);rintro e w6 ⟨rfl,hb⟩;refine ⟨_,rfl,?_⟩;have n0_:=Aside0.mk (Kd.V_below (by (with_reducible repeat (first|apply Kd.V_alloc|apply Kd.V_drewN|apply Kd.V_drew));exact HO0.out) hb);have n1_:=Aside0.mk (Kd.V_below (by (with_reducible repeat (first|apply Kd.V_alloc|apply Kd.V_drewN|apply Kd.V_drew));exact HO120.out) hb);have n2_:=Aside0.mk (below_step qz1 hb);clear HO0 HO120 HB;have HO0:=n0_;have HO120:=n1_;have HB:=n2_;clear n0_ n1_ n2_;(try clear hb);(try clear hb2);(try clear hk);(try clear hi)))
   go_loopg [3,4,12] k (fun kq v3 v4 v12 w'=>∃ (x3_1:List (List (S34))) (x4_1:List (S34)) (x12_1:Int),v12 = .int .i64 x12_1∧Aside0 (impl_args.l0 kq x3_1 x4_1 t122 x12_1=some r)∧Aside0 (kq≤k)∧Aside0 (Kd.N (Kd.slice 34 k34) 25 w' w.heap.size (fun k_=>(P0_ k_∨w.heap.size≤k_)) v3 x3_1)∧Aside0 (Kd.V k34 34 w' w.heap.size (fun k_=>(P0_ k_∨w.heap.size≤k_)∧some k_≠(v3:Value).ownBlock) v4 x4_1)∧Aside0 (Below w.heap.size w w'))
   case atStart=>exact ⟨(([]:List (List (S34)))),(y116),(0),qz6,H',⟨Nat.le_refl _⟩,⟨by first|exact Kd.S_nil _ _ _ _ _|exact Kd.N_nil _ _ _ _ _|exact Kd.V_nil _ _ _ _ _|exact Kd.Q_nil _ _ _ _ _|exact Kd.R_nil _ _ _ _ _⟩,⟨by (with_reducible repeat (first|apply Kd.V_alloc|apply Kd.V_drewN|apply Kd.V_drew));exact Kd.V_mono HO120.out (fun _ hk=>⟨hk,(by simp [Value.ownBlock])⟩)⟩,⟨qz2⟩⟩
   case round=>
    clear H'
    try clear c1
    try clear p1
    try clear q1
    try clear hx1
    try clear qi1
    try clear c2
    try clear c2b0
    try clear c2b1
    try clear p2
    try clear c3
    try clear c3b0
    try clear c3b1
    try clear c4
    try clear c5
    try clear q5
    try clear hx121_0
    try clear hx121_1
    try clear hx121_2
    try clear p121
    try clear q121
    try clear q5
    obtain ⟨x3_1,x4_1,x12_1,rfl,HA,HK1,HO_3,HO_4,HB⟩:=hrel
    cases gk with
    | zero=>exact absurd HA.out (by simp [impl_args.l0])
    | succ k1=>
     have H:=HA.out
     clear HA
     simp only [impl_args.l0] at H
     by_cases c7:x12_1<t122
     ·rw [if_pos c7] at H
      have c7b0:decide (x12_1<t122)=true:=decide_eq_true c7
      clear c7
      replace H:=Option.bind_eq_some_iff.mp H
      obtain ⟨t123,A80,H⟩:=H
      try dsimp only at H
      have A8:=Aside0.mk A80
      clear A80
      by_cases c9:0≤t123
      ·rw [if_pos c9] at H
       have c9b0:=eq_true c9
       have c9b1:decide (0≤t123)=true:=decide_eq_true c9
       clear c9
       by_cases c10:t123≤(x4_1.length:Int)
       ·rw [if_pos c10] at H
        have c10b0:=eq_true c10
        have c10b1:decide (t123≤(x4_1.length:Int))=true:=decide_eq_true c10
        clear c10
        obtain ⟨y124,hy124⟩:∃ y_:List (S34),y_=(x4_1.take (t123:Int).toNat):=⟨_,rfl⟩
        replace H:(if x3_1.length<5864062014805 then (impl_args.l0 k1 (x3_1++[y124]) (x4_1.drop (t123:Int).toNat) t122 (wrap64 (x12_1+1))) else (none))=some r:=by first|(rw [hy124];exact H)|exact H
        have Ny124:=Aside0.mk hy124
        clear hy124
        by_cases c11:x3_1.length<5864062014805
        ·rw [if_pos c11] at H
         have LMc11:=Aside0.mk c11
         clear c11
         obtain ⟨y129,hy129⟩:∃ y_:List (List (S34)),y_=(x3_1++[y124]):=⟨_,rfl⟩
         replace H:(impl_args.l0 k1 y129 (x4_1.drop (t123:Int).toNat) t122 (wrap64 (x12_1+1)))=some r:=by first|(rw [hy129];exact H)|exact H
         have Ny129:=Aside0.mk hy129
         clear hy129
         have c12b0:=eq_true (of_decide_eq_true qz4:0≤t123)
         have c13b0:=eq_true (of_decide_eq_true qz4:t123≤(x4_1.length:Int))
         obtain ⟨y132,hy132⟩:∃ y_:List (S34),y_=(x4_1.drop (t123:Int).toNat):=⟨_,rfl⟩
         replace H:(impl_args.l0 k1 y129 y132 t122 (wrap64 (x12_1+1)))=some r:=by first|(rw [hy132];exact H)|exact H
         have Ny132:=Aside0.mk hy132
         clear hy132
         have H':=Aside0.mk H
         clear H
         obtain ⟨Ao14,co14,eo14⟩:=Kd.V_slice HO_4.out
         subst eo14
         go_wp2_with (first|((with_reducible refine gate_callee (f:=37) rfl ?_);refine goesL_ (some 15) rfl rfl Tryd.func37 (by kernel_rfl) rfl #[.slice Ao14 x4_1.length co14] rfl qz3 ?_;(with_reducible refine (impl_size.calls k1 _ _ x4_1 t123 _ ?side1 ?side2 A8.out).mono ?_);(case side1=>repeat (first|exact (Kd.V_reads' HO_4.out).2.2|(with_reducible refine Kd.C_alloc ?_ _)|(with_reducible refine Kd.C_drewN ?_ _)|(with_reducible refine Kd.C_drew ?_)));(case side2=>exact (Kd.V_reads' HO_4.out).2.1);rintro e w15 ⟨rfl,hb⟩;refine ⟨_,rfl,?_⟩;have n0_:=Aside0.mk (Kd.N_below qz42 hb);have n1_:=Aside0.mk (Kd.V_below (by (with_reducible repeat (first|apply Kd.V_alloc|apply Kd.V_drewN|apply Kd.V_drew));exact HO_4.out) hb);have n2_:=Aside0.mk (below_step qz1 hb);clear HO_3 HO_4 HB;have HO_3:=n0_;have HO_4:=n1_;have HB:=n2_;clear n0_ n1_ n2_;(try clear hb);(try clear hb2);(try clear hk);(try clear hi);have q16:(t123:Int)≤((x4_1.length:Int):Int):=of_decide_eq_true qz4;obtain ⟨i016,hi016,_,hsz16,_⟩:=info_parts info34;have hroom16:x4_1.length≤co14:=(Kd.V_reads' HO_4.out).2.1;have hC16:Kd.F k34 _ _ Ao14 x4_1.length x4_1:=(Kd.V_at (base:=w.heap.size) HO_4.out).2.2;have hcut16:=cut_to (P:=Tryd.prog) 25 34 .i64 Tryd.underlying25 hi016 Ao14 x4_1.length co14 t123 (of_decide_eq_true qz4) q16 hroom16;have hr16:=Kd.F_take (m:=(t123:Int).toNat) hC16 (by omega);have hy16:y124.length=(t123:Int).toNat:=(by rw [Ny124.out,List.length_take];omega);rw [← Ny124.out] at hr16;rw [← hy16] at hcut16;have HO128:=Aside0.mk (show Kd.V k34 34 _ w.heap.size _ (.slice Ao14 y124.length co14) y124 from Kd.V_mk (by omega) hr16);have HC128:=Aside0.mk (show y124.length≤co14 from by omega);clear hr16 hC16 hroom16 hi016 hsz16;have KY16:=Aside0.mk hy16;clear hy16;replace q16:=eq_true q16)|((with_reducible refine gate_builtin (b:=.append) (xs:=#[.tmp 16,.tmp 20]) rfl ?_);at_builtin;refine Kd.N_append (Kd.slice 34 k34) (w0:=w) w.heap.size rfl (.tmp 16) (.tmp 20) 67 25 (.slice none 0 0) 24 rfl Tryd.underlying67 info25 rfl (by decide) (by omega) u3 x3_1 y124 [.slice Ao14 y124.length co14] (fun k_=>(P0_ k_∨w.heap.size≤k_)) (fun k_=>((fun k_=>(P0_ k_∨w.heap.size≤k_))) k_∧some k_≠(u3:Value).ownBlock) rfl rfl ?aP (fun _ hk=>hk) ?aF ?aO ?aB ?aS ?aL ?_;(case aP=>exact (Kd.FK_slice_mk (Kd.V_reads' (Kd.V_mono (ok':=(fun k_=>((fun k_=>(P0_ k_∨w.heap.size≤k_))) k_∧some k_≠(u3:Value).ownBlock)) (HO128.out) (fun k_ hk=>⟨hk.1,hk.2⟩))).2.1 (Kd.V_F (Kd.V_mono (ok':=(fun k_=>((fun k_=>(P0_ k_∨w.heap.size≤k_))) k_∧some k_≠(u3:Value).ownBlock)) (HO128.out) (fun k_ hk=>⟨hk.1,hk.2⟩)))));(case aB=>exact qz1);(case aF=>exact (fun k_ hk=>(.inr (Nat.le_trans (below_size qz1) hk))));(case aO=>exact qz42);(case aS=>exact (below_size qz1));(case aL=>have:=LMc11.out;omega);intro v130 w17 ho hb hg hat;rw [← Ny129.out] at ho;have n0_:=Aside0.mk (Kd.V_afterv (ok:=(fun k_=>(P0_ k_∨w.heap.size≤k_))) (by (with_reducible repeat (first|apply Kd.V_alloc|apply Kd.V_drewN|apply Kd.V_drew));exact HO_4.out) hg hat);have n1_:=Aside0.mk (Kd.V_afterv (ok:=(fun k_=>(P0_ k_∨w.heap.size≤k_))) (by (with_reducible repeat (first|apply Kd.V_alloc|apply Kd.V_drewN|apply Kd.V_drew));exact HO128.out) hg hat);have n2_:=Aside0.mk (hb);have n3_:=Aside0.mk (ho);clear HO_4 HO128 HB HO_3;have HO_4:=n0_;have HO128:=n1_;have HB:=n2_;have HO131:=n3_;clear n0_ n1_ n2_ n3_ ho hb hg hat;have q18:(t123:Int)≤((x4_1.length:Int):Int):=of_decide_eq_true qz4;obtain ⟨i018,hi018,_,hsz18,_⟩:=info_parts info34;have hroom18:x4_1.length≤co14:=(Kd.V_reads' HO_4.out).2.1;have hC18:Kd.F k34 _ _ Ao14 x4_1.length x4_1:=(Kd.V_at (base:=w.heap.size) HO_4.out).2.2;have q018:(0:Int)≤(t123:Int):=of_decide_eq_true qz4;have hcut18:=cut_from (P:=Tryd.prog) 25 34 .i64 Tryd.underlying25 hi018 3 hsz18 Ao14 x4_1.length co14 t123 q018 q18;have hr18:=Kd.F_cut (m:=(t123:Int).toNat) (c:=co14) hC18 (by omega) hroom18;obtain ⟨A18,hA18⟩:∃ A1,A1=(if co14=(t123:Int).toNat then Ao14 else (Ao14:Option Addr).map (·.add ((t123:Int).toNat * 3))):=⟨_,rfl⟩;obtain ⟨c18,hc18⟩:∃ c1,c1=co14 - (t123:Int).toNat:=⟨_,rfl⟩;have hy18:y132.length=x4_1.length - (t123:Int).toNat:=(by rw [Ny132.out,List.length_drop] <;> omega);rw [show (x4_1).drop (t123:Int).toNat=y132 from Ny132.out.symm] at hr18;replace hr18:Kd.F k34 _ _ A18 y132.length y132:=(by rw [hA18];exact hr18);rw [← hy18,← hA18,← hc18] at hcut18;have HO136:=Aside0.mk (show Kd.V k34 34 _ w.heap.size _ (.slice A18 y132.length c18) y132 from Kd.V_mk (by rw [hy18,hc18];exact Nat.sub_le_sub_right hroom18 _) hr18);have HC136:=Aside0.mk (show y132.length≤c18 from by rw [hy18,hc18];exact Nat.sub_le_sub_right hroom18 _);clear hr18 hC18 hroom18 hi018 hsz18 hc18;have KY18:=Aside0.mk hy18;have KA18:=Aside0.mk hA18;clear hy18 hA18;replace q18:=eq_true q18))
         go_roundg k1
         case measure=>have:=HK1.out;omega
         case rel=>exact ⟨(y129),(y132),(wrap64 (x12_1+1)),qz6,H',⟨by have:=HK1.out;omega⟩,⟨by (with_reducible repeat (first|apply Kd.N_alloc|apply Kd.N_drewN|apply Kd.N_drew));exact HO131.out⟩,⟨by (with_reducible repeat (first|apply Kd.V_alloc|apply Kd.V_drewN|apply Kd.V_drew));exact HO136.out⟩,⟨qz2⟩⟩
        ·rw [if_neg c11] at H
         exact absurd H (by simp)
       ·rw [if_neg c10] at H
        exact absurd H (by simp)
      ·rw [if_neg c9] at H
       exact absurd H (by simp)
     ·rw [if_neg c7] at H
      have c7b0:decide (x12_1<t122)=false:=decide_eq_false c7
      clear c7
      obtain rfl:=Option.some.inj H
      go_wp2
      go_ret
      exact ⟨_,qz5,qz42,qz2⟩
  ·rw [if_neg c3] at H
   exact absurd H (by simp)
 ·rw [if_neg c2] at H
  exact absurd H (by simp)

end Go.Proofs.YtibencknfheplaaDoor.P
