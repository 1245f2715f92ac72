/- Contracts of functions of the program: each as a Lean function, and that its call does what that says; printed by cprint.py (this session) over print.py of the kit. Conditions: the hypotheses of each theorem. -/
import Derived.Test.YtlaicnoikeieeaaDoorVZ
import Derived.Test.YtlaicnoikeieeaaDoorP0
import Derived.Test.YtlaicnoikeieeaaDoorP2
import Derived.Test.YtlaicnoikeieeaaDoorP4
import Derived.Test.YtlaicnoikeieeaaDoorP5
namespace Go.Proofs.YtlaicnoikeieeaaDoor.P
open Go.RowKit Go.Proofs.YtlaicnoikeieeaaDoorW.PrintWords Go.Proofs.YtlaicnoikeieeaaDoorW.PrintLast Go.Proofs.YtlaicnoikeieeaaDoorW.PrintMore
attribute [local go_sem] max2_int min2_int max_two min_two max_three min_three max_four min_four   -- for this text's walks alone
set_option linter.unusedVariables false
set_option linter.unusedSimpArgs false
def impl_bindings_full.f (k:Nat) (l0:List (S30)) (l1:List (S46)):Option (List (S46) × Bool):=
 (fillF l0 k [] l1).bind fun o=>if 40<o.length then some ([],false) else some (o,true)
set_option maxHeartbeats 4000000 in
set_option maxRecDepth 100000 in
theorem impl_bindings_full.calls (k:Nat) (A0:Option Addr) (c0:Nat) (l0:List (S30)) (A1:Option Addr) (c1:Nat) (l1:List (S46)) (r1:List (S46)) (r2:Bool) (w:World) (hr0:Kd.C k30 w A0 l0.length l0) (hc0:l0.length≤c0) (hr1:Kd.C k46 w A1 l1.length l1) (hc1:l1.length≤c1) (h:impl_bindings_full.f k l0 l1=some (r1,r2)) :
  Calls Tryd.prog 75 #[.slice A0 l0.length c0,.slice A1 l1.length c1] w fun e w'=>∃ v0_:Value,e = .returned (.tuple #[v0_,.bool r2])∧Kd.R k46 46 w' w.heap.size (fun _=>True) v0_ r1∧Below w.heap.size w w':=by
 unfold impl_bindings_full.f at h
 obtain ⟨o,ho,h2⟩:=Option.bind_eq_some_iff.1 h
 have HO:=Aside0.mk ho
 have H2:=Aside0.mk h2
 have HR0:=Aside0.mk hr0
 have HR1:=Aside0.mk hr1
 clear h ho h2 hr0 hr1
 go_enter Tryd.func75,Tryd.ntmps75
 by_cases h40:40<o.length
 ·have h40z:(40:Int)<(o.length:Int):=by omega
  have H3:=H2.out
  rw [if_pos h40] at H3
  injection H3 with H3
  injection H3 with e1 e2
  subst e1 e2
  go_wp2_with (go_at_call 96;refine (fill_any w A0 c0 l0 HR0.out k [] l1 o (.slice none 0 0) A1 c1 _ HO.out (Kd.R_nil _ _ _ _ _) (by repeat (first|exact Below.refl _ _|refine Below.alloc ?_ (by simp) _)) HR1.out hc1).mono ?_;rintro e w9 ⟨v9,rfl,ho9,hb9⟩;obtain ⟨A9,c9,rfl⟩:=Kd.R_slice ho9;have hm9:=(Kd.R_reads' ho9).2.2.2.1;have HO9:=Aside0.mk ho9;have HB9:=Aside0.mk hb9;clear ho9 hb9)
  go_ret2
  exact ⟨_,rfl,Kd.R_nil _ _ _ _ _,HB9.out⟩
 ·have h40z:¬ (40:Int)<(o.length:Int):=by omega
  have H3:=H2.out
  rw [if_neg h40] at H3
  injection H3 with H3
  injection H3 with e1 e2
  subst e1 e2
  go_wp2_with (go_at_call 96;refine (fill_any w A0 c0 l0 HR0.out k [] l1 o (.slice none 0 0) A1 c1 _ HO.out (Kd.R_nil _ _ _ _ _) (by repeat (first|exact Below.refl _ _|refine Below.alloc ?_ (by simp) _)) HR1.out hc1).mono ?_;rintro e w9 ⟨v9,rfl,ho9,hb9⟩;obtain ⟨A9,c9,rfl⟩:=Kd.R_slice ho9;have hm9:=(Kd.R_reads' ho9).2.2.2.1;have HO9:=Aside0.mk ho9;have HB9:=Aside0.mk hb9;clear ho9 hb9)
  go_ret2
  exact ⟨_,rfl,HO9.out,HB9.out⟩
theorem clip_run (W:World) (A:Option Addr) (n c:Nat) (h:n≤c):(Instr.slice 85 (.slice A n c) none (some (.int .i64 n)) (some (.int .i64 n))).run Tryd.prog W = .ok (.slice A n n) W:=by
 obtain ⟨i,hi,hzz⟩:=Option.map_eq_some_iff.1 info30
 have hel:Tryd.prog.elem 85=30:=by simp [Program.elem,Tryd.underlying85]
 have hu:Tryd.prog.underlying 85=some (.slice (Tryd.prog.elem 85)):=by rw [hel];exact Tryd.underlying85
 have ha:(A.map fun x=>x.add 0)=A:=by cases A <;> simp [Addr.add]
 rw [run_slice_hm W 85 A n c hu .i64 .i64 n n (by omega) (by omega) (by omega),hel]
 simp [sizeOf,typeInfo,hi,sliced,Result.andThen,ha]
theorem clip_calls (A:Option Addr) (n c:Nat) (w:World) (h:n≤c) (hn:n≤9223372036854775807):Calls Tryd.prog 94 #[.slice A n c] w fun e w'=>e = .returned (.slice A n n)∧w'=w:=by
 have hrun:=fun W=>clip_run W A n c h
 clear h
 go_enter Tryd.func94,Tryd.ntmps94
 go_wp2
 go_ret
 exact ⟨rfl,rfl⟩
def impl_args.l0:Nat→List (List (S46))→List (S46)→Int→Int→Option ((List (List (S46))))
 | 0,_,_,_,_=>none
 | k+1,x3,x4,x11,x12=>if x12<x11 then ((impl_size.f k x4).bind fun t142=>(if 0≤t142 then (if t142≤(x4.length:Int) then (if x3.length<5864062014805 then (impl_args.l0 k (x3++[(x4.take (t142:Int).toNat)]) (x4.drop (t142:Int).toNat) x11 (wrap64 (x12+1))) else (none)) else (none)) else (none))) else (some x3)
def impl_args.f (k:Nat) (l0:List (S46)):Option ((List (List (S46)))):=if 1≤(l0.length:Int) then (if 0<(l0.length:Int) then ((impl_TrmCell_arity.f ((rd_T46 l0 0).f0) ((rd_T46 l0 0).f1) ((rd_T46 l0 0).f2)).bind fun t141=>(impl_args.l0 k ([]:List (List (S46))) (l0.drop 1) t141 0)) else (none)) else (none)
set_option maxHeartbeats 8000000 in
set_option maxRecDepth 100000 in
theorem impl_args.calls (k:Nat) (P0_:Nat→Prop) (A0:Option Addr) (c0:Nat) (l0:List (S46)) (r:List (List (S46))) (w:World) (hs0:Kd.V k46 46 w w.heap.size (fun k_=>P0_ k_) (.slice A0 l0.length c0) l0) (h:impl_args.f k l0=some r) :
  Calls Tryd.prog 85 #[.slice A0 l0.length c0] w fun e w'=>∃ v0_:Value,e = .returned (v0_)∧Kd.N (Kd.slice 46 k46) 26 w' w.heap.size (fun k_=>(P0_ k_∨w.heap.size≤k_)) v0_ r∧Below w.heap.size w w':=by
 have hu46:=Tryd.underlying46
 have HO0:=Aside0.mk (show Kd.V k46 46 w w.heap.size (fun k_=>(P0_ k_∨w.heap.size≤k_)) (.slice A0 l0.length c0) l0 from Kd.V_mono hs0 (fun k_ hk=>.inl hk))
 have HB:=Aside0.mk (Below.refl w.heap.size w)
 have H:(if 1≤(l0.length:Int) then (if 0<(l0.length:Int) then ((impl_TrmCell_arity.f ((rd_T46 l0 0).f0) ((rd_T46 l0 0).f1) ((rd_T46 l0 0).f2)).bind fun t141=>(impl_args.l0 k ([]:List (List (S46))) (l0.drop 1) t141 0)) else (none)) else (none))=some r:=h
 clear h
 by_cases c2:1≤(l0.length:Int)
 ·rw [if_pos c2] at H
  have c2b0:=eq_true c2
  have c2b1:decide (1≤(l0.length:Int))=true:=decide_eq_true c2
  clear c2
  obtain ⟨y135,hy135⟩:∃ y_:List (S46),y_=(l0.drop 1):=⟨_,rfl⟩
  replace H:(if 0<(l0.length:Int) then ((impl_TrmCell_arity.f ((rd_T46 l0 0).f0) ((rd_T46 l0 0).f1) ((rd_T46 l0 0).f2)).bind fun t141=>(impl_args.l0 k ([]:List (List (S46))) y135 t141 0)) else (none))=some r:=by first|(rw [hy135];exact H)|exact H
  have Ny135:=Aside0.mk hy135
  clear hy135
  by_cases c3:0<(l0.length:Int)
  ·rw [if_pos c3] at H
   have c3b0:decide (0<(l0.length:Int))=true:=decide_eq_true c3
   have c3b1:decide (0<l0.length)=true:=decide_eq_true (by omega)
   clear c3
   replace H:=Option.bind_eq_some_iff.mp H
   obtain ⟨t141,A40,H⟩:=H
   try dsimp only at H
   have A4:=Aside0.mk A40
   clear A40
   have H':=Aside0.mk H
   clear H
   have q5:(1:Int)≤((l0.length:Int):Int):=of_decide_eq_true qz6
   obtain ⟨i05,hi05,_,hsz5,_⟩:=info_parts info46
   have hroom5:l0.length≤c0:=(Kd.V_reads' HO0.out).2.1
   have hC5:Kd.F k46 _ _ A0 l0.length l0:=(Kd.V_at (base:=w.heap.size) HO0.out).2.2
   have hcut5:=cut_from (P:=Tryd.prog) 26 46 .i64 Tryd.underlying26 hi05 3 hsz5 A0 l0.length c0 1 (by omega) q5
   have hr5:=Kd.F_cut (m:=(1:Int).toNat) (c:=c0) hC5 (by omega) hroom5
   obtain ⟨A5,hA5⟩:∃ A1,A1=(if c0=(1:Int).toNat then A0 else (A0:Option Addr).map (·.add ((1:Int).toNat * 3))):=⟨_,rfl⟩
   obtain ⟨c5,hc5⟩:∃ c1,c1=c0 - (1:Int).toNat:=⟨_,rfl⟩
   have hy5:y135.length=l0.length - (1:Int).toNat:=(by rw [Ny135.out,List.length_drop] <;> omega)
   rw [show (l0).drop (1:Int).toNat=y135 from Ny135.out.symm] at hr5
   replace hr5:Kd.F k46 _ _ A5 y135.length y135:=(by rw [hA5];exact hr5)
   rw [← hy5,← hA5,← hc5] at hcut5
   have HO139:=Aside0.mk (show Kd.V k46 46 _ w.heap.size _ (.slice A5 y135.length c5) y135 from Kd.V_mk (by rw [hy5,hc5];exact Nat.sub_le_sub_right hroom5 _) hr5)
   have HC139:=Aside0.mk (show y135.length≤c5 from by rw [hy5,hc5];exact Nat.sub_le_sub_right hroom5 _)
   clear hr5 hC5 hroom5 hi05 hsz5 hc5
   have KY5:=Aside0.mk hy5
   have KA5:=Aside0.mk hA5
   clear hy5 hA5
   replace q5:=eq_true q5
   have p140:0≤(0:Int):=(by omega)
   have q140:0<(l0.length:Int):=of_decide_eq_true qz6
   obtain ⟨ad140,e140,hx140_0,hx140_1,hx140_2⟩:=at_T46 (Kd.V_reads' HO0.out).2.2 0 p140 q140
   cases e140
   have qi140:(0<l0.length)=True:=eq_true (by omega)
   (try rw [show ((0:Int)).toNat=0 from rfl] at hx140_0)
   (try rw [show 0 * 3=0 from rfl] at hx140_0)
   (try rw [Addr.add_zero'] at hx140_0)
   (try rw [show ((0:Int)).toNat=0 from rfl] at hx140_1)
   (try rw [show 0 * 3=0 from rfl] at hx140_1)
   (try rw [Addr.add_zero'] at hx140_1)
   (try rw [show ((0:Int)).toNat=0 from rfl] at hx140_2)
   (try rw [show 0 * 3=0 from rfl] at hx140_2)
   (try rw [Addr.add_zero'] at hx140_2)
   replace p140:=eq_true p140
   replace q140:=eq_true q140
   go_enter Tryd.func85,Tryd.ntmps85
   go_wp2_with (first|(go_at_call 84;(with_reducible refine (impl_TrmCell_arity.calls ((rd_T46 l0 0).f0) ((rd_T46 l0 0).f1) ((rd_T46 l0 0).f2) t141 _ A4.out).mono ?_);rintro e w6 ⟨rfl,hb⟩;have n0_:=Aside0.mk (Kd.V_below qz90 hb);have n1_:=Aside0.mk (Kd.V_below (by (with_reducible repeat (first|apply Kd.V_alloc|apply Kd.V_drewN|apply Kd.V_drew));exact HO139.out) hb);have n2_:=Aside0.mk (below_step qz4 hb);clear HO0 HO139 HB;have HO0:=n0_;have HO139:=n1_;have HB:=n2_;clear n0_ n1_ n2_;(try clear hb);(try clear hb2);(try clear hk);(try clear hi)))
   go_loopg [3,4,12] k (fun kq v3 v4 v12 w'=>∃ (x3_1:List (List (S46))) (x4_1:List (S46)) (x12_1:Int),v12 = .int .i64 x12_1∧Aside0 (impl_args.l0 kq x3_1 x4_1 t141 x12_1=some r)∧Aside0 (kq≤k)∧Aside0 (Kd.N (Kd.slice 46 k46) 26 w' w.heap.size (fun k_=>(P0_ k_∨w.heap.size≤k_)) v3 x3_1)∧Aside0 (Kd.V k46 46 w' w.heap.size (fun k_=>(P0_ k_∨w.heap.size≤k_)∧some k_≠(v3:Value).ownBlock) v4 x4_1)∧Aside0 (Below w.heap.size w w'))
   case atStart=>exact ⟨(([]:List (List (S46)))),(y135),(0),qz9,H',⟨Nat.le_refl _⟩,⟨qz110⟩,⟨by (with_reducible repeat (first|apply Kd.V_alloc|apply Kd.V_drewN|apply Kd.V_drew));exact Kd.V_mono HO139.out (fun _ hk=>⟨hk,(by simp [Value.ownBlock])⟩)⟩,⟨qz5⟩⟩
   case round=>
    clear H'
    try clear c1
    try clear p1
    try clear q1
    try clear hx1
    try clear qi1
    try clear c2
    try clear c2b0
    try clear c2b1
    try clear p2
    try clear c3
    try clear c3b0
    try clear c3b1
    try clear c5
    try clear q5
    try clear hx140_0
    try clear hx140_1
    try clear hx140_2
    try clear p140
    try clear q140
    try clear q5
    obtain ⟨x3_1,x4_1,x12_1,rfl,HA,HK1,HO_3,HO_4,HB⟩:=hrel
    cases gk with
    | zero=>exact absurd HA.out (by simp [impl_args.l0])
    | succ k1=>
     have H:=HA.out
     clear HA
     simp only [impl_args.l0] at H
     by_cases c7:x12_1<t141
     ·rw [if_pos c7] at H
      have c7b0:decide (x12_1<t141)=true:=decide_eq_true c7
      clear c7
      replace H:=Option.bind_eq_some_iff.mp H
      obtain ⟨t142,A80,H⟩:=H
      try dsimp only at H
      have A8:=Aside0.mk A80
      clear A80
      by_cases c9:0≤t142
      ·rw [if_pos c9] at H
       have c9b0:=eq_true c9
       have c9b1:decide (0≤t142)=true:=decide_eq_true c9
       clear c9
       by_cases c10:t142≤(x4_1.length:Int)
       ·rw [if_pos c10] at H
        have c10b0:=eq_true c10
        have c10b1:decide (t142≤(x4_1.length:Int))=true:=decide_eq_true c10
        clear c10
        obtain ⟨y143,hy143⟩:∃ y_:List (S46),y_=(x4_1.take (t142:Int).toNat):=⟨_,rfl⟩
        replace H:(if x3_1.length<5864062014805 then (impl_args.l0 k1 (x3_1++[y143]) (x4_1.drop (t142:Int).toNat) t141 (wrap64 (x12_1+1))) else (none))=some r:=by first|(rw [hy143];exact H)|exact H
        have Ny143:=Aside0.mk hy143
        clear hy143
        by_cases c11:x3_1.length<5864062014805
        ·rw [if_pos c11] at H
         have LMc11:=Aside0.mk c11
         clear c11
         obtain ⟨y148,hy148⟩:∃ y_:List (List (S46)),y_=(x3_1++[y143]):=⟨_,rfl⟩
         replace H:(impl_args.l0 k1 y148 (x4_1.drop (t142:Int).toNat) t141 (wrap64 (x12_1+1)))=some r:=by first|(rw [hy148];exact H)|exact H
         have Ny148:=Aside0.mk hy148
         clear hy148
         have c12b0:=eq_true (of_decide_eq_true qz6:0≤t142)
         have c13b0:=eq_true (of_decide_eq_true qz6:t142≤(x4_1.length:Int))
         obtain ⟨y151,hy151⟩:∃ y_:List (S46),y_=(x4_1.drop (t142:Int).toNat):=⟨_,rfl⟩
         replace H:(impl_args.l0 k1 y148 y151 t141 (wrap64 (x12_1+1)))=some r:=by first|(rw [hy151];exact H)|exact H
         have Ny151:=Aside0.mk hy151
         clear hy151
         have H':=Aside0.mk H
         clear H
         obtain ⟨Ao14,co14,eo14⟩:=Kd.V_slice HO_4.out
         subst eo14
         go_wp2_with (first|(go_at_call 81;(with_reducible refine (impl_size.calls k1 _ _ x4_1 t142 _ ?side1 ?side2 A8.out).mono ?_);(case side1=>repeat (first|exact (Kd.V_reads' HO_4.out).2.2|(with_reducible refine Kd.C_alloc ?_ _)|(with_reducible refine Kd.C_drewN ?_ _)|(with_reducible refine Kd.C_drew ?_)));(case side2=>exact (Kd.V_reads' HO_4.out).2.1);rintro e w15 ⟨rfl,hb⟩;have n0_:=Aside0.mk (Kd.N_below qz88 hb);have n1_:=Aside0.mk (Kd.V_below (by (with_reducible repeat (first|apply Kd.V_alloc|apply Kd.V_drewN|apply Kd.V_drew));exact HO_4.out) hb);have n2_:=Aside0.mk (below_step qz4 hb);clear HO_3 HO_4 HB;have HO_3:=n0_;have HO_4:=n1_;have HB:=n2_;clear n0_ n1_ n2_;(try clear hb);(try clear hb2);(try clear hk);(try clear hi);have q16:(t142:Int)≤((x4_1.length:Int):Int):=of_decide_eq_true qz6;obtain ⟨i016,hi016,_,hsz16,_⟩:=info_parts info46;have hroom16:x4_1.length≤co14:=(Kd.V_reads' HO_4.out).2.1;have hC16:Kd.F k46 _ _ Ao14 x4_1.length x4_1:=(Kd.V_at (base:=w.heap.size) HO_4.out).2.2;have hcut16:=cut_to (P:=Tryd.prog) 26 46 .i64 Tryd.underlying26 hi016 Ao14 x4_1.length co14 t142 (of_decide_eq_true qz6) q16 hroom16;have hr16:=Kd.F_take (m:=(t142:Int).toNat) hC16 (by omega);have hy16:y143.length=(t142:Int).toNat:=(by rw [Ny143.out,List.length_take];omega);rw [← Ny143.out] at hr16;rw [← hy16] at hcut16;have HO147:=Aside0.mk (show Kd.V k46 46 _ w.heap.size _ (.slice Ao14 y143.length co14) y143 from Kd.V_mk (by omega) hr16);have HC147:=Aside0.mk (show y143.length≤co14 from by omega);clear hr16 hC16 hroom16 hi016 hsz16;have KY16:=Aside0.mk hy16;clear hy16;replace q16:=eq_true q16)|((with_reducible refine gate_builtin (b:=.append) (xs:=#[.tmp 16,.tmp 20]) rfl ?_);at_builtin;refine Kd.N_append (Kd.slice 46 k46) (w0:=w) w.heap.size rfl (.tmp 16) (.tmp 20) 62 26 (.slice none 0 0) 24 rfl Tryd.underlying62 info26 rfl (by decide) (by omega) u3 x3_1 y143 [.slice Ao14 y143.length co14] (fun k_=>(P0_ k_∨w.heap.size≤k_)) (fun k_=>((fun k_=>(P0_ k_∨w.heap.size≤k_))) k_∧some k_≠(u3:Value).ownBlock) rfl rfl ?aP (fun _ hk=>hk) ?aF ?aO ?aB ?aS ?aL ?_;(case aP=>exact (Kd.FK_slice_mk (Kd.V_reads' (Kd.V_mono (ok':=(fun k_=>((fun k_=>(P0_ k_∨w.heap.size≤k_))) k_∧some k_≠(u3:Value).ownBlock)) (HO147.out) (fun k_ hk=>⟨hk.1,hk.2⟩))).2.1 (Kd.V_F (Kd.V_mono (ok':=(fun k_=>((fun k_=>(P0_ k_∨w.heap.size≤k_))) k_∧some k_≠(u3:Value).ownBlock)) (HO147.out) (fun k_ hk=>⟨hk.1,hk.2⟩)))));(case aB=>exact qz4);(case aF=>exact (fun k_ hk=>(.inr (Nat.le_trans (below_size qz4) hk))));(case aO=>exact qz88);(case aS=>exact (below_size qz4));(case aL=>have:=LMc11.out;omega);intro v149 w17 ho hb hg hat;rw [← Ny148.out] at ho;have n0_:=Aside0.mk (Kd.V_afterv (ok:=(fun k_=>(P0_ k_∨w.heap.size≤k_))) (by (with_reducible repeat (first|apply Kd.V_alloc|apply Kd.V_drewN|apply Kd.V_drew));exact HO_4.out) hg hat);have n1_:=Aside0.mk (Kd.V_afterv (ok:=(fun k_=>(P0_ k_∨w.heap.size≤k_))) (by (with_reducible repeat (first|apply Kd.V_alloc|apply Kd.V_drewN|apply Kd.V_drew));exact HO147.out) hg hat);have n2_:=Aside0.mk (hb);have n3_:=Aside0.mk (ho);clear HO_4 HO147 HB HO_3;have HO_4:=n0_;have HO147:=n1_;have HB:=n2_;have HO150:=n3_;clear n0_ n1_ n2_ n3_ ho hb hg hat;have q18:(t142:Int)≤((x4_1.length:Int):Int):=of_decide_eq_true qz6;obtain ⟨i018,hi018,_,hsz18,_⟩:=info_parts info46;have hroom18:x4_1.length≤co14:=(Kd.V_reads' HO_4.out).2.1;have hC18:Kd.F k46 _ _ Ao14 x4_1.length x4_1:=(Kd.V_at (base:=w.heap.size) HO_4.out).2.2;have q018:(0:Int)≤(t142:Int):=of_decide_eq_true qz6;have hcut18:=cut_from (P:=Tryd.prog) 26 46 .i64 Tryd.underlying26 hi018 3 hsz18 Ao14 x4_1.length co14 t142 q018 q18;have hr18:=Kd.F_cut (m:=(t142:Int).toNat) (c:=co14) hC18 (by omega) hroom18;obtain ⟨A18,hA18⟩:∃ A1,A1=(if co14=(t142:Int).toNat then Ao14 else (Ao14:Option Addr).map (·.add ((t142:Int).toNat * 3))):=⟨_,rfl⟩;obtain ⟨c18,hc18⟩:∃ c1,c1=co14 - (t142:Int).toNat:=⟨_,rfl⟩;have hy18:y151.length=x4_1.length - (t142:Int).toNat:=(by rw [Ny151.out,List.length_drop] <;> omega);rw [show (x4_1).drop (t142:Int).toNat=y151 from Ny151.out.symm] at hr18;replace hr18:Kd.F k46 _ _ A18 y151.length y151:=(by rw [hA18];exact hr18);rw [← hy18,← hA18,← hc18] at hcut18;have HO155:=Aside0.mk (show Kd.V k46 46 _ w.heap.size _ (.slice A18 y151.length c18) y151 from Kd.V_mk (by rw [hy18,hc18];exact Nat.sub_le_sub_right hroom18 _) hr18);have HC155:=Aside0.mk (show y151.length≤c18 from by rw [hy18,hc18];exact Nat.sub_le_sub_right hroom18 _);clear hr18 hC18 hroom18 hi018 hsz18 hc18;have KY18:=Aside0.mk hy18;have KA18:=Aside0.mk hA18;clear hy18 hA18;replace q18:=eq_true q18))
         go_roundg k1
         case measure=>have:=HK1.out;omega
         case rel=>exact ⟨(y148),(y151),(wrap64 (x12_1+1)),qz9,H',⟨by have:=HK1.out;omega⟩,⟨by (with_reducible repeat (first|apply Kd.N_alloc|apply Kd.N_drewN|apply Kd.N_drew));exact HO150.out⟩,⟨by (with_reducible repeat (first|apply Kd.V_alloc|apply Kd.V_drewN|apply Kd.V_drew));exact HO155.out⟩,⟨qz5⟩⟩
        ·rw [if_neg c11] at H
         exact absurd H (by simp)
       ·rw [if_neg c10] at H
        exact absurd H (by simp)
      ·rw [if_neg c9] at H
       exact absurd H (by simp)
     ·rw [if_neg c7] at H
      have c7b0:decide (x12_1<t141)=false:=decide_eq_false c7
      clear c7
      obtain rfl:=Option.some.inj H
      go_wp2
      go_ret
      exact ⟨_,qz7,qz88,qz5⟩
  ·rw [if_neg c3] at H
   exact absurd H (by simp)
 ·rw [if_neg c2] at H
  exact absurd H (by simp)
def walkF (s:List Cat.Bind):Nat→List Cat.Cell→Option (List Cat.Cell)
 | 0,_=>none
 | _+1,[]=>none
 | k+1,c :: l=>if c.f0=1 then match getL s c.f1 with
   | none=>some (c :: l)
   | some t=>if t=[] then none else walkF s k t
  else some (c :: l)
def GetT (sv:Value) (s:List Cat.Bind) (w0:World) (T:Option Addr→List Cat.Cell→Prop):Prop:=
 (∀ A t,T A t→∀ W,Below w0.heap.size w0 W→Kd.C k46 W A t.length t)∧
 ∀ v W,Below w0.heap.size w0 W→Calls Tryd.prog 103 #[sv,.int .i64 v] W fun e w'=>
  ((getL s v=none∧e = .returned (.slice none 0 0))∨∃ t A c,getL s v=some t∧e = .returned (.slice A t.length c)∧t.length≤c∧T A t)∧Below W.heap.size W w'
set_option maxHeartbeats 8000000 in
set_option maxRecDepth 100000 in
theorem walk_calls (w0:World) (sv:Value) (s:List Cat.Bind) (T:Option Addr→List Cat.Cell→Prop) (hs:GetT sv s w0 T) (k:Nat) (t r:List Cat.Cell) (A:Option Addr) (c:Nat) (W:World) (h:walkF s k t=some r)
  (hB:Below w0.heap.size w0 W) (hC:T A t) (hl:t.length≤c) :
  Calls Tryd.prog 101 #[sv,.slice A t.length c] W fun e w'=>(∃ A' c',e = .returned (.slice A' r.length c')∧r.length≤c'∧T A' r)∧Below W.heap.size W w':=by
 have HH:=Aside0.mk h
 have HB:=Aside0.mk hB
 have HC:=Aside0.mk hC
 have hqe:=fun (w:World) (a:Option Addr) (n c n' c':Nat)=>Lib.run_eql_slice_nil (P:=Tryd.prog) w 26 46 a n c n' c' Tryd.underlying26
 clear h hB hC
 go_enter Tryd.func101,Tryd.ntmps101
 go_wp2
 go_loopg [1] k (fun gg u1 wr=>∃ (t:List Cat.Cell) (A:Option Addr) (c:Nat),u1 = .slice A t.length c∧t.length≤c∧Aside0 (walkF s gg t=some r)∧Aside0 (Below W.heap.size W wr)∧Aside0 (T A t))
 case atStart=>exact ⟨t,A,c,rfl,hl,HH,⟨Below.refl _ _⟩,HC⟩
 case round=>
  obtain ⟨t,A,c,rfl,hl,HF,HBr,HC⟩:=hrel
  have hf:=HF.out
  cases gk with
  | zero=>cases hf
  | succ g=>
   cases t with
   | nil=>cases hf
   | cons x l=>
    have hm:(x :: l).length≤9223372036854775807:=(hs.1 _ _ HC.out _ (Below.refl _ _)).2.1
    have hpos:(0:Int)<((x :: l).length:Int):=by rw [List.length_cons];omega
    obtain ⟨ad,e1,hx0,hx1,hx2⟩:=at_T46 (hs.1 _ _ HC.out _ (Below.refl _ _)) 0 (Int.le_refl _) hpos
    cases e1
    have e0:ad.add ((0:Int).toNat * 3)=ad:=rfl
    rw [e0] at hx0 hx1
    replace hx0:w0.cell? ad=some (.int .i64 x.f0):=hx0
    replace hx1:w0.cell? ⟨ad.block,ad.off+1,none⟩=some (.int .i64 x.f1):=hx1
    have HBw:=Aside0.mk (HB.out.trans (HBr.out.mono HB.out.size))
    replace hx0:=(HBw.out.cell (World.block_lt_of_cell? w0 _ hx0)).trans hx0
    replace hx1:=(HBw.out.cell (World.block_lt_of_cell? w0 _ hx1)).trans hx1
    clear hx2
    rw [walkF] at hf
    generalize hn:(x :: l).length=n at hm hpos hl
    by_cases hv:x.f0=1
    ·have hvt:(x.f0 == 1)=true:=by simpa using hv
     rw [if_pos hv] at hf
     clear hv
     cases hg:getL s x.f1 with
     | none=>
      rw [hg] at hf
      replace hf:some (x :: l)=some r:=hf
      injection hf with hf
      subst hf
      have HG:=Aside0.mk hg
      clear hg
      go_wp2_with (go_at_call 103;refine (hs.2 x.f1 _ HBw.out).mono ?_;rintro e w' ⟨hq,hb⟩;obtain rfl:e = .returned (.slice none 0 0):=(by rcases hq with ⟨_,e1⟩|⟨t1,A1,c1,e1,_⟩;exact e1;rw [HG.out] at e1;cases e1);have HB9:=Aside0.mk (HBr.out.trans (hb.mono HBr.out.size));clear hb hq)
      go_ret
      exact ⟨⟨some ad,c,by rw [hn];rfl,by rw [hn];exact hl,HC.out⟩,HB9.out⟩
     | some t1=>
      rw [hg] at hf
      replace hf:(if t1=[] then none else walkF s g t1)=some r:=hf
      have ht1:t1≠[]:=by
       intro e1
       rw [if_pos e1] at hf
       cases hf
      rw [if_neg ht1] at hf
      have HG:=Aside0.mk hg
      have HF1:=Aside0.mk hf
      clear hg hf HF
      go_wp2_with (go_at_call 103;refine (hs.2 x.f1 _ HBw.out).mono ?_;rintro e w' ⟨hq,hb⟩;obtain ⟨A1,c1,rfl,hc1,hC1⟩:∃ A1 c1,e = .returned (.slice A1 t1.length c1)∧t1.length≤c1∧T A1 t1:=qz91;obtain ⟨ad1,rfl⟩:=cells_pos (hs.1 _ _ hC1 _ (Below.refl _ _)) ht1;have HC1:=Aside0.mk hC1;have HB9:=Aside0.mk (HBr.out.trans (hb.mono HBr.out.size));clear hq hb hC1)
      go_roundg g
      case measure=>omega
      case rel=>exact ⟨t1,some ad1,c1,rfl,hc1,HF1,HB9,HC1⟩
    ·have hvf:(x.f0 == 1)=false:=by simpa using hv
     rw [if_neg hv] at hf
     injection hf with hf
     subst hf
     clear hv
     go_wp2
     go_ret
     exact ⟨⟨some ad,c,by rw [hn];rfl,by rw [hn];exact hl,HC.out⟩,HBr.out⟩
def slices_Clone_TrmCell.f (l0:List (S46)):Option ((List (S46))):=if l0.length<4398046511104 then some l0 else none
set_option maxHeartbeats 4000000 in
set_option maxRecDepth 100000 in
theorem slices_Clone_TrmCell.calls (A0:Option Addr) (c0:Nat) (l0:List (S46)) (r:List (S46)) (w:World) (hr0:Kd.C k46 w A0 l0.length l0) (hc0:l0.length≤c0) (h:slices_Clone_TrmCell.f l0=some r) :
  Calls Tryd.prog 55 #[.slice A0 l0.length c0] w fun e w'=>∃ v0_:Value,e = .returned (v0_)∧Kd.R k46 46 w' w.heap.size (fun _=>True) v0_ r∧Below w.heap.size w w':=by
 unfold slices_Clone_TrmCell.f at h
 by_cases hl:l0.length<4398046511104
 case neg=>rw [if_neg hl] at h;cases h
 rw [if_pos hl] at h
 obtain rfl:=Option.some.inj h
 clear h
 have q:=fun (w:World) (a:Option Addr) (n c n' c':Nat)=>Lib.run_eql_slice_nil (P:=Tryd.prog) w 26 46 a n c n' c' Tryd.underlying26
 cases A0 with
 | none=>
  have h0:l0=[]:=by
   rcases Nat.eq_zero_or_pos l0.length with h|h
   ·exact List.length_eq_zero_iff.1 h
   ·obtain ⟨ad,he,_⟩:=hr0.2.2 h
    cases he
  subst h0
  go_enter Tryd.func55,Tryd.ntmps55
  go_wp2
  go_ret
  exact ⟨_,rfl,Kd.R_nil _ _ _ _ _,Below.refl _ _⟩
 | some ad=>
  have HR:=Aside0.mk hr0
  have HL:=Aside0.mk hl
  clear hr0 hl
  go_enter Tryd.func55,Tryd.ntmps55
  go_wp2_with (first|((with_reducible refine gate_dst (N:=5) rfl ?_);refine Kd.R_lit k46 _ 46 ?hg (N:=5) ?hd (xs:=([]:List (S46))) (inner:=[]) (ok:=fun _=>True) (okp:=fun _=>True) ?hr ?hp (fun _ hk=>hk) trivial (Below.refl _ _) (Nat.le_refl _) (by simp) ?_;(case hd=>rfl);(case hg=>rfl);(case hr=>first|(go_simp;done)|(go_simp;rfl));(case hp=>exact (Reps.none _ _));intro v1 w1 ho hb hg_ hnew_;clear hg_ hnew_;have HO:=Aside0.mk ho;have HB:=Aside0.mk hb;clear ho hb)|((with_reducible refine gate_builtin (b:=.append) (xs:=#[.tmp 5,.tmp 6]) rfl ?_);at_builtin;refine Kd.R_append_rows k46 (w0:=w) w.heap.size rfl (.tmp 5) (.tmp 6) 26 46 (.agg #[(.int .i64 0),(.int .i64 0),(.string ⟨#[]⟩)]) 32 rfl Tryd.underlying26 info46 rfl (by decide) (by omega) v1 [] l0 _ _ _ (fun _=>True) (fun _=>False) rfl rfl ?aO ?aR (fun _ _ h=>h) (fun _ h=>h.elim) ?aF ?aB ?aS ?aL ?_;(case aR=>exact Kd.C_below HR.out HB.out);(case aB=>exact HB.out);(case aF=>exact fun _ _=>trivial);(case aO=>exact HO.out);(case aS=>exact below_size HB.out);(case aL=>have:=HL.out;simp only [List.length_nil];omega);intro v2 w2 ho hb hg hat;clear HB HO;have HB:=Aside0.mk hb;have HO:=Aside0.mk ho;clear ho hb hg hat))
  go_ret
  exact ⟨_,rfl,HO.out,HB.out⟩
def holdL (f:(Int→Bool)→List Cat.Cell→Option (Bool × (Int→Bool))) (g:Int→Option (List Cat.Cell)) (v:Int):(Int→Bool)→List Int→Option (Bool × (Int→Bool))
 | sn,[]=>some (false,sn)
 | sn,n :: ns=>if 0≤n∧n≤99999 then (if n=v then some (true,sn) else if sn n=true then holdL f g v sn ns else match g n with
  | none=>holdL f g v (Cat.upd sn n true) ns
  | some t=>if t=[] then none else (f (Cat.upd sn n true) t).bind fun r=>if r.1=true then some r else holdL f g v r.2 ns) else none
def holdF (s:List Cat.Bind) (K:Nat) (v:Int):Nat→(Int→Bool)→List Cat.Cell→Option (Bool × (Int→Bool))
 | 0,_,_=>none
 | k+1,sn,t=>(impl_TrmFree.f K t).bind fun fr=>holdL (holdF s K v k) (getL s) v sn fr
def seenF (sn:Int→Bool):Int→Option Value:=fun z=>if sn z=true then some (.bool true) else none
theorem seenF_upd (sn:Int→Bool) (a:Int):Cat.upd (seenF sn) a (some (.bool true))=seenF (Cat.upd sn a true):=by
 funext z
 unfold seenF Cat.upd
 by_cases e:z=a
 ·simp [e]
 ·simp [e]
theorem seenF_get (sn:Int→Bool) (z:Int):(seenF sn z).getD (.bool false) = .bool (sn z):=by
 unfold seenF
 cases e:sn z <;> simp
theorem zero_bool (w:World):(zeroValue 4).run Tryd.prog w = .ok (.bool false) w:=by kernel_rfl
theorem below_seen {w0 W w':World} {b:Nat} (h:Below w0.heap.size w0 W) (hg:W.grownBy w' (some b)) (hb:w0.heap.size≤b):Below w0.heap.size w0 w':=
 h.trans ⟨hg.os,hg.tape,hg.output,hg.size,fun k hk=>hg.block k (Nat.lt_of_lt_of_le hk h.size) (fun e=>by injection e with e;omega)⟩
set_option maxHeartbeats 8000000 in
set_option maxRecDepth 100000 in
theorem holds_any (w0:World) (sv:Value) (s:List Cat.Bind) (T:Option Addr→List Cat.Cell→Prop) (hs:GetT sv s w0 T) (K:Nat) (v:Int) (bv:Nat) (hbv:w0.heap.size≤bv) :
  ∀ (k:Nat) (sn:Int→Bool) (t:List Cat.Cell) (b:Bool) (sn':Int→Bool) (A:Option Addr) (c:Nat) (W:World),holdF s K v k sn t=some (b,sn')→Mp.MapIs Tryd.prog 3 W bv (seenF sn)→Below w0.heap.size w0 W→
   T A t→t.length≤c→
   Calls Tryd.prog 108 #[sv,.slice A t.length c,.int .i64 v,.map (some bv)] W fun e w'=>e = .returned (.bool b)∧Mp.MapIs Tryd.prog 3 w' bv (seenF sn')∧W.grownBy w' (some bv):=by
 intro k
 induction k with
 | zero=>intro sn t b sn' A c W h;cases h
 | succ k ih=>
  intro sn t b sn' A c W h hm hB hC hl
  rw [holdF] at h
  cases e1:impl_TrmFree.f K t with
  | none=>rw [e1] at h;cases h
  | some fr=>
  rw [e1] at h
  replace h:holdL (holdF s K v k) (getL s) v sn fr=some (b,sn'):=h
  have E1:=Aside0.mk e1
  have E2:=Aside0.mk h
  have HM:=Aside0.mk hm
  have HB:=Aside0.mk hB
  have HC:=Aside0.mk (hs.1 _ _ hC _ hB)
  have HI:=Aside0.mk ih
  have HLc:=Aside0.mk hl
  clear h e1 hm hB hC ih hl
  have hu3:=Tryd.underlying3
  have hnn:=fun (w:World) (a:Option Addr) (n c:Nat)=>run_neq_slice_nil_any (P:=Tryd.prog) w 26 46 a n c 0 0 Tryd.underlying26
  go_enter Tryd.func108,Tryd.ntmps108
  go_wp2_with (go_at_call 32;refine (impl_TrmFree.calls K A c t fr _ HC.out HLc.out E1.out).mono ?_;rintro e w2 ⟨v0,rfl,ho,hb⟩;obtain ⟨A',c',rfl⟩:=Kd.R_slice ho;have HO:=Aside0.mk ho;have HB2:=Aside0.mk hb;clear ho hb)
  have hmax:fr.length≤9223372036854775807:=(Kd.R_reads' HO.out).2.2.2.1
  have hbw:bv<W.heap.size:=HM.out.lt
  have HR0:=Aside0.mk (Kd.R_mono (ok':=fun k_=>W.heap.size≤k_) (Kd.R_bound HO.out) (fun k_ hk_=>hk_.2.1))
  have HM2:=Aside0.mk (HM.out.step HB2.out)
  have HG2:=Aside0.mk (grown_below HB2.out (some bv))
  clear HO
  go_loopg [10,15] fr.length (fun gg _ s15 wr=>∃ (j:Nat) (sj:Int→Bool),j≤fr.length∧fr.length - j≤gg∧s15 = .int .i64 j∧Aside0 (Mp.MapIs Tryd.prog 3 wr bv (seenF sj))∧Aside0 (W.grownBy wr (some bv))∧
   Aside0 (Kd.R (Kd.int .i64) 3 wr W.heap.size (fun k_=>W.heap.size≤k_) (.slice A' fr.length c') fr)∧Aside0 (holdL (holdF s K v k) (getL s) v sj (fr.drop j)=some (b,sn')))
  case atStart=>exact ⟨0,sn,Nat.zero_le _,by omega,rfl,HM2,HG2,HR0,⟨by rw [List.drop_zero];exact E2.out⟩⟩
  case round=>
   obtain ⟨j,sj,hj,hgg,rfl,HMJ,HGJ,HRJ,HLJ⟩:=hrel
   by_cases hlt:j<fr.length
   ·have hltz:(j:Int)<(fr.length:Int):=by omega
    have hl:=HLJ.out
    rw [List.drop_eq_getElem_cons hlt,holdL] at hl
    obtain ⟨ad,e1,hx0⟩:=int_at (Kd.R_reads' HRJ.out).2.2 j hlt
    have ey:fr.getD j 0=fr[j]:=by simp [List.getD,hlt]
    rw [ey] at hx0
    generalize fr[j]=y at hx0 hl
    cases e1
    clear ey
    by_cases hr:0≤y∧y≤99999
    case neg=>rw [if_neg hr] at hl;cases hl
    rw [if_pos hr] at hl
    obtain ⟨y0,y1⟩:=hr
    have HW:=Aside0.mk (show (Lit.int .i64 y).wf=true from WalkArith.wf_i64 (by omega))
    by_cases hyv:y=v
    ·have hyt:(y == v)=true:=by simpa using hyv
     rw [if_pos hyv] at hl
     obtain ⟨rfl,rfl⟩:=Prod.mk.inj (Option.some.inj hl)
     clear hl hyv
     go_wp2
     go_ret
     exact ⟨rfl,HMJ.out,HGJ.out⟩
    ·have hyf:(y == v)=false:=by simpa using hyv
     rw [if_neg hyv] at hl
     clear hyv
     cases hs_:sj y with
     | true=>
      rw [if_pos hs_] at hl
      have HLL:=Aside0.mk hl
      have HS:=Aside0.mk hs_
      clear hl hs_
      go_wp2_with (at_lookup;refine Mp.wpList_lookup_is rfl (.tmp 22) (.tmp 23) _ _ rfl 3 4 hu3 Tryd.underlying122 _ (zero_bool _) bv (seenF sj) rfl HMJ.out y rfl HW.out ?_;simp only [Bool.false_eq_true,if_false];rw [seenF_get,HS.out])
      go_roundg (fr.length - (j+1))
      case measure=>omega
      case rel=>exact ⟨j+1,sj,by omega,by omega,by go_num,HMJ,HGJ,HRJ,HLL⟩
     | false=>
      rw [if_neg (by rw [hs_];simp)] at hl
      have HS:=Aside0.mk hs_
      clear hs_
      cases hg:getL s y with
      | none=>
       rw [hg] at hl
       have HLL:=Aside0.mk (show holdL (holdF s K v k) (getL s) v (Cat.upd sj y true) (fr.drop (j+1))=some (b,sn') from hl)
       have HGE:=Aside0.mk hg
       clear hl hg
       go_wp2_with (first|(at_lookup;refine Mp.wpList_lookup_is rfl (.tmp 22) (.tmp 23) _ _ rfl 3 4 hu3 Tryd.underlying122 _ (zero_bool _) bv (seenF sj) rfl HMJ.out y rfl HW.out ?_;simp only [Bool.false_eq_true,if_false];rw [seenF_get,HS.out])|(at_mapUpdate;refine Mp.wpList_mapUpdate_is rfl (.tmp 25) (.tmp 26) _ _ rfl 3 4 hu3 Tryd.underlying122 bv (seenF sj) rfl HMJ.out y rfl y0 y1 (.bool true) rfl ?_;intro w3 hm3 hg3;rw [seenF_upd] at hm3;have HM3:=Aside0.mk hm3;have HG3:=Aside0.mk hg3;clear hm3 hg3)|(go_at_call 103;refine (hs.2 y _ (below_seen (below_seen HB.out HGJ.out hbv) HG3.out hbv)).mono ?_;rintro e w4 ⟨hq,hb⟩;obtain rfl:e = .returned (.slice none 0 0):=(by rcases hq with ⟨_,e1⟩|⟨t1,A1,c1,e1,_⟩;exact e1;rw [HGE.out] at e1;cases e1);have HB4:=Aside0.mk hb;clear hb hq))
       have HG9:=Aside0.mk (grown_both HG3.out (grown_below HB4.out (some bv)))
       go_roundg (fr.length - (j+1))
       case measure=>omega
       case rel=>exact ⟨j+1,_,by omega,by omega,by go_num,⟨HM3.out.step HB4.out⟩,⟨grown_both HGJ.out HG9.out⟩,⟨Kd.R_step HRJ.out (fun k_ hk_ hl_=>(HG9.out).block k_ hl_ (fun e_=>qz108))⟩,HLL⟩
      | some t1=>
       rw [hg] at hl
       replace hl:(if t1=[] then none else (holdF s K v k (Cat.upd sj y true) t1).bind fun r=>if r.1=true then some r else holdL (holdF s K v k) (getL s) v r.2 (fr.drop (j+1)))=some (b,sn'):=hl
       have ht1:t1≠[]:=by
        intro e1
        rw [if_pos e1] at hl
        cases hl
       rw [if_neg ht1] at hl
       obtain ⟨⟨b1,s1⟩,hf1,hl⟩:=Option.bind_eq_some_iff.1 hl
       have HF:=Aside0.mk hf1
       have HLL:=Aside0.mk hl
       have HGE:=Aside0.mk hg
       clear hl hg hf1
       cases b1 with
       | true=>
        go_wp2_with (first|(at_lookup;refine Mp.wpList_lookup_is rfl (.tmp 22) (.tmp 23) _ _ rfl 3 4 hu3 Tryd.underlying122 _ (zero_bool _) bv (seenF sj) rfl HMJ.out y rfl HW.out ?_;simp only [Bool.false_eq_true,if_false];rw [seenF_get,HS.out])|(at_mapUpdate;refine Mp.wpList_mapUpdate_is rfl (.tmp 25) (.tmp 26) _ _ rfl 3 4 hu3 Tryd.underlying122 bv (seenF sj) rfl HMJ.out y rfl y0 y1 (.bool true) rfl ?_;intro w3 hm3 hg3;rw [seenF_upd] at hm3;have HM3:=Aside0.mk hm3;have HG3:=Aside0.mk hg3;clear hm3 hg3)|(go_at_call 103;refine (hs.2 y _ (below_seen (below_seen HB.out HGJ.out hbv) HG3.out hbv)).mono ?_;rintro e w4 ⟨hq,hb⟩;obtain ⟨A1,c1,rfl,hc1,hC1⟩:∃ A1 c1,e = .returned (.slice A1 t1.length c1)∧t1.length≤c1∧T A1 t1:=qz89;obtain ⟨ad1,rfl⟩:=cells_pos (hs.1 _ _ hC1 _ (Below.refl _ _)) ht1;have HC1:=Aside0.mk hC1;have HB4:=Aside0.mk hb;clear hq hb hC1)|(go_at_call 108;refine (HI.out (Cat.upd sj y true) t1 _ s1 (some ad1) c1 _ HF.out (HM3.out.step HB4.out) ((below_seen (below_seen HB.out HGJ.out hbv) HG3.out hbv).trans (HB4.out.mono (Nat.le_trans (Nat.le_trans HB.out.size HGJ.out.size) HG3.out.size))) HC1.out hc1).mono ?_;rintro e w5 ⟨rfl,hm5,hg5⟩;have HM5:=Aside0.mk hm5;have HG5:=Aside0.mk hg5;clear hm5 hg5))
        go_ret
        have h1:=HLL.out
        rw [if_pos (by simp)] at h1
        obtain ⟨rfl,rfl⟩:=Prod.mk.inj (Option.some.inj h1)
        exact ⟨rfl,HM5.out,grown_both HGJ.out (grown_both (grown_both HG3.out (grown_below HB4.out (some bv))) HG5.out)⟩
       | false=>
        go_wp2_with (first|(at_lookup;refine Mp.wpList_lookup_is rfl (.tmp 22) (.tmp 23) _ _ rfl 3 4 hu3 Tryd.underlying122 _ (zero_bool _) bv (seenF sj) rfl HMJ.out y rfl HW.out ?_;simp only [Bool.false_eq_true,if_false];rw [seenF_get,HS.out])|(at_mapUpdate;refine Mp.wpList_mapUpdate_is rfl (.tmp 25) (.tmp 26) _ _ rfl 3 4 hu3 Tryd.underlying122 bv (seenF sj) rfl HMJ.out y rfl y0 y1 (.bool true) rfl ?_;intro w3 hm3 hg3;rw [seenF_upd] at hm3;have HM3:=Aside0.mk hm3;have HG3:=Aside0.mk hg3;clear hm3 hg3)|(go_at_call 103;refine (hs.2 y _ (below_seen (below_seen HB.out HGJ.out hbv) HG3.out hbv)).mono ?_;rintro e w4 ⟨hq,hb⟩;obtain ⟨A1,c1,rfl,hc1,hC1⟩:∃ A1 c1,e = .returned (.slice A1 t1.length c1)∧t1.length≤c1∧T A1 t1:=qz89;obtain ⟨ad1,rfl⟩:=cells_pos (hs.1 _ _ hC1 _ (Below.refl _ _)) ht1;have HC1:=Aside0.mk hC1;have HB4:=Aside0.mk hb;clear hq hb hC1)|(go_at_call 108;refine (HI.out (Cat.upd sj y true) t1 _ s1 (some ad1) c1 _ HF.out (HM3.out.step HB4.out) ((below_seen (below_seen HB.out HGJ.out hbv) HG3.out hbv).trans (HB4.out.mono (Nat.le_trans (Nat.le_trans HB.out.size HGJ.out.size) HG3.out.size))) HC1.out hc1).mono ?_;rintro e w5 ⟨rfl,hm5,hg5⟩;have HM5:=Aside0.mk hm5;have HG5:=Aside0.mk hg5;clear hm5 hg5))
        have HG9:=Aside0.mk (grown_both (grown_both HG3.out (grown_below HB4.out (some bv))) HG5.out)
        go_roundg (fr.length - (j+1))
        case measure=>omega
        case rel=>
         refine ⟨j+1,s1,by omega,by omega,by go_num,HM5,⟨grown_both HGJ.out HG9.out⟩,⟨Kd.R_step HRJ.out (fun k_ hk_ hl_=>(HG9.out).block k_ hl_ (fun e_=>qz108))⟩,⟨?_⟩⟩
         have h1:=HLL.out
         rwa [if_neg (by simp)] at h1
   ·have hltz:¬ (j:Int)<(fr.length:Int):=by omega
    have hl:=HLJ.out
    rw [List.drop_eq_nil_of_le (by omega),holdL] at hl
    obtain ⟨rfl,rfl⟩:=Prod.mk.inj (Option.some.inj hl)
    clear hl
    go_wp2
    go_ret
    exact ⟨rfl,HMJ.out,HGJ.out⟩
end Go.Proofs.YtlaicnoikeieeaaDoor.P
