/- Contracts of functions of the program: each as a Lean function, and that its call does what that says; printed by cprint.py (this session) over print.py of the kit. Conditions: the hypotheses of each theorem. -/
import Derived.Test.YtlaicnoikeieeaaDoorVZ
import Derived.Test.YtlaicnoikeieeaaDoorP0
import Derived.Test.YtlaicnoikeieeaaDoorP5
import Derived.Test.YtlaicnoikeieeaaDoorP7
import Derived.Test.YtlaicnoikeieeaaDoorP14
import Derived.Test.YtlaicnoikeieeaaDoorP18
namespace Go.Proofs.YtlaicnoikeieeaaDoor.P
open Go.RowKit Go.Proofs.YtlaicnoikeieeaaDoorW.PrintWords Go.Proofs.YtlaicnoikeieeaaDoorW.PrintLast Go.Proofs.YtlaicnoikeieeaaDoorW.PrintMore
attribute [local go_sem] max2_int min2_int max_two min_two max_three min_three max_four min_four   -- for this text's walks alone
set_option linter.unusedVariables false
set_option linter.unusedSimpArgs false

/-! ### laws_FnSubOk: function 5 -/
def laws_FnSubOk.l0:Nat→List (S30)→Int→Option (Bool)
 | 0,_,_=>none
 | k+1,x3,x5=>if x5<(x3.length:Int) then (if 0≤x5 then (if x5≤(x3.length:Int) then ((impl_SubOk.f k (x3.take (x5:Int).toNat)).bind fun t441=>(if t441=true then ((some (([]:List (S30)):List (S30))).bind fun y442=>(if y442.length+x3.length<4398046511104 then ((some (y442++x3:List (S30))).bind fun y445=>((some (([(⟨(rd_T30 x3 x5).f0,(rd_T30 x3 x5).f1⟩:S30)]:List (S30)):List (S30))).bind fun y449=>(if y445.length+y449.length<4398046511104 then ((impl_SubOk.f k (y445++y449)).bind fun t455=>(if t455=true then (some false) else (laws_FnSubOk.l0 k x3 (wrap64 (x5+1))))) else (none)))) else (none))) else (some false))) else (none)) else (none)) else ((impl_SubOk.f k (([]:List (S30)))).bind fun t459=>(some t459))
def laws_FnSubOk.f (k:Nat) (l0:List Int):Option (Bool):=if (l0.length:Int) > 1048576 then (some true) else ((spec_DrawSubOk.f k l0).bind fun t430=>((impl_SubOk.f k t430).bind fun t433=>((spec_SubOk.f k t430).bind fun t434=>(if (t433 != t434)=true then (some false) else (if t433=true then (laws_FnSubOk.l0 k t430 0) else ((laws_caOk.f).bind fun t435=>(some t435)))))))
def laws_FnSubOk.T12:Bool × List (List Nat × List Nat):=(true,[([],[]),([],[]),([0,1],[0,1]),([2],[2]),([3],[3]),([4,3],[4]),([5],[5]),([5],[5]),([6,7,5,5],[5,6,7]),([5],[5]),([5],[5]),([9,10,5],[5,9,10]),([11,5],[5,11]),([12,5],[5,12]),([8,13,8,5],[5,8,13]),([14,14,5],[5,14]),([5,15],[5,15])])
def laws_FnSubOk.B12:List Nat:=[0,0,3,7,15,31,63,63,255,63,63,1599,3647,7743,16383,32767,65535]
theorem laws_FnSubOk.tab12:rtab .any (opsOf Tryd.f5 12)=laws_FnSubOk.T12:=by kernel_rfl
theorem laws_FnSubOk.bits12:waitsOk laws_FnSubOk.T12.2 laws_FnSubOk.B12=true:=by kernel_rfl
set_option maxHeartbeats 8000000 in
set_option maxRecDepth 100000 in
theorem laws_FnSubOk.calls (k:Nat) (A0:Option Addr) (c0:Nat) (l0:List Int) (r:Bool) (w:World) (hr0:Kd.C (Kd.int .u8) w A0 l0.length l0) (hc0:l0.length≤c0) (h:laws_FnSubOk.f k l0=some r) :
  Calls Tryd.prog 5 #[.slice A0 l0.length c0] w fun e w'=>e = .returned (.bool r)∧Below w.heap.size w w':=by
 have hu30:=Tryd.underlying30
 have HR0:=Aside0.mk hr0
 have HC0:=Aside0.mk hc0
 clear hr0 hc0
 have HB:=Aside0.mk (Below.refl w.heap.size w)
 have H:(if (l0.length:Int) > 1048576 then (some true) else ((spec_DrawSubOk.f k l0).bind fun t430=>((impl_SubOk.f k t430).bind fun t433=>((spec_SubOk.f k t430).bind fun t434=>(if (t433 != t434)=true then (some false) else (if t433=true then (laws_FnSubOk.l0 k t430 0) else ((laws_caOk.f).bind fun t435=>(some t435))))))))=some r:=h
 clear h
 by_cases c2:(l0.length:Int) > 1048576
 ·rw [if_pos c2] at H
  have c2b0:decide (1048576<(l0.length:Int))=true:=decide_eq_true c2
  have c2b1:decide (1048576<l0.length)=true:=decide_eq_true (by omega)
  clear c2
  obtain rfl:=Option.some.inj H
  go_enter Tryd.func5,Tryd.ntmps5
  go_wp2
  go_ret
  exact ⟨qz8,qz6⟩
 ·rw [if_neg c2] at H
  have c2b0:decide (1048576<(l0.length:Int))=false:=decide_eq_false c2
  have c2b1:decide (1048576<l0.length)=false:=decide_eq_false (by omega)
  clear c2
  replace H:=Option.bind_eq_some_iff.mp H
  obtain ⟨t430,A30,H⟩:=H
  try dsimp only at H
  have A3:=Aside0.mk A30
  clear A30
  replace H:=Option.bind_eq_some_iff.mp H
  obtain ⟨t433,A40,H⟩:=H
  try dsimp only at H
  have A4:=Aside0.mk A40
  clear A40
  replace H:=Option.bind_eq_some_iff.mp H
  obtain ⟨t434,A50,H⟩:=H
  try dsimp only at H
  have A5:=Aside0.mk A50
  clear A50
  by_cases c6:(t433 != t434)=true
  ·rw [if_pos c6] at H
   have c6b0:(t433 != t434)=true:=c6
   (try (have c6b1:decide (t433=t434)=false:=by simpa using c6))
   (try (have c6b2:(t433 == t434)=false:=by simpa using c6))
   (try (have c6b3:¬ (t433=t434):=by simpa using c6))
   clear c6
   obtain rfl:=Option.some.inj H
   go_enter Tryd.func5,Tryd.ntmps5
   go_wp2_with (first|(go_at_call 28;(with_reducible refine (spec_DrawSubOk.calls k _ _ l0 t430 _ ?side1 ?side2 A3.out).mono ?_);(case side1=>exact qz48);(case side2=>exact HC0.out);rintro e w7 ⟨v431,rfl,ho0,hb⟩;have n0_:=Aside0.mk (Kd.N_lower (Kd.N_mono (ok':=fun k_=>True) (Kd.S_N (Kd.S_bound ho0)) (fun k_ hk_=>trivial)) (below_size qz5));have n1_:=Aside0.mk (below_step qz5 hb);clear HB;have HO432:=n0_;have HB:=n1_;clear n0_ n1_;(try clear hb);(try clear hb2);(try clear hk);(try clear hi);(try clear ho0);obtain ⟨Ao8,co8,eo8⟩:=Kd.N_slice HO432.out;subst eo8)|(go_at_call 26;(with_reducible refine (impl_SubOk.calls k _ _ t430 t433 _ ?side1 ?side2 A4.out).mono ?_);(case side1=>exact qz33);(case side2=>exact (Kd.N_reads' HO432.out).2.1);rintro e w9 ⟨rfl,hb⟩;have n0_:=Aside0.mk (Kd.N_below qz39 hb);have n1_:=Aside0.mk (below_step qz5 hb);clear HO432 HB;have HO432:=n0_;have HB:=n1_;clear n0_ n1_;(try clear hb);(try clear hb2);(try clear hk);(try clear hi))|(go_at_call 24;(with_reducible refine (spec_SubOk.calls k _ _ t430 t434 _ ?side1 ?side2 A5.out).mono ?_);(case side1=>exact qz33);(case side2=>exact (Kd.N_reads' HO432.out).2.1);rintro e w10 ⟨rfl,hb⟩;have n0_:=Aside0.mk (Kd.N_below qz39 hb);have n1_:=Aside0.mk (below_step qz5 hb);clear HO432 HB;have HO432:=n0_;have HB:=n1_;clear n0_ n1_;(try clear hb);(try clear hb2);(try clear hk);(try clear hi)))
   go_ret
   exact ⟨qz8,qz6⟩
  ·rw [if_neg c6] at H
   have c6b0:(t433 != t434)=false:=by simpa using c6
   (try (have c6b1:decide (t433=t434)=true:=by simpa using c6))
   (try (have c6b2:(t433 == t434)=true:=by simpa using c6))
   clear c6
   by_cases c11:t433=true
   ·subst c11
    have H1:(laws_FnSubOk.l0 k t430 0)=some r:=qz44
    clear H
    have H:=H1
    clear H1
    have H':=Aside0.mk H
    clear H
    go_enter Tryd.func5,Tryd.ntmps5
    go_wp2_with (first|(go_at_call 28;(with_reducible refine (spec_DrawSubOk.calls k _ _ l0 t430 _ ?side1 ?side2 A3.out).mono ?_);(case side1=>exact qz48);(case side2=>exact HC0.out);rintro e w12 ⟨v431,rfl,ho0,hb⟩;have n0_:=Aside0.mk (Kd.N_lower (Kd.N_mono (ok':=fun k_=>True) (Kd.S_N (Kd.S_bound ho0)) (fun k_ hk_=>trivial)) (below_size qz5));have n1_:=Aside0.mk (below_step qz5 hb);clear HB;have HO432:=n0_;have HB:=n1_;clear n0_ n1_;(try clear hb);(try clear hb2);(try clear hk);(try clear hi);(try clear ho0);obtain ⟨Ao13,co13,eo13⟩:=Kd.N_slice HO432.out;subst eo13)|(go_at_call 26;(with_reducible refine (impl_SubOk.calls k _ _ t430 true _ ?side1 ?side2 A4.out).mono ?_);(case side1=>exact qz33);(case side2=>exact (Kd.N_reads' HO432.out).2.1);rintro e w14 ⟨rfl,hb⟩;have n0_:=Aside0.mk (Kd.N_below qz39 hb);have n1_:=Aside0.mk (below_step qz5 hb);clear HO432 HB;have HO432:=n0_;have HB:=n1_;clear n0_ n1_;(try clear hb);(try clear hb2);(try clear hk);(try clear hi))|(go_at_call 24;(with_reducible refine (spec_SubOk.calls k _ _ t430 t434 _ ?side1 ?side2 A5.out).mono ?_);(case side1=>exact qz33);(case side2=>exact (Kd.N_reads' HO432.out).2.1);rintro e w15 ⟨rfl,hb⟩;have n0_:=Aside0.mk (Kd.N_below qz39 hb);have n1_:=Aside0.mk (below_step qz5 hb);clear HO432 HB;have HO432:=n0_;have HB:=n1_;clear n0_ n1_;(try clear hb);(try clear hb2);(try clear hk);(try clear hi)))
    go_loopg [5] k (fun kq v5 w'=>∃ (x5_1:Int),v5 = .int .i64 x5_1∧Aside0 (laws_FnSubOk.l0 kq t430 x5_1=some r)∧Aside0 (kq≤k)∧Aside0 (Kd.N k30 30 w' w.heap.size (fun _=>True) (.slice Ao13 t430.length co13) t430)∧Aside0 (Below w.heap.size w w'))
    case atStart=>exact ⟨(0),qz9,H',⟨Nat.le_refl _⟩,⟨qz39⟩,⟨qz6⟩⟩
    case round=>
     clear H'
     try clear c1
     try clear c2
     try clear c2b0
     try clear c2b1
     try clear p2
     try clear c5
     try clear c6
     try clear c6b0
     try clear c6b1
     try clear c6b2
     try clear c11
     obtain ⟨x5_1,rfl,HA,HK1,HO_3,HB⟩:=hrel
     cases gk with
     | zero=>exact absurd HA.out (by simp [laws_FnSubOk.l0])
     | succ k1=>
      have H:=HA.out
      clear HA
      simp only [laws_FnSubOk.l0] at H
      by_cases c16:x5_1<(t430.length:Int)
      ·rw [if_pos c16] at H
       have c16b0:decide (x5_1<(t430.length:Int))=true:=decide_eq_true c16
       clear c16
       by_cases c17:0≤x5_1
       ·rw [if_pos c17] at H
        have c17b0:=eq_true c17
        have c17b1:decide (0≤x5_1)=true:=decide_eq_true c17
        clear c17
        by_cases c18:x5_1≤(t430.length:Int)
        ·rw [if_pos c18] at H
         have c18b0:=eq_true c18
         have c18b1:decide (x5_1≤(t430.length:Int))=true:=decide_eq_true c18
         clear c18
         obtain ⟨y436,hy436⟩:∃ y_:List (S30),y_=(t430.take (x5_1:Int).toNat):=⟨_,rfl⟩
         replace H:((impl_SubOk.f k1 y436).bind fun t441=>(if t441=true then ((some (([]:List (S30)):List (S30))).bind fun y442=>(if y442.length+t430.length<4398046511104 then ((some (y442++t430:List (S30))).bind fun y445=>((some (([(⟨(rd_T30 t430 x5_1).f0,(rd_T30 t430 x5_1).f1⟩:S30)]:List (S30)):List (S30))).bind fun y449=>(if y445.length+y449.length<4398046511104 then ((impl_SubOk.f k1 (y445++y449)).bind fun t455=>(if t455=true then (some false) else (laws_FnSubOk.l0 k1 t430 (wrap64 (x5_1+1))))) else (none)))) else (none))) else (some false)))=some r:=by first|(rw [hy436];exact H)|exact H
         have Ny436:=Aside0.mk hy436
         clear hy436
         replace H:=Option.bind_eq_some_iff.mp H
         obtain ⟨t441,A190,H⟩:=H
         try dsimp only at H
         have A19:=Aside0.mk A190
         clear A190
         by_cases c20:t441=true
         ·subst c20
          have H1:((some (([]:List (S30)):List (S30))).bind fun y442=>(if y442.length+t430.length<4398046511104 then ((some (y442++t430:List (S30))).bind fun y445=>((some (([(⟨(rd_T30 t430 x5_1).f0,(rd_T30 t430 x5_1).f1⟩:S30)]:List (S30)):List (S30))).bind fun y449=>(if y445.length+y449.length<4398046511104 then ((impl_SubOk.f k1 (y445++y449)).bind fun t455=>(if t455=true then (some false) else (laws_FnSubOk.l0 k1 t430 (wrap64 (x5_1+1))))) else (none)))) else (none)))=some r:=qz44
          clear H
          have H:=H1
          clear H1
          obtain ⟨y442,hy442⟩:∃ y_:List (S30),y_=(([]:List (S30))):=⟨_,rfl⟩
          replace H:(if y442.length+t430.length<4398046511104 then ((some (y442++t430:List (S30))).bind fun y445=>((some (([(⟨(rd_T30 t430 x5_1).f0,(rd_T30 t430 x5_1).f1⟩:S30)]:List (S30)):List (S30))).bind fun y449=>(if y445.length+y449.length<4398046511104 then ((impl_SubOk.f k1 (y445++y449)).bind fun t455=>(if t455=true then (some false) else (laws_FnSubOk.l0 k1 t430 (wrap64 (x5_1+1))))) else (none)))) else (none))=some r:=by first|(rw [hy442];exact H)|exact H
          have Ny442:=Aside0.mk hy442
          clear hy442
          by_cases c21:y442.length+t430.length<4398046511104
          ·rw [if_pos c21] at H
           have LMc21:=Aside0.mk c21
           clear c21
           obtain ⟨y445,hy445⟩:∃ y_:List (S30),y_=(y442++t430):=⟨_,rfl⟩
           replace H:((some (([(⟨(rd_T30 t430 x5_1).f0,(rd_T30 t430 x5_1).f1⟩:S30)]:List (S30)):List (S30))).bind fun y449=>(if y445.length+y449.length<4398046511104 then ((impl_SubOk.f k1 (y445++y449)).bind fun t455=>(if t455=true then (some false) else (laws_FnSubOk.l0 k1 t430 (wrap64 (x5_1+1))))) else (none)))=some r:=by first|(rw [hy445];exact H)|exact H
           have Ny445:=Aside0.mk hy445
           clear hy445
           obtain ⟨y449,hy449⟩:∃ y_:List (S30),y_=(([(⟨(rd_T30 t430 x5_1).f0,(rd_T30 t430 x5_1).f1⟩:S30)]:List (S30))):=⟨_,rfl⟩
           replace H:(if y445.length+y449.length<4398046511104 then ((impl_SubOk.f k1 (y445++y449)).bind fun t455=>(if t455=true then (some false) else (laws_FnSubOk.l0 k1 t430 (wrap64 (x5_1+1))))) else (none))=some r:=by first|(rw [hy449];exact H)|exact H
           have Ny449:=Aside0.mk hy449
           clear hy449
           by_cases c22:y445.length+y449.length<4398046511104
           ·rw [if_pos c22] at H
            have LMc22:=Aside0.mk c22
            clear c22
            obtain ⟨y452,hy452⟩:∃ y_:List (S30),y_=(y445++y449):=⟨_,rfl⟩
            replace H:((impl_SubOk.f k1 y452).bind fun t455=>(if t455=true then (some false) else (laws_FnSubOk.l0 k1 t430 (wrap64 (x5_1+1)))))=some r:=by first|(rw [hy452];exact H)|exact H
            have Ny452:=Aside0.mk hy452
            clear hy452
            replace H:=Option.bind_eq_some_iff.mp H
            obtain ⟨t455,A230,H⟩:=H
            try dsimp only at H
            have A23:=Aside0.mk A230
            clear A230
            by_cases c24:t455=true
            ·subst c24
             have H1:(some false)=some r:=qz44
             clear H
             have H:=H1
             clear H1
             obtain rfl:=Option.some.inj H
             try go_wp2
             have n0_:=Aside0.mk (Kd.N_drew HO_3.out)
             have n1_:=Aside0.mk (below_drew1 HB.out)
             clear HO_3 HB
             have HO_3:=n0_
             have HB:=n1_
             clear n0_ n1_
             have q26:(x5_1:Int)≤((t430.length:Int):Int):=of_decide_eq_true qz7
             obtain ⟨i026,hi026,_,hsz26,_⟩:=info_parts info30
             have hroom26:t430.length≤co13:=(Kd.N_reads' HO_3.out).2.1
             have hC26:Kd.F k30 _ _ Ao13 t430.length t430:=(Kd.V_at (base:=w.heap.size) (Kd.N_V HO_3.out)).2.2
             have hcut26:=cut_to (P:=Tryd.prog) 23 30 .i64 Tryd.underlying23 hi026 Ao13 t430.length co13 x5_1 (of_decide_eq_true qz7) q26 hroom26
             have hr26:=Kd.F_take (m:=(x5_1:Int).toNat) hC26 (by omega)
             have hy26:y436.length=(x5_1:Int).toNat:=(by rw [Ny436.out,List.length_take];omega)
             rw [← Ny436.out] at hr26
             rw [← hy26] at hcut26
             have HO440:=Aside0.mk (show Kd.V k30 30 _ w.heap.size _ (.slice Ao13 y436.length co13) y436 from Kd.V_mk (by omega) hr26)
             have HC440:=Aside0.mk (show y436.length≤co13 from by omega)
             clear hr26 hC26 hroom26 hi026 hsz26
             have KY26:=Aside0.mk hy26
             clear hy26
             replace q26:=eq_true q26
             have p448:0≤(x5_1:Int):=of_decide_eq_true qz7
             have q448:x5_1<(t430.length:Int):=of_decide_eq_true qz7
             obtain ⟨ad448,A448_1,c448_1,e448,hx448_0,hx448_1,hl448_1,hi448_1⟩:=at_T30 (Kd.N_reads' HO_3.out).2.2 x5_1 p448 q448
             cases e448
             obtain ⟨ce448,hce448,hMe448,hcc448⟩:=Kd.N_get HO_3.out z30 x5_1 p448 (by first|exact q448|exact of_decide_eq_true qz7|(have e_:=(Kd.N_reads' HO_3.out).1;omega))
             obtain ⟨ua448_1,uc448_1,rfl,ul448_1,ge448_1⟩:=k30_openF hMe448
             have hv448_1:=hcc448 1 _ rfl
             rw [add_field _ _ 1 (by omega)] at hv448_1
             replace hv448_1:=Option.some.inj (hv448_1.symm.trans hx448_1)
             injection hv448_1 with hva_ hvn_ hvc_
             rw [hva_] at ge448_1
             rw [hvc_] at ul448_1
             have HL448_1:=Aside0.mk (show Kd.V k46 46 _ w.heap.size _ _ ((rd_T30 t430 x5_1).f1) from Kd.V_mk ul448_1 ge448_1)
             clear hva_ hvn_ hvc_ ge448_1 ul448_1 hcc448 hce448
             have HR448_1:=Aside0.mk hi448_1
             have HC448_1:=Aside0.mk hl448_1
             clear hi448_1 hl448_1
             replace p448:=eq_true p448
             replace q448:=eq_true q448
             refine start_ (n:=17) (S:=fun w'=>w'.cell? (ad448.add ((x5_1).toNat * 2))=some (.int .i64 ((rd_T30 t430 x5_1).f0))∧w'.cell? ⟨(ad448.add ((x5_1).toNat * 2)).block,(ad448.add ((x5_1).toNat * 2)).off+1,none⟩=some (.slice A448_1 ((rd_T30 t430 x5_1).f1).length c448_1)) (ds:=[]) #[false,false,false,false,false,false,false,false,false,false,false,false,false,false,false,false,false] (by kernel_rfl) rfl rfl ⟨hx448_0,hx448_1⟩ (fun hHeld=>?_);refine with_tabW laws_FnSubOk.tab12 laws_FnSubOk.bits12 (fun HT_ HW_=>?_)
             generalize wr.drew=w25 at HO_3 HB HL448_1 HO440 HR448_1 hx448_0 hx448_1 hHeld ⊢
             refine pure_ (i:=0) (N:=some 26) (v:=?_) (a':=?_) #[true,false,false,false,false,false,false,false,false,false,false,false,false,false,false,false,false] rfl rfl (any_of HT_.out (by kernel_rfl)) (fun _ _ _ h=>h) (Or.inl ⟨by rfl,?_⟩) ?_ ?_
             rotate_left
             ·intro w'
              go_simp
              with_reducible rfl
             rotate_left
             ·simp only [Act.put,List.setIfInBounds_toArray,List.set_cons_zero,List.set_cons_succ,i64_w,i32_w]
              rfl
             refine pure_ (i:=1) (N:=some 27) (v:=?_) (a':=?_) #[true,true,false,false,false,false,false,false,false,false,false,false,false,false,false,false,false] rfl rfl (any_of HT_.out (by kernel_rfl)) (fun _ _ _ h=>h) (Or.inl ⟨by rfl,?_⟩) ?_ ?_
             rotate_left
             ·intro w'
              go_simp
              with_reducible rfl
             rotate_left
             ·simp only [Act.put,List.setIfInBounds_toArray,List.set_cons_zero,List.set_cons_succ,i64_w,i32_w]
              rfl
             refine pure_ (i:=2) (N:=some 28) (v:=?_) (a':=?_) #[true,true,true,false,false,false,false,false,false,false,false,false,false,false,false,false,false] rfl rfl (any_of HT_.out (by kernel_rfl)) (fun _ _ _ h=>h) (Or.inl ⟨by rfl,?_⟩) ?_ ?_
             rotate_left
             ·intro w'
              go_simp
              with_reducible rfl
             rotate_left
             ·simp only [Act.put,List.setIfInBounds_toArray,List.set_cons_zero,List.set_cons_succ,i64_w,i32_w]
              rfl
             refine one_ (i:=3) (N:=some 29) #[true,true,true,true,false,false,false,false,false,false,false,false,false,false,false,false,false] rfl rfl (one_of HT_.out (by kernel_rfl)) (by decide) (fun K hK=>?_)
             refine goes_ Tryd.func26 (by kernel_rfl) rfl #[.slice (some ad448) y436.length co13] (by rfl) rfl rfl qz17 ?_
             with_reducible refine (impl_SubOk.calls k1 _ _ y436 true _ ?side1 ?side2 A19.out).mono ?_
             (case side1=>exact qz58)
             (case side2=>exact (Kd.V_reads' HO440.out).2.1)
             rintro e w27 ⟨rfl,hb⟩
             have HS0_:=(hb.cell (World.block_lt_of_cell? _ _ (hHeld.1))).trans (hHeld.1)
             have HS1_:=(hb.cell (World.block_lt_of_cell? _ _ (hHeld.2))).trans (hHeld.2)
             refine ⟨_,rfl,?_⟩
             have n0_:=Aside0.mk (Kd.N_below qz11 hb)
             have n1_:=Aside0.mk (Kd.V_below qz20 hb)
             have n2_:=Aside0.mk (below_step qz5 hb)
             clear HO_3 HO440 HB
             have HO_3:=n0_
             have HO440:=n1_
             have HB:=n2_
             clear n0_ n1_ n2_
             replace HL448_1:=Aside0.mk (Kd.V_below HL448_1.out hb)
             replace HR448_1:=Aside0.mk (Kd.C_below HR448_1.out hb)
             (try clear hb)
             (try clear hb2)
             (try clear hk)
             (try clear hi)
             refine hK.out _ _ ⟨HS0_,HS1_⟩ (fun hHeld=>?_)
             clear hK K
             refine norm_ (a':=?_) ?_ ?_
             rotate_left
             ·show Act.put _ (some 29) _=_
              simp only [Act.put,List.setIfInBounds_toArray,List.set_cons_zero,List.set_cons_succ,i64_w,i32_w]
              rfl
             refine pure_ (i:=4) (N:=some 30) (v:=?_) (a':=?_) #[true,true,true,true,true,false,false,false,false,false,false,false,false,false,false,false,false] rfl rfl (any_of HT_.out (by kernel_rfl)) (fun _ _ _ h=>h) (Or.inl ⟨by rfl,?_⟩) ?_ ?_
             rotate_left
             ·intro w'
              go_simp
              with_reducible rfl
             rotate_left
             ·simp only [Act.put,List.setIfInBounds_toArray,List.set_cons_zero,List.set_cons_succ,i64_w,i32_w]
              rfl
             refine pure_ (i:=5) (N:=some 31) (v:=?_) (a':=?_) #[true,true,true,true,true,true,false,false,false,false,false,false,false,false,false,false,false] rfl rfl (any_of HT_.out (by kernel_rfl)) (fun _ _ _ h=>h) (Or.inl ⟨by rfl,?_⟩) ?_ ?_
             rotate_left
             ·intro w'
              go_simp
              with_reducible rfl
             rotate_left
             ·simp only [Act.put,List.setIfInBounds_toArray,List.set_cons_zero,List.set_cons_succ,i64_w,i32_w]
              rfl
             refine pure_ (i:=7) (N:=some 33) (v:=?_) (a':=?_) #[true,true,true,true,true,true,false,true,false,false,false,false,false,false,false,false,false] rfl rfl (any_of HT_.out (by kernel_rfl)) (fun _ _ _ h=>h) (Or.inl ⟨by rfl,?_⟩) ?_ ?_
             rotate_left
             ·intro w'
              go_simp
              with_reducible rfl
             rotate_left
             ·simp only [Act.put,List.setIfInBounds_toArray,List.set_cons_zero,List.set_cons_succ,i64_w,i32_w]
              rfl
             refine pure_ (i:=9) (N:=some 35) (v:=?_) (a':=?_) #[true,true,true,true,true,true,false,true,false,true,false,false,false,false,false,false,false] rfl rfl (any_of HT_.out (by kernel_rfl)) (fun _ _ _ h=>h) (Or.inl ⟨by rfl,?_⟩) ?_ ?_
             rotate_left
             ·intro w'
              go_simp
              with_reducible rfl
             rotate_left
             ·simp only [Act.put,List.setIfInBounds_toArray,List.set_cons_zero,List.set_cons_succ,i64_w,i32_w]
              rfl
             refine pure_ (i:=10) (N:=some 36) (v:=?_) (a':=?_) #[true,true,true,true,true,true,false,true,false,true,true,false,false,false,false,false,false] rfl rfl (any_of HT_.out (by kernel_rfl)) (fun _ _ _ h=>h) (Or.inl ⟨by rfl,?_⟩) ?_ ?_
             rotate_left
             ·intro w'
              go_simp
              with_reducible rfl
             rotate_left
             ·simp only [Act.put,List.setIfInBounds_toArray,List.set_cons_zero,List.set_cons_succ,i64_w,i32_w]
              rfl
             refine pure_ (i:=11) (N:=some 37) (v:=?_) (a':=?_) #[true,true,true,true,true,true,false,true,false,true,true,true,false,false,false,false,false] rfl rfl (any_of HT_.out (by kernel_rfl)) (fun _ _ _ h=>h) (Or.inl ⟨by rfl,?_⟩) ?_ ?_
             rotate_left
             ·intro w'
              go_simp
              with_reducible rfl
             rotate_left
             ·simp only [Act.put,List.setIfInBounds_toArray,List.set_cons_zero,List.set_cons_succ,i64_w,i32_w]
              rfl
             refine take_ (i:=12) (N:=some 38) (v:=?_) (a':=?_) #[true,true,true,true,true,true,false,true,false,true,true,true,true,false,false,false,false] rfl rfl (take_ofW HT_.out HW_.out (by kernel_rfl)) (fun _ _ _ h=>h) (Or.inl ⟨by rfl,?_⟩) hHeld ?_ ?_
             rotate_left
             ·rintro w' ⟨s0,s1⟩
              go_simp
              with_reducible rfl
             rotate_left
             ·simp only [Act.put,List.setIfInBounds_toArray,List.set_cons_zero,List.set_cons_succ,i64_w,i32_w]
              rfl
             refine join_ (σ:=Value × Value × Value) 3 #[true,true,true,true,true,true,true,true,true,true,true,true,true,true,false,false,false] (fun s_=>[(32,s_.1),(34,s_.2.1),(39,s_.2.2)]) (fun s_ w'=>(w'.cell? (ad448.add ((x5_1).toNat * 2))=some (.int .i64 ((rd_T30 t430 x5_1).f0))∧w'.cell? ⟨(ad448.add ((x5_1).toNat * 2)).block,(ad448.add ((x5_1).toNat * 2)).off+1,none⟩=some (.slice A448_1 ((rd_T30 t430 x5_1).f1).length c448_1))∧(Kd.V k46 46 w' w.heap.size (fun k_=>some k_≠(s_.2.1:Value).ownBlock∧some k_≠(s_.2.2:Value).ownBlock∧some k_≠(.slice (some ad448) t430.length co13:Value).ownBlock) (.slice A448_1 ((rd_T30 t430 x5_1).f1).length c448_1) ((rd_T30 t430 x5_1).f1))∧(Kd.V k30 30 w' w.heap.size (fun k_=>some k_≠(s_.2.1:Value).ownBlock∧some k_≠(s_.2.2:Value).ownBlock) (.slice (some ad448) y436.length co13) y436)∧(Kd.N k30 30 w' w.heap.size (fun k_=>some k_≠(s_.2.2:Value).ownBlock) s_.2.1 y445)∧(Kd.N k30 30 w' w.heap.size (fun k_=>some k_≠(s_.2.1:Value).ownBlock∧some k_≠(.slice (some ad448) t430.length co13:Value).ownBlock) s_.2.2 y449)∧(Kd.N k30 30 w' w.heap.size (fun k_=>some k_≠(s_.2.1:Value).ownBlock∧some k_≠(s_.2.2:Value).ownBlock) (.slice (some ad448) t430.length co13) t430)∧(Below w.heap.size w w')) ?_ ?_
             rotate_left
             ·intro hCont
              refine two_ (i:=6) (j:=13) (Ni:=some 32) (Nj:=some 39) #[true,true,true,true,true,true,true,true,false,true,true,true,true,false,false,false,false] #[true,true,true,true,true,true,false,true,false,true,true,true,true,true,false,false,false] rfl rfl rfl rfl (two_of HT_.out (by kernel_rfl)) (by decide) (by decide) (fun K hK=>?_) (fun K hK=>?_)
              ·skip
               refine Kd.N_lit_step k30 _ 30 ?hg (N':=32) ?hd (xs:=([]:List (S30))) (inner:=[]) (ok:=(fun k_=>some k_≠(.slice (some ad448) t430.length co13:Value).ownBlock)) (okp:=(fun k_=>some k_≠(.slice (some ad448) t430.length co13:Value).ownBlock)) ?hr ?hp (fun _ hk=>hk) ((show ∀ k_,w27.heap.size≤k_→(fun k_=>some k_≠(.slice (some ad448) t430.length co13:Value).ownBlock) k_ from fun k_ hk=>Kd.fresh' (Kd.N_lt qz11) k_ hk) _ (Nat.le_refl _)) (Below.refl _ _) (Nat.le_refl _) (by simp) ?_;(case hd=>rfl);(case hg=>rfl);(case hr=>first|(go_simp;done)|(go_simp;rfl));(case hp=>exact (Reps.none _ _))
               intro v443 w28 ho29 hb hg_ hnew_
               have HS0_:=(hb.cell (World.block_lt_of_cell? _ _ (hHeld.1))).trans (hHeld.1)
               have HS1_:=(hb.cell (World.block_lt_of_cell? _ _ (hHeld.2))).trans (hHeld.2)
               clear hg_ hnew_
               (first|rw [← Ny442.out] at ho29|(simp only [Int.reduceToNat] at ho29;rw [← Ny442.out] at ho29))
               have n0_:=Aside0.mk (Kd.N_elder' qz11 (Kd.N_base ho29) hb)
               have n1_:=Aside0.mk (Kd.V_elder' qz20 (Kd.N_base ho29) hb)
               have n2_:=Aside0.mk (Kd.V_elder' qz26 (Kd.N_base ho29) hb)
               have n3_:=Aside0.mk (Kd.N_lower ho29 (below_size qz5))
               have n4_:=Aside0.mk (Kd.C_below qz23 hb)
               have n5_:=Aside0.mk (below_step qz5 hb)
               clear HO_3 HO440 HL448_1 HR448_1 HB
               have HO_3:=n0_
               have HO440:=n1_
               have HL448_1:=n2_
               have HO444:=n3_
               have HR448_1:=n4_
               have HB:=n5_
               clear n0_ n1_ n2_ n3_ n4_ n5_ hb ho29
               refine hK.out _ _ ⟨HS0_,HS1_⟩ (fun hHeld=>?_)
               clear hK K
               refine norm_ (a':=?_) ?_ ?_
               rotate_left
               ·show Act.put _ (some 32) _=_
                simp only [Act.put,List.setIfInBounds_toArray,List.set_cons_zero,List.set_cons_succ,i64_w,i32_w]
                rfl
               refine two_ (i:=8) (j:=13) (Ni:=some 34) (Nj:=some 39) #[true,true,true,true,true,true,true,true,true,true,true,true,true,false,false,false,false] #[true,true,true,true,true,true,true,true,false,true,true,true,true,true,false,false,false] rfl rfl rfl rfl (two_of HT_.out (by kernel_rfl)) (by decide) (by decide) (fun K hK=>?_) (fun K hK=>?_)
               ·skip
                refine Kd.N_append_rows_step k30 (w0:=w) w.heap.size (by rfl) (.tmp 32) (.tmp 33) 23 30 (.agg #[(.int .i64 0),(.slice none 0 0)]) 32 rfl Tryd.underlying23 info30 rfl (by decide) (by omega) v443 y442 t430 _ _ _ (fun _=>True) (fun k_=>((fun _=>True)) k_∧some k_≠(v443:Value).ownBlock) rfl rfl ?aO ?aR (fun _ hk=>hk) ?aF ?aB ?aS ?aL ?_
                (case aR=>exact qz78)
                (case aB=>exact qz5)
                (case aF=>exact (fun _ _=>trivial))
                (case aO=>exact qz83)
                (case aS=>exact (below_size qz5))
                (case aL=>have:=LMc21.out;omega)
                intro v446 w30 ho hb hg hat
                have HS0_:=cell_grown hg (hHeld.1) qz3
                have HS1_:=cell_grown hg (hHeld.2) qz3
                rw [← Ny445.out] at ho
                have n0_:=Aside0.mk (Kd.N_afterv (ok:=(fun _=>True)) qz11 hg hat)
                have n1_:=Aside0.mk (Kd.V_afterv (ok:=(fun _=>True)) qz20 hg hat)
                have n2_:=Aside0.mk (Kd.V_afterv (ok:=(fun k_=>some k_≠(.slice (some ad448) t430.length co13:Value).ownBlock)) qz79 hg hat)
                have n3_:=Aside0.mk (hb)
                have n4_:=Aside0.mk (ho)
                clear HO_3 HO440 HL448_1 HB HO444
                have HO_3:=n0_
                have HO440:=n1_
                have HL448_1:=n2_
                have HB:=n3_
                have HO447:=n4_
                clear n0_ n1_ n2_ n3_ n4_ ho hb hg hat
                refine hK.out _ _ ⟨HS0_,HS1_⟩ (fun hHeld=>?_)
                clear hK K
                refine norm_ (a':=?_) ?_ ?_
                rotate_left
                ·show Act.put _ (some 34) _=_
                 simp only [Act.put,List.setIfInBounds_toArray,List.set_cons_zero,List.set_cons_succ,i64_w,i32_w]
                 rfl
                refine one_ (i:=13) (N:=some 39) #[true,true,true,true,true,true,true,true,true,true,true,true,true,true,false,false,false] rfl rfl (one_of HT_.out (by kernel_rfl)) (by decide) (fun K hK=>?_)
                refine Kd.N_lit_step k30 _ 30 ?hg (N':=39) ?hd (xs:=([(⟨(rd_T30 t430 x5_1).f0,(rd_T30 t430 x5_1).f1⟩:S30)]:List (S30))) (inner:=[.int .i64 ((rd_T30 t430 x5_1).f0),.slice A448_1 ((rd_T30 t430 x5_1).f1).length c448_1]) (ok:=(fun k_=>some k_≠(.slice (some ad448) t430.length co13:Value).ownBlock∧some k_≠(v446:Value).ownBlock)) (okp:=(fun k_=>some k_≠(.slice (some ad448) t430.length co13:Value).ownBlock∧some k_≠(v446:Value).ownBlock)) ?hr ?hp (fun _ hk=>hk) ((show ∀ k_,w30.heap.size≤k_→(fun k_=>some k_≠(.slice (some ad448) t430.length co13:Value).ownBlock∧some k_≠(v446:Value).ownBlock) k_ from fun k_ hk=>⟨Kd.fresh' (Kd.N_lt qz11) k_ hk,Kd.fresh' (Kd.N_lt qz38) k_ hk⟩) _ (Nat.le_refl _)) (Below.refl _ _) (Nat.le_refl _) (by simp) ?_;(case hd=>rfl);(case hg=>rfl);(case hr=>first|(go_simp;done)|(go_simp;rfl));(case hp=>exact (Reps.c2 (show Kd.FK k30 _ _ (⟨(rd_T30 t430 x5_1).f0,(rd_T30 t430 x5_1).f1⟩:S30) [.int .i64 ((rd_T30 t430 x5_1).f0),.slice A448_1 ((rd_T30 t430 x5_1).f1).length c448_1] from (k30_mkF _ _ (⟨(rd_T30 t430 x5_1).f0,(rd_T30 t430 x5_1).f1⟩:S30) (Kd.V_reads' (Kd.V_mono (ok':=(fun k_=>some k_≠(.slice (some ad448) t430.length co13:Value).ownBlock∧some k_≠(v446:Value).ownBlock)) (HL448_1.out) (fun k_ hk=>⟨hk.1,hk.2⟩))).2.1 (Kd.V_F (Kd.V_mono (ok':=(fun k_=>some k_≠(.slice (some ad448) t430.length co13:Value).ownBlock∧some k_≠(v446:Value).ownBlock)) (HL448_1.out) (fun k_ hk=>⟨hk.1,hk.2⟩))))) (Reps.none _ _)))
                intro v450 w31 ho32 hb hg_ hnew_
                have HS0_:=(hb.cell (World.block_lt_of_cell? _ _ (hHeld.1))).trans (hHeld.1)
                have HS1_:=(hb.cell (World.block_lt_of_cell? _ _ (hHeld.2))).trans (hHeld.2)
                clear hg_ hnew_
                (first|rw [← Ny449.out] at ho32|(simp only [Int.reduceToNat] at ho32;rw [← Ny449.out] at ho32))
                have n0_:=Aside0.mk (Kd.N_elder' qz11 (Kd.N_base ho32) hb)
                have n1_:=Aside0.mk (Kd.V_elder' qz20 (Kd.N_base ho32) hb)
                have n2_:=Aside0.mk (Kd.V_elder' qz26 (Kd.N_base ho32) hb)
                have n3_:=Aside0.mk (Kd.N_elder' qz38 (Kd.N_base ho32) hb)
                have n4_:=Aside0.mk (Kd.N_lower ho32 (below_size qz5))
                have n5_:=Aside0.mk (below_step qz5 hb)
                clear HO_3 HO440 HL448_1 HO447 HB
                have HO_3:=n0_
                have HO440:=n1_
                have HL448_1:=n2_
                have HO447:=n3_
                have HO451:=n4_
                have HB:=n5_
                clear n0_ n1_ n2_ n3_ n4_ n5_ hb ho32
                refine hK.out _ _ ⟨HS0_,HS1_⟩ (fun hHeld=>?_)
                clear hK K
                refine norm_ (a':=?_) ?_ ?_
                rotate_left
                ·show Act.put _ (some 39) _=_
                 simp only [Act.put,List.setIfInBounds_toArray,List.set_cons_zero,List.set_cons_succ,i64_w,i32_w]
                 rfl
                exact norm_ qz42 (hCont (v443,v446,v450) _ ⟨hHeld,qz76,qz50,qz84,qz29,qz51,qz5⟩)
               ·skip
                refine Kd.N_lit_step k30 _ 30 ?hg (N':=39) ?hd (xs:=([(⟨(rd_T30 t430 x5_1).f0,(rd_T30 t430 x5_1).f1⟩:S30)]:List (S30))) (inner:=[.int .i64 ((rd_T30 t430 x5_1).f0),.slice A448_1 ((rd_T30 t430 x5_1).f1).length c448_1]) (ok:=(fun k_=>some k_≠(.slice (some ad448) t430.length co13:Value).ownBlock∧some k_≠(v443:Value).ownBlock)) (okp:=(fun k_=>some k_≠(.slice (some ad448) t430.length co13:Value).ownBlock∧some k_≠(v443:Value).ownBlock)) ?hr ?hp (fun _ hk=>hk) ((show ∀ k_,w28.heap.size≤k_→(fun k_=>some k_≠(.slice (some ad448) t430.length co13:Value).ownBlock∧some k_≠(v443:Value).ownBlock) k_ from fun k_ hk=>⟨Kd.fresh' (Kd.N_lt qz11) k_ hk,Kd.fresh' (Kd.N_lt qz60) k_ hk⟩) _ (Nat.le_refl _)) (Below.refl _ _) (Nat.le_refl _) (by simp) ?_;(case hd=>rfl);(case hg=>rfl);(case hr=>first|(go_simp;done)|(go_simp;rfl));(case hp=>exact (Reps.c2 (show Kd.FK k30 _ _ (⟨(rd_T30 t430 x5_1).f0,(rd_T30 t430 x5_1).f1⟩:S30) [.int .i64 ((rd_T30 t430 x5_1).f0),.slice A448_1 ((rd_T30 t430 x5_1).f1).length c448_1] from (k30_mkF _ _ (⟨(rd_T30 t430 x5_1).f0,(rd_T30 t430 x5_1).f1⟩:S30) (Kd.V_reads' (Kd.V_mono (ok':=(fun k_=>some k_≠(.slice (some ad448) t430.length co13:Value).ownBlock∧some k_≠(v443:Value).ownBlock)) (HL448_1.out) (fun k_ hk=>⟨hk.1.2,hk.2⟩))).2.1 (Kd.V_F (Kd.V_mono (ok':=(fun k_=>some k_≠(.slice (some ad448) t430.length co13:Value).ownBlock∧some k_≠(v443:Value).ownBlock)) (HL448_1.out) (fun k_ hk=>⟨hk.1.2,hk.2⟩))))) (Reps.none _ _)))
                intro v450 w30 ho31 hb hg_ hnew_
                have HS0_:=(hb.cell (World.block_lt_of_cell? _ _ (hHeld.1))).trans (hHeld.1)
                have HS1_:=(hb.cell (World.block_lt_of_cell? _ _ (hHeld.2))).trans (hHeld.2)
                clear hg_ hnew_
                (first|rw [← Ny449.out] at ho31|(simp only [Int.reduceToNat] at ho31;rw [← Ny449.out] at ho31))
                have n0_:=Aside0.mk (Kd.N_elder' qz11 (Kd.N_base ho31) hb)
                have n1_:=Aside0.mk (Kd.V_elder' qz20 (Kd.N_base ho31) hb)
                have n2_:=Aside0.mk (Kd.V_elder' qz26 (Kd.N_base ho31) hb)
                have n3_:=Aside0.mk (Kd.N_elder' qz60 (Kd.N_base ho31) hb)
                have n4_:=Aside0.mk (Kd.N_lower ho31 (below_size qz5))
                have n5_:=Aside0.mk (Kd.C_below qz23 hb)
                have n6_:=Aside0.mk (below_step qz5 hb)
                clear HO_3 HO440 HL448_1 HO444 HR448_1 HB
                have HO_3:=n0_
                have HO440:=n1_
                have HL448_1:=n2_
                have HO444:=n3_
                have HO451:=n4_
                have HR448_1:=n5_
                have HB:=n6_
                clear n0_ n1_ n2_ n3_ n4_ n5_ n6_ hb ho31
                refine hK.out _ _ ⟨HS0_,HS1_⟩ (fun hHeld=>?_)
                clear hK K
                refine norm_ (a':=?_) ?_ ?_
                rotate_left
                ·show Act.put _ (some 39) _=_
                 simp only [Act.put,List.setIfInBounds_toArray,List.set_cons_zero,List.set_cons_succ,i64_w,i32_w]
                 rfl
                refine one_ (i:=8) (N:=some 34) #[true,true,true,true,true,true,true,true,true,true,true,true,true,true,false,false,false] rfl rfl (one_of HT_.out (by kernel_rfl)) (by decide) (fun K hK=>?_)
                refine Kd.N_append_rows_step k30 (w0:=w) w.heap.size (by rfl) (.tmp 32) (.tmp 33) 23 30 (.agg #[(.int .i64 0),(.slice none 0 0)]) 32 rfl Tryd.underlying23 info30 rfl (by decide) (by omega) v443 y442 t430 _ _ _ (fun k_=>some k_≠(v450:Value).ownBlock) (fun k_=>((fun k_=>some k_≠(v450:Value).ownBlock)) k_∧some k_≠(v443:Value).ownBlock) rfl rfl ?aO ?aR (fun _ hk=>hk) ?aF ?aB ?aS ?aL ?_
                (case aR=>exact qz66)
                (case aB=>exact qz5)
                (case aF=>exact (fun k_ hk=>Kd.fresh' (Kd.N_lt qz25) k_ hk))
                (case aO=>exact qz55)
                (case aS=>exact (below_size qz5))
                (case aL=>have:=LMc21.out;omega)
                intro v446 w32 ho hb hg hat
                have HS0_:=cell_grown hg (hHeld.1) qz3
                have HS1_:=cell_grown hg (hHeld.2) qz3
                rw [← Ny445.out] at ho
                have n0_:=Aside0.mk (Kd.N_afterv (ok:=(fun k_=>some k_≠(v450:Value).ownBlock)) qz81 hg hat)
                have n1_:=Aside0.mk (Kd.V_afterv (ok:=(fun k_=>some k_≠(v450:Value).ownBlock)) qz80 hg hat)
                have n2_:=Aside0.mk (Kd.V_afterv (ok:=(fun k_=>some k_≠(.slice (some ad448) t430.length co13:Value).ownBlock∧some k_≠(v450:Value).ownBlock)) qz72 hg hat)
                have n3_:=Aside0.mk (Kd.N_afterv (ok:=(fun k_=>some k_≠(.slice (some ad448) t430.length co13:Value).ownBlock)) qz25 hg hat)
                have n4_:=Aside0.mk (hb)
                have n5_:=Aside0.mk (ho)
                clear HO_3 HO440 HL448_1 HO451 HB HO444
                have HO_3:=n0_
                have HO440:=n1_
                have HL448_1:=n2_
                have HO451:=n3_
                have HB:=n4_
                have HO447:=n5_
                clear n0_ n1_ n2_ n3_ n4_ n5_ ho hb hg hat
                refine hK.out _ _ ⟨HS0_,HS1_⟩ (fun hHeld=>?_)
                clear hK K
                refine norm_ (a':=?_) ?_ ?_
                rotate_left
                ·show Act.put _ (some 34) _=_
                 simp only [Act.put,List.setIfInBounds_toArray,List.set_cons_zero,List.set_cons_succ,i64_w,i32_w]
                 rfl
                exact norm_ qz42 (hCont (v443,v446,v450) _ ⟨hHeld,qz47,qz37,qz38,qz29,qz40,qz5⟩)
              ·skip
               refine Kd.N_lit_step k30 _ 30 ?hg (N':=39) ?hd (xs:=([(⟨(rd_T30 t430 x5_1).f0,(rd_T30 t430 x5_1).f1⟩:S30)]:List (S30))) (inner:=[.int .i64 ((rd_T30 t430 x5_1).f0),.slice A448_1 ((rd_T30 t430 x5_1).f1).length c448_1]) (ok:=(fun k_=>some k_≠(.slice (some ad448) t430.length co13:Value).ownBlock)) (okp:=(fun k_=>some k_≠(.slice (some ad448) t430.length co13:Value).ownBlock)) ?hr ?hp (fun _ hk=>hk) ((show ∀ k_,w27.heap.size≤k_→(fun k_=>some k_≠(.slice (some ad448) t430.length co13:Value).ownBlock) k_ from fun k_ hk=>Kd.fresh' (Kd.N_lt qz11) k_ hk) _ (Nat.le_refl _)) (Below.refl _ _) (Nat.le_refl _) (by simp) ?_;(case hd=>rfl);(case hg=>rfl);(case hr=>first|(go_simp;done)|(go_simp;rfl));(case hp=>exact (Reps.c2 (show Kd.FK k30 _ _ (⟨(rd_T30 t430 x5_1).f0,(rd_T30 t430 x5_1).f1⟩:S30) [.int .i64 ((rd_T30 t430 x5_1).f0),.slice A448_1 ((rd_T30 t430 x5_1).f1).length c448_1] from (k30_mkF _ _ (⟨(rd_T30 t430 x5_1).f0,(rd_T30 t430 x5_1).f1⟩:S30) (Kd.V_reads' (Kd.V_mono (ok':=(fun k_=>some k_≠(.slice (some ad448) t430.length co13:Value).ownBlock)) (HL448_1.out) (fun k_ hk=>hk.2))).2.1 (Kd.V_F (Kd.V_mono (ok':=(fun k_=>some k_≠(.slice (some ad448) t430.length co13:Value).ownBlock)) (HL448_1.out) (fun k_ hk=>hk.2))))) (Reps.none _ _)))
               intro v450 w28 ho29 hb hg_ hnew_
               have HS0_:=(hb.cell (World.block_lt_of_cell? _ _ (hHeld.1))).trans (hHeld.1)
               have HS1_:=(hb.cell (World.block_lt_of_cell? _ _ (hHeld.2))).trans (hHeld.2)
               clear hg_ hnew_
               (first|rw [← Ny449.out] at ho29|(simp only [Int.reduceToNat] at ho29;rw [← Ny449.out] at ho29))
               have n0_:=Aside0.mk (Kd.N_elder' qz11 (Kd.N_base ho29) hb)
               have n1_:=Aside0.mk (Kd.V_elder' qz20 (Kd.N_base ho29) hb)
               have n2_:=Aside0.mk (Kd.V_elder' qz26 (Kd.N_base ho29) hb)
               have n3_:=Aside0.mk (Kd.N_lower ho29 (below_size qz5))
               have n4_:=Aside0.mk (Kd.C_below qz23 hb)
               have n5_:=Aside0.mk (below_step qz5 hb)
               clear HO_3 HO440 HL448_1 HR448_1 HB
               have HO_3:=n0_
               have HO440:=n1_
               have HL448_1:=n2_
               have HO451:=n3_
               have HR448_1:=n4_
               have HB:=n5_
               clear n0_ n1_ n2_ n3_ n4_ n5_ hb ho29
               refine hK.out _ _ ⟨HS0_,HS1_⟩ (fun hHeld=>?_)
               clear hK K
               refine norm_ (a':=?_) ?_ ?_
               rotate_left
               ·show Act.put _ (some 39) _=_
                simp only [Act.put,List.setIfInBounds_toArray,List.set_cons_zero,List.set_cons_succ,i64_w,i32_w]
                rfl
               refine one_ (i:=6) (N:=some 32) #[true,true,true,true,true,true,true,true,false,true,true,true,true,true,false,false,false] rfl rfl (one_of HT_.out (by kernel_rfl)) (by decide) (fun K hK=>?_)
               refine Kd.N_lit_step k30 _ 30 ?hg (N':=32) ?hd (xs:=([]:List (S30))) (inner:=[]) (ok:=(fun k_=>some k_≠(.slice (some ad448) t430.length co13:Value).ownBlock∧some k_≠(v450:Value).ownBlock)) (okp:=(fun k_=>some k_≠(.slice (some ad448) t430.length co13:Value).ownBlock∧some k_≠(v450:Value).ownBlock)) ?hr ?hp (fun _ hk=>hk) ((show ∀ k_,w28.heap.size≤k_→(fun k_=>some k_≠(.slice (some ad448) t430.length co13:Value).ownBlock∧some k_≠(v450:Value).ownBlock) k_ from fun k_ hk=>⟨Kd.fresh' (Kd.N_lt qz11) k_ hk,Kd.fresh' (Kd.N_lt qz25) k_ hk⟩) _ (Nat.le_refl _)) (Below.refl _ _) (Nat.le_refl _) (by simp) ?_;(case hd=>rfl);(case hg=>rfl);(case hr=>first|(go_simp;done)|(go_simp;rfl));(case hp=>exact (Reps.none _ _))
               intro v443 w30 ho31 hb hg_ hnew_
               have HS0_:=(hb.cell (World.block_lt_of_cell? _ _ (hHeld.1))).trans (hHeld.1)
               have HS1_:=(hb.cell (World.block_lt_of_cell? _ _ (hHeld.2))).trans (hHeld.2)
               clear hg_ hnew_
               (first|rw [← Ny442.out] at ho31|(simp only [Int.reduceToNat] at ho31;rw [← Ny442.out] at ho31))
               have n0_:=Aside0.mk (Kd.N_elder' qz11 (Kd.N_base ho31) hb)
               have n1_:=Aside0.mk (Kd.V_elder' qz20 (Kd.N_base ho31) hb)
               have n2_:=Aside0.mk (Kd.V_elder' qz26 (Kd.N_base ho31) hb)
               have n3_:=Aside0.mk (Kd.N_elder' qz25 (Kd.N_base ho31) hb)
               have n4_:=Aside0.mk (Kd.N_lower ho31 (below_size qz5))
               have n5_:=Aside0.mk (Kd.C_below qz23 hb)
               have n6_:=Aside0.mk (below_step qz5 hb)
               clear HO_3 HO440 HL448_1 HO451 HR448_1 HB
               have HO_3:=n0_
               have HO440:=n1_
               have HL448_1:=n2_
               have HO451:=n3_
               have HO444:=n4_
               have HR448_1:=n5_
               have HB:=n6_
               clear n0_ n1_ n2_ n3_ n4_ n5_ n6_ hb ho31
               refine hK.out _ _ ⟨HS0_,HS1_⟩ (fun hHeld=>?_)
               clear hK K
               refine norm_ (a':=?_) ?_ ?_
               rotate_left
               ·show Act.put _ (some 32) _=_
                simp only [Act.put,List.setIfInBounds_toArray,List.set_cons_zero,List.set_cons_succ,i64_w,i32_w]
                rfl
               refine one_ (i:=8) (N:=some 34) #[true,true,true,true,true,true,true,true,true,true,true,true,true,true,false,false,false] rfl rfl (one_of HT_.out (by kernel_rfl)) (by decide) (fun K hK=>?_)
               refine Kd.N_append_rows_step k30 (w0:=w) w.heap.size (by rfl) (.tmp 32) (.tmp 33) 23 30 (.agg #[(.int .i64 0),(.slice none 0 0)]) 32 rfl Tryd.underlying23 info30 rfl (by decide) (by omega) v443 y442 t430 _ _ _ (fun k_=>some k_≠(v450:Value).ownBlock) (fun k_=>((fun k_=>some k_≠(v450:Value).ownBlock)) k_∧some k_≠(v443:Value).ownBlock) rfl rfl ?aO ?aR (fun _ hk=>hk) ?aF ?aB ?aS ?aL ?_
               (case aR=>exact qz67)
               (case aB=>exact qz5)
               (case aF=>exact (fun k_ hk=>Kd.fresh' (Kd.N_lt qz25) k_ hk))
               (case aO=>exact qz55)
               (case aS=>exact (below_size qz5))
               (case aL=>have:=LMc21.out;omega)
               intro v446 w32 ho hb hg hat
               have HS0_:=cell_grown hg (hHeld.1) qz3
               have HS1_:=cell_grown hg (hHeld.2) qz3
               rw [← Ny445.out] at ho
               have n0_:=Aside0.mk (Kd.N_afterv (ok:=(fun k_=>some k_≠(v450:Value).ownBlock)) qz51 hg hat)
               have n1_:=Aside0.mk (Kd.V_afterv (ok:=(fun k_=>some k_≠(v450:Value).ownBlock)) qz50 hg hat)
               have n2_:=Aside0.mk (Kd.V_afterv (ok:=(fun k_=>some k_≠(.slice (some ad448) t430.length co13:Value).ownBlock∧some k_≠(v450:Value).ownBlock)) qz73 hg hat)
               have n3_:=Aside0.mk (Kd.N_afterv (ok:=(fun k_=>some k_≠(.slice (some ad448) t430.length co13:Value).ownBlock)) qz25 hg hat)
               have n4_:=Aside0.mk (hb)
               have n5_:=Aside0.mk (ho)
               clear HO_3 HO440 HL448_1 HO451 HB HO444
               have HO_3:=n0_
               have HO440:=n1_
               have HL448_1:=n2_
               have HO451:=n3_
               have HB:=n4_
               have HO447:=n5_
               clear n0_ n1_ n2_ n3_ n4_ n5_ ho hb hg hat
               refine hK.out _ _ ⟨HS0_,HS1_⟩ (fun hHeld=>?_)
               clear hK K
               refine norm_ (a':=?_) ?_ ?_
               rotate_left
               ·show Act.put _ (some 34) _=_
                simp only [Act.put,List.setIfInBounds_toArray,List.set_cons_zero,List.set_cons_succ,i64_w,i32_w]
                rfl
               exact norm_ qz42 (hCont (v443,v446,v450) _ ⟨hHeld,qz47,qz37,qz38,qz29,qz40,qz5⟩)
             rintro ⟨v443,v446,v450⟩ w33 ⟨hS_,h0_,h1_,h2_,h3_,h4_,h5_⟩
             have n0_:Aside0 (Kd.V k46 46 w33 w.heap.size (fun k_=>some k_≠(v446:Value).ownBlock∧some k_≠(v450:Value).ownBlock∧some k_≠(.slice (some ad448) t430.length co13:Value).ownBlock) (.slice A448_1 ((rd_T30 t430 x5_1).f1).length c448_1) ((rd_T30 t430 x5_1).f1)):=⟨h0_⟩
             have n1_:Aside0 (Kd.V k30 30 w33 w.heap.size (fun k_=>some k_≠(v446:Value).ownBlock∧some k_≠(v450:Value).ownBlock) (.slice (some ad448) y436.length co13) y436):=⟨h1_⟩
             have n2_:Aside0 (Kd.N k30 30 w33 w.heap.size (fun k_=>some k_≠(v450:Value).ownBlock) v446 y445):=⟨h2_⟩
             have n3_:Aside0 (Kd.N k30 30 w33 w.heap.size (fun k_=>some k_≠(v446:Value).ownBlock∧some k_≠(.slice (some ad448) t430.length co13:Value).ownBlock) v450 y449):=⟨h3_⟩
             have n4_:Aside0 (Kd.N k30 30 w33 w.heap.size (fun k_=>some k_≠(v446:Value).ownBlock∧some k_≠(v450:Value).ownBlock) (.slice (some ad448) t430.length co13) t430):=⟨h4_⟩
             have n5_:Aside0 (Below w.heap.size w w33):=⟨h5_⟩
             clear HO_3 HB h0_ h1_ h2_ h3_ h4_ h5_
             have HL448_1:=n0_
             have HO440:=n1_
             have HO447:=n2_
             have HO451:=n3_
             have HO_3:=n4_
             have HB:=n5_
             clear n0_ n1_ n2_ n3_ n4_ n5_
             have hHeld:w33.cell? (ad448.add ((x5_1).toNat * 2))=some (.int .i64 ((rd_T30 t430 x5_1).f0))∧w33.cell? ⟨(ad448.add ((x5_1).toNat * 2)).block,(ad448.add ((x5_1).toNat * 2)).off+1,none⟩=some (.slice A448_1 ((rd_T30 t430 x5_1).f1).length c448_1):=hS_
             obtain ⟨Ao35,co35,eo35⟩:=Kd.N_slice HO451.out
             (first|subst eo35|(injection eo35 with f1_ f2_ f3_;have f4_:=f1_.symm;have f5_:=f3_.symm;clear f1_ f2_ f3_;subst f4_;subst f5_))
             refine norm_ (a':=?_) ?_ ?_
             rotate_left
             ·simp only [putAll,Act.put,List.setIfInBounds_toArray,List.set_cons_zero,List.set_cons_succ]
              rfl
             refine one_ (i:=14) (N:=some 40) #[true,true,true,true,true,true,true,true,true,true,true,true,true,true,true,false,false] rfl rfl (one_of HT_.out (by kernel_rfl)) (by decide) (fun K hK=>?_)
             refine Kd.N_append_rows_step k30 (w0:=w) w.heap.size (by rfl) (.tmp 34) (.tmp 39) 23 30 (.agg #[(.int .i64 0),(.slice none 0 0)]) 32 rfl Tryd.underlying23 info30 rfl (by decide) (by omega) v446 y445 y449 _ _ _ (fun _=>True) (fun k_=>((fun _=>True)) k_∧some k_≠(v446:Value).ownBlock) rfl rfl ?aO ?aR (fun _ hk=>hk) ?aF ?aB ?aS ?aL ?_
             (case aR=>exact qz77)
             (case aB=>exact qz5)
             (case aF=>exact (fun _ _=>trivial))
             (case aO=>exact qz82)
             (case aS=>exact (below_size qz5))
             (case aL=>have:=LMc22.out;omega)
             intro v453 w34 ho hb hg hat
             have HS0_:=cell_grown hg (hHeld.1) qz3
             have HS1_:=cell_grown hg (hHeld.2) qz3
             rw [← Ny452.out] at ho
             have n0_:=Aside0.mk (Kd.N_afterv (ok:=(fun k_=>some k_≠(.slice Ao35 y449.length co35:Value).ownBlock)) qz40 hg hat)
             have n1_:=Aside0.mk (Kd.V_afterv (ok:=(fun k_=>some k_≠(.slice Ao35 y449.length co35:Value).ownBlock)) qz37 hg hat)
             have n2_:=Aside0.mk (Kd.V_afterv (ok:=(fun k_=>some k_≠(.slice (some ad448) t430.length co13:Value).ownBlock∧some k_≠(.slice Ao35 y449.length co35:Value).ownBlock)) qz75 hg hat)
             have n3_:=Aside0.mk (Kd.N_afterv (ok:=(fun k_=>some k_≠(.slice (some ad448) t430.length co13:Value).ownBlock)) qz29 hg hat)
             have n4_:=Aside0.mk (hb)
             have n5_:=Aside0.mk (ho)
             clear HO_3 HO440 HL448_1 HO451 HB HO447
             have HO_3:=n0_
             have HO440:=n1_
             have HL448_1:=n2_
             have HO451:=n3_
             have HB:=n4_
             have HO454:=n5_
             clear n0_ n1_ n2_ n3_ n4_ n5_ ho hb hg hat
             obtain ⟨Ao36,co36,eo36⟩:=Kd.N_slice HO454.out
             (first|subst eo36|(injection eo36 with f1_ f2_ f3_;have f4_:=f1_.symm;have f5_:=f3_.symm;clear f1_ f2_ f3_;subst f4_;subst f5_))
             refine hK.out _ _ ⟨HS0_,HS1_⟩ (fun hHeld=>?_)
             clear hK K
             refine norm_ (a':=?_) ?_ ?_
             rotate_left
             ·show Act.put _ (some 40) _=_
              simp only [Act.put,List.setIfInBounds_toArray,List.set_cons_zero,List.set_cons_succ,i64_w,i32_w]
              rfl
             refine one_ (i:=15) (N:=some 41) #[true,true,true,true,true,true,true,true,true,true,true,true,true,true,true,true,false] rfl rfl (one_of HT_.out (by kernel_rfl)) (by decide) (fun K hK=>?_)
             refine goes_ Tryd.func26 (by kernel_rfl) rfl #[.slice Ao36 y452.length co36] (by rfl) rfl rfl qz17 ?_
             with_reducible refine (impl_SubOk.calls k1 _ _ y452 true _ ?side1 ?side2 A23.out).mono ?_
             (case side1=>exact qz69)
             (case side2=>exact (Kd.N_reads' HO454.out).2.1)
             rintro e w37 ⟨rfl,hb⟩
             have HS0_:=(hb.cell (World.block_lt_of_cell? _ _ (hHeld.1))).trans (hHeld.1)
             have HS1_:=(hb.cell (World.block_lt_of_cell? _ _ (hHeld.2))).trans (hHeld.2)
             refine ⟨_,rfl,?_⟩
             have n0_:=Aside0.mk (Kd.N_below qz11 hb)
             have n1_:=Aside0.mk (Kd.V_below qz20 hb)
             have n2_:=Aside0.mk (Kd.V_below qz26 hb)
             have n3_:=Aside0.mk (Kd.N_below qz25 hb)
             have n4_:=Aside0.mk (Kd.N_below (by (with_reducible repeat (first|apply Kd.N_alloc|apply Kd.N_drewN|apply Kd.N_drew));exact HO454.out) hb)
             have n5_:=Aside0.mk (below_step qz5 hb)
             clear HO_3 HO440 HL448_1 HO451 HO454 HB
             have HO_3:=n0_
             have HO440:=n1_
             have HL448_1:=n2_
             have HO451:=n3_
             have HO454:=n4_
             have HB:=n5_
             clear n0_ n1_ n2_ n3_ n4_ n5_
             (try clear hb)
             (try clear hb2)
             (try clear hk)
             (try clear hi)
             refine hK.out _ _ ⟨HS0_,HS1_⟩ (fun hHeld=>?_)
             clear hK K
             refine norm_ (a':=?_) ?_ ?_
             rotate_left
             ·show Act.put _ (some 41) _=_
              simp only [Act.put,List.setIfInBounds_toArray,List.set_cons_zero,List.set_cons_succ,i64_w,i32_w]
              rfl
             refine pure_ (i:=16) (N:=some 42) (v:=?_) (a':=?_) #[true,true,true,true,true,true,true,true,true,true,true,true,true,true,true,true,true] rfl rfl (any_of HT_.out (by kernel_rfl)) (fun _ _ _ h=>h) (Or.inl ⟨by rfl,?_⟩) ?_ ?_
             rotate_left
             ·intro w'
              go_simp
              with_reducible rfl
             rotate_left
             ·simp only [Act.put,List.setIfInBounds_toArray,List.set_cons_zero,List.set_cons_succ,i64_w,i32_w]
              rfl
             refine done_ (done_of HT_.out (by kernel_rfl)) ?_
             try go_wp2
             go_ret
             exact ⟨qz8,qz6⟩
            ·replace c24:=Bool.eq_false_iff.mpr c24
             subst c24
             have H1:(laws_FnSubOk.l0 k1 t430 (wrap64 (x5_1+1)))=some r:=qz22
             clear H
             have H:=H1
             clear H1
             have H':=Aside0.mk H
             clear H
             try go_wp2
             have n0_:=Aside0.mk (Kd.N_drew HO_3.out)
             have n1_:=Aside0.mk (below_drew1 HB.out)
             clear HO_3 HB
             have HO_3:=n0_
             have HB:=n1_
             clear n0_ n1_
             have q39:(x5_1:Int)≤((t430.length:Int):Int):=of_decide_eq_true qz7
             obtain ⟨i039,hi039,_,hsz39,_⟩:=info_parts info30
             have hroom39:t430.length≤co13:=(Kd.N_reads' HO_3.out).2.1
             have hC39:Kd.F k30 _ _ Ao13 t430.length t430:=(Kd.V_at (base:=w.heap.size) (Kd.N_V HO_3.out)).2.2
             have hcut39:=cut_to (P:=Tryd.prog) 23 30 .i64 Tryd.underlying23 hi039 Ao13 t430.length co13 x5_1 (of_decide_eq_true qz7) q39 hroom39
             have hr39:=Kd.F_take (m:=(x5_1:Int).toNat) hC39 (by omega)
             have hy39:y436.length=(x5_1:Int).toNat:=(by rw [Ny436.out,List.length_take];omega)
             rw [← Ny436.out] at hr39
             rw [← hy39] at hcut39
             have HO440:=Aside0.mk (show Kd.V k30 30 _ w.heap.size _ (.slice Ao13 y436.length co13) y436 from Kd.V_mk (by omega) hr39)
             have HC440:=Aside0.mk (show y436.length≤co13 from by omega)
             clear hr39 hC39 hroom39 hi039 hsz39
             have KY39:=Aside0.mk hy39
             clear hy39
             replace q39:=eq_true q39
             have p448:0≤(x5_1:Int):=of_decide_eq_true qz7
             have q448:x5_1<(t430.length:Int):=of_decide_eq_true qz7
             obtain ⟨ad448,A448_1,c448_1,e448,hx448_0,hx448_1,hl448_1,hi448_1⟩:=at_T30 (Kd.N_reads' HO_3.out).2.2 x5_1 p448 q448
             cases e448
             obtain ⟨ce448,hce448,hMe448,hcc448⟩:=Kd.N_get HO_3.out z30 x5_1 p448 (by first|exact q448|exact of_decide_eq_true qz7|(have e_:=(Kd.N_reads' HO_3.out).1;omega))
             obtain ⟨ua448_1,uc448_1,rfl,ul448_1,ge448_1⟩:=k30_openF hMe448
             have hv448_1:=hcc448 1 _ rfl
             rw [add_field _ _ 1 (by omega)] at hv448_1
             replace hv448_1:=Option.some.inj (hv448_1.symm.trans hx448_1)
             injection hv448_1 with hva_ hvn_ hvc_
             rw [hva_] at ge448_1
             rw [hvc_] at ul448_1
             have HL448_1:=Aside0.mk (show Kd.V k46 46 _ w.heap.size _ _ ((rd_T30 t430 x5_1).f1) from Kd.V_mk ul448_1 ge448_1)
             clear hva_ hvn_ hvc_ ge448_1 ul448_1 hcc448 hce448
             have HR448_1:=Aside0.mk hi448_1
             have HC448_1:=Aside0.mk hl448_1
             clear hi448_1 hl448_1
             replace p448:=eq_true p448
             replace q448:=eq_true q448
             refine start_ (n:=17) (S:=fun w'=>w'.cell? (ad448.add ((x5_1).toNat * 2))=some (.int .i64 ((rd_T30 t430 x5_1).f0))∧w'.cell? ⟨(ad448.add ((x5_1).toNat * 2)).block,(ad448.add ((x5_1).toNat * 2)).off+1,none⟩=some (.slice A448_1 ((rd_T30 t430 x5_1).f1).length c448_1)) (ds:=[]) #[false,false,false,false,false,false,false,false,false,false,false,false,false,false,false,false,false] (by kernel_rfl) rfl rfl ⟨hx448_0,hx448_1⟩ (fun hHeld=>?_);refine with_tabW laws_FnSubOk.tab12 laws_FnSubOk.bits12 (fun HT_ HW_=>?_)
             generalize wr.drew=w38 at HO_3 HB HL448_1 HO440 HR448_1 hx448_0 hx448_1 hHeld ⊢
             refine pure_ (i:=0) (N:=some 26) (v:=?_) (a':=?_) #[true,false,false,false,false,false,false,false,false,false,false,false,false,false,false,false,false] rfl rfl (any_of HT_.out (by kernel_rfl)) (fun _ _ _ h=>h) (Or.inl ⟨by rfl,?_⟩) ?_ ?_
             rotate_left
             ·intro w'
              go_simp
              with_reducible rfl
             rotate_left
             ·simp only [Act.put,List.setIfInBounds_toArray,List.set_cons_zero,List.set_cons_succ,i64_w,i32_w]
              rfl
             refine pure_ (i:=1) (N:=some 27) (v:=?_) (a':=?_) #[true,true,false,false,false,false,false,false,false,false,false,false,false,false,false,false,false] rfl rfl (any_of HT_.out (by kernel_rfl)) (fun _ _ _ h=>h) (Or.inl ⟨by rfl,?_⟩) ?_ ?_
             rotate_left
             ·intro w'
              go_simp
              with_reducible rfl
             rotate_left
             ·simp only [Act.put,List.setIfInBounds_toArray,List.set_cons_zero,List.set_cons_succ,i64_w,i32_w]
              rfl
             refine pure_ (i:=2) (N:=some 28) (v:=?_) (a':=?_) #[true,true,true,false,false,false,false,false,false,false,false,false,false,false,false,false,false] rfl rfl (any_of HT_.out (by kernel_rfl)) (fun _ _ _ h=>h) (Or.inl ⟨by rfl,?_⟩) ?_ ?_
             rotate_left
             ·intro w'
              go_simp
              with_reducible rfl
             rotate_left
             ·simp only [Act.put,List.setIfInBounds_toArray,List.set_cons_zero,List.set_cons_succ,i64_w,i32_w]
              rfl
             refine one_ (i:=3) (N:=some 29) #[true,true,true,true,false,false,false,false,false,false,false,false,false,false,false,false,false] rfl rfl (one_of HT_.out (by kernel_rfl)) (by decide) (fun K hK=>?_)
             refine goes_ Tryd.func26 (by kernel_rfl) rfl #[.slice (some ad448) y436.length co13] (by rfl) rfl rfl qz17 ?_
             with_reducible refine (impl_SubOk.calls k1 _ _ y436 true _ ?side1 ?side2 A19.out).mono ?_
             (case side1=>exact qz58)
             (case side2=>exact (Kd.V_reads' HO440.out).2.1)
             rintro e w40 ⟨rfl,hb⟩
             have HS0_:=(hb.cell (World.block_lt_of_cell? _ _ (hHeld.1))).trans (hHeld.1)
             have HS1_:=(hb.cell (World.block_lt_of_cell? _ _ (hHeld.2))).trans (hHeld.2)
             refine ⟨_,rfl,?_⟩
             have n0_:=Aside0.mk (Kd.N_below qz11 hb)
             have n1_:=Aside0.mk (Kd.V_below qz20 hb)
             have n2_:=Aside0.mk (below_step qz5 hb)
             clear HO_3 HO440 HB
             have HO_3:=n0_
             have HO440:=n1_
             have HB:=n2_
             clear n0_ n1_ n2_
             replace HL448_1:=Aside0.mk (Kd.V_below HL448_1.out hb)
             replace HR448_1:=Aside0.mk (Kd.C_below HR448_1.out hb)
             (try clear hb)
             (try clear hb2)
             (try clear hk)
             (try clear hi)
             refine hK.out _ _ ⟨HS0_,HS1_⟩ (fun hHeld=>?_)
             clear hK K
             refine norm_ (a':=?_) ?_ ?_
             rotate_left
             ·show Act.put _ (some 29) _=_
              simp only [Act.put,List.setIfInBounds_toArray,List.set_cons_zero,List.set_cons_succ,i64_w,i32_w]
              rfl
             refine pure_ (i:=4) (N:=some 30) (v:=?_) (a':=?_) #[true,true,true,true,true,false,false,false,false,false,false,false,false,false,false,false,false] rfl rfl (any_of HT_.out (by kernel_rfl)) (fun _ _ _ h=>h) (Or.inl ⟨by rfl,?_⟩) ?_ ?_
             rotate_left
             ·intro w'
              go_simp
              with_reducible rfl
             rotate_left
             ·simp only [Act.put,List.setIfInBounds_toArray,List.set_cons_zero,List.set_cons_succ,i64_w,i32_w]
              rfl
             refine pure_ (i:=5) (N:=some 31) (v:=?_) (a':=?_) #[true,true,true,true,true,true,false,false,false,false,false,false,false,false,false,false,false] rfl rfl (any_of HT_.out (by kernel_rfl)) (fun _ _ _ h=>h) (Or.inl ⟨by rfl,?_⟩) ?_ ?_
             rotate_left
             ·intro w'
              go_simp
              with_reducible rfl
             rotate_left
             ·simp only [Act.put,List.setIfInBounds_toArray,List.set_cons_zero,List.set_cons_succ,i64_w,i32_w]
              rfl
             refine pure_ (i:=7) (N:=some 33) (v:=?_) (a':=?_) #[true,true,true,true,true,true,false,true,false,false,false,false,false,false,false,false,false] rfl rfl (any_of HT_.out (by kernel_rfl)) (fun _ _ _ h=>h) (Or.inl ⟨by rfl,?_⟩) ?_ ?_
             rotate_left
             ·intro w'
              go_simp
              with_reducible rfl
             rotate_left
             ·simp only [Act.put,List.setIfInBounds_toArray,List.set_cons_zero,List.set_cons_succ,i64_w,i32_w]
              rfl
             refine pure_ (i:=9) (N:=some 35) (v:=?_) (a':=?_) #[true,true,true,true,true,true,false,true,false,true,false,false,false,false,false,false,false] rfl rfl (any_of HT_.out (by kernel_rfl)) (fun _ _ _ h=>h) (Or.inl ⟨by rfl,?_⟩) ?_ ?_
             rotate_left
             ·intro w'
              go_simp
              with_reducible rfl
             rotate_left
             ·simp only [Act.put,List.setIfInBounds_toArray,List.set_cons_zero,List.set_cons_succ,i64_w,i32_w]
              rfl
             refine pure_ (i:=10) (N:=some 36) (v:=?_) (a':=?_) #[true,true,true,true,true,true,false,true,false,true,true,false,false,false,false,false,false] rfl rfl (any_of HT_.out (by kernel_rfl)) (fun _ _ _ h=>h) (Or.inl ⟨by rfl,?_⟩) ?_ ?_
             rotate_left
             ·intro w'
              go_simp
              with_reducible rfl
             rotate_left
             ·simp only [Act.put,List.setIfInBounds_toArray,List.set_cons_zero,List.set_cons_succ,i64_w,i32_w]
              rfl
             refine pure_ (i:=11) (N:=some 37) (v:=?_) (a':=?_) #[true,true,true,true,true,true,false,true,false,true,true,true,false,false,false,false,false] rfl rfl (any_of HT_.out (by kernel_rfl)) (fun _ _ _ h=>h) (Or.inl ⟨by rfl,?_⟩) ?_ ?_
             rotate_left
             ·intro w'
              go_simp
              with_reducible rfl
             rotate_left
             ·simp only [Act.put,List.setIfInBounds_toArray,List.set_cons_zero,List.set_cons_succ,i64_w,i32_w]
              rfl
             refine take_ (i:=12) (N:=some 38) (v:=?_) (a':=?_) #[true,true,true,true,true,true,false,true,false,true,true,true,true,false,false,false,false] rfl rfl (take_ofW HT_.out HW_.out (by kernel_rfl)) (fun _ _ _ h=>h) (Or.inl ⟨by rfl,?_⟩) hHeld ?_ ?_
             rotate_left
             ·rintro w' ⟨s0,s1⟩
              go_simp
              with_reducible rfl
             rotate_left
             ·simp only [Act.put,List.setIfInBounds_toArray,List.set_cons_zero,List.set_cons_succ,i64_w,i32_w]
              rfl
             refine join_ (σ:=Value × Value × Value) 3 #[true,true,true,true,true,true,true,true,true,true,true,true,true,true,false,false,false] (fun s_=>[(32,s_.1),(34,s_.2.1),(39,s_.2.2)]) (fun s_ w'=>(w'.cell? (ad448.add ((x5_1).toNat * 2))=some (.int .i64 ((rd_T30 t430 x5_1).f0))∧w'.cell? ⟨(ad448.add ((x5_1).toNat * 2)).block,(ad448.add ((x5_1).toNat * 2)).off+1,none⟩=some (.slice A448_1 ((rd_T30 t430 x5_1).f1).length c448_1))∧(Kd.V k46 46 w' w.heap.size (fun k_=>some k_≠(s_.2.1:Value).ownBlock∧some k_≠(s_.2.2:Value).ownBlock∧some k_≠(.slice (some ad448) t430.length co13:Value).ownBlock) (.slice A448_1 ((rd_T30 t430 x5_1).f1).length c448_1) ((rd_T30 t430 x5_1).f1))∧(Kd.V k30 30 w' w.heap.size (fun k_=>some k_≠(s_.2.1:Value).ownBlock∧some k_≠(s_.2.2:Value).ownBlock) (.slice (some ad448) y436.length co13) y436)∧(Kd.N k30 30 w' w.heap.size (fun k_=>some k_≠(s_.2.2:Value).ownBlock) s_.2.1 y445)∧(Kd.N k30 30 w' w.heap.size (fun k_=>some k_≠(s_.2.1:Value).ownBlock∧some k_≠(.slice (some ad448) t430.length co13:Value).ownBlock) s_.2.2 y449)∧(Kd.N k30 30 w' w.heap.size (fun k_=>some k_≠(s_.2.1:Value).ownBlock∧some k_≠(s_.2.2:Value).ownBlock) (.slice (some ad448) t430.length co13) t430)∧(Below w.heap.size w w')) ?_ ?_
             rotate_left
             ·intro hCont
              refine two_ (i:=6) (j:=13) (Ni:=some 32) (Nj:=some 39) #[true,true,true,true,true,true,true,true,false,true,true,true,true,false,false,false,false] #[true,true,true,true,true,true,false,true,false,true,true,true,true,true,false,false,false] rfl rfl rfl rfl (two_of HT_.out (by kernel_rfl)) (by decide) (by decide) (fun K hK=>?_) (fun K hK=>?_)
              ·skip
               refine Kd.N_lit_step k30 _ 30 ?hg (N':=32) ?hd (xs:=([]:List (S30))) (inner:=[]) (ok:=(fun k_=>some k_≠(.slice (some ad448) t430.length co13:Value).ownBlock)) (okp:=(fun k_=>some k_≠(.slice (some ad448) t430.length co13:Value).ownBlock)) ?hr ?hp (fun _ hk=>hk) ((show ∀ k_,w40.heap.size≤k_→(fun k_=>some k_≠(.slice (some ad448) t430.length co13:Value).ownBlock) k_ from fun k_ hk=>Kd.fresh' (Kd.N_lt qz11) k_ hk) _ (Nat.le_refl _)) (Below.refl _ _) (Nat.le_refl _) (by simp) ?_;(case hd=>rfl);(case hg=>rfl);(case hr=>first|(go_simp;done)|(go_simp;rfl));(case hp=>exact (Reps.none _ _))
               intro v443 w41 ho42 hb hg_ hnew_
               have HS0_:=(hb.cell (World.block_lt_of_cell? _ _ (hHeld.1))).trans (hHeld.1)
               have HS1_:=(hb.cell (World.block_lt_of_cell? _ _ (hHeld.2))).trans (hHeld.2)
               clear hg_ hnew_
               (first|rw [← Ny442.out] at ho42|(simp only [Int.reduceToNat] at ho42;rw [← Ny442.out] at ho42))
               have n0_:=Aside0.mk (Kd.N_elder' qz11 (Kd.N_base ho42) hb)
               have n1_:=Aside0.mk (Kd.V_elder' qz20 (Kd.N_base ho42) hb)
               have n2_:=Aside0.mk (Kd.V_elder' qz26 (Kd.N_base ho42) hb)
               have n3_:=Aside0.mk (Kd.N_lower ho42 (below_size qz5))
               have n4_:=Aside0.mk (Kd.C_below qz23 hb)
               have n5_:=Aside0.mk (below_step qz5 hb)
               clear HO_3 HO440 HL448_1 HR448_1 HB
               have HO_3:=n0_
               have HO440:=n1_
               have HL448_1:=n2_
               have HO444:=n3_
               have HR448_1:=n4_
               have HB:=n5_
               clear n0_ n1_ n2_ n3_ n4_ n5_ hb ho42
               refine hK.out _ _ ⟨HS0_,HS1_⟩ (fun hHeld=>?_)
               clear hK K
               refine norm_ (a':=?_) ?_ ?_
               rotate_left
               ·show Act.put _ (some 32) _=_
                simp only [Act.put,List.setIfInBounds_toArray,List.set_cons_zero,List.set_cons_succ,i64_w,i32_w]
                rfl
               refine two_ (i:=8) (j:=13) (Ni:=some 34) (Nj:=some 39) #[true,true,true,true,true,true,true,true,true,true,true,true,true,false,false,false,false] #[true,true,true,true,true,true,true,true,false,true,true,true,true,true,false,false,false] rfl rfl rfl rfl (two_of HT_.out (by kernel_rfl)) (by decide) (by decide) (fun K hK=>?_) (fun K hK=>?_)
               ·skip
                refine Kd.N_append_rows_step k30 (w0:=w) w.heap.size (by rfl) (.tmp 32) (.tmp 33) 23 30 (.agg #[(.int .i64 0),(.slice none 0 0)]) 32 rfl Tryd.underlying23 info30 rfl (by decide) (by omega) v443 y442 t430 _ _ _ (fun _=>True) (fun k_=>((fun _=>True)) k_∧some k_≠(v443:Value).ownBlock) rfl rfl ?aO ?aR (fun _ hk=>hk) ?aF ?aB ?aS ?aL ?_
                (case aR=>exact qz78)
                (case aB=>exact qz5)
                (case aF=>exact (fun _ _=>trivial))
                (case aO=>exact qz83)
                (case aS=>exact (below_size qz5))
                (case aL=>have:=LMc21.out;omega)
                intro v446 w43 ho hb hg hat
                have HS0_:=cell_grown hg (hHeld.1) qz3
                have HS1_:=cell_grown hg (hHeld.2) qz3
                rw [← Ny445.out] at ho
                have n0_:=Aside0.mk (Kd.N_afterv (ok:=(fun _=>True)) qz11 hg hat)
                have n1_:=Aside0.mk (Kd.V_afterv (ok:=(fun _=>True)) qz20 hg hat)
                have n2_:=Aside0.mk (Kd.V_afterv (ok:=(fun k_=>some k_≠(.slice (some ad448) t430.length co13:Value).ownBlock)) qz79 hg hat)
                have n3_:=Aside0.mk (hb)
                have n4_:=Aside0.mk (ho)
                clear HO_3 HO440 HL448_1 HB HO444
                have HO_3:=n0_
                have HO440:=n1_
                have HL448_1:=n2_
                have HB:=n3_
                have HO447:=n4_
                clear n0_ n1_ n2_ n3_ n4_ ho hb hg hat
                refine hK.out _ _ ⟨HS0_,HS1_⟩ (fun hHeld=>?_)
                clear hK K
                refine norm_ (a':=?_) ?_ ?_
                rotate_left
                ·show Act.put _ (some 34) _=_
                 simp only [Act.put,List.setIfInBounds_toArray,List.set_cons_zero,List.set_cons_succ,i64_w,i32_w]
                 rfl
                refine one_ (i:=13) (N:=some 39) #[true,true,true,true,true,true,true,true,true,true,true,true,true,true,false,false,false] rfl rfl (one_of HT_.out (by kernel_rfl)) (by decide) (fun K hK=>?_)
                refine Kd.N_lit_step k30 _ 30 ?hg (N':=39) ?hd (xs:=([(⟨(rd_T30 t430 x5_1).f0,(rd_T30 t430 x5_1).f1⟩:S30)]:List (S30))) (inner:=[.int .i64 ((rd_T30 t430 x5_1).f0),.slice A448_1 ((rd_T30 t430 x5_1).f1).length c448_1]) (ok:=(fun k_=>some k_≠(.slice (some ad448) t430.length co13:Value).ownBlock∧some k_≠(v446:Value).ownBlock)) (okp:=(fun k_=>some k_≠(.slice (some ad448) t430.length co13:Value).ownBlock∧some k_≠(v446:Value).ownBlock)) ?hr ?hp (fun _ hk=>hk) ((show ∀ k_,w43.heap.size≤k_→(fun k_=>some k_≠(.slice (some ad448) t430.length co13:Value).ownBlock∧some k_≠(v446:Value).ownBlock) k_ from fun k_ hk=>⟨Kd.fresh' (Kd.N_lt qz11) k_ hk,Kd.fresh' (Kd.N_lt qz38) k_ hk⟩) _ (Nat.le_refl _)) (Below.refl _ _) (Nat.le_refl _) (by simp) ?_;(case hd=>rfl);(case hg=>rfl);(case hr=>first|(go_simp;done)|(go_simp;rfl));(case hp=>exact (Reps.c2 (show Kd.FK k30 _ _ (⟨(rd_T30 t430 x5_1).f0,(rd_T30 t430 x5_1).f1⟩:S30) [.int .i64 ((rd_T30 t430 x5_1).f0),.slice A448_1 ((rd_T30 t430 x5_1).f1).length c448_1] from (k30_mkF _ _ (⟨(rd_T30 t430 x5_1).f0,(rd_T30 t430 x5_1).f1⟩:S30) (Kd.V_reads' (Kd.V_mono (ok':=(fun k_=>some k_≠(.slice (some ad448) t430.length co13:Value).ownBlock∧some k_≠(v446:Value).ownBlock)) (HL448_1.out) (fun k_ hk=>⟨hk.1,hk.2⟩))).2.1 (Kd.V_F (Kd.V_mono (ok':=(fun k_=>some k_≠(.slice (some ad448) t430.length co13:Value).ownBlock∧some k_≠(v446:Value).ownBlock)) (HL448_1.out) (fun k_ hk=>⟨hk.1,hk.2⟩))))) (Reps.none _ _)))
                intro v450 w44 ho45 hb hg_ hnew_
                have HS0_:=(hb.cell (World.block_lt_of_cell? _ _ (hHeld.1))).trans (hHeld.1)
                have HS1_:=(hb.cell (World.block_lt_of_cell? _ _ (hHeld.2))).trans (hHeld.2)
                clear hg_ hnew_
                (first|rw [← Ny449.out] at ho45|(simp only [Int.reduceToNat] at ho45;rw [← Ny449.out] at ho45))
                have n0_:=Aside0.mk (Kd.N_elder' qz11 (Kd.N_base ho45) hb)
                have n1_:=Aside0.mk (Kd.V_elder' qz20 (Kd.N_base ho45) hb)
                have n2_:=Aside0.mk (Kd.V_elder' qz26 (Kd.N_base ho45) hb)
                have n3_:=Aside0.mk (Kd.N_elder' qz38 (Kd.N_base ho45) hb)
                have n4_:=Aside0.mk (Kd.N_lower ho45 (below_size qz5))
                have n5_:=Aside0.mk (below_step qz5 hb)
                clear HO_3 HO440 HL448_1 HO447 HB
                have HO_3:=n0_
                have HO440:=n1_
                have HL448_1:=n2_
                have HO447:=n3_
                have HO451:=n4_
                have HB:=n5_
                clear n0_ n1_ n2_ n3_ n4_ n5_ hb ho45
                refine hK.out _ _ ⟨HS0_,HS1_⟩ (fun hHeld=>?_)
                clear hK K
                refine norm_ (a':=?_) ?_ ?_
                rotate_left
                ·show Act.put _ (some 39) _=_
                 simp only [Act.put,List.setIfInBounds_toArray,List.set_cons_zero,List.set_cons_succ,i64_w,i32_w]
                 rfl
                exact norm_ qz42 (hCont (v443,v446,v450) _ ⟨hHeld,qz76,qz50,qz84,qz29,qz51,qz5⟩)
               ·skip
                refine Kd.N_lit_step k30 _ 30 ?hg (N':=39) ?hd (xs:=([(⟨(rd_T30 t430 x5_1).f0,(rd_T30 t430 x5_1).f1⟩:S30)]:List (S30))) (inner:=[.int .i64 ((rd_T30 t430 x5_1).f0),.slice A448_1 ((rd_T30 t430 x5_1).f1).length c448_1]) (ok:=(fun k_=>some k_≠(.slice (some ad448) t430.length co13:Value).ownBlock∧some k_≠(v443:Value).ownBlock)) (okp:=(fun k_=>some k_≠(.slice (some ad448) t430.length co13:Value).ownBlock∧some k_≠(v443:Value).ownBlock)) ?hr ?hp (fun _ hk=>hk) ((show ∀ k_,w41.heap.size≤k_→(fun k_=>some k_≠(.slice (some ad448) t430.length co13:Value).ownBlock∧some k_≠(v443:Value).ownBlock) k_ from fun k_ hk=>⟨Kd.fresh' (Kd.N_lt qz11) k_ hk,Kd.fresh' (Kd.N_lt qz60) k_ hk⟩) _ (Nat.le_refl _)) (Below.refl _ _) (Nat.le_refl _) (by simp) ?_;(case hd=>rfl);(case hg=>rfl);(case hr=>first|(go_simp;done)|(go_simp;rfl));(case hp=>exact (Reps.c2 (show Kd.FK k30 _ _ (⟨(rd_T30 t430 x5_1).f0,(rd_T30 t430 x5_1).f1⟩:S30) [.int .i64 ((rd_T30 t430 x5_1).f0),.slice A448_1 ((rd_T30 t430 x5_1).f1).length c448_1] from (k30_mkF _ _ (⟨(rd_T30 t430 x5_1).f0,(rd_T30 t430 x5_1).f1⟩:S30) (Kd.V_reads' (Kd.V_mono (ok':=(fun k_=>some k_≠(.slice (some ad448) t430.length co13:Value).ownBlock∧some k_≠(v443:Value).ownBlock)) (HL448_1.out) (fun k_ hk=>⟨hk.1.2,hk.2⟩))).2.1 (Kd.V_F (Kd.V_mono (ok':=(fun k_=>some k_≠(.slice (some ad448) t430.length co13:Value).ownBlock∧some k_≠(v443:Value).ownBlock)) (HL448_1.out) (fun k_ hk=>⟨hk.1.2,hk.2⟩))))) (Reps.none _ _)))
                intro v450 w43 ho44 hb hg_ hnew_
                have HS0_:=(hb.cell (World.block_lt_of_cell? _ _ (hHeld.1))).trans (hHeld.1)
                have HS1_:=(hb.cell (World.block_lt_of_cell? _ _ (hHeld.2))).trans (hHeld.2)
                clear hg_ hnew_
                (first|rw [← Ny449.out] at ho44|(simp only [Int.reduceToNat] at ho44;rw [← Ny449.out] at ho44))
                have n0_:=Aside0.mk (Kd.N_elder' qz11 (Kd.N_base ho44) hb)
                have n1_:=Aside0.mk (Kd.V_elder' qz20 (Kd.N_base ho44) hb)
                have n2_:=Aside0.mk (Kd.V_elder' qz26 (Kd.N_base ho44) hb)
                have n3_:=Aside0.mk (Kd.N_elder' qz60 (Kd.N_base ho44) hb)
                have n4_:=Aside0.mk (Kd.N_lower ho44 (below_size qz5))
                have n5_:=Aside0.mk (Kd.C_below qz23 hb)
                have n6_:=Aside0.mk (below_step qz5 hb)
                clear HO_3 HO440 HL448_1 HO444 HR448_1 HB
                have HO_3:=n0_
                have HO440:=n1_
                have HL448_1:=n2_
                have HO444:=n3_
                have HO451:=n4_
                have HR448_1:=n5_
                have HB:=n6_
                clear n0_ n1_ n2_ n3_ n4_ n5_ n6_ hb ho44
                refine hK.out _ _ ⟨HS0_,HS1_⟩ (fun hHeld=>?_)
                clear hK K
                refine norm_ (a':=?_) ?_ ?_
                rotate_left
                ·show Act.put _ (some 39) _=_
                 simp only [Act.put,List.setIfInBounds_toArray,List.set_cons_zero,List.set_cons_succ,i64_w,i32_w]
                 rfl
                refine one_ (i:=8) (N:=some 34) #[true,true,true,true,true,true,true,true,true,true,true,true,true,true,false,false,false] rfl rfl (one_of HT_.out (by kernel_rfl)) (by decide) (fun K hK=>?_)
                refine Kd.N_append_rows_step k30 (w0:=w) w.heap.size (by rfl) (.tmp 32) (.tmp 33) 23 30 (.agg #[(.int .i64 0),(.slice none 0 0)]) 32 rfl Tryd.underlying23 info30 rfl (by decide) (by omega) v443 y442 t430 _ _ _ (fun k_=>some k_≠(v450:Value).ownBlock) (fun k_=>((fun k_=>some k_≠(v450:Value).ownBlock)) k_∧some k_≠(v443:Value).ownBlock) rfl rfl ?aO ?aR (fun _ hk=>hk) ?aF ?aB ?aS ?aL ?_
                (case aR=>exact qz66)
                (case aB=>exact qz5)
                (case aF=>exact (fun k_ hk=>Kd.fresh' (Kd.N_lt qz25) k_ hk))
                (case aO=>exact qz55)
                (case aS=>exact (below_size qz5))
                (case aL=>have:=LMc21.out;omega)
                intro v446 w45 ho hb hg hat
                have HS0_:=cell_grown hg (hHeld.1) qz3
                have HS1_:=cell_grown hg (hHeld.2) qz3
                rw [← Ny445.out] at ho
                have n0_:=Aside0.mk (Kd.N_afterv (ok:=(fun k_=>some k_≠(v450:Value).ownBlock)) qz81 hg hat)
                have n1_:=Aside0.mk (Kd.V_afterv (ok:=(fun k_=>some k_≠(v450:Value).ownBlock)) qz80 hg hat)
                have n2_:=Aside0.mk (Kd.V_afterv (ok:=(fun k_=>some k_≠(.slice (some ad448) t430.length co13:Value).ownBlock∧some k_≠(v450:Value).ownBlock)) qz72 hg hat)
                have n3_:=Aside0.mk (Kd.N_afterv (ok:=(fun k_=>some k_≠(.slice (some ad448) t430.length co13:Value).ownBlock)) qz25 hg hat)
                have n4_:=Aside0.mk (hb)
                have n5_:=Aside0.mk (ho)
                clear HO_3 HO440 HL448_1 HO451 HB HO444
                have HO_3:=n0_
                have HO440:=n1_
                have HL448_1:=n2_
                have HO451:=n3_
                have HB:=n4_
                have HO447:=n5_
                clear n0_ n1_ n2_ n3_ n4_ n5_ ho hb hg hat
                refine hK.out _ _ ⟨HS0_,HS1_⟩ (fun hHeld=>?_)
                clear hK K
                refine norm_ (a':=?_) ?_ ?_
                rotate_left
                ·show Act.put _ (some 34) _=_
                 simp only [Act.put,List.setIfInBounds_toArray,List.set_cons_zero,List.set_cons_succ,i64_w,i32_w]
                 rfl
                exact norm_ qz42 (hCont (v443,v446,v450) _ ⟨hHeld,qz47,qz37,qz38,qz29,qz40,qz5⟩)
              ·skip
               refine Kd.N_lit_step k30 _ 30 ?hg (N':=39) ?hd (xs:=([(⟨(rd_T30 t430 x5_1).f0,(rd_T30 t430 x5_1).f1⟩:S30)]:List (S30))) (inner:=[.int .i64 ((rd_T30 t430 x5_1).f0),.slice A448_1 ((rd_T30 t430 x5_1).f1).length c448_1]) (ok:=(fun k_=>some k_≠(.slice (some ad448) t430.length co13:Value).ownBlock)) (okp:=(fun k_=>some k_≠(.slice (some ad448) t430.length co13:Value).ownBlock)) ?hr ?hp (fun _ hk=>hk) ((show ∀ k_,w40.heap.size≤k_→(fun k_=>some k_≠(.slice (some ad448) t430.length co13:Value).ownBlock) k_ from fun k_ hk=>Kd.fresh' (Kd.N_lt qz11) k_ hk) _ (Nat.le_refl _)) (Below.refl _ _) (Nat.le_refl _) (by simp) ?_;(case hd=>rfl);(case hg=>rfl);(case hr=>first|(go_simp;done)|(go_simp;rfl));(case hp=>exact (Reps.c2 (show Kd.FK k30 _ _ (⟨(rd_T30 t430 x5_1).f0,(rd_T30 t430 x5_1).f1⟩:S30) [.int .i64 ((rd_T30 t430 x5_1).f0),.slice A448_1 ((rd_T30 t430 x5_1).f1).length c448_1] from (k30_mkF _ _ (⟨(rd_T30 t430 x5_1).f0,(rd_T30 t430 x5_1).f1⟩:S30) (Kd.V_reads' (Kd.V_mono (ok':=(fun k_=>some k_≠(.slice (some ad448) t430.length co13:Value).ownBlock)) (HL448_1.out) (fun k_ hk=>hk.2))).2.1 (Kd.V_F (Kd.V_mono (ok':=(fun k_=>some k_≠(.slice (some ad448) t430.length co13:Value).ownBlock)) (HL448_1.out) (fun k_ hk=>hk.2))))) (Reps.none _ _)))
               intro v450 w41 ho42 hb hg_ hnew_
               have HS0_:=(hb.cell (World.block_lt_of_cell? _ _ (hHeld.1))).trans (hHeld.1)
               have HS1_:=(hb.cell (World.block_lt_of_cell? _ _ (hHeld.2))).trans (hHeld.2)
               clear hg_ hnew_
               (first|rw [← Ny449.out] at ho42|(simp only [Int.reduceToNat] at ho42;rw [← Ny449.out] at ho42))
               have n0_:=Aside0.mk (Kd.N_elder' qz11 (Kd.N_base ho42) hb)
               have n1_:=Aside0.mk (Kd.V_elder' qz20 (Kd.N_base ho42) hb)
               have n2_:=Aside0.mk (Kd.V_elder' qz26 (Kd.N_base ho42) hb)
               have n3_:=Aside0.mk (Kd.N_lower ho42 (below_size qz5))
               have n4_:=Aside0.mk (Kd.C_below qz23 hb)
               have n5_:=Aside0.mk (below_step qz5 hb)
               clear HO_3 HO440 HL448_1 HR448_1 HB
               have HO_3:=n0_
               have HO440:=n1_
               have HL448_1:=n2_
               have HO451:=n3_
               have HR448_1:=n4_
               have HB:=n5_
               clear n0_ n1_ n2_ n3_ n4_ n5_ hb ho42
               refine hK.out _ _ ⟨HS0_,HS1_⟩ (fun hHeld=>?_)
               clear hK K
               refine norm_ (a':=?_) ?_ ?_
               rotate_left
               ·show Act.put _ (some 39) _=_
                simp only [Act.put,List.setIfInBounds_toArray,List.set_cons_zero,List.set_cons_succ,i64_w,i32_w]
                rfl
               refine one_ (i:=6) (N:=some 32) #[true,true,true,true,true,true,true,true,false,true,true,true,true,true,false,false,false] rfl rfl (one_of HT_.out (by kernel_rfl)) (by decide) (fun K hK=>?_)
               refine Kd.N_lit_step k30 _ 30 ?hg (N':=32) ?hd (xs:=([]:List (S30))) (inner:=[]) (ok:=(fun k_=>some k_≠(.slice (some ad448) t430.length co13:Value).ownBlock∧some k_≠(v450:Value).ownBlock)) (okp:=(fun k_=>some k_≠(.slice (some ad448) t430.length co13:Value).ownBlock∧some k_≠(v450:Value).ownBlock)) ?hr ?hp (fun _ hk=>hk) ((show ∀ k_,w41.heap.size≤k_→(fun k_=>some k_≠(.slice (some ad448) t430.length co13:Value).ownBlock∧some k_≠(v450:Value).ownBlock) k_ from fun k_ hk=>⟨Kd.fresh' (Kd.N_lt qz11) k_ hk,Kd.fresh' (Kd.N_lt qz25) k_ hk⟩) _ (Nat.le_refl _)) (Below.refl _ _) (Nat.le_refl _) (by simp) ?_;(case hd=>rfl);(case hg=>rfl);(case hr=>first|(go_simp;done)|(go_simp;rfl));(case hp=>exact (Reps.none _ _))
               intro v443 w43 ho44 hb hg_ hnew_
               have HS0_:=(hb.cell (World.block_lt_of_cell? _ _ (hHeld.1))).trans (hHeld.1)
               have HS1_:=(hb.cell (World.block_lt_of_cell? _ _ (hHeld.2))).trans (hHeld.2)
               clear hg_ hnew_
               (first|rw [← Ny442.out] at ho44|(simp only [Int.reduceToNat] at ho44;rw [← Ny442.out] at ho44))
               have n0_:=Aside0.mk (Kd.N_elder' qz11 (Kd.N_base ho44) hb)
               have n1_:=Aside0.mk (Kd.V_elder' qz20 (Kd.N_base ho44) hb)
               have n2_:=Aside0.mk (Kd.V_elder' qz26 (Kd.N_base ho44) hb)
               have n3_:=Aside0.mk (Kd.N_elder' qz25 (Kd.N_base ho44) hb)
               have n4_:=Aside0.mk (Kd.N_lower ho44 (below_size qz5))
               have n5_:=Aside0.mk (Kd.C_below qz23 hb)
               have n6_:=Aside0.mk (below_step qz5 hb)
               clear HO_3 HO440 HL448_1 HO451 HR448_1 HB
               have HO_3:=n0_
               have HO440:=n1_
               have HL448_1:=n2_
               have HO451:=n3_
               have HO444:=n4_
               have HR448_1:=n5_
               have HB:=n6_
               clear n0_ n1_ n2_ n3_ n4_ n5_ n6_ hb ho44
               refine hK.out _ _ ⟨HS0_,HS1_⟩ (fun hHeld=>?_)
               clear hK K
               refine norm_ (a':=?_) ?_ ?_
               rotate_left
               ·show Act.put _ (some 32) _=_
                simp only [Act.put,List.setIfInBounds_toArray,List.set_cons_zero,List.set_cons_succ,i64_w,i32_w]
                rfl
               refine one_ (i:=8) (N:=some 34) #[true,true,true,true,true,true,true,true,true,true,true,true,true,true,false,false,false] rfl rfl (one_of HT_.out (by kernel_rfl)) (by decide) (fun K hK=>?_)
               refine Kd.N_append_rows_step k30 (w0:=w) w.heap.size (by rfl) (.tmp 32) (.tmp 33) 23 30 (.agg #[(.int .i64 0),(.slice none 0 0)]) 32 rfl Tryd.underlying23 info30 rfl (by decide) (by omega) v443 y442 t430 _ _ _ (fun k_=>some k_≠(v450:Value).ownBlock) (fun k_=>((fun k_=>some k_≠(v450:Value).ownBlock)) k_∧some k_≠(v443:Value).ownBlock) rfl rfl ?aO ?aR (fun _ hk=>hk) ?aF ?aB ?aS ?aL ?_
               (case aR=>exact qz67)
               (case aB=>exact qz5)
               (case aF=>exact (fun k_ hk=>Kd.fresh' (Kd.N_lt qz25) k_ hk))
               (case aO=>exact qz55)
               (case aS=>exact (below_size qz5))
               (case aL=>have:=LMc21.out;omega)
               intro v446 w45 ho hb hg hat
               have HS0_:=cell_grown hg (hHeld.1) qz3
               have HS1_:=cell_grown hg (hHeld.2) qz3
               rw [← Ny445.out] at ho
               have n0_:=Aside0.mk (Kd.N_afterv (ok:=(fun k_=>some k_≠(v450:Value).ownBlock)) qz51 hg hat)
               have n1_:=Aside0.mk (Kd.V_afterv (ok:=(fun k_=>some k_≠(v450:Value).ownBlock)) qz50 hg hat)
               have n2_:=Aside0.mk (Kd.V_afterv (ok:=(fun k_=>some k_≠(.slice (some ad448) t430.length co13:Value).ownBlock∧some k_≠(v450:Value).ownBlock)) qz73 hg hat)
               have n3_:=Aside0.mk (Kd.N_afterv (ok:=(fun k_=>some k_≠(.slice (some ad448) t430.length co13:Value).ownBlock)) qz25 hg hat)
               have n4_:=Aside0.mk (hb)
               have n5_:=Aside0.mk (ho)
               clear HO_3 HO440 HL448_1 HO451 HB HO444
               have HO_3:=n0_
               have HO440:=n1_
               have HL448_1:=n2_
               have HO451:=n3_
               have HB:=n4_
               have HO447:=n5_
               clear n0_ n1_ n2_ n3_ n4_ n5_ ho hb hg hat
               refine hK.out _ _ ⟨HS0_,HS1_⟩ (fun hHeld=>?_)
               clear hK K
               refine norm_ (a':=?_) ?_ ?_
               rotate_left
               ·show Act.put _ (some 34) _=_
                simp only [Act.put,List.setIfInBounds_toArray,List.set_cons_zero,List.set_cons_succ,i64_w,i32_w]
                rfl
               exact norm_ qz42 (hCont (v443,v446,v450) _ ⟨hHeld,qz47,qz37,qz38,qz29,qz40,qz5⟩)
             rintro ⟨v443,v446,v450⟩ w46 ⟨hS_,h0_,h1_,h2_,h3_,h4_,h5_⟩
             have n0_:Aside0 (Kd.V k46 46 w46 w.heap.size (fun k_=>some k_≠(v446:Value).ownBlock∧some k_≠(v450:Value).ownBlock∧some k_≠(.slice (some ad448) t430.length co13:Value).ownBlock) (.slice A448_1 ((rd_T30 t430 x5_1).f1).length c448_1) ((rd_T30 t430 x5_1).f1)):=⟨h0_⟩
             have n1_:Aside0 (Kd.V k30 30 w46 w.heap.size (fun k_=>some k_≠(v446:Value).ownBlock∧some k_≠(v450:Value).ownBlock) (.slice (some ad448) y436.length co13) y436):=⟨h1_⟩
             have n2_:Aside0 (Kd.N k30 30 w46 w.heap.size (fun k_=>some k_≠(v450:Value).ownBlock) v446 y445):=⟨h2_⟩
             have n3_:Aside0 (Kd.N k30 30 w46 w.heap.size (fun k_=>some k_≠(v446:Value).ownBlock∧some k_≠(.slice (some ad448) t430.length co13:Value).ownBlock) v450 y449):=⟨h3_⟩
             have n4_:Aside0 (Kd.N k30 30 w46 w.heap.size (fun k_=>some k_≠(v446:Value).ownBlock∧some k_≠(v450:Value).ownBlock) (.slice (some ad448) t430.length co13) t430):=⟨h4_⟩
             have n5_:Aside0 (Below w.heap.size w w46):=⟨h5_⟩
             clear HO_3 HB h0_ h1_ h2_ h3_ h4_ h5_
             have HL448_1:=n0_
             have HO440:=n1_
             have HO447:=n2_
             have HO451:=n3_
             have HO_3:=n4_
             have HB:=n5_
             clear n0_ n1_ n2_ n3_ n4_ n5_
             have hHeld:w46.cell? (ad448.add ((x5_1).toNat * 2))=some (.int .i64 ((rd_T30 t430 x5_1).f0))∧w46.cell? ⟨(ad448.add ((x5_1).toNat * 2)).block,(ad448.add ((x5_1).toNat * 2)).off+1,none⟩=some (.slice A448_1 ((rd_T30 t430 x5_1).f1).length c448_1):=hS_
             obtain ⟨Ao48,co48,eo48⟩:=Kd.N_slice HO451.out
             (first|subst eo48|(injection eo48 with f1_ f2_ f3_;have f4_:=f1_.symm;have f5_:=f3_.symm;clear f1_ f2_ f3_;subst f4_;subst f5_))
             refine norm_ (a':=?_) ?_ ?_
             rotate_left
             ·simp only [putAll,Act.put,List.setIfInBounds_toArray,List.set_cons_zero,List.set_cons_succ]
              rfl
             refine one_ (i:=14) (N:=some 40) #[true,true,true,true,true,true,true,true,true,true,true,true,true,true,true,false,false] rfl rfl (one_of HT_.out (by kernel_rfl)) (by decide) (fun K hK=>?_)
             refine Kd.N_append_rows_step k30 (w0:=w) w.heap.size (by rfl) (.tmp 34) (.tmp 39) 23 30 (.agg #[(.int .i64 0),(.slice none 0 0)]) 32 rfl Tryd.underlying23 info30 rfl (by decide) (by omega) v446 y445 y449 _ _ _ (fun _=>True) (fun k_=>((fun _=>True)) k_∧some k_≠(v446:Value).ownBlock) rfl rfl ?aO ?aR (fun _ hk=>hk) ?aF ?aB ?aS ?aL ?_
             (case aR=>exact qz77)
             (case aB=>exact qz5)
             (case aF=>exact (fun _ _=>trivial))
             (case aO=>exact qz82)
             (case aS=>exact (below_size qz5))
             (case aL=>have:=LMc22.out;omega)
             intro v453 w47 ho hb hg hat
             have HS0_:=cell_grown hg (hHeld.1) qz3
             have HS1_:=cell_grown hg (hHeld.2) qz3
             rw [← Ny452.out] at ho
             have n0_:=Aside0.mk (Kd.N_afterv (ok:=(fun k_=>some k_≠(.slice Ao48 y449.length co48:Value).ownBlock)) qz40 hg hat)
             have n1_:=Aside0.mk (Kd.V_afterv (ok:=(fun k_=>some k_≠(.slice Ao48 y449.length co48:Value).ownBlock)) qz37 hg hat)
             have n2_:=Aside0.mk (Kd.V_afterv (ok:=(fun k_=>some k_≠(.slice (some ad448) t430.length co13:Value).ownBlock∧some k_≠(.slice Ao48 y449.length co48:Value).ownBlock)) qz75 hg hat)
             have n3_:=Aside0.mk (Kd.N_afterv (ok:=(fun k_=>some k_≠(.slice (some ad448) t430.length co13:Value).ownBlock)) qz29 hg hat)
             have n4_:=Aside0.mk (hb)
             have n5_:=Aside0.mk (ho)
             clear HO_3 HO440 HL448_1 HO451 HB HO447
             have HO_3:=n0_
             have HO440:=n1_
             have HL448_1:=n2_
             have HO451:=n3_
             have HB:=n4_
             have HO454:=n5_
             clear n0_ n1_ n2_ n3_ n4_ n5_ ho hb hg hat
             obtain ⟨Ao49,co49,eo49⟩:=Kd.N_slice HO454.out
             (first|subst eo49|(injection eo49 with f1_ f2_ f3_;have f4_:=f1_.symm;have f5_:=f3_.symm;clear f1_ f2_ f3_;subst f4_;subst f5_))
             refine hK.out _ _ ⟨HS0_,HS1_⟩ (fun hHeld=>?_)
             clear hK K
             refine norm_ (a':=?_) ?_ ?_
             rotate_left
             ·show Act.put _ (some 40) _=_
              simp only [Act.put,List.setIfInBounds_toArray,List.set_cons_zero,List.set_cons_succ,i64_w,i32_w]
              rfl
             refine one_ (i:=15) (N:=some 41) #[true,true,true,true,true,true,true,true,true,true,true,true,true,true,true,true,false] rfl rfl (one_of HT_.out (by kernel_rfl)) (by decide) (fun K hK=>?_)
             refine goes_ Tryd.func26 (by kernel_rfl) rfl #[.slice Ao49 y452.length co49] (by rfl) rfl rfl qz17 ?_
             with_reducible refine (impl_SubOk.calls k1 _ _ y452 false _ ?side1 ?side2 A23.out).mono ?_
             (case side1=>exact qz69)
             (case side2=>exact (Kd.N_reads' HO454.out).2.1)
             rintro e w50 ⟨rfl,hb⟩
             have HS0_:=(hb.cell (World.block_lt_of_cell? _ _ (hHeld.1))).trans (hHeld.1)
             have HS1_:=(hb.cell (World.block_lt_of_cell? _ _ (hHeld.2))).trans (hHeld.2)
             refine ⟨_,rfl,?_⟩
             have n0_:=Aside0.mk (Kd.N_below qz11 hb)
             have n1_:=Aside0.mk (Kd.V_below qz20 hb)
             have n2_:=Aside0.mk (Kd.V_below qz26 hb)
             have n3_:=Aside0.mk (Kd.N_below qz25 hb)
             have n4_:=Aside0.mk (Kd.N_below (by (with_reducible repeat (first|apply Kd.N_alloc|apply Kd.N_drewN|apply Kd.N_drew));exact HO454.out) hb)
             have n5_:=Aside0.mk (below_step qz5 hb)
             clear HO_3 HO440 HL448_1 HO451 HO454 HB
             have HO_3:=n0_
             have HO440:=n1_
             have HL448_1:=n2_
             have HO451:=n3_
             have HO454:=n4_
             have HB:=n5_
             clear n0_ n1_ n2_ n3_ n4_ n5_
             (try clear hb)
             (try clear hb2)
             (try clear hk)
             (try clear hi)
             refine hK.out _ _ ⟨HS0_,HS1_⟩ (fun hHeld=>?_)
             clear hK K
             refine norm_ (a':=?_) ?_ ?_
             rotate_left
             ·show Act.put _ (some 41) _=_
              simp only [Act.put,List.setIfInBounds_toArray,List.set_cons_zero,List.set_cons_succ,i64_w,i32_w]
              rfl
             refine pure_ (i:=16) (N:=some 42) (v:=?_) (a':=?_) #[true,true,true,true,true,true,true,true,true,true,true,true,true,true,true,true,true] rfl rfl (any_of HT_.out (by kernel_rfl)) (fun _ _ _ h=>h) (Or.inl ⟨by rfl,?_⟩) ?_ ?_
             rotate_left
             ·intro w'
              go_simp
              with_reducible rfl
             rotate_left
             ·simp only [Act.put,List.setIfInBounds_toArray,List.set_cons_zero,List.set_cons_succ,i64_w,i32_w]
              rfl
             refine done_ (done_of HT_.out (by kernel_rfl)) ?_
             try go_wp2
             go_roundg k1
             case measure=>have:=HK1.out;omega
             case rel=>exact ⟨(wrap64 (x5_1+1)),qz9,H',⟨by have:=HK1.out;omega⟩,⟨by (with_reducible repeat (first|apply Kd.N_alloc|apply Kd.N_drewN|apply Kd.N_drew));exact Kd.N_mono HO_3.out (fun _ hk=>trivial)⟩,⟨qz6⟩⟩
           ·rw [if_neg c22] at H
            exact absurd H (by simp)
          ·rw [if_neg c21] at H
           exact absurd H (by simp)
         ·replace c20:=Bool.eq_false_iff.mpr c20
          subst c20
          have H1:(some false)=some r:=qz22
          clear H
          have H:=H1
          clear H1
          obtain rfl:=Option.some.inj H
          try go_wp2
          have n0_:=Aside0.mk (Kd.N_drew HO_3.out)
          have n1_:=Aside0.mk (below_drew1 HB.out)
          clear HO_3 HB
          have HO_3:=n0_
          have HB:=n1_
          clear n0_ n1_
          have q52:(x5_1:Int)≤((t430.length:Int):Int):=of_decide_eq_true qz7
          obtain ⟨i052,hi052,_,hsz52,_⟩:=info_parts info30
          have hroom52:t430.length≤co13:=(Kd.N_reads' HO_3.out).2.1
          have hC52:Kd.F k30 _ _ Ao13 t430.length t430:=(Kd.V_at (base:=w.heap.size) (Kd.N_V HO_3.out)).2.2
          have hcut52:=cut_to (P:=Tryd.prog) 23 30 .i64 Tryd.underlying23 hi052 Ao13 t430.length co13 x5_1 (of_decide_eq_true qz7) q52 hroom52
          have hr52:=Kd.F_take (m:=(x5_1:Int).toNat) hC52 (by omega)
          have hy52:y436.length=(x5_1:Int).toNat:=(by rw [Ny436.out,List.length_take];omega)
          rw [← Ny436.out] at hr52
          rw [← hy52] at hcut52
          have HO440:=Aside0.mk (show Kd.V k30 30 _ w.heap.size _ (.slice Ao13 y436.length co13) y436 from Kd.V_mk (by omega) hr52)
          have HC440:=Aside0.mk (show y436.length≤co13 from by omega)
          clear hr52 hC52 hroom52 hi052 hsz52
          have KY52:=Aside0.mk hy52
          clear hy52
          replace q52:=eq_true q52
          refine start_ (n:=17) (S:=fun w'=>True) (ds:=[]) #[false,false,false,false,false,false,false,false,false,false,false,false,false,false,false,false,false] (by kernel_rfl) rfl rfl trivial (fun hHeld=>?_);refine with_tabW laws_FnSubOk.tab12 laws_FnSubOk.bits12 (fun HT_ HW_=>?_)
          generalize wr.drew=w51 at HO_3 HB HO440 hHeld ⊢
          refine pure_ (i:=0) (N:=some 26) (v:=?_) (a':=?_) #[true,false,false,false,false,false,false,false,false,false,false,false,false,false,false,false,false] rfl rfl (any_of HT_.out (by kernel_rfl)) (fun _ _ _ h=>h) (Or.inl ⟨by rfl,?_⟩) ?_ ?_
          rotate_left
          ·intro w'
           go_simp
           with_reducible rfl
          rotate_left
          ·simp only [Act.put,List.setIfInBounds_toArray,List.set_cons_zero,List.set_cons_succ,i64_w,i32_w]
           rfl
          refine pure_ (i:=1) (N:=some 27) (v:=?_) (a':=?_) #[true,true,false,false,false,false,false,false,false,false,false,false,false,false,false,false,false] rfl rfl (any_of HT_.out (by kernel_rfl)) (fun _ _ _ h=>h) (Or.inl ⟨by rfl,?_⟩) ?_ ?_
          rotate_left
          ·intro w'
           go_simp
           with_reducible rfl
          rotate_left
          ·simp only [Act.put,List.setIfInBounds_toArray,List.set_cons_zero,List.set_cons_succ,i64_w,i32_w]
           rfl
          refine pure_ (i:=2) (N:=some 28) (v:=?_) (a':=?_) #[true,true,true,false,false,false,false,false,false,false,false,false,false,false,false,false,false] rfl rfl (any_of HT_.out (by kernel_rfl)) (fun _ _ _ h=>h) (Or.inl ⟨by rfl,?_⟩) ?_ ?_
          rotate_left
          ·intro w'
           go_simp
           with_reducible rfl
          rotate_left
          ·simp only [Act.put,List.setIfInBounds_toArray,List.set_cons_zero,List.set_cons_succ,i64_w,i32_w]
           rfl
          refine one_ (i:=3) (N:=some 29) #[true,true,true,true,false,false,false,false,false,false,false,false,false,false,false,false,false] rfl rfl (one_of HT_.out (by kernel_rfl)) (by decide) (fun K hK=>?_)
          refine goes_ Tryd.func26 (by kernel_rfl) rfl #[.slice Ao13 y436.length co13] (by rfl) rfl rfl qz17 ?_
          with_reducible refine (impl_SubOk.calls k1 _ _ y436 false _ ?side1 ?side2 A19.out).mono ?_
          (case side1=>exact qz58)
          (case side2=>exact (Kd.V_reads' HO440.out).2.1)
          rintro e w53 ⟨rfl,hb⟩
          refine ⟨_,rfl,?_⟩
          have n0_:=Aside0.mk (Kd.N_below qz11 hb)
          have n1_:=Aside0.mk (Kd.V_below qz20 hb)
          have n2_:=Aside0.mk (below_step qz5 hb)
          clear HO_3 HO440 HB
          have HO_3:=n0_
          have HO440:=n1_
          have HB:=n2_
          clear n0_ n1_ n2_
          (try clear hb)
          (try clear hb2)
          (try clear hk)
          (try clear hi)
          refine hK.out _ _ trivial (fun hHeld=>?_)
          clear hK K
          refine norm_ (a':=?_) ?_ ?_
          rotate_left
          ·show Act.put _ (some 29) _=_
           simp only [Act.put,List.setIfInBounds_toArray,List.set_cons_zero,List.set_cons_succ,i64_w,i32_w]
           rfl
          refine pure_ (i:=4) (N:=some 30) (v:=?_) (a':=?_) #[true,true,true,true,true,false,false,false,false,false,false,false,false,false,false,false,false] rfl rfl (any_of HT_.out (by kernel_rfl)) (fun _ _ _ h=>h) (Or.inl ⟨by rfl,?_⟩) ?_ ?_
          rotate_left
          ·intro w'
           go_simp
           with_reducible rfl
          rotate_left
          ·simp only [Act.put,List.setIfInBounds_toArray,List.set_cons_zero,List.set_cons_succ,i64_w,i32_w]
           rfl
          refine pure_ (i:=5) (N:=some 31) (v:=?_) (a':=?_) #[true,true,true,true,true,true,false,false,false,false,false,false,false,false,false,false,false] rfl rfl (any_of HT_.out (by kernel_rfl)) (fun _ _ _ h=>h) (Or.inl ⟨by rfl,?_⟩) ?_ ?_
          rotate_left
          ·intro w'
           go_simp
           with_reducible rfl
          rotate_left
          ·simp only [Act.put,List.setIfInBounds_toArray,List.set_cons_zero,List.set_cons_succ,i64_w,i32_w]
           rfl
          refine pure_ (i:=6) (N:=some 32) (v:=undef) (a':=?_) #[true,true,true,true,true,true,true,false,false,false,false,false,false,false,false,false,false] rfl rfl (any_of HT_.out (by kernel_rfl)) (fun _ _ _ h=>h) (Or.inr ⟨by rfl,rfl⟩) ?_ ?_
          rotate_left
          ·simp only [Act.put,List.setIfInBounds_toArray,List.set_cons_zero,List.set_cons_succ,i64_w,i32_w]
           rfl
          refine pure_ (i:=7) (N:=some 33) (v:=undef) (a':=?_) #[true,true,true,true,true,true,true,true,false,false,false,false,false,false,false,false,false] rfl rfl (any_of HT_.out (by kernel_rfl)) (fun _ _ _ h=>h) (Or.inr ⟨by rfl,rfl⟩) ?_ ?_
          rotate_left
          ·simp only [Act.put,List.setIfInBounds_toArray,List.set_cons_zero,List.set_cons_succ,i64_w,i32_w]
           rfl
          refine pure_ (i:=8) (N:=some 34) (v:=undef) (a':=?_) #[true,true,true,true,true,true,true,true,true,false,false,false,false,false,false,false,false] rfl rfl (any_of HT_.out (by kernel_rfl)) (fun _ _ _ h=>h) (Or.inr ⟨by rfl,rfl⟩) ?_ ?_
          rotate_left
          ·simp only [Act.put,List.setIfInBounds_toArray,List.set_cons_zero,List.set_cons_succ,i64_w,i32_w]
           rfl
          refine pure_ (i:=9) (N:=some 35) (v:=undef) (a':=?_) #[true,true,true,true,true,true,true,true,true,true,false,false,false,false,false,false,false] rfl rfl (any_of HT_.out (by kernel_rfl)) (fun _ _ _ h=>h) (Or.inr ⟨by rfl,rfl⟩) ?_ ?_
          rotate_left
          ·simp only [Act.put,List.setIfInBounds_toArray,List.set_cons_zero,List.set_cons_succ,i64_w,i32_w]
           rfl
          refine pure_ (i:=10) (N:=some 36) (v:=undef) (a':=?_) #[true,true,true,true,true,true,true,true,true,true,true,false,false,false,false,false,false] rfl rfl (any_of HT_.out (by kernel_rfl)) (fun _ _ _ h=>h) (Or.inr ⟨by rfl,rfl⟩) ?_ ?_
          rotate_left
          ·simp only [Act.put,List.setIfInBounds_toArray,List.set_cons_zero,List.set_cons_succ,i64_w,i32_w]
           rfl
          refine pure_ (i:=11) (N:=some 37) (v:=undef) (a':=?_) #[true,true,true,true,true,true,true,true,true,true,true,true,false,false,false,false,false] rfl rfl (any_of HT_.out (by kernel_rfl)) (fun _ _ _ h=>h) (Or.inr ⟨by rfl,rfl⟩) ?_ ?_
          rotate_left
          ·simp only [Act.put,List.setIfInBounds_toArray,List.set_cons_zero,List.set_cons_succ,i64_w,i32_w]
           rfl
          refine pure_ (i:=12) (N:=some 38) (v:=undef) (a':=?_) #[true,true,true,true,true,true,true,true,true,true,true,true,true,false,false,false,false] rfl rfl (any_of HT_.out (by kernel_rfl)) (fun _ _ _ h=>h) (Or.inr ⟨by rfl,rfl⟩) ?_ ?_
          rotate_left
          ·simp only [Act.put,List.setIfInBounds_toArray,List.set_cons_zero,List.set_cons_succ,i64_w,i32_w]
           rfl
          refine pure_ (i:=13) (N:=some 39) (v:=undef) (a':=?_) #[true,true,true,true,true,true,true,true,true,true,true,true,true,true,false,false,false] rfl rfl (any_of HT_.out (by kernel_rfl)) (fun _ _ _ h=>h) (Or.inr ⟨by rfl,rfl⟩) ?_ ?_
          rotate_left
          ·simp only [Act.put,List.setIfInBounds_toArray,List.set_cons_zero,List.set_cons_succ,i64_w,i32_w]
           rfl
          refine pure_ (i:=14) (N:=some 40) (v:=undef) (a':=?_) #[true,true,true,true,true,true,true,true,true,true,true,true,true,true,true,false,false] rfl rfl (any_of HT_.out (by kernel_rfl)) (fun _ _ _ h=>h) (Or.inr ⟨by rfl,rfl⟩) ?_ ?_
          rotate_left
          ·simp only [Act.put,List.setIfInBounds_toArray,List.set_cons_zero,List.set_cons_succ,i64_w,i32_w]
           rfl
          refine pure_ (i:=15) (N:=some 41) (v:=undef) (a':=?_) #[true,true,true,true,true,true,true,true,true,true,true,true,true,true,true,true,false] rfl rfl (any_of HT_.out (by kernel_rfl)) (fun _ _ _ h=>h) (Or.inr ⟨by rfl,rfl⟩) ?_ ?_
          rotate_left
          ·simp only [Act.put,List.setIfInBounds_toArray,List.set_cons_zero,List.set_cons_succ,i64_w,i32_w]
           rfl
          refine pure_ (i:=16) (N:=some 42) (v:=?_) (a':=?_) #[true,true,true,true,true,true,true,true,true,true,true,true,true,true,true,true,true] rfl rfl (any_of HT_.out (by kernel_rfl)) (fun _ _ _ h=>h) (Or.inl ⟨by rfl,?_⟩) ?_ ?_
          rotate_left
          ·intro w'
           go_simp
           with_reducible rfl
          rotate_left
          ·simp only [Act.put,List.setIfInBounds_toArray,List.set_cons_zero,List.set_cons_succ,i64_w,i32_w]
           rfl
          refine done_ (done_of HT_.out (by kernel_rfl)) ?_
          try go_wp2
          go_ret
          exact ⟨qz8,qz6⟩
        ·rw [if_neg c18] at H
         exact absurd H (by simp)
       ·rw [if_neg c17] at H
        exact absurd H (by simp)
      ·rw [if_neg c16] at H
       have c16b0:decide (x5_1<(t430.length:Int))=false:=decide_eq_false c16
       clear c16
       obtain ⟨y456,hy456⟩:∃ y_:List (S30),y_=(([]:List (S30))):=⟨_,rfl⟩
       replace H:((impl_SubOk.f k1 y456).bind fun t459=>(some t459))=some r:=by first|(rw [hy456];exact H)|exact H
       have Ny456:=Aside0.mk hy456
       clear hy456
       replace H:=Option.bind_eq_some_iff.mp H
       obtain ⟨t459,A540,H⟩:=H
       try dsimp only at H
       have A54:=Aside0.mk A540
       clear A540
       obtain rfl:=Option.some.inj H
       go_wp2_with (first|((with_reducible refine gate_dst (N:=43) rfl ?_);(try (refine gate_guard (by rfl) ?_;dsimp only));refine Kd.N_lit k30 _ 30 ?hg (N':=43) ?hd (xs:=([]:List (S30))) (inner:=[]) (ok:=(fun k_=>some k_≠(.slice Ao13 t430.length co13:Value).ownBlock)) (okp:=(fun k_=>some k_≠(.slice Ao13 t430.length co13:Value).ownBlock)) ?hr ?hp (fun _ hk=>hk) ((show ∀ k_,wr.heap.size≤k_→(fun k_=>some k_≠(.slice Ao13 t430.length co13:Value).ownBlock) k_ from fun k_ hk=>Kd.fresh' (Kd.N_lt qz11) k_ hk) _ (Nat.le_refl _)) (Below.refl _ _) (Nat.le_refl _) (by simp) ?_;(case hd=>rfl);(case hg=>rfl);(case hr=>first|(go_simp;done)|(go_simp;rfl));(case hp=>exact (Reps.none _ _));intro v457 w55 ho56 hb hg_ hnew_;clear hg_ hnew_;(first|rw [← Ny456.out] at ho56|(simp only [Int.reduceToNat] at ho56;rw [← Ny456.out] at ho56));have n0_:=Aside0.mk (Kd.N_elder' qz11 (Kd.N_base ho56) hb);have n1_:=Aside0.mk (Kd.N_lower ho56 (below_size qz5));have n2_:=Aside0.mk (below_step qz5 hb);clear HO_3 HB;have HO_3:=n0_;have HO458:=n1_;have HB:=n2_;clear n0_ n1_ n2_ hb ho56;obtain ⟨Ao57,co57,eo57⟩:=Kd.N_slice HO458.out;subst eo57)|(go_at_call 26;(with_reducible refine (impl_SubOk.calls k1 _ _ y456 t459 _ ?side1 ?side2 A54.out).mono ?_);(case side1=>repeat (first|exact (Kd.N_reads' HO458.out).2.2|(with_reducible refine Kd.C_alloc ?_ _)|(with_reducible refine Kd.C_drewN ?_ _)|(with_reducible refine Kd.C_drew ?_)));(case side2=>exact (Kd.N_reads' HO458.out).2.1);rintro e w58 ⟨rfl,hb⟩;have n0_:=Aside0.mk (Kd.N_below qz11 hb);have n1_:=Aside0.mk (Kd.N_below (by (with_reducible repeat (first|apply Kd.N_alloc|apply Kd.N_drewN|apply Kd.N_drew));exact HO458.out) hb);have n2_:=Aside0.mk (below_step qz5 hb);clear HO_3 HO458 HB;have HO_3:=n0_;have HO458:=n1_;have HB:=n2_;clear n0_ n1_ n2_;(try clear hb);(try clear hb2);(try clear hk);(try clear hi)))
       go_ret
       exact ⟨qz8,qz6⟩
   ·replace c11:=Bool.eq_false_iff.mpr c11
    subst c11
    have H1:((laws_caOk.f).bind fun t435=>(some t435))=some r:=qz22
    clear H
    have H:=H1
    clear H1
    replace H:=Option.bind_eq_some_iff.mp H
    obtain ⟨t435,A590,H⟩:=H
    try dsimp only at H
    have A59:=Aside0.mk A590
    clear A590
    obtain rfl:=Option.some.inj H
    go_enter Tryd.func5,Tryd.ntmps5
    go_wp2_with (first|(go_at_call 28;(with_reducible refine (spec_DrawSubOk.calls k _ _ l0 t430 _ ?side1 ?side2 A3.out).mono ?_);(case side1=>exact qz48);(case side2=>exact HC0.out);rintro e w60 ⟨v431,rfl,ho0,hb⟩;have n0_:=Aside0.mk (Kd.N_lower (Kd.N_mono (ok':=fun k_=>True) (Kd.S_N (Kd.S_bound ho0)) (fun k_ hk_=>trivial)) (below_size qz5));have n1_:=Aside0.mk (below_step qz5 hb);clear HB;have HO432:=n0_;have HB:=n1_;clear n0_ n1_;(try clear hb);(try clear hb2);(try clear hk);(try clear hi);(try clear ho0);obtain ⟨Ao61,co61,eo61⟩:=Kd.N_slice HO432.out;subst eo61)|(go_at_call 26;(with_reducible refine (impl_SubOk.calls k _ _ t430 false _ ?side1 ?side2 A4.out).mono ?_);(case side1=>exact qz33);(case side2=>exact (Kd.N_reads' HO432.out).2.1);rintro e w62 ⟨rfl,hb⟩;have n0_:=Aside0.mk (Kd.N_below qz39 hb);have n1_:=Aside0.mk (below_step qz5 hb);clear HO432 HB;have HO432:=n0_;have HB:=n1_;clear n0_ n1_;(try clear hb);(try clear hb2);(try clear hk);(try clear hi))|(go_at_call 24;(with_reducible refine (spec_SubOk.calls k _ _ t430 t434 _ ?side1 ?side2 A5.out).mono ?_);(case side1=>exact qz33);(case side2=>exact (Kd.N_reads' HO432.out).2.1);rintro e w63 ⟨rfl,hb⟩;have n0_:=Aside0.mk (Kd.N_below qz39 hb);have n1_:=Aside0.mk (below_step qz5 hb);clear HO432 HB;have HO432:=n0_;have HB:=n1_;clear n0_ n1_;(try clear hb);(try clear hb2);(try clear hk);(try clear hi))|(go_at_call 22;(with_reducible refine (laws_caOk.calls  t435 _ A59.out).mono ?_);rintro e w64 ⟨rfl,hb⟩;have n0_:=Aside0.mk (Kd.N_below qz39 hb);have n1_:=Aside0.mk (below_step qz5 hb);clear HO432 HB;have HO432:=n0_;have HB:=n1_;clear n0_ n1_;(try clear hb);(try clear hb2);(try clear hk);(try clear hi)))
    go_ret
    exact ⟨qz8,qz6⟩

end Go.Proofs.YtlaicnoikeieeaaDoor.P
