/- Proofs that are found by a few steps, each told once. Conditions: none. -/
import Derived.ArgAppend
import Derived.Below
import Derived.BigQuiet
import Derived.ChangeArms
import Derived.ChangeOld
import Derived.ChangeSlices
import Derived.DataReads
import Derived.Deep.AppendLies
import Derived.Deep.CutBlock
import Derived.Deep.DeepCutAuto
import Derived.Deep.Draws
import Derived.Deep.LoopGhost
import Derived.Deep.OwnRows
import Derived.Deep.QuietTactic
import Derived.Deep.RegionHeld3
import Derived.Deep.Slices
import Derived.JoinedTies
import Derived.KernelRfl
import Derived.LaidByTextLater
import Derived.LaidMore
import Derived.LaidOnce
import Derived.LaidSub
import Derived.Laws.BitsLemmas
import Derived.Laws.BytesArg
import Derived.Laws.Externs
import Derived.Laws.IdiomCopy
import Derived.Laws.MakeOwn
import Derived.Laws.OwnMore
import Derived.Laws.Rows
import Derived.Laws.Slices
import Derived.Laws.StructEq
import Derived.Lay
import Derived.Lib.AppendIntMem
import Derived.Lib.AppendStr
import Derived.Lib.AtoiAllCases
import Derived.Lib.AtoiTie
import Derived.Lib.Builder
import Derived.Lib.ConvBytes
import Derived.Lib.FrozenHead
import Derived.Lib.IndexBytes
import Derived.Lib.ItoaLen
import Derived.Lib.ItoaMem
import Derived.Lib.LaidTab
import Derived.Lib.SliceRun
import Derived.Lib.Strings
import Derived.Maps.AppendAt
import Derived.OpenShut
import Derived.OrdersHeld
import Derived.OwnWalk
import Derived.ProofKit
import Derived.RowKit
import Derived.RowKit3
import Derived.SevenTiedAt
import Derived.Shelf.Strconv.AtoiAll
import Derived.Shelf.Strconv.Itoa3
import Derived.Shelf.Strings.BuilderK
import Derived.Shelf.Strings.Prefix
import Derived.Shelf.Strings.SlTrimAscii
import Derived.ShutString
import Derived.SizedLaws
import Derived.Stop.Joined
import Derived.Stop.LaidErr
import Derived.Tactics
import Derived.WalkKit
import Derived.WalkSpells
import Derived.WideLaws
import GoSem.Claim
import GoSem.ClaimJoined
import GoSem.ClaimMapViews
import GoSem.ClaimSeven
import GoSem.PinnedTables
namespace Go.Proofs.YtibencknfheplaaGreatDoor
set_option linter.unusedVariables false
theorem qz1 {p:Prop} (h:p:=by repeat (first|(with_reducible first|exact HI0.out|apply IsS61.alloc|apply IsS61.drewN|apply IsS61.drew|apply IsS61.set_1)|exact HI0.out)):p:=h
theorem qz2 {p:Prop} (h:p:=by repeat (first|(with_reducible first|exact HK.out|apply KeepBut.set_|apply keep_drewN|apply keep_drew|apply keep_alloc)|exact HK.out)):p:=h
theorem qz3 {p:Prop} (h:p:=by repeat (first|(with_reducible first|exact HB.out|apply below_alloc|apply pw_below_drewN|apply below_drew1|refine below_set ?_ (IsS61.ge HI0.out))|exact HB.out)):p:=h
theorem qz4 {p:Prop} (h:p:=by (try simp only [List.map_toArray,List.map_cons,List.map_nil]);first|done|rfl|(simp only [List.length_drop,List.length_take];rfl)):p:=h
theorem qz5 {p:Prop} (h:p:=by repeat first|exact HB.out|apply below_alloc|apply pw_below_drewN|apply below_drew1):p:=h
theorem qz6 {p:Prop} (h:p:=by first|(with_reducible assumption)|assumption):p:=h
theorem qz7 {p:Prop} (h:p:=by repeat (first|(with_reducible first|exact HB.out|apply below_alloc|apply pw_below_drewN|apply below_drew1)|exact HB.out)):p:=h
theorem qz8 {p:Prop} (h:p:=by first|rfl|(simp [errW_none,errW_some] <;> rfl)|(simp [*,errW_none,errW_some] <;> rfl)):p:=h
theorem qz9 {p:Prop} (h:p:=by first|rfl|(simp;done)|(simp [*];done)):p:=h
theorem qz10 {p:Prop} (h:p:=by (with_reducible repeat (first|apply Kd.R_alloc|apply Kd.R_drewN|apply Kd.R_drew));exact HO262.out):p:=h
theorem qz11 {p:Prop} (h:p:=by (with_reducible repeat (first|apply Kd.R_alloc|apply Kd.R_drewN|apply Kd.R_drew));exact HO_5.out):p:=h
theorem qz12 {p:Prop} (h:p:=by (with_reducible repeat (first|apply Kd.R_alloc|apply Kd.R_drewN|apply Kd.R_drew));exact HO152.out):p:=h
theorem qz13 {p:Prop} (h:p:=by repeat (first|(with_reducible first|exact HB.out|apply below_alloc|apply pw_below_drewN|apply below_drew1|refine below_set ?_ GE337.out)|exact HB.out)):p:=h
theorem qz14 {p:Prop} (h:p:=by repeat (first|(with_reducible first|exact HB.out|apply below_alloc|apply pw_below_drewN|apply below_drew1|refine below_set ?_ (IsS61.ge HI273.out))|exact HB.out)):p:=h
theorem qz15 {p:Prop} (h:p:=by (with_reducible repeat (first|apply Kd.R_alloc|apply Kd.R_drewN|apply Kd.R_drew));exact HO_4.out):p:=h
theorem qz16 {p:Prop} (h:p:=by repeat (first|(with_reducible first|exact HI0.out|apply IsS61.alloc|apply IsS61.drewN|apply IsS61.drew|apply IsS61.set_1|refine IsS61.far ?_ NB0_128.out _)|exact HI0.out)):p:=h
theorem qz17 {p:Prop} (h:p:=by repeat (first|(with_reducible first|exact HB.out|apply below_alloc|apply pw_below_drewN|apply below_drew1|refine below_set ?_ GE320.out)|exact HB.out)):p:=h
theorem qz18 {p:Prop} (h:p:=by repeat (first|(with_reducible first|exact HI273.out|apply IsS61.alloc|apply IsS61.drewN|apply IsS61.drew|apply IsS61.set_1)|exact HI273.out)):p:=h
theorem qz19 {p:Prop} (h:p:=by repeat (first|(with_reducible first|exact HK.out|apply KeepBut.set_|apply keep_drewN|apply keep_drew|apply keep_alloc|refine keep_far ?_ GW128.out _)|exact HK.out)):p:=h
theorem qz20 {p:Prop} (h:p:=by repeat (first|(with_reducible first|exact HB.out|apply below_alloc|apply pw_below_drewN|apply below_drew1|refine below_set ?_ (IsS61.ge HI0.out)|refine below_set ?_ GE128.out)|exact HB.out)):p:=h
theorem qz21 {p:Prop} (h:p:=by repeat (first|(with_reducible first|exact HI0.out|apply IsS61.alloc|apply IsS61.drewN|apply IsS61.drew|apply IsS61.set_1|refine IsS61.far ?_ NB0_104.out _)|exact HI0.out)):p:=h
theorem qz22 {p:Prop} (h:p:=by (with_reducible repeat (first|refine blk_drewN ?_ _|refine blk_drew ?_|refine blk_alloc ?_ _));refine blk_put (cs:=#[.int .i64 t333,.int .i64 t334,.string (⟨#[]⟩:ByteArray)]) ?_ 2 _ rfl;(with_reducible repeat (first|refine blk_drewN ?_ _|refine blk_drew ?_|refine blk_alloc ?_ _));refine blk_put (cs:=#[.int .i64 t333,.int .i64 0,.string (⟨#[]⟩:ByteArray)]) ?_ 1 _ rfl;(with_reducible repeat (first|refine blk_drewN ?_ _|refine blk_drew ?_|refine blk_alloc ?_ _));refine blk_put (cs:=#[.int .i64 0,.int .i64 0,.string (⟨#[]⟩:ByteArray)]) ?_ 0 _ rfl;(with_reducible repeat (first|refine blk_drewN ?_ _|refine blk_drew ?_|refine blk_alloc ?_ _));exact BK337.out):p:=h
theorem qz23 {p:Prop} (h:p:=by repeat (first|(with_reducible first|exact HK.out|apply KeepBut.set_|apply keep_drewN|apply keep_drew|apply keep_alloc|refine keep_far ?_ GW104.out _)|exact HK.out)):p:=h
theorem qz24 {p:Prop} (h:p:=by repeat (first|(with_reducible first|exact HB.out|apply below_alloc|apply pw_below_drewN|apply below_drew1|refine below_set ?_ (IsS61.ge HI0.out)|refine below_set ?_ GE104.out)|exact HB.out)):p:=h
theorem qz25 {p:Prop} (h:p:=by repeat (first|exact Drawn0.refl _|apply Drawn0.step)):p:=h
theorem qz26 {p:Prop} (h:p:=by rw [if_neg (show ¬ (false=true) by decide)] at H;exact H):p:=h
theorem qz27 {p:Prop} (h:p:=by repeat (first|exact (Kd.R_reads' HO369.out).2.2|(with_reducible refine Kd.C_alloc ?_ _)|(with_reducible refine Kd.C_drewN ?_ _)|(with_reducible refine Kd.C_drew ?_))):p:=h
theorem qz28 {p:Prop} (h:p:=by (with_reducible repeat (first|apply Kd.R_alloc|apply Kd.R_drewN|apply Kd.R_drew));exact HO369.out):p:=h
theorem qz29 {p:Prop} (h:p:=by (with_reducible repeat (first|apply Kd.R_alloc|apply Kd.R_drewN|apply Kd.R_drew));exact HO268.out):p:=h
theorem qz30 {p:Prop} (h:p:=by (with_reducible repeat (first|refine blk_drewN ?_ _|refine blk_drew ?_|refine blk_alloc ?_ _));exact BK320.out):p:=h
theorem qz31 {p:Prop} (h:p:=by repeat (first|exact (Kd.R_reads' HO_5.out).2.2|(with_reducible refine Kd.C_alloc ?_ _)|(with_reducible refine Kd.C_drewN ?_ _)|(with_reducible refine Kd.C_drew ?_))):p:=h
theorem qz32 {p:Prop} (h:p:=by first|(rw [add_block];exact Kd.own_blk (IsS61.own_ne HI0.out HO152.out (by decide)))|(show (Addr.add _ _).block≠_;rw [add_block];exact Kd.own_blk (IsS61.own_ne HI0.out HO152.out (by decide)))|exact Kd.own_blk (IsS61.own_ne HI0.out HO152.out (by decide))):p:=h
theorem qz33 {p:Prop} (h:p:=by (with_reducible repeat (first|refine blk_drewN ?_ _|refine blk_drew ?_|refine blk_alloc ?_ _));exact BK337.out):p:=h
theorem qz34 {p:Prop} (h:p:=by repeat (first|(with_reducible first|exact HB.out|apply below_alloc|apply pw_below_drewN|apply below_drew1|refine below_set ?_ GE291.out)|exact HB.out)):p:=h
theorem qz35 {p:Prop} (h:p:=by (with_reducible repeat (first|apply Kd.R_alloc|apply Kd.R_drewN|apply Kd.R_drew));exact HO374.out):p:=h
theorem qz36 {p:Prop} (h:p:=by (with_reducible repeat (first|apply Kd.R_alloc|apply Kd.R_drewN|apply Kd.R_drew));exact HO_7.out):p:=h
theorem qz37 {p:Prop} (h:p:=by repeat (first|(with_reducible first|exact HB.out|apply below_alloc|apply pw_below_drewN|apply below_drew1|refine below_set ?_ GE234.out)|exact HB.out)):p:=h
theorem qz38 {p:Prop} (h:p:=by repeat (first|(with_reducible first|exact HB.out|apply below_alloc|apply pw_below_drewN|apply below_drew1|refine below_set ?_ GE218.out)|exact HB.out)):p:=h
theorem qz39 {p:Prop} (h:p:=by (with_reducible repeat (first|refine blk_drewN ?_ _|refine blk_drew ?_|refine blk_alloc ?_ _));exact BK128.out):p:=h
theorem qz40 {p:Prop} (h:p:=by (with_reducible repeat (first|apply Kd.R_alloc|apply Kd.R_drewN|apply Kd.R_drew));exact HO378.out):p:=h
theorem qz41 {p:Prop} (h:p:=by (with_reducible repeat (first|apply Kd.R_alloc|apply Kd.R_drewN|apply Kd.R_drew));exact HO276.out):p:=h
theorem qz42 {p:Prop} (h:p:=by rw [if_pos rfl] at H;exact H):p:=h
theorem qz43 {p:Prop} (h:p:=by (with_reducible repeat (first|refine blk_drewN ?_ _|refine blk_drew ?_|refine blk_alloc ?_ _));exact BK104.out):p:=h
theorem qz44 {p:Prop} (h:p:=by (with_reducible repeat (first|refine blk_drewN ?_ _|refine blk_drew ?_|refine blk_alloc ?_ _));refine blk_put (cs:=#[.int .i64 t124,.int .i64 t125,.string (⟨#[]⟩:ByteArray)]) ?_ 2 _ rfl;(with_reducible repeat (first|refine blk_drewN ?_ _|refine blk_drew ?_|refine blk_alloc ?_ _));refine blk_put (cs:=#[.int .i64 t124,.int .i64 0,.string (⟨#[]⟩:ByteArray)]) ?_ 1 _ rfl;(with_reducible repeat (first|refine blk_drewN ?_ _|refine blk_drew ?_|refine blk_alloc ?_ _));refine blk_put (cs:=#[.int .i64 0,.int .i64 0,.string (⟨#[]⟩:ByteArray)]) ?_ 0 _ rfl;(with_reducible repeat (first|refine blk_drewN ?_ _|refine blk_drew ?_|refine blk_alloc ?_ _));exact BK128.out):p:=h
theorem qz45 {p:Prop} (h:p:=by (with_reducible repeat (first|apply Kd.R_alloc|apply Kd.R_drewN|apply Kd.R_drew));exact HO194.out):p:=h
theorem qz46 {p:Prop} (h:p:=by (with_reducible repeat (first|apply Kd.R_alloc|apply Kd.R_drewN|apply Kd.R_drew));exact HO149.out):p:=h
theorem qz47 {p:Prop} (h:p:=by (with_reducible repeat (first|apply Kd.R_alloc|apply Kd.R_drewN|apply Kd.R_drew));exact HO200.out):p:=h
theorem qz48 {p:Prop} (h:p:=by have:=HK1.out;first|omega|exact Nat.le_refl _):p:=h
theorem qz49 {p:Prop} (h:p:=by first|omega|exact Nat.le_refl _):p:=h
theorem qz50 {p:Prop} (h:p:=by (with_reducible repeat (first|apply Kd.R_alloc|apply Kd.R_drewN|apply Kd.R_drew));exact Kd.R_mono (Kd.R_far (p:=⟨gb337,2,none⟩) (Kd.R_far (p:=⟨gb337,1,none⟩) (Kd.R_far (p:=⟨gb337,0,none⟩) (Kd.R_mono HO_4.out (fun k_ hk=>(⟨hk,hk.2⟩:_∧k_≠gb337))) (fun _ hk=>hk.2) (.int .i64 t333)) (fun _ hk=>hk.2) (.int .i64 t334)) (fun _ hk=>hk.2) (.string t335)) (fun _ hk=>hk.1.2)):p:=h
theorem qz51 {p:Prop} (h:p:=by (with_reducible repeat (first|apply Kd.R_alloc|apply Kd.R_drewN|apply Kd.R_drew));exact (Kd.R_mono (Kd.R_far (p:=⟨gb337,2,none⟩) (Kd.R_far (p:=⟨gb337,1,none⟩) (Kd.R_far (p:=⟨gb337,0,none⟩) (Kd.R_mono HO_4.out (fun k_ hk=>(⟨hk,hk.2⟩:_∧k_≠gb337))) (fun _ hk=>hk.2) (.int .i64 t333)) (fun _ hk=>hk.2) (.int .i64 t334)) (fun _ hk=>hk.2) (.string t335)) (fun _ h_=>h_.1))):p:=h
theorem qz52 {p:Prop} (h:p:=by (with_reducible repeat (first|apply Kd.R_alloc|apply Kd.R_drewN|apply Kd.R_drew));exact Kd.R_mono HO_4.out (fun _ hk=>trivial)):p:=h
theorem qz53 {p:Prop} (h:p:=by (with_reducible repeat (first|apply Kd.R_alloc|apply Kd.R_drewN|apply Kd.R_drew));exact Kd.R_mono HO374.out (fun _ hk=>hk.1.2)):p:=h
theorem qz54 {p:Prop} (h:p:=by (with_reducible repeat (first|apply Kd.R_alloc|apply Kd.R_drewN|apply Kd.R_drew));exact Kd.R_mono HO369.out (fun _ hk=>hk.1.2)):p:=h
theorem qz55 {p:Prop} (h:p:=by repeat (first|(with_reducible first|exact HBW.out|apply below_alloc|apply pw_below_drewN|apply below_drew1)|exact HBW.out)):p:=h
theorem qz56 {p:Prop} (h:p:=by (with_reducible repeat (first|apply Kd.R_alloc|apply Kd.R_drewN|apply Kd.R_drew));exact Kd.R_mono (Kd.R_far (p:=⟨gb337,2,none⟩) (Kd.R_far (p:=⟨gb337,1,none⟩) (Kd.R_far (p:=⟨gb337,0,none⟩) (Kd.R_types HO_5.out BK337.out (by decide)) (fun _ hk=>hk.2) (.int .i64 t333)) (fun _ hk=>hk.2) (.int .i64 t334)) (fun _ hk=>hk.2) (.string t335)) (fun _ hk=>trivial)):p:=h
theorem qz57 {p:Prop} (h:p:=by repeat (first|(with_reducible first|exact HB.out|apply below_alloc|apply pw_below_drewN|apply below_drew1|refine below_set ?_ (IsS61.ge HI213.out))|exact HB.out)):p:=h
theorem qz58 {p:Prop} (h:p:=by repeat (first|exact (Kd.R_reads' HO378.out).2.2|(with_reducible refine Kd.C_alloc ?_ _)|(with_reducible refine Kd.C_drewN ?_ _)|(with_reducible refine Kd.C_drew ?_))):p:=h
theorem qz59 {p:Prop} (h:p:=by repeat (first|exact (Kd.R_reads' HO374.out).2.2|(with_reducible refine Kd.C_alloc ?_ _)|(with_reducible refine Kd.C_drewN ?_ _)|(with_reducible refine Kd.C_drew ?_))):p:=h
theorem qz60 {p:Prop} (h:p:=by repeat (first|exact (Kd.R_reads' HO276.out).2.2|(with_reducible refine Kd.C_alloc ?_ _)|(with_reducible refine Kd.C_drewN ?_ _)|(with_reducible refine Kd.C_drew ?_))):p:=h
theorem qz61 {p:Prop} (h:p:=by repeat (first|exact (Kd.R_reads' HO_7.out).2.2|(with_reducible refine Kd.C_alloc ?_ _)|(with_reducible refine Kd.C_drewN ?_ _)|(with_reducible refine Kd.C_drew ?_))):p:=h
theorem qz62 {p:Prop} (h:p:=by repeat (first|exact (Kd.R_reads' HO_4.out).2.2|(with_reducible refine Kd.C_alloc ?_ _)|(with_reducible refine Kd.C_drewN ?_ _)|(with_reducible refine Kd.C_drew ?_))):p:=h
theorem qz63 {p:Prop} (h:p:=by have:=HK1.out;have:=HJ5.out;have:=HJ16.out;have:=HJ33.out;have:=HK5.out;have:=HJ47.out;omega):p:=h
theorem qz64 {p:Prop} (h:p:=by (with_reducible repeat (first|apply Kd.R_alloc|apply Kd.R_drewN|apply Kd.R_drew));exact Kd.R_mono HO_5.out (fun _ hk=>trivial)):p:=h
theorem qz65 {p:Prop} (h:p:=by have:=R5.out;rw [if_neg HJ.out] at this;exact this):p:=h
theorem qz66 {p:Prop} (h:p:=by have:=HK1.out;have:=HJ5.out;have:=HJ16.out;have:=HJ33.out;have:=HK5.out;first|omega|exact Nat.le_refl _):p:=h
theorem qz67 {p:Prop} (h:p:=by (with_reducible repeat (first|refine blk_drewN ?_ _|refine blk_drew ?_|refine blk_alloc ?_ _));exact BK234.out):p:=h
theorem qz68 {p:Prop} (h:p:=by (with_reducible repeat (first|apply Kd.R_alloc|apply Kd.R_drewN|apply Kd.R_drew));exact HO347.out):p:=h
theorem qz69 {p:Prop} (h:p:=by (with_reducible repeat (first|apply Kd.R_alloc|apply Kd.R_drewN|apply Kd.R_drew));exact HO167.out):p:=h
theorem qz70 {p:Prop} (h:p:=by (with_reducible repeat (first|apply Kd.N_alloc|apply Kd.N_drewN|apply Kd.N_drew));exact HO_3.out):p:=h
theorem qz71 {p:Prop} (h:p:=by repeat (first|exact (Kd.C_below HR0.out HB.out)|(with_reducible refine Kd.C_alloc ?_ _)|(with_reducible refine Kd.C_drewN ?_ _)|(with_reducible refine Kd.C_drew ?_))):p:=h
theorem qz72 {p:Prop} (h:p:=by have:=HK1.out;have:=HJ5.out;have:=HJ16.out;first|omega|exact Nat.le_refl _):p:=h
theorem qz73 {p:Prop} (h:p:=by (try simp only [List.map_toArray,List.map_cons,List.map_nil]);first|done|(simp only [hji20];rfl)|rfl|(simp only [List.length_drop,List.length_take];rfl)):p:=h
theorem qz74 {p:Prop} (h:p:=by (try simp only [List.map_toArray,List.map_cons,List.map_nil]);first|done|(simp only [hji11];rfl)|rfl|(simp only [List.length_drop,List.length_take];rfl)):p:=h
theorem qz75 {p:Prop} (h:p:=by repeat (first|(with_reducible first|exact HB.out|apply below_alloc|apply pw_below_drewN|apply below_drew1|refine below_set ?_ GE296.out)|exact HB.out)):p:=h
theorem qz76 {p:Prop} (h:p:=by repeat (first|exact HR0.out|(with_reducible refine Kd.C_alloc ?_ _)|(with_reducible refine Kd.C_drewN ?_ _)|(with_reducible refine Kd.C_drew ?_))):p:=h
theorem qz77 {p:Prop} (h:p:=by have:=HJ2.out;first|omega|exact Nat.le_refl _):p:=h
theorem qz78 {p:Prop} (h:p:=by have:=HJ26.out;have:=HK2.out;first|omega|exact Nat.le_refl _):p:=h
theorem qz79 {p:Prop} (h:p:=by have:=HJ2.out;have:=HJ9.out;first|omega|exact Nat.le_refl _):p:=h
theorem qz80 {p:Prop} (h:p:=by have:=HK1.out;have:=HJ10.out;have:=HK3.out;omega):p:=h
end Go.Proofs.YtibencknfheplaaGreatDoor
