/- Proofs that are found by a few steps, each told once. Conditions: none. -/
import Derived.ArgAppend
import Derived.Below
import Derived.BigQuiet
import Derived.ChangeArms
import Derived.ChangeOld
import Derived.ChangeSlices
import Derived.DataReads
import Derived.Deep.AppendLies
import Derived.Deep.CutBlock
import Derived.Deep.DeepCutAuto
import Derived.Deep.Draws
import Derived.Deep.LoopGhost
import Derived.Deep.OwnRows
import Derived.Deep.QuietTactic
import Derived.Deep.RegionHeld3
import Derived.Deep.Slices
import Derived.JoinedTies
import Derived.KernelRfl
import Derived.LaidByTextLater
import Derived.LaidMore
import Derived.LaidOnce
import Derived.LaidSub
import Derived.Laws.BitsLemmas
import Derived.Laws.BytesArg
import Derived.Laws.Externs
import Derived.Laws.IdiomCopy
import Derived.Laws.MakeOwn
import Derived.Laws.OwnMore
import Derived.Laws.Rows
import Derived.Laws.Slices
import Derived.Laws.StructEq
import Derived.Lay
import Derived.Lib.AppendIntMem
import Derived.Lib.AppendStr
import Derived.Lib.AtoiAllCases
import Derived.Lib.AtoiTie
import Derived.Lib.Builder
import Derived.Lib.ConvBytes
import Derived.Lib.CountLaws
import Derived.Lib.CutLaws
import Derived.Lib.FrozenHead
import Derived.Lib.IndexBytes
import Derived.Lib.ItoaLen
import Derived.Lib.ItoaMem
import Derived.Lib.LaidTab
import Derived.Lib.SliceRun
import Derived.Lib.Split
import Derived.Lib.SplitLaws
import Derived.Lib.Strings
import Derived.Maps.AppendAt
import Derived.OpenShut
import Derived.OrdersHeld
import Derived.OwnWalk
import Derived.ProofKit
import Derived.RowKit
import Derived.RowKit3
import Derived.SevenTiedAt
import Derived.Shelf.Strconv.AtoiAll
import Derived.Shelf.Strconv.Itoa3
import Derived.Shelf.Strings.BuilderK
import Derived.Shelf.Strings.Cut
import Derived.Shelf.Strings.Prefix
import Derived.Shelf.Strings.SlTrimAscii
import Derived.Shelf.Strings.SplitShaped
import Derived.ShutString
import Derived.SizedLaws
import Derived.Stop.Joined
import Derived.Stop.LaidErr
import Derived.Tactics
import Derived.WalkKit
import Derived.WalkSpells
import Derived.WideLaws
import GoSem.Claim
import GoSem.ClaimJoined
import GoSem.ClaimMapViews
import GoSem.ClaimSeven
import GoSem.PinnedTables
namespace Go.Proofs.YtlhniagacegbeaaGreatDoor
set_option linter.unusedVariables false
theorem qz1 {p:Prop} (h:p:=by (repeat (first|(with_reducible first|exact HB.out|apply below_alloc|apply pw_below_drewN|apply below_drew1)|exact HB.out)) <;> fail):p:=h
theorem qz2 {p:Prop} (h:p:=by first|rfl|(simp [errW_none,errW_some] <;> rfl)|(simp [*,errW_none,errW_some] <;> rfl)):p:=h
theorem qz3 {p:Prop} (h:p:=by (repeat first|exact HB.out|apply below_alloc|apply pw_below_drewN|apply below_drew1) <;> fail):p:=h
theorem qz4 {p:Prop} (h:p:=by first|(with_reducible assumption)|assumption):p:=h
theorem qz5 {p:Prop} (h:p:=by first|rfl|(simp;done)|(simp [*];done)):p:=h
theorem qz6 {p:Prop} (h:p:=by (repeat (first|(with_reducible first|exact HB.out|apply below_alloc|apply pw_below_drewN|apply below_drew1|refine below_set ?_ GE286.out|refine below_set ?_ GE290.out)|exact HB.out)) <;> fail):p:=h
theorem qz7 {p:Prop} (h:p:=by (repeat (first|(with_reducible first|exact HB.out|apply below_alloc|apply pw_below_drewN|apply below_drew1|refine below_set ?_ GE328.out|refine below_set ?_ GE332.out)|exact HB.out)) <;> fail):p:=h
theorem qz8 {p:Prop} (h:p:=by (repeat (first|exact (Kd.C_below HR0_1.out HB.out)|(with_reducible refine Kd.C_alloc ?_ _)|(with_reducible refine Kd.C_drewN ?_ _)|(with_reducible refine Kd.C_drew ?_))) <;> fail):p:=h
theorem qz9 {p:Prop} (h:p:=by (repeat (first|(with_reducible first|exact HB.out|apply below_alloc|apply pw_below_drewN|apply below_drew1|refine below_set ?_ GE115.out)|exact HB.out)) <;> fail):p:=h
theorem qz10 {p:Prop} (h:p:=by (repeat (first|(with_reducible first|exact HB.out|apply below_alloc|apply pw_below_drewN|apply below_drew1|refine below_set ?_ GE217.out|refine below_set ?_ GE225.out)|exact HB.out)) <;> fail):p:=h
theorem qz11 {p:Prop} (h:p:=by (repeat (first|(with_reducible first|exact HB.out|apply below_alloc|apply pw_below_drewN|apply below_drew1|refine below_set ?_ GE166.out)|exact HB.out)) <;> fail):p:=h
theorem qz12 {p:Prop} (h:p:=by (repeat (first|(with_reducible first|exact HB.out|apply below_alloc|apply pw_below_drewN|apply below_drew1|refine below_set ?_ GE328.out|refine below_set ?_ GE332.out|refine below_set ?_ GE352.out)|exact HB.out)) <;> fail):p:=h
theorem qz13 {p:Prop} (h:p:=by (repeat (first|(with_reducible first|exact HB.out|apply below_alloc|apply pw_below_drewN|apply below_drew1|refine below_set ?_ GE177.out)|exact HB.out)) <;> fail):p:=h
theorem qz14 {p:Prop} (h:p:=by (repeat (first|(with_reducible first|exact HB.out|apply below_alloc|apply pw_below_drewN|apply below_drew1|refine below_set ?_ GE1.out|refine below_set ?_ GE2.out)|exact HB.out)) <;> fail):p:=h
theorem qz15 {p:Prop} (h:p:=by rw [if_neg (show ¬ (false=true) by decide)] at H;exact H):p:=h
theorem qz16 {p:Prop} (h:p:=by (repeat (first|(with_reducible first|exact HB.out|apply below_alloc|apply pw_below_drewN|apply below_drew1|refine below_set ?_ GE160.out)|exact HB.out)) <;> fail):p:=h
theorem qz17 {p:Prop} (h:p:=by first|exact Kd.R_nil _ _ _ _ _|exact Kd.N_nil _ _ _ _ _|exact Kd.V_nil _ _ _ _ _|exact Kd.Q_nil _ _ _ _ _|exact Kd.S_nil _ _ _ _ _):p:=h
theorem qz18 {p:Prop} (h:p:=by (repeat (first|exact (Kd.C_below HR0_2.out HB.out)|(with_reducible refine Kd.C_alloc ?_ _)|(with_reducible refine Kd.C_drewN ?_ _)|(with_reducible refine Kd.C_drew ?_))) <;> fail):p:=h
theorem qz19 {p:Prop} (h:p:=by (repeat (first|exact (Kd.C_below HR0_0.out HB.out)|(with_reducible refine Kd.C_alloc ?_ _)|(with_reducible refine Kd.C_drewN ?_ _)|(with_reducible refine Kd.C_drew ?_))) <;> fail):p:=h
theorem qz20 {p:Prop} (h:p:=by (repeat (first|exact Drawn0.refl _|apply Drawn0.step)) <;> fail):p:=h
theorem qz21 {p:Prop} (h:p:=by (repeat (first|(with_reducible first|exact HB.out|apply below_alloc|apply pw_below_drewN|apply below_drew1|refine below_set ?_ GE281.out)|exact HB.out)) <;> fail):p:=h
theorem qz22 {p:Prop} (h:p:=by (try simp only [mA_,mC_,mN_]);first|done|rfl|(simp only [List.length_drop,List.length_take];rfl)):p:=h
theorem qz23 {p:Prop} (h:p:=by (repeat (first|(with_reducible first|exact HB.out|apply below_alloc|apply pw_below_drewN|apply below_drew1|refine below_set ?_ GE315.out)|exact HB.out)) <;> fail):p:=h
theorem qz24 {p:Prop} (h:p:=by (repeat (first|(with_reducible first|exact HB.out|apply below_alloc|apply pw_below_drewN|apply below_drew1|refine below_set ?_ GE212.out)|exact HB.out)) <;> fail):p:=h
theorem qz25 {p:Prop} (h:p:=by (repeat (first|(with_reducible first|exact HB.out|apply below_alloc|apply pw_below_drewN|apply below_drew1|refine below_set ?_ GE319.out|refine below_set ?_ GE322.out)|exact HB.out)) <;> fail):p:=h
theorem qz26 {p:Prop} (h:p:=by rw [if_pos rfl] at H;exact H):p:=h
theorem qz27 {p:Prop} (h:p:=by (repeat (first|(with_reducible first|exact HB.out|apply below_alloc|apply pw_below_drewN|apply below_drew1|refine below_set ?_ GE217.out)|exact HB.out)) <;> fail):p:=h
theorem qz28 {p:Prop} (h:p:=by (repeat (first|(with_reducible first|exact HB.out|apply below_alloc|apply pw_below_drewN|apply below_drew1|refine below_set ?_ GE363.out|refine below_set ?_ GE364.out)|exact HB.out)) <;> fail):p:=h
theorem qz29 {p:Prop} (h:p:=by first|exact Kd.S_nil _ _ _ _ _|exact Kd.N_nil _ _ _ _ _|exact Kd.V_nil _ _ _ _ _|exact Kd.Q_nil _ _ _ _ _|exact Kd.R_nil _ _ _ _ _):p:=h
theorem qz30 {p:Prop} (h:p:=by (repeat (first|exact (Kd.C_below HR0_3.out HB.out)|(with_reducible refine Kd.C_alloc ?_ _)|(with_reducible refine Kd.C_drewN ?_ _)|(with_reducible refine Kd.C_drew ?_))) <;> fail):p:=h
theorem qz31 {p:Prop} (h:p:=by (repeat (first|(with_reducible first|exact HB.out|apply below_alloc|apply pw_below_drewN|apply below_drew1|refine below_set ?_ GE247.out)|exact HB.out)) <;> fail):p:=h
theorem qz32 {p:Prop} (h:p:=by (repeat (first|(with_reducible first|exact HB.out|apply below_alloc|apply pw_below_drewN|apply below_drew1|refine below_set ?_ GE138.out)|exact HB.out)) <;> fail):p:=h
theorem qz33 {p:Prop} (h:p:=by (repeat (first|(with_reducible first|exact HB.out|apply below_alloc|apply pw_below_drewN|apply below_drew1|refine below_set ?_ GE101.out)|exact HB.out)) <;> fail):p:=h
theorem qz34 {p:Prop} (h:p:=by (repeat (first|(with_reducible first|exact HB.out|apply below_alloc|apply pw_below_drewN|apply below_drew1|refine below_set ?_ GE217.out|refine below_set ?_ GE225.out|refine below_set ?_ GE240.out)|exact HB.out)) <;> fail):p:=h
theorem qz35 {p:Prop} (h:p:=by (repeat (first|(with_reducible first|exact HB.out|apply below_alloc|apply pw_below_drewN|apply below_drew1|refine below_set ?_ GE371.out|refine below_set ?_ GE372.out)|exact HB.out)) <;> fail):p:=h
theorem qz36 {p:Prop} (h:p:=by (repeat (first|(with_reducible first|exact HK.out|apply Kept.alloc|apply Kept.drewN|apply Kept.drew)|exact HK.out)) <;> fail):p:=h
theorem qz37 {p:Prop} (h:p:=by (repeat (first|exact (Kd.S_reads' HO_333001.out).2.2|(with_reducible refine Kd.C_alloc ?_ _)|(with_reducible refine Kd.C_drewN ?_ _)|(with_reducible refine Kd.C_drew ?_))) <;> fail):p:=h
theorem qz38 {p:Prop} (h:p:=by (repeat (first|exact (Kd.R_reads' HO_333000.out).2.2|(with_reducible refine Kd.C_alloc ?_ _)|(with_reducible refine Kd.C_drewN ?_ _)|(with_reducible refine Kd.C_drew ?_))) <;> fail):p:=h
theorem qz39 {p:Prop} (h:p:=by (repeat (first|(with_reducible first|exact HB.out|apply below_alloc|apply pw_below_drewN|apply below_drew1|refine below_set ?_ GE393.out)|exact HB.out)) <;> fail):p:=h
theorem qz40 {p:Prop} (h:p:=by (repeat (first|(with_reducible first|exact HB.out|apply below_alloc|apply pw_below_drewN|apply below_drew1|refine below_set ?_ GE319.out)|exact HB.out)) <;> fail):p:=h
theorem qz41 {p:Prop} (h:p:=by (repeat (first|(with_reducible first|exact HB.out|apply below_alloc|apply pw_below_drewN|apply below_drew1|refine below_set ?_ GE1.out)|exact HB.out)) <;> fail):p:=h
theorem qz42 {p:Prop} (h:p:=by (repeat (first|exact HR0.out|(with_reducible refine Kd.C_alloc ?_ _)|(with_reducible refine Kd.C_drewN ?_ _)|(with_reducible refine Kd.C_drew ?_))) <;> fail):p:=h
theorem qz43 {p:Prop} (h:p:=by (repeat (first|(with_reducible first|exact HB.out|apply below_alloc|apply pw_below_drewN|apply below_drew1|refine below_set ?_ GE358.out|refine below_set ?_ GE359.out)|exact HB.out)) <;> fail):p:=h
theorem qz44 {p:Prop} (h:p:=by first|omega|exact Nat.le_refl _):p:=h
theorem qz45 {p:Prop} (h:p:=by have:=HK1.out;first|omega|exact Nat.le_refl _):p:=h
theorem qz46 {p:Prop} (h:p:=by (repeat (first|(with_reducible first|exact HB.out|apply below_alloc|apply pw_below_drewN|apply below_drew1|refine below_set ?_ GE286.out)|exact HB.out)) <;> fail):p:=h
theorem qz47 {p:Prop} (h:p:=by (repeat (first|exact (Kd.R_reads' HO_291003.out).2.2|(with_reducible refine Kd.C_alloc ?_ _)|(with_reducible refine Kd.C_drewN ?_ _)|(with_reducible refine Kd.C_drew ?_))) <;> fail):p:=h
theorem qz48 {p:Prop} (h:p:=by (repeat (first|exact (Kd.R_reads' HO_291002.out).2.2|(with_reducible refine Kd.C_alloc ?_ _)|(with_reducible refine Kd.C_drewN ?_ _)|(with_reducible refine Kd.C_drew ?_))) <;> fail):p:=h
theorem qz49 {p:Prop} (h:p:=by (repeat (first|exact (Kd.R_reads' HO_291001.out).2.2|(with_reducible refine Kd.C_alloc ?_ _)|(with_reducible refine Kd.C_drewN ?_ _)|(with_reducible refine Kd.C_drew ?_))) <;> fail):p:=h
theorem qz50 {p:Prop} (h:p:=by (repeat (first|exact (Kd.C_below HR0.out HB.out)|(with_reducible refine Kd.C_alloc ?_ _)|(with_reducible refine Kd.C_drewN ?_ _)|(with_reducible refine Kd.C_drew ?_))) <;> fail):p:=h
theorem qz51 {p:Prop} (h:p:=by (repeat (first|exact (Kd.R_reads' HO_4.out).2.2|(with_reducible refine Kd.C_alloc ?_ _)|(with_reducible refine Kd.C_drewN ?_ _)|(with_reducible refine Kd.C_drew ?_))) <;> fail):p:=h
theorem qz52 {p:Prop} (h:p:=by (repeat (first|(with_reducible first|exact HB.out|apply below_alloc|apply pw_below_drewN|apply below_drew1|refine below_set ?_ GE328.out)|exact HB.out)) <;> fail):p:=h
theorem qz53 {p:Prop} (h:p:=by (repeat (first|(with_reducible first|exact HB.out|apply below_alloc|apply pw_below_drewN|apply below_drew1|refine below_set ?_ GE258.out)|exact HB.out)) <;> fail):p:=h
theorem qz54 {p:Prop} (h:p:=by have:=HK1.out;have:=HJ5.out;have:=HJ16.out;have:=HJ33.out;have:=HK5.out;have:=HJ47.out;omega):p:=h
theorem qz55 {p:Prop} (h:p:=by first|exact Kd.R_ne HO289.out BK290.out (by decide)|exact fun he_=>(HO289.out.1 _ he_.symm).2 rfl):p:=h
theorem qz56 {p:Prop} (h:p:=by have:=R5.out;rw [if_neg HJ.out] at this;exact this):p:=h
theorem qz57 {p:Prop} (h:p:=by have:=HK1.out;have:=HJ5.out;have:=HJ16.out;have:=HJ33.out;have:=HK5.out;first|omega|exact Nat.le_refl _):p:=h
theorem qz58 {p:Prop} (h:p:=by (with_reducible repeat (first|apply Kd.N_alloc|apply Kd.N_drewN|apply Kd.N_drew));exact HO_3.out):p:=h
theorem qz59 {p:Prop} (h:p:=by have:=HJ1.out;have:=HK2.out;omega):p:=h
theorem qz60 {p:Prop} (h:p:=by (repeat (first|exact (Kd.S_reads' HO_226001.out).2.2|(with_reducible refine Kd.C_alloc ?_ _)|(with_reducible refine Kd.C_drewN ?_ _)|(with_reducible refine Kd.C_drew ?_))) <;> fail):p:=h
theorem qz61 {p:Prop} (h:p:=by (repeat (first|exact (Kd.R_reads' HO_226000.out).2.2|(with_reducible refine Kd.C_alloc ?_ _)|(with_reducible refine Kd.C_drewN ?_ _)|(with_reducible refine Kd.C_drew ?_))) <;> fail):p:=h
theorem qz62 {p:Prop} (h:p:=by (repeat (first|exact (Kd.C_below HR1_1.out HB.out)|(with_reducible refine Kd.C_alloc ?_ _)|(with_reducible refine Kd.C_drewN ?_ _)|(with_reducible refine Kd.C_drew ?_))) <;> fail):p:=h
theorem qz63 {p:Prop} (h:p:=by have:=HK1.out;have:=HJ5.out;have:=HJ16.out;first|omega|exact Nat.le_refl _):p:=h
theorem qz64 {p:Prop} (h:p:=by rw [← hq_];exact (blkp BK160.out)):p:=h
theorem qz65 {p:Prop} (h:p:=by (repeat (first|(with_reducible first|exact HB.out|apply below_alloc|apply pw_below_drewN|apply below_drew1|refine below_set ?_ GE371.out)|exact HB.out)) <;> fail):p:=h
theorem qz66 {p:Prop} (h:p:=by (repeat (first|(with_reducible first|exact HB.out|apply below_alloc|apply pw_below_drewN|apply below_drew1|refine below_set ?_ GE363.out)|exact HB.out)) <;> fail):p:=h
theorem qz67 {p:Prop} (h:p:=by (repeat (first|(with_reducible first|exact HB.out|apply below_alloc|apply pw_below_drewN|apply below_drew1|refine below_set ?_ GE358.out)|exact HB.out)) <;> fail):p:=h
theorem qz68 {p:Prop} (h:p:=by (repeat (first|(with_reducible first|exact HB.out|apply below_alloc|apply pw_below_drewN|apply below_drew1|refine below_set ?_ GE310.out)|exact HB.out)) <;> fail):p:=h
theorem qz69 {p:Prop} (h:p:=by (repeat (first|(with_reducible first|exact HB.out|apply below_alloc|apply pw_below_drewN|apply below_drew1|refine below_set ?_ GE252.out)|exact HB.out)) <;> fail):p:=h
theorem qz70 {p:Prop} (h:p:=by rw [hs2];exact (Kd.R_cell (d:=ByteArray.empty) HO.out 2 (by omega) (by omega)).1):p:=h
theorem qz71 {p:Prop} (h:p:=by rw [hs0];exact (Kd.R_cell (d:=ByteArray.empty) HO.out 0 (by omega) (by omega)).1):p:=h
theorem qz72 {p:Prop} (h:p:=by have:=HJ11.out;have:=HJ19.out;first|omega|exact Nat.le_refl _):p:=h
theorem qz73 {p:Prop} (h:p:=by first|simpa using c3|(simp at c3 ⊢;omega)):p:=h
theorem qz74 {p:Prop} (h:p:=by have:=HJ25.out;have:=HK2.out;first|omega|exact Nat.le_refl _):p:=h
theorem qz75 {p:Prop} (h:p:=by have:=HK1.out;have:=HJ11.out;have:=HK3.out;omega):p:=h
end Go.Proofs.YtlhniagacegbeaaGreatDoor
