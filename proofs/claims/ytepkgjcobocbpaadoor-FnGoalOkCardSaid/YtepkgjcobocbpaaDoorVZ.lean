/- Proofs that are found by a few steps, each told once. Conditions: none. -/
import Derived.ArgAppend
import Derived.Below
import Derived.BigQuiet
import Derived.ChangeArms
import Derived.ChangeOld
import Derived.ChangeSlices
import Derived.DataReads
import Derived.Deep.AppendLies
import Derived.Deep.CutBlock
import Derived.Deep.DeepCutAuto
import Derived.Deep.Draws
import Derived.Deep.LoopGhost
import Derived.Deep.OwnRows
import Derived.Deep.QuietTactic
import Derived.Deep.RegionHeld3
import Derived.Deep.Slices
import Derived.JoinedTies
import Derived.KernelRfl
import Derived.LaidByTextLater
import Derived.LaidMore
import Derived.LaidOnce
import Derived.LaidSub
import Derived.Laws.BitsLemmas
import Derived.Laws.BytesArg
import Derived.Laws.IdiomCopy
import Derived.Laws.MakeOwn
import Derived.Laws.OwnMore
import Derived.Laws.Rows
import Derived.Laws.Slices
import Derived.Laws.StructEq
import Derived.Lay
import Derived.Lib.AppendStr
import Derived.Lib.ConvBytes
import Derived.Lib.SliceRun
import Derived.Lib.Strings
import Derived.Maps.AppendAt
import Derived.OpenShut
import Derived.OrdersHeld
import Derived.OwnWalk
import Derived.ProofKit
import Derived.RowKit
import Derived.RowKit3
import Derived.SevenTiedAt
import Derived.Shelf.Strings.SlTrimAscii
import Derived.ShutString
import Derived.SizedLaws
import Derived.Stop.Joined
import Derived.Tactics
import Derived.WalkKit
import Derived.WideLaws
import GoSem.Claim
import GoSem.ClaimJoined
import GoSem.ClaimMapViews
import GoSem.ClaimSeven
import GoSem.PinnedTables
namespace Go.Proofs.YtepkgjcobocbpaaDoor
set_option linter.unusedVariables false
theorem qz1 {p:Prop} (h:p:=by repeat (first|(with_reducible first|exact HI0.out|apply IsS104.alloc|apply IsS104.drewN|apply IsS104.drew|apply IsS104.set_1)|exact HI0.out)):p:=h
theorem qz2 {p:Prop} (h:p:=by repeat (first|(with_reducible first|exact HK.out|apply KeepBut.set_|apply keep_drewN|apply keep_drew|apply keep_alloc)|exact HK.out)):p:=h
theorem qz3 {p:Prop} (h:p:=by repeat (first|(with_reducible first|exact HI0.out|apply IsS104.alloc|apply IsS104.drewN|apply IsS104.drew|apply IsS104.set_1|refine IsS104.far ?_ NB0_254.out _|refine IsS104.far ?_ NB0_257.out _)|exact HI0.out)):p:=h
theorem qz4 {p:Prop} (h:p:=by (try simp only [List.map_toArray,List.map_cons,List.map_nil]);first|done|rfl|(simp only [List.length_drop,List.length_take];rfl)):p:=h
theorem qz5 {p:Prop} (h:p:=by repeat (first|(with_reducible first|exact HB.out|apply below_alloc|apply pw_below_drewN|apply below_drew1|refine below_set ?_ (IsS104.ge HI0.out))|exact HB.out)):p:=h
theorem qz6 {p:Prop} (h:p:=by repeat first|exact HB.out|apply below_alloc|apply pw_below_drewN|apply below_drew1):p:=h
theorem qz7 {p:Prop} (h:p:=by repeat (first|(with_reducible first|exact HK.out|apply KeepBut.set_|apply keep_drewN|apply keep_drew|apply keep_alloc|refine keep_far ?_ GW254.out _|refine keep_far ?_ GW257.out _)|exact HK.out)):p:=h
theorem qz8 {p:Prop} (h:p:=by repeat (first|(with_reducible first|exact HB.out|apply below_alloc|apply pw_below_drewN|apply below_drew1|refine below_set ?_ (IsS104.ge HI0.out)|refine below_set ?_ GE254.out|refine below_set ?_ GE257.out)|exact HB.out)):p:=h
theorem qz9 {p:Prop} (h:p:=by first|rfl|(simp [errW_none,errW_some] <;> rfl)|(simp [*,errW_none,errW_some] <;> rfl)):p:=h
theorem qz10 {p:Prop} (h:p:=by first|(with_reducible assumption)|assumption):p:=h
theorem qz11 {p:Prop} (h:p:=by repeat (first|(with_reducible first|exact HB.out|apply below_alloc|apply pw_below_drewN|apply below_drew1|refine below_set ?_ GE344.out)|exact HB.out)):p:=h
theorem qz12 {p:Prop} (h:p:=by repeat (first|(with_reducible first|exact HB.out|apply below_alloc|apply pw_below_drewN|apply below_drew1)|exact HB.out)):p:=h
theorem qz13 {p:Prop} (h:p:=by repeat (first|(with_reducible first|exact HB.out|apply below_alloc|apply pw_below_drewN|apply below_drew1|refine below_set ?_ GE166.out)|exact HB.out)):p:=h
theorem qz14 {p:Prop} (h:p:=by repeat (first|exact (Kd.C_below HR0_1.out HB.out)|(with_reducible refine Kd.C_alloc ?_ _)|(with_reducible refine Kd.C_drewN ?_ _)|(with_reducible refine Kd.C_drew ?_))):p:=h
theorem qz15 {p:Prop} (h:p:=by (with_reducible repeat (first|apply Kd.R_alloc|apply Kd.R_drewN|apply Kd.R_drew));exact HO198.out):p:=h
theorem qz16 {p:Prop} (h:p:=by repeat (first|(with_reducible first|exact HI0.out|apply IsS104.alloc|apply IsS104.drewN|apply IsS104.drew|apply IsS104.set_1|refine IsS104.far ?_ NB0_154.out _)|exact HI0.out)):p:=h
theorem qz17 {p:Prop} (h:p:=by (with_reducible repeat (first|refine blk_drewN ?_ _|refine blk_drew ?_|refine blk_alloc ?_ _));exact BK254.out):p:=h
theorem qz18 {p:Prop} (h:p:=by repeat (first|(with_reducible first|exact HB.out|apply below_alloc|apply pw_below_drewN|apply below_drew1|refine below_set ?_ GE366.out)|exact HB.out)):p:=h
theorem qz19 {p:Prop} (h:p:=by repeat (first|(with_reducible first|exact HK.out|apply KeepBut.set_|apply keep_drewN|apply keep_drew|apply keep_alloc|refine keep_far ?_ GW154.out _)|exact HK.out)):p:=h
theorem qz20 {p:Prop} (h:p:=by (with_reducible repeat (first|refine blk_drewN ?_ _|refine blk_drew ?_|refine blk_alloc ?_ _));exact BK257.out):p:=h
theorem qz21 {p:Prop} (h:p:=by repeat (first|(with_reducible first|exact HI0.out|apply IsS104.alloc|apply IsS104.drewN|apply IsS104.drew|apply IsS104.set_1|refine IsS104.far ?_ NB0_130.out _)|exact HI0.out)):p:=h
theorem qz22 {p:Prop} (h:p:=by repeat (first|(with_reducible first|exact HB.out|apply below_alloc|apply pw_below_drewN|apply below_drew1|refine below_set ?_ GE366.out|refine below_set ?_ GE370.out|refine below_set ?_ GE374.out)|exact HB.out)):p:=h
theorem qz23 {p:Prop} (h:p:=by repeat (first|(with_reducible first|exact HB.out|apply below_alloc|apply pw_below_drewN|apply below_drew1|refine below_set ?_ (IsS104.ge HI0.out)|refine below_set ?_ GE154.out)|exact HB.out)):p:=h
theorem qz24 {p:Prop} (h:p:=by (with_reducible repeat (first|apply Kd.R_alloc|apply Kd.R_drewN|apply Kd.R_drew));exact HO_258003.out):p:=h
theorem qz25 {p:Prop} (h:p:=by (with_reducible repeat (first|apply Kd.R_alloc|apply Kd.R_drewN|apply Kd.R_drew));exact HO_258002.out):p:=h
theorem qz26 {p:Prop} (h:p:=by (with_reducible repeat (first|apply Kd.R_alloc|apply Kd.R_drewN|apply Kd.R_drew));exact HO_258001.out):p:=h
theorem qz27 {p:Prop} (h:p:=by first|rfl|(simp;done)|(simp [*];done)):p:=h
theorem qz28 {p:Prop} (h:p:=by repeat (first|(with_reducible first|exact HK.out|apply KeepBut.set_|apply keep_drewN|apply keep_drew|apply keep_alloc|refine keep_far ?_ GW130.out _)|exact HK.out)):p:=h
theorem qz29 {p:Prop} (h:p:=by repeat (first|(with_reducible first|exact HB.out|apply below_alloc|apply pw_below_drewN|apply below_drew1|refine below_set ?_ (IsS104.ge HI0.out)|refine below_set ?_ GE130.out)|exact HB.out)):p:=h
theorem qz30 {p:Prop} (h:p:=by (with_reducible repeat (first|refine blk_drewN ?_ _|refine blk_drew ?_|refine blk_alloc ?_ _));refine blk_put (cs:=#[.int .i64 (wrap64 (1+t255)),.slice none 0 0,.slice none 0 0,.slice none 0 0]) ?_ 3 _ rfl;(with_reducible repeat (first|refine blk_drewN ?_ _|refine blk_drew ?_|refine blk_alloc ?_ _));refine blk_put (cs:=#[.int .i64 (wrap64 (1+t255)),.slice none 0 0,.slice none 0 0,.slice none 0 0]) ?_ 2 _ rfl;(with_reducible repeat (first|refine blk_drewN ?_ _|refine blk_drew ?_|refine blk_alloc ?_ _));refine blk_put (cs:=#[.int .i64 (wrap64 (1+t255)),.slice none 0 0,.slice none 0 0,.slice none 0 0]) ?_ 1 _ rfl;(with_reducible repeat (first|refine blk_drewN ?_ _|refine blk_drew ?_|refine blk_alloc ?_ _));refine blk_put (cs:=#[.int .i64 0,.slice none 0 0,.slice none 0 0,.slice none 0 0]) ?_ 0 _ rfl;(with_reducible repeat (first|refine blk_drewN ?_ _|refine blk_drew ?_|refine blk_alloc ?_ _));exact BK257.out):p:=h
theorem qz31 {p:Prop} (h:p:=by (with_reducible repeat (first|refine blk_drewN ?_ _|refine blk_drew ?_|refine blk_alloc ?_ _));exact BK166.out):p:=h
theorem qz32 {p:Prop} (h:p:=by repeat (first|(with_reducible first|exact HB.out|apply below_alloc|apply pw_below_drewN|apply below_drew1|refine below_set ?_ GE366.out|refine below_set ?_ GE370.out)|exact HB.out)):p:=h
theorem qz33 {p:Prop} (h:p:=by repeat (first|exact (Kd.C_below HR0_2.out HB.out)|(with_reducible refine Kd.C_alloc ?_ _)|(with_reducible refine Kd.C_drewN ?_ _)|(with_reducible refine Kd.C_drew ?_))):p:=h
theorem qz34 {p:Prop} (h:p:=by (with_reducible repeat (first|refine blk_drewN ?_ _|refine blk_drew ?_|refine blk_alloc ?_ _));exact BK344.out):p:=h
theorem qz35 {p:Prop} (h:p:=by rw [if_neg (show ¬ (false=true) by decide)] at H;exact H):p:=h
theorem qz36 {p:Prop} (h:p:=by (with_reducible repeat (first|refine blk_drewN ?_ _|refine blk_drew ?_|refine blk_alloc ?_ _));exact BK366.out):p:=h
theorem qz37 {p:Prop} (h:p:=by first|(rw [add_block];exact Kd.own_blk (IsS104.own_ne HI0.out HO198.out (by decide)))|(show (Addr.add _ _).block≠_;rw [add_block];exact Kd.own_blk (IsS104.own_ne HI0.out HO198.out (by decide)))|exact Kd.own_blk (IsS104.own_ne HI0.out HO198.out (by decide))):p:=h
theorem qz38 {p:Prop} (h:p:=by (with_reducible repeat (first|refine blk_drewN ?_ _|refine blk_drew ?_|refine blk_alloc ?_ _));refine blk_far ?_ NB254_257.out _;(with_reducible repeat (first|refine blk_drewN ?_ _|refine blk_drew ?_|refine blk_alloc ?_ _));refine blk_far ?_ NB254_257.out _;(with_reducible repeat (first|refine blk_drewN ?_ _|refine blk_drew ?_|refine blk_alloc ?_ _));refine blk_far ?_ NB254_257.out _;(with_reducible repeat (first|refine blk_drewN ?_ _|refine blk_drew ?_|refine blk_alloc ?_ _));refine blk_far ?_ NB254_257.out _;(with_reducible repeat (first|refine blk_drewN ?_ _|refine blk_drew ?_|refine blk_alloc ?_ _));exact BK254.out):p:=h
theorem qz39 {p:Prop} (h:p:=by (with_reducible repeat (first|apply Kd.R_alloc|apply Kd.R_drewN|apply Kd.R_drew));exact HO365.out):p:=h
theorem qz40 {p:Prop} (h:p:=by (with_reducible repeat (first|apply Kd.R_alloc|apply Kd.R_drewN|apply Kd.R_drew));exact HO362.out):p:=h
theorem qz41 {p:Prop} (h:p:=by (with_reducible repeat (first|apply Kd.R_alloc|apply Kd.R_drewN|apply Kd.R_drew));exact HO359.out):p:=h
theorem qz42 {p:Prop} (h:p:=by (with_reducible repeat (first|refine blk_drewN ?_ _|refine blk_drew ?_|refine blk_alloc ?_ _));refine blk_far ?_ NB366_370.out _;(with_reducible repeat (first|refine blk_drewN ?_ _|refine blk_drew ?_|refine blk_alloc ?_ _));exact BK366.out):p:=h
theorem qz43 {p:Prop} (h:p:=by (with_reducible repeat (first|refine blk_drewN ?_ _|refine blk_drew ?_|refine blk_alloc ?_ _));refine blk_far ?_ NB254_257.out _;(with_reducible repeat (first|refine blk_drewN ?_ _|refine blk_drew ?_|refine blk_alloc ?_ _));exact BK254.out):p:=h
theorem qz44 {p:Prop} (h:p:=by repeat (first|(with_reducible first|exact HB.out|apply below_alloc|apply pw_below_drewN|apply below_drew1|refine below_set ?_ GE327.out)|exact HB.out)):p:=h
theorem qz45 {p:Prop} (h:p:=by repeat (first|exact Drawn0.refl _|apply Drawn0.step)):p:=h
theorem qz46 {p:Prop} (h:p:=by (with_reducible repeat (first|apply Kd.R_alloc|apply Kd.R_drewN|apply Kd.R_drew));exact HO_5.out):p:=h
theorem qz47 {p:Prop} (h:p:=by repeat (first|exact (Kd.R_reads' HO362.out).2.2|(with_reducible refine Kd.C_alloc ?_ _)|(with_reducible refine Kd.C_drewN ?_ _)|(with_reducible refine Kd.C_drew ?_))):p:=h
theorem qz48 {p:Prop} (h:p:=by repeat (first|(with_reducible first|exact HB.out|apply below_alloc|apply pw_below_drewN|apply below_drew1|refine below_set ?_ GE104.out)|exact HB.out)):p:=h
theorem qz49 {p:Prop} (h:p:=by (with_reducible repeat (first|refine blk_drewN ?_ _|refine blk_drew ?_|refine blk_alloc ?_ _));exact BK154.out):p:=h
theorem qz50 {p:Prop} (h:p:=by repeat (first|exact HR0.out|(with_reducible refine Kd.C_alloc ?_ _)|(with_reducible refine Kd.C_drewN ?_ _)|(with_reducible refine Kd.C_drew ?_))):p:=h
theorem qz51 {p:Prop} (h:p:=by repeat (first|exact (Kd.R_reads' HO359.out).2.2|(with_reducible refine Kd.C_alloc ?_ _)|(with_reducible refine Kd.C_drewN ?_ _)|(with_reducible refine Kd.C_drew ?_))):p:=h
theorem qz52 {p:Prop} (h:p:=by repeat (first|(with_reducible first|exact HB.out|apply below_alloc|apply pw_below_drewN|apply below_drew1|refine below_set ?_ (IsS104.ge HI313.out)|refine below_set ?_ GE310.out)|exact HB.out)):p:=h
theorem qz53 {p:Prop} (h:p:=by (with_reducible repeat (first|apply Kd.R_alloc|apply Kd.R_drewN|apply Kd.R_drew));exact HO_7.out):p:=h
theorem qz54 {p:Prop} (h:p:=by (with_reducible repeat (first|refine blk_drewN ?_ _|refine blk_drew ?_|refine blk_alloc ?_ _));exact BK130.out):p:=h
theorem qz55 {p:Prop} (h:p:=by rw [if_pos rfl] at H;exact H):p:=h
theorem qz56 {p:Prop} (h:p:=by (with_reducible repeat (first|apply Kd.R_alloc|apply Kd.R_drewN|apply Kd.R_drew));exact (Q_HO173 h0_)):p:=h
theorem qz57 {p:Prop} (h:p:=by (with_reducible repeat (first|refine blk_drewN ?_ _|refine blk_drew ?_|refine blk_alloc ?_ _));refine blk_put (cs:=#[.int .i64 t356,.slice Ao53 t357.length co53,.slice Ao54 t360.length co54,.slice Ao55 t363.length co55]) ?_ 3 _ rfl;(with_reducible repeat (first|refine blk_drewN ?_ _|refine blk_drew ?_|refine blk_alloc ?_ _));exact BK370.out):p:=h
theorem qz58 {p:Prop} (h:p:=by (with_reducible repeat (first|refine blk_drewN ?_ _|refine blk_drew ?_|refine blk_alloc ?_ _));refine blk_put (cs:=#[.int .i64 t356,.slice Ao23 t357.length co23,.slice Ao24 t360.length co24,.slice Ao25 t363.length co25]) ?_ 3 _ rfl;(with_reducible repeat (first|refine blk_drewN ?_ _|refine blk_drew ?_|refine blk_alloc ?_ _));exact BK370.out):p:=h
theorem qz59 {p:Prop} (h:p:=by (with_reducible repeat (first|refine blk_drewN ?_ _|refine blk_drew ?_|refine blk_alloc ?_ _));refine blk_put (cs:=#[.int .i64 t150,.int .i64 t151,.string (⟨#[]⟩:ByteArray)]) ?_ 2 _ rfl;(with_reducible repeat (first|refine blk_drewN ?_ _|refine blk_drew ?_|refine blk_alloc ?_ _));refine blk_put (cs:=#[.int .i64 t150,.int .i64 0,.string (⟨#[]⟩:ByteArray)]) ?_ 1 _ rfl;(with_reducible repeat (first|refine blk_drewN ?_ _|refine blk_drew ?_|refine blk_alloc ?_ _));refine blk_put (cs:=#[.int .i64 0,.int .i64 0,.string (⟨#[]⟩:ByteArray)]) ?_ 0 _ rfl;(with_reducible repeat (first|refine blk_drewN ?_ _|refine blk_drew ?_|refine blk_alloc ?_ _));exact BK154.out):p:=h
theorem qz60 {p:Prop} (h:p:=by first|exact Kd.R_nil _ _ _ _ _|exact Kd.N_nil _ _ _ _ _|exact Kd.V_nil _ _ _ _ _|exact Kd.Q_nil _ _ _ _ _|exact Kd.S_nil _ _ _ _ _):p:=h
theorem qz61 {p:Prop} (h:p:=by repeat (first|exact (Kd.R_reads' HO365.out).2.2|(with_reducible refine Kd.C_alloc ?_ _)|(with_reducible refine Kd.C_drewN ?_ _)|(with_reducible refine Kd.C_drew ?_))):p:=h
theorem qz62 {p:Prop} (h:p:=by (with_reducible repeat (first|refine blk_drewN ?_ _|refine blk_drew ?_|refine blk_alloc ?_ _));refine blk_put (cs:=#[.int .i64 (wrap64 (1+t255)),.slice none 0 0,.slice none 0 0,.slice none 0 0]) ?_ 1 _ rfl;(with_reducible repeat (first|refine blk_drewN ?_ _|refine blk_drew ?_|refine blk_alloc ?_ _));exact BK257.out):p:=h
theorem qz63 {p:Prop} (h:p:=by (with_reducible repeat (first|refine blk_drewN ?_ _|refine blk_drew ?_|refine blk_alloc ?_ _));refine blk_far ?_ NB370_374.out _;(with_reducible repeat (first|refine blk_drewN ?_ _|refine blk_drew ?_|refine blk_alloc ?_ _));refine blk_far ?_ NB370_374.out _;(with_reducible repeat (first|refine blk_drewN ?_ _|refine blk_drew ?_|refine blk_alloc ?_ _));refine blk_far ?_ NB370_374.out _;(with_reducible repeat (first|refine blk_drewN ?_ _|refine blk_drew ?_|refine blk_alloc ?_ _));refine blk_far ?_ NB370_374.out _;(with_reducible repeat (first|refine blk_drewN ?_ _|refine blk_drew ?_|refine blk_alloc ?_ _));exact BK370.out):p:=h
theorem qz64 {p:Prop} (h:p:=by (with_reducible repeat (first|refine blk_drewN ?_ _|refine blk_drew ?_|refine blk_alloc ?_ _));refine blk_far ?_ NB366_374.out _;(with_reducible repeat (first|refine blk_drewN ?_ _|refine blk_drew ?_|refine blk_alloc ?_ _));refine blk_far ?_ NB366_374.out _;(with_reducible repeat (first|refine blk_drewN ?_ _|refine blk_drew ?_|refine blk_alloc ?_ _));refine blk_far ?_ NB366_374.out _;(with_reducible repeat (first|refine blk_drewN ?_ _|refine blk_drew ?_|refine blk_alloc ?_ _));refine blk_far ?_ NB366_374.out _;(with_reducible repeat (first|refine blk_drewN ?_ _|refine blk_drew ?_|refine blk_alloc ?_ _));exact BK366.out):p:=h
theorem qz65 {p:Prop} (h:p:=by (with_reducible repeat (first|refine blk_drewN ?_ _|refine blk_drew ?_|refine blk_alloc ?_ _));refine blk_far ?_ NB366_370.out _;(with_reducible repeat (first|refine blk_drewN ?_ _|refine blk_drew ?_|refine blk_alloc ?_ _));refine blk_far ?_ NB366_370.out _;(with_reducible repeat (first|refine blk_drewN ?_ _|refine blk_drew ?_|refine blk_alloc ?_ _));refine blk_far ?_ NB366_370.out _;(with_reducible repeat (first|refine blk_drewN ?_ _|refine blk_drew ?_|refine blk_alloc ?_ _));refine blk_far ?_ NB366_370.out _;(with_reducible repeat (first|refine blk_drewN ?_ _|refine blk_drew ?_|refine blk_alloc ?_ _));exact BK366.out):p:=h
theorem qz66 {p:Prop} (h:p:=by (with_reducible repeat (first|apply Kd.R_alloc|apply Kd.R_drewN|apply Kd.R_drew));exact HO240.out):p:=h
theorem qz67 {p:Prop} (h:p:=by (with_reducible repeat (first|apply Kd.R_alloc|apply Kd.R_drewN|apply Kd.R_drew));exact HO195.out):p:=h
theorem qz68 {p:Prop} (h:p:=by repeat (first|(with_reducible first|exact HI0.out|apply IsS104.alloc|apply IsS104.drewN|apply IsS104.drew|apply IsS104.set_1|refine IsS104.far ?_ NB0_254.out _)|exact HI0.out)):p:=h
theorem qz69 {p:Prop} (h:p:=by repeat (first|(with_reducible first|exact HK.out|apply KeepBut.set_|apply keep_drewN|apply keep_drew|apply keep_alloc|refine keep_far ?_ GW254.out _)|exact HK.out)):p:=h
theorem qz70 {p:Prop} (h:p:=by repeat (first|exact (Kd.C_below HR0_3.out HB.out)|(with_reducible refine Kd.C_alloc ?_ _)|(with_reducible refine Kd.C_drewN ?_ _)|(with_reducible refine Kd.C_drew ?_))):p:=h
theorem qz71 {p:Prop} (h:p:=by (with_reducible repeat (first|apply Kd.R_alloc|apply Kd.R_drewN|apply Kd.R_drew));exact (Kd.R_mono (Kd.R_far (p:=⟨gb374,3,none⟩) (Kd.R_far (p:=⟨gb374,2,none⟩) (Kd.R_far (p:=⟨gb374,1,none⟩) (Kd.R_far (p:=⟨gb374,0,none⟩) (Kd.R_types HO373.out BK374.out (by decide)) (fun _ hk=>hk.2) (.int .i64 t356)) (fun _ hk=>hk.2) (.slice Ao53 t357.length co53)) (fun _ hk=>hk.2) (.slice Ao54 t360.length co54)) (fun _ hk=>hk.2) (.slice Ao55 t363.length co55)) (fun _ h_=>h_.1))):p:=h
theorem qz72 {p:Prop} (h:p:=by (with_reducible repeat (first|apply Kd.R_alloc|apply Kd.R_drewN|apply Kd.R_drew));exact (Kd.R_mono (Kd.R_far (p:=⟨gb374,3,none⟩) (Kd.R_far (p:=⟨gb374,2,none⟩) (Kd.R_far (p:=⟨gb374,1,none⟩) (Kd.R_far (p:=⟨gb374,0,none⟩) (Kd.R_types HO373.out BK374.out (by decide)) (fun _ hk=>hk.2) (.int .i64 t356)) (fun _ hk=>hk.2) (.slice Ao23 t357.length co23)) (fun _ hk=>hk.2) (.slice Ao24 t360.length co24)) (fun _ hk=>hk.2) (.slice Ao25 t363.length co25)) (fun _ h_=>h_.1))):p:=h
theorem qz73 {p:Prop} (h:p:=by (with_reducible repeat (first|apply Kd.R_alloc|apply Kd.R_drewN|apply Kd.R_drew));exact (Kd.R_mono (Kd.R_far (p:=⟨gb374,3,none⟩) (Kd.R_far (p:=⟨gb374,2,none⟩) (Kd.R_far (p:=⟨gb374,1,none⟩) (Kd.R_far (p:=⟨gb374,0,none⟩) (Kd.R_types HO365.out BK374.out (by decide)) (fun _ hk=>hk.2) (.int .i64 t356)) (fun _ hk=>hk.2) (.slice Ao53 t357.length co53)) (fun _ hk=>hk.2) (.slice Ao54 t360.length co54)) (fun _ hk=>hk.2) (.slice Ao55 t363.length co55)) (fun _ h_=>h_.1))):p:=h
theorem qz74 {p:Prop} (h:p:=by (with_reducible repeat (first|apply Kd.R_alloc|apply Kd.R_drewN|apply Kd.R_drew));exact (Kd.R_mono (Kd.R_far (p:=⟨gb374,3,none⟩) (Kd.R_far (p:=⟨gb374,2,none⟩) (Kd.R_far (p:=⟨gb374,1,none⟩) (Kd.R_far (p:=⟨gb374,0,none⟩) (Kd.R_types HO365.out BK374.out (by decide)) (fun _ hk=>hk.2) (.int .i64 t356)) (fun _ hk=>hk.2) (.slice Ao23 t357.length co23)) (fun _ hk=>hk.2) (.slice Ao24 t360.length co24)) (fun _ hk=>hk.2) (.slice Ao25 t363.length co25)) (fun _ h_=>h_.1))):p:=h
theorem qz75 {p:Prop} (h:p:=by (with_reducible repeat (first|apply Kd.R_alloc|apply Kd.R_drewN|apply Kd.R_drew));exact (Kd.R_mono (Kd.R_far (p:=⟨gb374,3,none⟩) (Kd.R_far (p:=⟨gb374,2,none⟩) (Kd.R_far (p:=⟨gb374,1,none⟩) (Kd.R_far (p:=⟨gb374,0,none⟩) (Kd.R_types HO362.out BK374.out (by decide)) (fun _ hk=>hk.2) (.int .i64 t356)) (fun _ hk=>hk.2) (.slice Ao53 t357.length co53)) (fun _ hk=>hk.2) (.slice Ao54 t360.length co54)) (fun _ hk=>hk.2) (.slice Ao55 t363.length co55)) (fun _ h_=>h_.1))):p:=h
theorem qz76 {p:Prop} (h:p:=by (with_reducible repeat (first|apply Kd.R_alloc|apply Kd.R_drewN|apply Kd.R_drew));exact (Kd.R_mono (Kd.R_far (p:=⟨gb374,3,none⟩) (Kd.R_far (p:=⟨gb374,2,none⟩) (Kd.R_far (p:=⟨gb374,1,none⟩) (Kd.R_far (p:=⟨gb374,0,none⟩) (Kd.R_types HO362.out BK374.out (by decide)) (fun _ hk=>hk.2) (.int .i64 t356)) (fun _ hk=>hk.2) (.slice Ao23 t357.length co23)) (fun _ hk=>hk.2) (.slice Ao24 t360.length co24)) (fun _ hk=>hk.2) (.slice Ao25 t363.length co25)) (fun _ h_=>h_.1))):p:=h
theorem qz77 {p:Prop} (h:p:=by (with_reducible repeat (first|apply Kd.R_alloc|apply Kd.R_drewN|apply Kd.R_drew));exact (Kd.R_mono (Kd.R_far (p:=⟨gb374,3,none⟩) (Kd.R_far (p:=⟨gb374,2,none⟩) (Kd.R_far (p:=⟨gb374,1,none⟩) (Kd.R_far (p:=⟨gb374,0,none⟩) (Kd.R_types HO359.out BK374.out (by decide)) (fun _ hk=>hk.2) (.int .i64 t356)) (fun _ hk=>hk.2) (.slice Ao53 t357.length co53)) (fun _ hk=>hk.2) (.slice Ao54 t360.length co54)) (fun _ hk=>hk.2) (.slice Ao55 t363.length co55)) (fun _ h_=>h_.1))):p:=h
theorem qz78 {p:Prop} (h:p:=by (with_reducible repeat (first|apply Kd.R_alloc|apply Kd.R_drewN|apply Kd.R_drew));exact (Kd.R_mono (Kd.R_far (p:=⟨gb374,3,none⟩) (Kd.R_far (p:=⟨gb374,2,none⟩) (Kd.R_far (p:=⟨gb374,1,none⟩) (Kd.R_far (p:=⟨gb374,0,none⟩) (Kd.R_types HO359.out BK374.out (by decide)) (fun _ hk=>hk.2) (.int .i64 t356)) (fun _ hk=>hk.2) (.slice Ao23 t357.length co23)) (fun _ hk=>hk.2) (.slice Ao24 t360.length co24)) (fun _ hk=>hk.2) (.slice Ao25 t363.length co25)) (fun _ h_=>h_.1))):p:=h
theorem qz79 {p:Prop} (h:p:=by (with_reducible repeat (first|apply Kd.R_alloc|apply Kd.R_drewN|apply Kd.R_drew));exact (Kd.R_mono (Kd.R_far (p:=⟨gb370,3,none⟩) (Kd.R_far (p:=⟨gb370,2,none⟩) (Kd.R_far (p:=⟨gb370,1,none⟩) (Kd.R_far (p:=⟨gb370,0,none⟩) (Kd.R_types HO365.out BK370.out (by decide)) (fun _ hk=>hk.2) (.int .i64 t356)) (fun _ hk=>hk.2) (.slice Ao53 t357.length co53)) (fun _ hk=>hk.2) (.slice Ao54 t360.length co54)) (fun _ hk=>hk.2) (.slice Ao55 t363.length co55)) (fun _ h_=>h_.1))):p:=h
theorem qz80 {p:Prop} (h:p:=by (with_reducible repeat (first|apply Kd.R_alloc|apply Kd.R_drewN|apply Kd.R_drew));exact (Kd.R_mono (Kd.R_far (p:=⟨gb370,3,none⟩) (Kd.R_far (p:=⟨gb370,2,none⟩) (Kd.R_far (p:=⟨gb370,1,none⟩) (Kd.R_far (p:=⟨gb370,0,none⟩) (Kd.R_types HO365.out BK370.out (by decide)) (fun _ hk=>hk.2) (.int .i64 t356)) (fun _ hk=>hk.2) (.slice Ao23 t357.length co23)) (fun _ hk=>hk.2) (.slice Ao24 t360.length co24)) (fun _ hk=>hk.2) (.slice Ao25 t363.length co25)) (fun _ h_=>h_.1))):p:=h
theorem qz81 {p:Prop} (h:p:=by (with_reducible repeat (first|apply Kd.R_alloc|apply Kd.R_drewN|apply Kd.R_drew));exact (Kd.R_mono (Kd.R_far (p:=⟨gb370,3,none⟩) (Kd.R_far (p:=⟨gb370,2,none⟩) (Kd.R_far (p:=⟨gb370,1,none⟩) (Kd.R_far (p:=⟨gb370,0,none⟩) (Kd.R_types HO362.out BK370.out (by decide)) (fun _ hk=>hk.2) (.int .i64 t356)) (fun _ hk=>hk.2) (.slice Ao53 t357.length co53)) (fun _ hk=>hk.2) (.slice Ao54 t360.length co54)) (fun _ hk=>hk.2) (.slice Ao55 t363.length co55)) (fun _ h_=>h_.1))):p:=h
theorem qz82 {p:Prop} (h:p:=by (with_reducible repeat (first|apply Kd.R_alloc|apply Kd.R_drewN|apply Kd.R_drew));exact (Kd.R_mono (Kd.R_far (p:=⟨gb370,3,none⟩) (Kd.R_far (p:=⟨gb370,2,none⟩) (Kd.R_far (p:=⟨gb370,1,none⟩) (Kd.R_far (p:=⟨gb370,0,none⟩) (Kd.R_types HO362.out BK370.out (by decide)) (fun _ hk=>hk.2) (.int .i64 t356)) (fun _ hk=>hk.2) (.slice Ao23 t357.length co23)) (fun _ hk=>hk.2) (.slice Ao24 t360.length co24)) (fun _ hk=>hk.2) (.slice Ao25 t363.length co25)) (fun _ h_=>h_.1))):p:=h
theorem qz83 {p:Prop} (h:p:=by (with_reducible repeat (first|apply Kd.R_alloc|apply Kd.R_drewN|apply Kd.R_drew));exact (Kd.R_mono (Kd.R_far (p:=⟨gb370,3,none⟩) (Kd.R_far (p:=⟨gb370,2,none⟩) (Kd.R_far (p:=⟨gb370,1,none⟩) (Kd.R_far (p:=⟨gb370,0,none⟩) (Kd.R_types HO359.out BK370.out (by decide)) (fun _ hk=>hk.2) (.int .i64 t356)) (fun _ hk=>hk.2) (.slice Ao53 t357.length co53)) (fun _ hk=>hk.2) (.slice Ao54 t360.length co54)) (fun _ hk=>hk.2) (.slice Ao55 t363.length co55)) (fun _ h_=>h_.1))):p:=h
theorem qz84 {p:Prop} (h:p:=by (with_reducible repeat (first|apply Kd.R_alloc|apply Kd.R_drewN|apply Kd.R_drew));exact (Kd.R_mono (Kd.R_far (p:=⟨gb370,3,none⟩) (Kd.R_far (p:=⟨gb370,2,none⟩) (Kd.R_far (p:=⟨gb370,1,none⟩) (Kd.R_far (p:=⟨gb370,0,none⟩) (Kd.R_types HO359.out BK370.out (by decide)) (fun _ hk=>hk.2) (.int .i64 t356)) (fun _ hk=>hk.2) (.slice Ao23 t357.length co23)) (fun _ hk=>hk.2) (.slice Ao24 t360.length co24)) (fun _ hk=>hk.2) (.slice Ao25 t363.length co25)) (fun _ h_=>h_.1))):p:=h
theorem qz85 {p:Prop} (h:p:=by (with_reducible repeat (first|apply Kd.R_alloc|apply Kd.R_drewN|apply Kd.R_drew));exact (Kd.R_mono (Kd.R_far (p:=⟨gb366,3,none⟩) (Kd.R_far (p:=⟨gb366,2,none⟩) (Kd.R_far (p:=⟨gb366,1,none⟩) (Kd.R_far (p:=⟨gb366,0,none⟩) (Kd.R_types HO365.out BK366.out (by decide)) (fun _ hk=>hk.2) (.int .i64 t356)) (fun _ hk=>hk.2) (.slice Ao83 t357.length co83)) (fun _ hk=>hk.2) (.slice Ao84 t360.length co84)) (fun _ hk=>hk.2) (.slice Ao85 t363.length co85)) (fun _ h_=>h_.1))):p:=h
theorem qz86 {p:Prop} (h:p:=by (with_reducible repeat (first|apply Kd.R_alloc|apply Kd.R_drewN|apply Kd.R_drew));exact (Kd.R_mono (Kd.R_far (p:=⟨gb366,3,none⟩) (Kd.R_far (p:=⟨gb366,2,none⟩) (Kd.R_far (p:=⟨gb366,1,none⟩) (Kd.R_far (p:=⟨gb366,0,none⟩) (Kd.R_types HO365.out BK366.out (by decide)) (fun _ hk=>hk.2) (.int .i64 t356)) (fun _ hk=>hk.2) (.slice Ao53 t357.length co53)) (fun _ hk=>hk.2) (.slice Ao54 t360.length co54)) (fun _ hk=>hk.2) (.slice Ao55 t363.length co55)) (fun _ h_=>h_.1))):p:=h
theorem qz87 {p:Prop} (h:p:=by (with_reducible repeat (first|apply Kd.R_alloc|apply Kd.R_drewN|apply Kd.R_drew));exact (Kd.R_mono (Kd.R_far (p:=⟨gb366,3,none⟩) (Kd.R_far (p:=⟨gb366,2,none⟩) (Kd.R_far (p:=⟨gb366,1,none⟩) (Kd.R_far (p:=⟨gb366,0,none⟩) (Kd.R_types HO365.out BK366.out (by decide)) (fun _ hk=>hk.2) (.int .i64 t356)) (fun _ hk=>hk.2) (.slice Ao23 t357.length co23)) (fun _ hk=>hk.2) (.slice Ao24 t360.length co24)) (fun _ hk=>hk.2) (.slice Ao25 t363.length co25)) (fun _ h_=>h_.1))):p:=h
theorem qz88 {p:Prop} (h:p:=by (with_reducible repeat (first|apply Kd.R_alloc|apply Kd.R_drewN|apply Kd.R_drew));exact (Kd.R_mono (Kd.R_far (p:=⟨gb366,3,none⟩) (Kd.R_far (p:=⟨gb366,2,none⟩) (Kd.R_far (p:=⟨gb366,1,none⟩) (Kd.R_far (p:=⟨gb366,0,none⟩) (Kd.R_types HO365.out BK366.out (by decide)) (fun _ hk=>hk.2) (.int .i64 t356)) (fun _ hk=>hk.2) (.slice Ao10 t357.length co10)) (fun _ hk=>hk.2) (.slice Ao11 t360.length co11)) (fun _ hk=>hk.2) (.slice Ao12 t363.length co12)) (fun _ h_=>h_.1))):p:=h
theorem qz89 {p:Prop} (h:p:=by (with_reducible repeat (first|apply Kd.R_alloc|apply Kd.R_drewN|apply Kd.R_drew));exact (Kd.R_mono (Kd.R_far (p:=⟨gb366,3,none⟩) (Kd.R_far (p:=⟨gb366,2,none⟩) (Kd.R_far (p:=⟨gb366,1,none⟩) (Kd.R_far (p:=⟨gb366,0,none⟩) (Kd.R_types HO362.out BK366.out (by decide)) (fun _ hk=>hk.2) (.int .i64 t356)) (fun _ hk=>hk.2) (.slice Ao83 t357.length co83)) (fun _ hk=>hk.2) (.slice Ao84 t360.length co84)) (fun _ hk=>hk.2) (.slice Ao85 t363.length co85)) (fun _ h_=>h_.1))):p:=h
theorem qz90 {p:Prop} (h:p:=by (with_reducible repeat (first|apply Kd.R_alloc|apply Kd.R_drewN|apply Kd.R_drew));exact (Kd.R_mono (Kd.R_far (p:=⟨gb366,3,none⟩) (Kd.R_far (p:=⟨gb366,2,none⟩) (Kd.R_far (p:=⟨gb366,1,none⟩) (Kd.R_far (p:=⟨gb366,0,none⟩) (Kd.R_types HO362.out BK366.out (by decide)) (fun _ hk=>hk.2) (.int .i64 t356)) (fun _ hk=>hk.2) (.slice Ao53 t357.length co53)) (fun _ hk=>hk.2) (.slice Ao54 t360.length co54)) (fun _ hk=>hk.2) (.slice Ao55 t363.length co55)) (fun _ h_=>h_.1))):p:=h
theorem qz91 {p:Prop} (h:p:=by (with_reducible repeat (first|apply Kd.R_alloc|apply Kd.R_drewN|apply Kd.R_drew));exact (Kd.R_mono (Kd.R_far (p:=⟨gb366,3,none⟩) (Kd.R_far (p:=⟨gb366,2,none⟩) (Kd.R_far (p:=⟨gb366,1,none⟩) (Kd.R_far (p:=⟨gb366,0,none⟩) (Kd.R_types HO362.out BK366.out (by decide)) (fun _ hk=>hk.2) (.int .i64 t356)) (fun _ hk=>hk.2) (.slice Ao23 t357.length co23)) (fun _ hk=>hk.2) (.slice Ao24 t360.length co24)) (fun _ hk=>hk.2) (.slice Ao25 t363.length co25)) (fun _ h_=>h_.1))):p:=h
theorem qz92 {p:Prop} (h:p:=by (with_reducible repeat (first|apply Kd.R_alloc|apply Kd.R_drewN|apply Kd.R_drew));exact (Kd.R_mono (Kd.R_far (p:=⟨gb366,3,none⟩) (Kd.R_far (p:=⟨gb366,2,none⟩) (Kd.R_far (p:=⟨gb366,1,none⟩) (Kd.R_far (p:=⟨gb366,0,none⟩) (Kd.R_types HO362.out BK366.out (by decide)) (fun _ hk=>hk.2) (.int .i64 t356)) (fun _ hk=>hk.2) (.slice Ao10 t357.length co10)) (fun _ hk=>hk.2) (.slice Ao11 t360.length co11)) (fun _ hk=>hk.2) (.slice Ao12 t363.length co12)) (fun _ h_=>h_.1))):p:=h
theorem qz93 {p:Prop} (h:p:=by (with_reducible repeat (first|apply Kd.R_alloc|apply Kd.R_drewN|apply Kd.R_drew));exact (Kd.R_mono (Kd.R_far (p:=⟨gb366,3,none⟩) (Kd.R_far (p:=⟨gb366,2,none⟩) (Kd.R_far (p:=⟨gb366,1,none⟩) (Kd.R_far (p:=⟨gb366,0,none⟩) (Kd.R_types HO359.out BK366.out (by decide)) (fun _ hk=>hk.2) (.int .i64 t356)) (fun _ hk=>hk.2) (.slice Ao83 t357.length co83)) (fun _ hk=>hk.2) (.slice Ao84 t360.length co84)) (fun _ hk=>hk.2) (.slice Ao85 t363.length co85)) (fun _ h_=>h_.1))):p:=h
theorem qz94 {p:Prop} (h:p:=by (with_reducible repeat (first|apply Kd.R_alloc|apply Kd.R_drewN|apply Kd.R_drew));exact (Kd.R_mono (Kd.R_far (p:=⟨gb366,3,none⟩) (Kd.R_far (p:=⟨gb366,2,none⟩) (Kd.R_far (p:=⟨gb366,1,none⟩) (Kd.R_far (p:=⟨gb366,0,none⟩) (Kd.R_types HO359.out BK366.out (by decide)) (fun _ hk=>hk.2) (.int .i64 t356)) (fun _ hk=>hk.2) (.slice Ao53 t357.length co53)) (fun _ hk=>hk.2) (.slice Ao54 t360.length co54)) (fun _ hk=>hk.2) (.slice Ao55 t363.length co55)) (fun _ h_=>h_.1))):p:=h
theorem qz95 {p:Prop} (h:p:=by (with_reducible repeat (first|apply Kd.R_alloc|apply Kd.R_drewN|apply Kd.R_drew));exact (Kd.R_mono (Kd.R_far (p:=⟨gb366,3,none⟩) (Kd.R_far (p:=⟨gb366,2,none⟩) (Kd.R_far (p:=⟨gb366,1,none⟩) (Kd.R_far (p:=⟨gb366,0,none⟩) (Kd.R_types HO359.out BK366.out (by decide)) (fun _ hk=>hk.2) (.int .i64 t356)) (fun _ hk=>hk.2) (.slice Ao23 t357.length co23)) (fun _ hk=>hk.2) (.slice Ao24 t360.length co24)) (fun _ hk=>hk.2) (.slice Ao25 t363.length co25)) (fun _ h_=>h_.1))):p:=h
theorem qz96 {p:Prop} (h:p:=by (with_reducible repeat (first|apply Kd.R_alloc|apply Kd.R_drewN|apply Kd.R_drew));exact (Kd.R_mono (Kd.R_far (p:=⟨gb366,3,none⟩) (Kd.R_far (p:=⟨gb366,2,none⟩) (Kd.R_far (p:=⟨gb366,1,none⟩) (Kd.R_far (p:=⟨gb366,0,none⟩) (Kd.R_types HO359.out BK366.out (by decide)) (fun _ hk=>hk.2) (.int .i64 t356)) (fun _ hk=>hk.2) (.slice Ao10 t357.length co10)) (fun _ hk=>hk.2) (.slice Ao11 t360.length co11)) (fun _ hk=>hk.2) (.slice Ao12 t363.length co12)) (fun _ h_=>h_.1))):p:=h
theorem qz97 {p:Prop} (h:p:=by (with_reducible repeat (first|apply Kd.R_alloc|apply Kd.R_drewN|apply Kd.R_drew));exact HO246.out):p:=h
theorem qz98 {p:Prop} (h:p:=by first|omega|exact Nat.le_refl _):p:=h
theorem qz99 {p:Prop} (h:p:=by repeat (first|(with_reducible first|exact HBW.out|apply below_alloc|apply pw_below_drewN|apply below_drew1)|exact HBW.out)):p:=h
theorem qz100 {p:Prop} (h:p:=by (with_reducible repeat (first|refine blk_drewN ?_ _|refine blk_drew ?_|refine blk_alloc ?_ _));exact BK310.out):p:=h
theorem qz101 {p:Prop} (h:p:=by repeat (first|exact (Kd.C_below HR0.out HB.out)|(with_reducible refine Kd.C_alloc ?_ _)|(with_reducible refine Kd.C_drewN ?_ _)|(with_reducible refine Kd.C_drew ?_))):p:=h
theorem qz102 {p:Prop} (h:p:=by repeat (first|(with_reducible first|exact HB.out|apply below_alloc|apply pw_below_drewN|apply below_drew1|refine below_set ?_ GE338.out)|exact HB.out)):p:=h
theorem qz103 {p:Prop} (h:p:=by (with_reducible repeat (first|apply Kd.R_alloc|apply Kd.R_drewN|apply Kd.R_drew));exact (Kd.R_mono (Kd.R_far (p:=⟨gb257,2,none⟩) (Kd.R_types HO276.out BK257.out (by decide)) (fun _ hk=>hk.2) (.slice Ao41 t274.length co41)) (fun _ h_=>h_.1))):p:=h
theorem qz104 {p:Prop} (h:p:=by (with_reducible repeat (first|apply Kd.R_alloc|apply Kd.R_drewN|apply Kd.R_drew));exact (Kd.R_mono (Kd.R_far (p:=⟨gb257,2,none⟩) (Kd.R_types HO272.out BK257.out (by decide)) (fun _ hk=>hk.2) (.slice Ao41 t274.length co41)) (fun _ h_=>h_.1))):p:=h
theorem qz105 {p:Prop} (h:p:=by (with_reducible repeat (first|apply Kd.R_alloc|apply Kd.R_drewN|apply Kd.R_drew));exact (Kd.R_mono (Kd.R_far (p:=⟨gb257,1,none⟩) (Kd.R_types HO272.out BK257.out (by decide)) (fun _ hk=>hk.2) (.slice Ao36 t270.length co36)) (fun _ h_=>h_.1))):p:=h
theorem qz106 {p:Prop} (h:p:=by (with_reducible repeat (first|apply Kd.R_alloc|apply Kd.R_drewN|apply Kd.R_drew));exact (Kd.R_mono (Kd.R_far (p:=⟨gb257,1,none⟩) (Kd.R_types HO264.out BK257.out (by decide)) (fun _ hk=>hk.2) (.slice Ao24 t262.length co24)) (fun _ h_=>h_.1))):p:=h
theorem qz107 {p:Prop} (h:p:=by (with_reducible repeat (first|refine blk_drewN ?_ _|refine blk_drew ?_|refine blk_alloc ?_ _));refine blk_far ?_ NB370_374.out _;(with_reducible repeat (first|refine blk_drewN ?_ _|refine blk_drew ?_|refine blk_alloc ?_ _));exact BK370.out):p:=h
theorem qz108 {p:Prop} (h:p:=by (with_reducible repeat (first|refine blk_drewN ?_ _|refine blk_drew ?_|refine blk_alloc ?_ _));refine blk_far ?_ NB366_374.out _;(with_reducible repeat (first|refine blk_drewN ?_ _|refine blk_drew ?_|refine blk_alloc ?_ _));exact BK366.out):p:=h
theorem qz109 {p:Prop} (h:p:=by (with_reducible repeat (first|refine blk_drewN ?_ _|refine blk_drew ?_|refine blk_alloc ?_ _));exact BK374.out):p:=h
theorem qz110 {p:Prop} (h:p:=by (with_reducible repeat (first|refine blk_drewN ?_ _|refine blk_drew ?_|refine blk_alloc ?_ _));exact BK370.out):p:=h
theorem qz111 {p:Prop} (h:p:=by first|trivial|exact h_|exact h_.1):p:=h
theorem qz112 {p:Prop} (h:p:=by repeat (first|(with_reducible first|exact HB.out|apply below_alloc|apply pw_below_drewN|apply below_drew1|refine below_set ?_ (IsS104.ge HI0.out)|refine below_set ?_ GE254.out)|exact HB.out)):p:=h
theorem qz113 {p:Prop} (h:p:=by (with_reducible repeat (first|apply Kd.R_alloc|apply Kd.R_drewN|apply Kd.R_drew));exact HO377.out):p:=h
theorem qz114 {p:Prop} (h:p:=by (with_reducible repeat (first|apply Kd.R_alloc|apply Kd.R_drewN|apply Kd.R_drew));exact HO373.out):p:=h
theorem qz115 {p:Prop} (h:p:=by (with_reducible repeat (first|apply Kd.R_alloc|apply Kd.R_drewN|apply Kd.R_drew));exact HO213.out):p:=h
theorem qz116 {p:Prop} (h:p:=by (with_reducible repeat (first|apply Kd.R_alloc|apply Kd.R_drewN|apply Kd.R_drew));exact HO179.out):p:=h
theorem qz117 {p:Prop} (h:p:=by (with_reducible repeat (first|apply Kd.R_alloc|apply Kd.R_drewN|apply Kd.R_drew));exact HO173.out):p:=h
theorem qz118 {p:Prop} (h:p:=by repeat (first|exact (Kd.C_below HR117_0.out HB.out)|(with_reducible refine Kd.C_alloc ?_ _)|(with_reducible refine Kd.C_drewN ?_ _)|(with_reducible refine Kd.C_drew ?_))):p:=h
theorem qz119 {p:Prop} (h:p:=by repeat (first|exact (Kd.R_reads' HO373.out).2.2|(with_reducible refine Kd.C_alloc ?_ _)|(with_reducible refine Kd.C_drewN ?_ _)|(with_reducible refine Kd.C_drew ?_))):p:=h
theorem qz120 {p:Prop} (h:p:=by repeat (first|exact (Kd.R_reads' HO_5.out).2.2|(with_reducible refine Kd.C_alloc ?_ _)|(with_reducible refine Kd.C_drewN ?_ _)|(with_reducible refine Kd.C_drew ?_))):p:=h
theorem qz121 {p:Prop} (h:p:=by repeat (first|(with_reducible first|exact HB.out|apply below_alloc|apply pw_below_drewN|apply below_drew1|refine below_set ?_ GE332.out)|exact HB.out)):p:=h
theorem qz122 {p:Prop} (h:p:=by have:=HK1.out;first|omega|exact Nat.le_refl _):p:=h
theorem qz123 {p:Prop} (h:p:=by first|trivial|exact hk|exact hk.1|exact hk.2|grind):p:=h
theorem qz124 {p:Prop} (h:p:=by (with_reducible repeat (first|apply Kd.R_alloc|apply Kd.R_drewN|apply Kd.R_drew));exact (Q_HO183 h0_ h1_)):p:=h
theorem qz125 {p:Prop} (h:p:=by (with_reducible repeat (first|apply Kd.R_alloc|apply Kd.R_drewN|apply Kd.R_drew));exact (Q_HO179 h0_ h1_)):p:=h
theorem qz126 {p:Prop} (h:p:=by have:=HJ1.out;have:=HK2.out;omega):p:=h
end Go.Proofs.YtepkgjcobocbpaaDoor
