/- Proofs that are found by a few steps, each told once. Conditions: none. -/
import Derived.ArgAppend
import Derived.Below
import Derived.BigQuiet
import Derived.ChangeArms
import Derived.ChangeOld
import Derived.ChangeSlices
import Derived.DataReads
import Derived.Deep.AppendLies
import Derived.Deep.CutBlock
import Derived.Deep.DeepCutAuto
import Derived.Deep.Draws
import Derived.Deep.LoopGhost
import Derived.Deep.OwnRows
import Derived.Deep.QuietTactic
import Derived.Deep.RegionHeld3
import Derived.Deep.Slices
import Derived.JoinedTies
import Derived.KernelRfl
import Derived.LaidByTextLater
import Derived.LaidMore
import Derived.LaidOnce
import Derived.LaidSub
import Derived.Laws.BitsLemmas
import Derived.Laws.BytesArg
import Derived.Laws.Externs
import Derived.Laws.IdiomCopy
import Derived.Laws.MakeOwn
import Derived.Laws.OwnMore
import Derived.Laws.Rows
import Derived.Laws.Slices
import Derived.Laws.StructEq
import Derived.Lay
import Derived.Lib.AppendIntMem
import Derived.Lib.AppendStr
import Derived.Lib.AtoiAllCases
import Derived.Lib.AtoiTie
import Derived.Lib.Builder
import Derived.Lib.ConvBytes
import Derived.Lib.FrozenHead
import Derived.Lib.ItoaLen
import Derived.Lib.ItoaMem
import Derived.Lib.SliceRun
import Derived.Lib.Strings
import Derived.Maps.AppendAt
import Derived.OpenShut
import Derived.OrdersHeld
import Derived.OwnWalk
import Derived.ProofKit
import Derived.RowKit
import Derived.RowKit3
import Derived.SevenTiedAt
import Derived.Shelf.Strconv.Itoa3
import Derived.Shelf.Strings.BuilderK
import Derived.Shelf.Strings.SlTrimAscii
import Derived.ShutString
import Derived.SizedLaws
import Derived.Stop.Joined
import Derived.Tactics
import Derived.WalkKit
import Derived.WalkSpells
import Derived.WideLaws
import GoSem.Claim
import GoSem.ClaimJoined
import GoSem.ClaimMapViews
import GoSem.ClaimSeven
import GoSem.PinnedTables
namespace Go.Proofs.YtlhniagacegbeaaDoor
set_option linter.unusedVariables false
theorem Qd {p:Prop} (h:p:=by (repeat (first|(with_reducible first|exact HB.1|apply below_alloc|apply pw_below_drewN|apply below_drew1)|exact HB.1)) <;> fail):p:=h
theorem Qh {p:Prop} (h:p:=by (repeat (first|(with_reducible first|exact HI0.1|apply IsS86.alloc|apply IsS86.drewN|apply IsS86.drew|apply IsS86.set_1)|exact HI0.1)) <;> fail):p:=h
theorem Qi {p:Prop} (h:p:=by (repeat (first|(with_reducible first|exact HK.1|apply KeepBut.set_|apply keep_drewN|apply keep_drew|apply keep_alloc)|exact HK.1)) <;> fail):p:=h
theorem Ql {p:Prop} (h:p:=by (repeat (first|(with_reducible first|exact HK.1|apply KeepBut.set_|apply keep_drewN|apply keep_drew|apply keep_alloc|refine keep_far ?_ bC.1 _|refine keep_far ?_ bG.1 _)|exact HK.1)) <;> fail):p:=h
theorem Qk {p:Prop} (h:p:=by (repeat (first|(with_reducible first|exact HB.1|apply below_alloc|apply pw_below_drewN|apply below_drew1|refine below_set ?_ (IsS86.ge HI0.1))|exact HB.1)) <;> fail):p:=h
theorem Qg {p:Prop} (h:p:=by first|rfl|(simp [errW_none,errW_some] <;> rfl)|(simp [*,errW_none,errW_some] <;> rfl)):p:=h
theorem Qc {p:Prop} (h:p:=by first|(with_reducible assumption)|assumption):p:=h
theorem Qm {p:Prop} (h:p:=by (repeat (first|(with_reducible first|exact HI0.1|apply IsS86.alloc|apply IsS86.drewN|apply IsS86.drew|apply IsS86.set_1|refine IsS86.far ?_ aJ.1 _|refine IsS86.far ?_ aH.1 _)|exact HI0.1)) <;> fail):p:=h
theorem Qn {p:Prop} (h:p:=by (repeat (first|(with_reducible first|exact HI0.1|apply IsS86.alloc|apply IsS86.drewN|apply IsS86.drew|apply IsS86.set_1|refine IsS86.far ?_ NB0_607.1 _|refine IsS86.far ?_ aM.1 _)|exact HI0.1)) <;> fail):p:=h
theorem Zh {p:Prop} (h:p:=by (first|(rw [add_block];exact (ai.1.1 _ rfl))|(show some (Addr.add _ _).block≠_;rw [add_block];exact (ai.1.1 _ rfl))|exact (ai.1.1 _ rfl)|(rw [add_block];exact (ai.1.1 _ rfl).2)|(show some (Addr.add _ _).block≠_;rw [add_block];exact (ai.1.1 _ rfl).2)|exact (ai.1.1 _ rfl).2|(rw [add_block];exact (ai.1.1 _ rfl).1)|(show some (Addr.add _ _).block≠_;rw [add_block];exact (ai.1.1 _ rfl).1)|exact (ai.1.1 _ rfl).1|(rw [add_block];exact (ai.1.1 _ rfl).1.2)|(show some (Addr.add _ _).block≠_;rw [add_block];exact (ai.1.1 _ rfl).1.2)|exact (ai.1.1 _ rfl).1.2|(rw [add_block];exact (ai.1.1 _ rfl).2.1)|(show some (Addr.add _ _).block≠_;rw [add_block];exact (ai.1.1 _ rfl).2.1)|exact (ai.1.1 _ rfl).2.1|(rw [add_block];exact (ai.1.1 _ rfl).2.2)|(show some (Addr.add _ _).block≠_;rw [add_block];exact (ai.1.1 _ rfl).2.2)|exact (ai.1.1 _ rfl).2.2|(rw [add_block];exact (ai.1.1 _ rfl).1.1)|(show some (Addr.add _ _).block≠_;rw [add_block];exact (ai.1.1 _ rfl).1.1)|exact (ai.1.1 _ rfl).1.1)):p:=h
theorem Qf {p:Prop} (h:p:=by first|rfl|(simp;done)|(simp [*];done)):p:=h
theorem Qs {p:Prop} (h:p:=by (repeat (first|(with_reducible first|exact HB.1|apply below_alloc|apply pw_below_drewN|apply below_drew1|refine below_set ?_ (IsS86.ge HI0.1)|refine below_set ?_ bj.1|refine below_set ?_ bp.1)|exact HB.1)) <;> fail):p:=h
theorem Qq {p:Prop} (h:p:=by (repeat (first|(with_reducible first|exact HK.1|apply KeepBut.set_|apply keep_drewN|apply keep_drew|apply keep_alloc|refine keep_far ?_ GW607.1 _|refine keep_far ?_ bI.1 _)|exact HK.1)) <;> fail):p:=h
theorem Qr {p:Prop} (h:p:=by (repeat (first|exact (C_below HR0_1.1 HB.1)|(with_reducible refine C_alloc ?_ _)|(with_reducible refine C_drewN ?_ _)|(with_reducible refine C_drew ?_))) <;> fail):p:=h
theorem Qw {p:Prop} (h:p:=by (repeat (first|(with_reducible first|exact HB.1|apply below_alloc|apply pw_below_drewN|apply below_drew1|refine below_set ?_ (IsS86.ge HI0.1)|refine below_set ?_ GE607.1|refine below_set ?_ bL.1)|exact HB.1)) <;> fail):p:=h
theorem Zc {p:Prop} (h:p:=by first|exact Kd.own_blk (by first|exact R_ne HO_4.1 BK166.1 (by decide)|exact fun a4=>(HO_4.1.1 _ a4.symm).2 rfl)|(rw [add_block];exact Kd.own_blk (by first|exact R_ne HO_4.1 BK166.1 (by decide)|exact fun a4=>(HO_4.1.1 _ a4.symm).2 rfl))|(show (Addr.add _ _).block≠_;rw [add_block];exact Kd.own_blk (by first|exact R_ne HO_4.1 BK166.1 (by decide)|exact fun a4=>(HO_4.1.1 _ a4.symm).2 rfl))|(dsimp only;exact Kd.own_blk (by first|exact R_ne HO_4.1 BK166.1 (by decide)|exact fun a4=>(HO_4.1.1 _ a4.symm).2 rfl))):p:=h
theorem QD {p:Prop} (h:p:=by (repeat (first|(with_reducible first|exact HB.1|apply below_alloc|apply pw_below_drewN|apply below_drew1|refine below_set ?_ bb.1|refine below_set ?_ bk.1|refine below_set ?_ br.1)|exact HB.1)) <;> fail):p:=h
theorem Qu {p:Prop} (h:p:=by (repeat (first|(with_reducible first|exact HB.1|apply below_alloc|apply pw_below_drewN|apply below_drew1|refine below_set ?_ bP.1)|exact HB.1)) <;> fail):p:=h
theorem Qv {p:Prop} (h:p:=by (repeat (first|(with_reducible first|exact HB.1|apply below_alloc|apply pw_below_drewN|apply below_drew1|refine below_set ?_ GE121.1)|exact HB.1)) <;> fail):p:=h
theorem Qo {p:Prop} (h:p:=by (try simp only [mA_,mC_,mN_]);first|done|rfl|(simp only [List.length_drop,List.length_take];rfl)):p:=h
theorem QB {p:Prop} (h:p:=by (repeat (first|(with_reducible first|exact HB.1|apply below_alloc|apply pw_below_drewN|apply below_drew1|refine below_set ?_ bc.1|refine below_set ?_ be.1)|exact HB.1)) <;> fail):p:=h
theorem Qy {p:Prop} (h:p:=by (repeat (first|(with_reducible first|exact HB.1|apply below_alloc|apply pw_below_drewN|apply below_drew1|refine below_set ?_ GE166.1)|exact HB.1)) <;> fail):p:=h
theorem Qz {p:Prop} (h:p:=by (repeat (first|exact (C_below HR0_0.1 HB.1)|(with_reducible refine C_alloc ?_ _)|(with_reducible refine C_drewN ?_ _)|(with_reducible refine C_drew ?_))) <;> fail):p:=h
theorem QN {p:Prop} (h:p:=by (repeat (first|(with_reducible first|exact HI0.1|apply IsS86.alloc|apply IsS86.drewN|apply IsS86.drew|apply IsS86.set_1|refine IsS86.far ?_ aV.1 _|refine IsS86.far ?_ aX.1 _)|exact HI0.1)) <;> fail):p:=h
theorem QC {p:Prop} (h:p:=by (repeat (first|(with_reducible first|exact HB.1|apply below_alloc|apply pw_below_drewN|apply below_drew1|refine below_set ?_ bf.1)|exact HB.1)) <;> fail):p:=h
theorem QI {p:Prop} (h:p:=by (repeat (first|(with_reducible first|exact HB.1|apply below_alloc|apply pw_below_drewN|apply below_drew1|refine below_set ?_ bW.1|refine below_set ?_ bX.1)|exact HB.1)) <;> fail):p:=h
theorem QG {p:Prop} (h:p:=by (repeat (first|(with_reducible first|exact HB.1|apply below_alloc|apply pw_below_drewN|apply below_drew1|refine below_set ?_ a8.1)|exact HB.1)) <;> fail):p:=h
theorem QF {p:Prop} (h:p:=by (repeat (first|(with_reducible first|exact HB.1|apply below_alloc|apply pw_below_drewN|apply below_drew1|refine below_set ?_ GE138.1)|exact HB.1)) <;> fail):p:=h
theorem QS {p:Prop} (h:p:=by (repeat (first|(with_reducible first|exact HK.1|apply KeepBut.set_|apply keep_drewN|apply keep_drew|apply keep_alloc|refine keep_far ?_ bo.1 _|refine keep_far ?_ bT.1 _)|exact HK.1)) <;> fail):p:=h
theorem QV {p:Prop} (h:p:=by (repeat (first|(with_reducible first|exact HB.1|apply below_alloc|apply pw_below_drewN|apply below_drew1|refine below_set ?_ (IsS86.ge aE.1)|refine below_set ?_ bg.1|refine below_set ?_ bE.1)|exact HB.1)) <;> fail):p:=h
theorem QH {p:Prop} (h:p:=by (repeat (first|(with_reducible first|exact HB.1|apply below_alloc|apply pw_below_drewN|apply below_drew1|refine below_set ?_ GE196.1)|exact HB.1)) <;> fail):p:=h
theorem Qx {p:Prop} (h:p:=by (with_reducible repeat (first|apply N_alloc|apply N_drewN|apply N_drew));exact ab.1):p:=h
theorem QO {p:Prop} (h:p:=by (repeat (first|exact (C_below HR0_2.1 HB.1)|(with_reducible refine C_alloc ?_ _)|(with_reducible refine C_drewN ?_ _)|(with_reducible refine C_drew ?_))) <;> fail):p:=h
theorem Qb {p:Prop} (h:p:=by kernel_rfl):p:=h
theorem QR {p:Prop} (h:p:=by (repeat (first|(with_reducible first|exact HK.1|apply KeepBut.set_|apply keep_drewN|apply keep_drew|apply keep_alloc|refine keep_far ?_ bH.1 _)|exact HK.1)) <;> fail):p:=h
theorem QT {p:Prop} (h:p:=by (repeat (first|(with_reducible first|exact HI0.1|apply IsS86.alloc|apply IsS86.drewN|apply IsS86.drew|apply IsS86.set_1|refine IsS86.far ?_ aW.1 _)|exact HI0.1)) <;> fail):p:=h
theorem QW {p:Prop} (h:p:=by (repeat (first|(with_reducible first|exact HB.1|apply below_alloc|apply pw_below_drewN|apply below_drew1|refine below_set ?_ bl.1|refine below_set ?_ bx.1)|exact HB.1)) <;> fail):p:=h
theorem QM {p:Prop} (h:p:=by first|exact R_nil _ _ _ _ _|exact N_nil _ _ _ _ _|exact V_nil _ _ _ _ _|exact Q_nil _ _ _ _ _|exact S_nil _ _ _ _ _):p:=h
theorem QQ {p:Prop} (h:p:=by (repeat (first|(with_reducible first|exact HB.1|apply below_alloc|apply pw_below_drewN|apply below_drew1|refine below_set ?_ bN.1)|exact HB.1)) <;> fail):p:=h
theorem Q3 {p:Prop} (h:p:=by (repeat (first|(with_reducible first|exact HB.1|apply below_alloc|apply pw_below_drewN|apply below_drew1|refine below_set ?_ (IsS86.ge HI0.1)|refine below_set ?_ bV.1)|exact HB.1)) <;> fail):p:=h
theorem QX {p:Prop} (h:p:=by (repeat (first|(with_reducible first|exact HI0.1|apply IsS86.alloc|apply IsS86.drewN|apply IsS86.drew|apply IsS86.set_1|refine IsS86.far ?_ a3.1 _)|exact HI0.1)) <;> fail):p:=h
theorem QY {p:Prop} (h:p:=by (repeat (first|(with_reducible first|exact HK.1|apply KeepBut.set_|apply keep_drewN|apply keep_drew|apply keep_alloc|refine keep_far ?_ bK.1 _)|exact HK.1)) <;> fail):p:=h
theorem QL {p:Prop} (h:p:=by first|(rw [add_block];exact aC)|(show (Addr.add _ _).block≠_;rw [add_block];exact aC)|exact aC):p:=h
theorem QK {p:Prop} (h:p:=by first|(rw [add_block];exact aG)|(show (Addr.add _ _).block≠_;rw [add_block];exact aG)|exact aG):p:=h
theorem QJ {p:Prop} (h:p:=by first|(rw [add_block];exact aD)|(show (Addr.add _ _).block≠_;rw [add_block];exact aD)|exact aD):p:=h
theorem Q9 {p:Prop} (h:p:=by (repeat (first|(with_reducible first|exact HB.1|apply below_alloc|apply pw_below_drewN|apply below_drew1|refine below_set ?_ (IsS86.ge HI0.1)|refine below_set ?_ bn.1|refine below_set ?_ bJ.1)|exact HB.1)) <;> fail):p:=h
theorem Qp {p:Prop} (h:p:=by (repeat (first|exact Drawn0.refl _|apply Drawn0.step)) <;> fail):p:=h
theorem Q6 {p:Prop} (h:p:=by (repeat (first|(with_reducible first|exact HB.1|apply below_alloc|apply pw_below_drewN|apply below_drew1|refine below_set ?_ (IsS86.ge HI0.1)|refine below_set ?_ bS.1)|exact HB.1)) <;> fail):p:=h
theorem Qa {p:Prop} (h:p:=by decide):p:=h
theorem Q7 {p:Prop} (h:p:=by (repeat (first|(with_reducible first|exact HI0.1|apply IsS86.alloc|apply IsS86.drewN|apply IsS86.drew|apply IsS86.set_1|refine IsS86.far ?_ aV.1 _)|exact HI0.1)) <;> fail):p:=h
theorem Za {p:Prop} (h:p:=by (repeat (first|(with_reducible first|exact aE.1|apply IsS86.alloc|apply IsS86.drewN|apply IsS86.drew|apply IsS86.set_1|refine IsS86.far ?_ aY.1 _|refine IsS86.far ?_ aZ.1 _)|exact aE.1)) <;> fail):p:=h
theorem Q0 {p:Prop} (h:p:=by (repeat (first|(with_reducible first|exact HB.1|apply below_alloc|apply pw_below_drewN|apply below_drew1|refine below_set ?_ ba.1)|exact HB.1)) <;> fail):p:=h
theorem QZ {p:Prop} (h:p:=by (repeat (first|(with_reducible first|exact HB.1|apply below_alloc|apply pw_below_drewN|apply below_drew1|refine below_set ?_ GE129.1)|exact HB.1)) <;> fail):p:=h
theorem Q5 {p:Prop} (h:p:=by (repeat (first|(with_reducible first|exact HB.1|apply below_alloc|apply pw_below_drewN|apply below_drew1|refine below_set ?_ bO.1)|exact HB.1)) <;> fail):p:=h
theorem Q8 {p:Prop} (h:p:=by (repeat (first|(with_reducible first|exact HB.1|apply below_alloc|apply pw_below_drewN|apply below_drew1|refine below_set ?_ bc.1)|exact HB.1)) <;> fail):p:=h
theorem QP {p:Prop} (h:p:=by (with_reducible repeat (first|apply N_alloc|apply N_drewN|apply N_drew));exact au.1):p:=h
theorem Zg {p:Prop} (h:p:=by (repeat (first|(with_reducible first|exact HK.1|apply KeepBut.set_|apply keep_drewN|apply keep_drew|apply keep_alloc|refine keep_far ?_ bo.1 _)|exact HK.1)) <;> fail):p:=h
theorem Zb {p:Prop} (h:p:=by (repeat (first|(with_reducible first|exact HB.1|apply below_alloc|apply pw_below_drewN|apply below_drew1|refine below_set ?_ GE156.1)|exact HB.1)) <;> fail):p:=h
theorem Zj {p:Prop} (h:p:=by (repeat (first|(with_reducible first|exact HK.1|apply KeepBut.set_|apply keep_drewN|apply keep_drew|apply keep_alloc|refine keep_far ?_ bC.1 _)|exact HK.1)) <;> fail):p:=h
theorem Zl {p:Prop} (h:p:=by (repeat (first|(with_reducible first|exact HK.1|apply KeepBut.set_|apply keep_drewN|apply keep_drew|apply keep_alloc|refine keep_far ?_ bz.1 _)|exact HK.1)) <;> fail):p:=h
theorem Zq {p:Prop} (h:p:=by (repeat (first|(with_reducible first|exact HB.1|apply below_alloc|apply pw_below_drewN|apply below_drew1|refine below_set ?_ (IsS86.ge aE.1)|refine below_set ?_ bg.1)|exact HB.1)) <;> fail):p:=h
theorem ZC {p:Prop} (h:p:=by first|(rw [add_block];exact Kd.own_blk (IsS86.own_ne HI0.1 ag.1 Qa))|(show (Addr.add _ _).block≠_;rw [add_block];exact Kd.own_blk (IsS86.own_ne HI0.1 ag.1 Qa))|exact Kd.own_blk (IsS86.own_ne HI0.1 ag.1 Qa)):p:=h
theorem Qt {p:Prop} (h:p:=by first|omega|exact Nat.le_refl _):p:=h
theorem Zk {p:Prop} (h:p:=by (repeat (first|(with_reducible first|exact HB.1|apply below_alloc|apply pw_below_drewN|apply below_drew1|refine below_set ?_ bM.1)|exact HB.1)) <;> fail):p:=h
theorem Q4 {p:Prop} (h:p:=by (with_reducible repeat (first|apply N_alloc|apply N_drewN|apply N_drew));exact ah.1):p:=h
theorem Zo {p:Prop} (h:p:=by (repeat (first|exact (C_below HR0_3.1 HB.1)|(with_reducible refine C_alloc ?_ _)|(with_reducible refine C_drewN ?_ _)|(with_reducible refine C_drew ?_))) <;> fail):p:=h
theorem Zy {p:Prop} (h:p:=by (repeat (first|(with_reducible first|exact HI0.1|apply IsS86.alloc|apply IsS86.drewN|apply IsS86.drew|apply IsS86.set_1|apply IsS86.farA aJ.1|apply IsS86.farA aH.1)|exact HI0.1)) <;> fail):p:=h
theorem ZN {p:Prop} (h:p:=by (repeat (first|(with_reducible first|exact HB.1|apply below_alloc|apply pw_below_drewN|apply below_drew1|refine below_set ?_ bb.1|refine below_set ?_ bk.1|refine below_set ?_ br.1|refine below_set ?_ bA.1)|exact HB.1)) <;> fail):p:=h
theorem ZB {p:Prop} (h:p:=by (repeat (first|(with_reducible first|exact HB.1|apply below_alloc|apply pw_below_drewN|apply below_drew1|refine below_set ?_ (IsS86.ge HI0.1)|refine below_set ?_ bn.1)|exact HB.1)) <;> fail):p:=h
theorem Zf {p:Prop} (h:p:=by first|(rw [add_block];exact aU)|(show (Addr.add _ _).block≠_;rw [add_block];exact aU)|exact aU):p:=h
theorem Ze {p:Prop} (h:p:=by first|(rw [add_block];exact aQ)|(show (Addr.add _ _).block≠_;rw [add_block];exact aQ)|exact aQ):p:=h
theorem Zd {p:Prop} (h:p:=by first|(rw [add_block];exact aT)|(show (Addr.add _ _).block≠_;rw [add_block];exact aT)|exact aT):p:=h
theorem Zx {p:Prop} (h:p:=by (repeat (first|(with_reducible first|exact HB.1|apply below_alloc|apply pw_below_drewN|apply below_drew1|refine below_set ?_ bB.1)|exact HB.1)) <;> fail):p:=h
theorem Zw {p:Prop} (h:p:=by (repeat (first|(with_reducible first|exact HB.1|apply below_alloc|apply pw_below_drewN|apply below_drew1|refine below_set ?_ bl.1)|exact HB.1)) <;> fail):p:=h
theorem Zv {p:Prop} (h:p:=by (repeat (first|(with_reducible first|exact HB.1|apply below_alloc|apply pw_below_drewN|apply below_drew1|refine below_set ?_ bF.1)|exact HB.1)) <;> fail):p:=h
theorem Zu {p:Prop} (h:p:=by (repeat (first|(with_reducible first|exact HB.1|apply below_alloc|apply pw_below_drewN|apply below_drew1|refine below_set ?_ GE174.1)|exact HB.1)) <;> fail):p:=h
theorem Zn {p:Prop} (h:p:=by (repeat (first|(with_reducible first|exact HB.1|apply below_alloc|apply pw_below_drewN|apply below_drew1|refine below_set ?_ GE108.1)|exact HB.1)) <;> fail):p:=h
theorem QE {p:Prop} (h:p:=by have:=HK1.1;first|omega|exact Nat.le_refl _):p:=h
theorem Zr {p:Prop} (h:p:=by (repeat (first|exact HR0.1|(with_reducible refine C_alloc ?_ _)|(with_reducible refine C_drewN ?_ _)|(with_reducible refine C_drew ?_))) <;> fail):p:=h
theorem ZL {p:Prop} (h:p:=by (repeat (first|(with_reducible first|exact HB.1|apply below_alloc|apply pw_below_drewN|apply below_drew1|refine below_set ?_ bc.1|refine below_set ?_ be.1|refine below_set ?_ bv.1)|exact HB.1)) <;> fail):p:=h
theorem ZA {p:Prop} (h:p:=by (repeat (first|exact (C_below HR1.1 HB.1)|(with_reducible refine C_alloc ?_ _)|(with_reducible refine C_drewN ?_ _)|(with_reducible refine C_drew ?_))) <;> fail):p:=h
theorem ZM {p:Prop} (h:p:=by (repeat (first|(with_reducible first|exact HB.1|apply below_alloc|apply pw_below_drewN|apply below_drew1|refine below_set ?_ bb.1|refine below_set ?_ bk.1)|exact HB.1)) <;> fail):p:=h
theorem ZH {p:Prop} (h:p:=by (repeat (first|(with_reducible first|exact aE.1|apply IsS86.alloc|apply IsS86.drewN|apply IsS86.drew|apply IsS86.set_1|refine IsS86.far ?_ aY.1 _)|exact aE.1)) <;> fail):p:=h
theorem ZE {p:Prop} (h:p:=by (repeat (first|(with_reducible first|exact HI0.1|apply IsS86.alloc|apply IsS86.drewN|apply IsS86.drew|apply IsS86.set_1|refine IsS86.far ?_ aJ.1 _)|exact HI0.1)) <;> fail):p:=h
theorem ZU {p:Prop} (h:p:=by (repeat (first|(with_reducible first|exact HI0.1|apply IsS86.alloc|apply IsS86.drewN|apply IsS86.drew|apply IsS86.set_1|refine IsS86.far ?_ a6.1 _)|exact HI0.1)) <;> fail):p:=h
theorem ZO {p:Prop} (h:p:=by (repeat (first|(with_reducible first|exact HB.1|apply below_alloc|apply pw_below_drewN|apply below_drew1|refine below_set ?_ bd.1)|exact HB.1)) <;> fail):p:=h
theorem ZJ {p:Prop} (h:p:=by (repeat (first|(with_reducible first|exact HB.1|apply below_alloc|apply pw_below_drewN|apply below_drew1|refine below_set ?_ bW.1)|exact HB.1)) <;> fail):p:=h
theorem Zt {p:Prop} (h:p:=by (with_reducible repeat (first|apply N_alloc|apply N_drewN|apply N_drew));exact az.1):p:=h
theorem ZY {p:Prop} (h:p:=by (repeat (first|(with_reducible first|exact HB.1|apply below_alloc|apply pw_below_drewN|apply below_drew1|refine below_set ?_ bj.1|refine below_set ?_ bp.1)|exact HB.1)) <;> fail):p:=h
theorem ZK {p:Prop} (h:p:=by first|exact S_nil _ _ _ _ _|exact N_nil _ _ _ _ _|exact V_nil _ _ _ _ _|exact Q_nil _ _ _ _ _|exact R_nil _ _ _ _ _):p:=h
theorem ZW {p:Prop} (h:p:=by (repeat (first|(with_reducible first|exact HI0.1|apply IsS86.alloc|apply IsS86.drewN|apply IsS86.drew|apply IsS86.set_1|refine IsS86.far ?_ NB0_607.1 _)|exact HI0.1)) <;> fail):p:=h
theorem Qe {p:Prop} (h:p:=by omega):p:=h
theorem ZX {p:Prop} (h:p:=by (repeat (first|(with_reducible first|exact HK.1|apply KeepBut.set_|apply keep_drewN|apply keep_drew|apply keep_alloc|refine keep_far ?_ GW607.1 _)|exact HK.1)) <;> fail):p:=h
theorem Z0 {p:Prop} (h:p:=by (repeat (first|exact (R_reads' ap.1).2.2|(with_reducible refine C_alloc ?_ _)|(with_reducible refine C_drewN ?_ _)|(with_reducible refine C_drew ?_))) <;> fail):p:=h
theorem ZZ {p:Prop} (h:p:=by (repeat (first|exact (N_reads' az.1).2.2|(with_reducible refine C_alloc ?_ _)|(with_reducible refine C_drewN ?_ _)|(with_reducible refine C_drew ?_))) <;> fail):p:=h
theorem QU {p:Prop} (h:p:=by first|trivial|exact h_|exact h_.1):p:=h
theorem Yq {p:Prop} (h:p:=by (repeat (first|(with_reducible first|exact HB.1|apply below_alloc|apply pw_below_drewN|apply below_drew1|refine below_set ?_ bl.1|refine below_set ?_ bx.1|refine below_set ?_ bw.1)|exact HB.1)) <;> fail):p:=h
theorem ZT {p:Prop} (h:p:=by (with_reducible repeat (first|apply V_alloc|apply V_drewN|apply V_drew));exact aA.1):p:=h
theorem ZR {p:Prop} (h:p:=by (with_reducible repeat (first|apply V_alloc|apply V_drewN|apply V_drew));exact aw.1):p:=h
theorem ZQ {p:Prop} (h:p:=by (with_reducible repeat (first|apply V_alloc|apply V_drewN|apply V_drew));exact ay.1):p:=h
theorem Yu {p:Prop} (h:p:=by (repeat (first|(with_reducible first|exact HI0.1|apply IsS86.alloc|apply IsS86.drewN|apply IsS86.drew|apply IsS86.set_1|apply IsS86.farA aV.1|apply IsS86.farA aX.1)|exact HI0.1)) <;> fail):p:=h
theorem ZI {p:Prop} (h:p:=by (with_reducible repeat (first|apply N_alloc|apply N_drewN|apply N_drew));exact aK.1):p:=h
theorem ZP {p:Prop} (h:p:=by (with_reducible repeat (first|apply N_alloc|apply N_drewN|apply N_drew));exact ai.1):p:=h
theorem Yv {p:Prop} (h:p:=by (repeat (first|(with_reducible first|exact HB.1|apply below_alloc|apply pw_below_drewN|apply below_drew1|refine below_set ?_ (IsS86.ge HI0.1)|refine below_set ?_ bq.1)|exact HB.1)) <;> fail):p:=h
theorem Z5 {p:Prop} (h:p:=by (repeat (first|(with_reducible first|exact HBW.1|apply below_alloc|apply pw_below_drewN|apply below_drew1)|exact HBW.1)) <;> fail):p:=h
theorem YF {p:Prop} (h:p:=by (with_reducible repeat (first|apply N_alloc|apply N_drewN|apply N_drew));exact (N_mono (N_far (p:=⟨ar,1,none⟩) (N_far (p:=⟨ar,0,none⟩) (N_mono az.1 (fun k_ hk=>(⟨hk,hk.2⟩:_∧k_≠ar))) (fun _ hk=>hk.2) (.slice an av.length am)) (fun _ hk=>hk.2) (.slice Ao11 aj.length co11)) (fun _ h_=>h_.1))):p:=h
theorem Yr {p:Prop} (h:p:=by (repeat (first|(with_reducible first|exact HB.1|apply below_alloc|apply pw_below_drewN|apply below_drew1|refine below_set ?_ a8.1|refine below_set ?_ a5.1)|exact HB.1)) <;> fail):p:=h
theorem Yg {p:Prop} (h:p:=by (repeat (first|(with_reducible first|exact HB.1|apply below_alloc|apply pw_below_drewN|apply below_drew1|refine below_set ?_ GE156.1|refine below_set ?_ GE166.1)|exact HB.1)) <;> fail):p:=h
theorem QA {p:Prop} (h:p:=by have:=HK1.1;omega):p:=h
theorem Ye {p:Prop} (h:p:=by (repeat (first|exact (C_below HR139_1.1 HB.1)|(with_reducible refine C_alloc ?_ _)|(with_reducible refine C_drewN ?_ _)|(with_reducible refine C_drew ?_))) <;> fail):p:=h
theorem Yd {p:Prop} (h:p:=by (repeat (first|exact (C_below HR139_0.1 HB.1)|(with_reducible refine C_alloc ?_ _)|(with_reducible refine C_drewN ?_ _)|(with_reducible refine C_drew ?_))) <;> fail):p:=h
theorem Yb {p:Prop} (h:p:=by (repeat (first|exact (R_reads' ao.1).2.2|(with_reducible refine C_alloc ?_ _)|(with_reducible refine C_drewN ?_ _)|(with_reducible refine C_drew ?_))) <;> fail):p:=h
theorem Yn {p:Prop} (h:p:=by (repeat (first|exact (R_reads' HO_5.1).2.2|(with_reducible refine C_alloc ?_ _)|(with_reducible refine C_drewN ?_ _)|(with_reducible refine C_drew ?_))) <;> fail):p:=h
theorem Yk {p:Prop} (h:p:=by (repeat (first|exact (R_reads' HO_4.1).2.2|(with_reducible refine C_alloc ?_ _)|(with_reducible refine C_drewN ?_ _)|(with_reducible refine C_drew ?_))) <;> fail):p:=h
theorem Z8 {p:Prop} (h:p:=by (repeat (first|exact (C_below HR0.1 HB.1)|(with_reducible refine C_alloc ?_ _)|(with_reducible refine C_drewN ?_ _)|(with_reducible refine C_drew ?_))) <;> fail):p:=h
theorem Yc {p:Prop} (h:p:=by (with_reducible repeat (first|apply N_alloc|apply N_drewN|apply N_drew));exact N_mono az.1 (fun _ hk=>⟨hk.1.2,⟨hk.1.1,hk.2⟩⟩)):p:=h
theorem Yp {p:Prop} (h:p:=by (repeat (first|(with_reducible first|exact HB.1|apply below_alloc|apply pw_below_drewN|apply below_drew1|refine below_set ?_ bu.1)|exact HB.1)) <;> fail):p:=h
theorem Z9 {p:Prop} (h:p:=by (repeat (first|(with_reducible first|exact HB.1|apply below_alloc|apply pw_below_drewN|apply below_drew1|refine below_set ?_ GE134.1)|exact HB.1)) <;> fail):p:=h
theorem Z6 {p:Prop} (h:p:=by (with_reducible repeat (first|apply V_alloc|apply V_drewN|apply V_drew));exact ax.1):p:=h
theorem Ya {p:Prop} (h:p:=by (with_reducible repeat (first|apply N_alloc|apply N_drewN|apply N_drew));exact N_mono ab.1 (fun _ hk=>by first|exact hk|grind)):p:=h
theorem Z4 {p:Prop} (h:p:=by have:=HK1.1;have:=HJ5.1;have:=HJ16.1;have:=HJ33.1;have:=HK5.1;have:=bh.1;omega):p:=h
theorem YB {p:Prop} (h:p:=by first|exact (IsS86.below (by repeat (first|(with_reducible first|exact (aq h0_ h1_)|apply IsS86.alloc|apply IsS86.drewN|apply IsS86.drew|apply IsS86.set_1|refine IsS86.far ?_ aJ.1 _|refine IsS86.far ?_ aH.1 _)|exact (aq h0_ h1_))) hb)):p:=h
theorem YC {p:Prop} (h:p:=by first|exact (IsS86.below (by repeat (first|(with_reducible first|exact (ak h0_)|apply IsS86.alloc|apply IsS86.drewN|apply IsS86.drew|apply IsS86.set_1|refine IsS86.far ?_ aJ.1 _|refine IsS86.far ?_ aH.1 _)|exact (ak h0_))) hb)):p:=h
theorem YA {p:Prop} (h:p:=by first|exact (IsS86.below (by repeat (first|(with_reducible first|exact (Q_HI0 h0_)|apply IsS86.alloc|apply IsS86.drewN|apply IsS86.drew|apply IsS86.set_1|refine IsS86.far ?_ aJ.1 _|refine IsS86.far ?_ aH.1 _)|exact (Q_HI0 h0_))) hb)):p:=h
theorem YD {p:Prop} (h:p:=by (with_reducible repeat (first|apply N_alloc|apply N_drewN|apply N_drew));exact N_mono aN.1 (fun _ hk=>⟨hk.1,⟨hk.2.1,⟨hk.2.2.1,⟨hk.2.2.2.1,⟨hk.2.2.2.2.2.2,⟨hk.2.2.2.2.1,hk.2.2.2.2.2.1⟩⟩⟩⟩⟩⟩)):p:=h
theorem Yj {p:Prop} (h:p:=by have:=HK1.1;have:=HJ5.1;have:=HJ16.1;have:=HJ33.1;have:=HK5.1;first|omega|exact Nat.le_refl _):p:=h
theorem Yz {p:Prop} (h:p:=by (with_reducible repeat (first|apply N_alloc|apply N_drewN|apply N_drew));exact N_mono ab.1 (fun _ hk=>⟨hk.1.1.1,⟨hk.1.1.2.1,⟨hk.1.1.2.2.1,⟨hk.1.2,hk.1.1.2.2.2⟩⟩⟩⟩)):p:=h
theorem Yw {p:Prop} (h:p:=by (with_reducible repeat (first|apply R_alloc|apply R_drewN|apply R_drew));exact ag.1):p:=h
theorem Yo {p:Prop} (h:p:=by (with_reducible repeat (first|apply R_alloc|apply R_drewN|apply R_drew));exact HO_5.1):p:=h
theorem Yy {p:Prop} (h:p:=by (repeat (first|(with_reducible first|exact HB.1|apply below_alloc|apply pw_below_drewN|apply below_drew1|refine below_set ?_ (IsS86.ge HI0.1)|refine below_set ?_ bj.1)|exact HB.1)) <;> fail):p:=h
theorem Yx {p:Prop} (h:p:=by (repeat (first|(with_reducible first|exact HB.1|apply below_alloc|apply pw_below_drewN|apply below_drew1|refine below_set ?_ (IsS86.ge HI0.1)|refine below_set ?_ GE607.1)|exact HB.1)) <;> fail):p:=h
theorem Z7 {p:Prop} (h:p:=by have:=HK1.1;have:=a7.1;have:=HK3.1;have:=bi.1;omega):p:=h
theorem Zm {p:Prop} (h:p:=by have:=HJ1.1;have:=HK2.1;omega):p:=h
theorem YH {p:Prop} (h:p:=by (repeat (first|exact (S_reads' ae.1).2.2|(with_reducible refine C_alloc ?_ _)|(with_reducible refine C_drewN ?_ _)|(with_reducible refine C_drew ?_))) <;> fail):p:=h
theorem YK {p:Prop} (h:p:=by (repeat (first|exact (R_reads' ac.1).2.2|(with_reducible refine C_alloc ?_ _)|(with_reducible refine C_drewN ?_ _)|(with_reducible refine C_drew ?_))) <;> fail):p:=h
theorem YJ {p:Prop} (h:p:=by (repeat (first|exact (R_reads' aa.1).2.2|(with_reducible refine C_alloc ?_ _)|(with_reducible refine C_drewN ?_ _)|(with_reducible refine C_drew ?_))) <;> fail):p:=h
theorem YG {p:Prop} (h:p:=by (repeat (first|exact (R_reads' af.1).2.2|(with_reducible refine C_alloc ?_ _)|(with_reducible refine C_drewN ?_ _)|(with_reducible refine C_drew ?_))) <;> fail):p:=h
theorem YQ {p:Prop} (h:p:=by (repeat (first|(with_reducible first|exact HI0.1|apply IsS86.alloc|apply IsS86.drewN|apply IsS86.drew|apply IsS86.set_1|apply IsS86.farA aW.1)|exact HI0.1)) <;> fail):p:=h
theorem YP {p:Prop} (h:p:=by (repeat (first|exact (C_below bm.1 HB.1)|(with_reducible refine C_alloc ?_ _)|(with_reducible refine C_drewN ?_ _)|(with_reducible refine C_drew ?_))) <;> fail):p:=h
theorem YL {p:Prop} (h:p:=by (repeat (first|exact (C_below a9.1 HB.1)|(with_reducible refine C_alloc ?_ _)|(with_reducible refine C_drewN ?_ _)|(with_reducible refine C_drew ?_))) <;> fail):p:=h
theorem ZG {p:Prop} (h:p:=by simp only [putAll,Act.put,sA_,sZ_,sS_]):p:=h
theorem Yi {p:Prop} (h:p:=by have:=HK1.1;have:=HJ5.1;have:=HJ16.1;first|omega|exact Nat.le_refl _):p:=h
theorem Zz {p:Prop} (h:p:=by rw [← hq_];exact (blkp BK196.1)):p:=h
theorem YO {p:Prop} (h:p:=by (repeat (first|(with_reducible first|exact HB.1|apply below_alloc|apply pw_below_drewN|apply below_drew1|refine below_set ?_ bQ.1)|exact HB.1)) <;> fail):p:=h
theorem YN {p:Prop} (h:p:=by (repeat (first|(with_reducible first|exact HB.1|apply below_alloc|apply pw_below_drewN|apply below_drew1|refine below_set ?_ bR.1)|exact HB.1)) <;> fail):p:=h
theorem YM {p:Prop} (h:p:=by (repeat (first|(with_reducible first|exact HB.1|apply below_alloc|apply pw_below_drewN|apply below_drew1|refine below_set ?_ bU.1)|exact HB.1)) <;> fail):p:=h
theorem YI {p:Prop} (h:p:=by (repeat (first|(with_reducible first|exact HB.1|apply below_alloc|apply pw_below_drewN|apply below_drew1|refine below_set ?_ bb.1)|exact HB.1)) <;> fail):p:=h
theorem ZF {p:Prop} (h:p:=by rw [ha];exact (putSel_off rfl).trans rfl):p:=h
theorem YE {p:Prop} (h:p:=by (with_reducible repeat (first|apply R_alloc|apply R_drewN|apply R_drew));exact R_mono (R_put2 aI.1 al.1) (fun _ hk=>hk.1.1)):p:=h
theorem YR {p:Prop} (h:p:=by (with_reducible repeat (first|apply N_alloc|apply N_drewN|apply N_drew));exact N_mono au.1 (fun _ hk=>⟨hk.2,hk.1⟩)):p:=h
theorem Qj {p:Prop} (h:p:=by simp):p:=h
theorem ZV {p:Prop} (h:p:=by rw [← add_field _ _ 1 Qe];exact hc 1 _ rfl):p:=h
theorem Ym {p:Prop} (h:p:=by rw [hs2];exact (R_cell (d:=ByteArray.empty) HO.1 2 Qe Qe).1):p:=h
theorem Yl {p:Prop} (h:p:=by rw [hs0];exact (R_cell (d:=ByteArray.empty) HO.1 0 Qe Qe).1):p:=h
theorem Zi {p:Prop} (h:p:=by simp [Value.ownBlock]):p:=h
theorem Yh {p:Prop} (h:p:=by have:=bD.1;have:=HK2.1;first|omega|exact Nat.le_refl _):p:=h
theorem Zp {p:Prop} (h:p:=by first|exact hk|grind):p:=h
theorem Yf {p:Prop} (h:p:=by have:=HJ1.1;have:=HK2.1;have:=HK3.1;have:=HK4.1;omega):p:=h
theorem Yt {p:Prop} (h:p:=by first|trivial|exact hk|exact hk.1|exact hk.2|grind):p:=h
end Go.Proofs.YtlhniagacegbeaaDoor
