/- Contracts of functions of the program: each as a Lean function, and that its call does what that says; printed by cprint.py (this session) over print.py of the kit. Conditions: the hypotheses of each theorem. -/
import Derived.Test.YtlhniagacegbeaaDoorVZ
import Derived.Test.YtlhniagacegbeaaDoorV0
import Derived.Test.YtlhniagacegbeaaDoorProg
import Derived.Test.YtlhniagacegbeaaDoorMTerm
import Derived.Test.YtlhniagacegbeaaDoorMOk
import Derived.Test.YtlhniagacegbeaaDoorMCan
import Derived.Below
import Derived.Deep.Draws
import Derived.Deep.AppendLies
import Derived.Maps.AppendAt
import Derived.OwnWalk
import Derived.Laws.BytesArg
import Derived.Laws.MakeOwn
import Derived.Laws.OwnMore
import Derived.Deep.OwnRows
import Derived.Tactics
import Derived.Lib.ConvBytes
import Derived.Laws.Slices
import Derived.WalkKit
import Derived.KernelRfl
import Derived.RowKit3
import Derived.Deep.LoopGhost
import Derived.Deep.QuietTactic
import Derived.BigQuiet
import Derived.WideLaws
import Derived.Deep.DeepCutAuto
import Derived.Deep.CutBlock
import Derived.Deep.RegionHeld3
import Derived.Laws.Rows
import Derived.Lib.AppendStr
import Derived.ArgAppend
import Derived.Laws.IdiomCopy
import Derived.OrdersHeld
import Derived.Laws.BitsLemmas
import Derived.RowKit
import Derived.Lib.SliceRun
import Derived.Lib.Strings
import Derived.Deep.CutBlock
import Derived.Test.YtlhniagacegbeaaDoorMSh
import Derived.Test.YtlhniagacegbeaaDoorMEv
import Derived.Test.YtlhniagacegbeaaDoorMText
import Derived.Test.YtlhniagacegbeaaDoorMShT
import Derived.Test.YtlhniagacegbeaaDoorMSRows
import Derived.Test.YtlhniagacegbeaaDoorMPart
import Derived.Test.YtlhniagacegbeaaDoorMStep
namespace Go.Proofs.YtlhniagacegbeaaDoor.P
open Go.RowKit Go.Proofs.YtlhniagacegbeaaDoorW.PrintWords Go.Proofs.YtlhniagacegbeaaDoorW.PrintWords.Kd Go.Proofs.YtlhniagacegbeaaDoorW.PrintLast Go.Proofs.YtlhniagacegbeaaDoorW.PrintMore Go.Proofs.YtlhniagacegbeaaDoorW.PrintMore.Kd
attribute [local go_sem] max2_int min2_int max_two min_two max_three min_three max_four min_four   -- for this text's walks alone
set_option linter.unusedVariables false
set_option linter.unusedSimpArgs false
def errW:Option Int→Value
 | none=>.nilIface
 | some c=>.iface 0 (.int .i64 c)
theorem errW_none:errW none = .nilIface:=rfl
theorem errW_some (c:Int):errW (some c) = .iface 0 (.int .i64 c):=rfl
theorem info3:(Tryd.prog.info? 3).map (fun i=>(i.zero,i.size,i.bytes))=some (some (.int .i64 0),1,8):=Qb
theorem info5:(Tryd.prog.info? 5).map (fun i=>(i.zero,i.size,i.bytes))=some (some (.int .u8 0),1,1):=Qb
theorem info9:(Tryd.prog.info? 9).map (fun i=>(i.zero,i.size,i.bytes))=some (some (.string ⟨#[]⟩),1,16):=Qb
theorem info27:(Tryd.prog.info? 27).map (fun i=>(i.zero,i.size,i.bytes))=some (some (.slice none 0 0),1,24):=Qb
theorem info29:(Tryd.prog.info? 29).map (fun i=>(i.zero,i.size,i.bytes))=some (some (.agg #[(.int .i64 0),(.slice none 0 0),(.slice none 0 0),(.slice none 0 0)]),4,80):=Qb
theorem info44:(Tryd.prog.info? 44).map (fun i=>(i.zero,i.size,i.bytes))=some (some (.agg #[(.int .i64 0),(.int .i64 0),(.string ⟨#[]⟩)]),3,32):=Qb
theorem info47:(Tryd.prog.info? 47).map (fun i=>(i.zero,i.size,i.bytes))=some (some (.agg #[(.string ⟨#[]⟩),(.int .i64 0),(.int .i64 0)]),3,32):=Qb
theorem info69:(Tryd.prog.info? 69).map (fun i=>(i.zero,i.size,i.bytes))=some (some (.agg #[(.slice none 0 0),(.slice none 0 0)]),2,48):=Qb
abbrev S44:=Go.Proofs.YtlhniagacegbeaaDoor.Cat.Cell
def z44:S44:=⟨(0:Int),(0:Int),(⟨#[]⟩:BA)⟩
def k44:Kd S44:=Kd.iso (Kd.pair (Kd.int .i64) (Kd.pair (Kd.int .i64) Kd.string)) (fun x:S44=>(x.f0,x.f1,x.f2))
theorem k44_open {w:World} {x:S44} {cs:List Value} (h:k44.K w x cs):cs=[.int .i64 x.f0,.int .i64 x.f1,.string x.f2]:=by
 obtain ⟨_,_,rfl,rfl,⟨_,_,rfl,rfl,rfl⟩⟩:=h;exact rfl
theorem k44_openM {w:World} {base:Nat} {ok:Nat→Prop} {x:S44} {cs:List Value} (h:k44.M w base ok x cs):cs=[.int .i64 x.f0,.int .i64 x.f1,.string x.f2]:=by
 obtain ⟨_,_,rfl,rfl,⟨_,_,rfl,rfl,rfl⟩⟩:=h;exact rfl
theorem k44_mkM (w:World) (base:Nat) (ok:Nat→Prop) (x:S44) :k44.M w base ok x [.int .i64 x.f0,.int .i64 x.f1,.string x.f2]:=⟨[.int .i64 x.f0],[.int .i64 x.f1,.string x.f2],rfl,rfl,⟨[.int .i64 x.f1],[.string x.f2],rfl,rfl,rfl⟩⟩
def rd_T44 (xs:List S44) (i:Int):S44:=xs.getD i.toNat z44
theorem at_T44 {w:World} {A:Option Addr} {n:Nat} {xs:List S44} (h:Kd.C k44 w A n xs) (i:Int) (h0:0≤i) (h1:i<n):∃ ad ,A=some ad∧w.cell? (ad.add (i.toNat * 3))=some (.int .i64 (rd_T44 xs i).f0)∧w.cell? ⟨(ad.add (i.toNat * 3)).block,(ad.add (i.toNat * 3)).off+1,none⟩=some (.int .i64 (rd_T44 xs i).f1)∧w.cell? ⟨(ad.add (i.toNat * 3)).block,(ad.add (i.toNat * 3)).off+2,none⟩=some (.string (rd_T44 xs i).f2):=by
 obtain ⟨ad,c,e,_,hK,hc0⟩:=C_get h z44 i h0 h1;have hc:∀ j u,c[j]?=some u→w.cell? (ad.add (i.toNat * 3+j))=some u:=hc0;obtain rfl:=k44_open hK;exact ⟨ad,e,hc 0 _ rfl,ZV,by rw [← add_field _ _ 2 Qe];exact hc 2 _ rfl⟩
def rd_L4 (xs:List (List S44)) (i:Int):(List S44):=xs.getD i.toNat ([]:List S44)
theorem at_L4 {w:World} {A:Option Addr} {n:Nat} {xs:List (List S44)} (h:Kd.C (Kd.slice 44 k44) w A n xs) (i:Int) (h0:0≤i) (h1:i<n):∃ ad A0 c0,A=some ad∧w.cell? (ad.add i.toNat)=some (.slice A0 (rd_L4 xs i).length c0)∧(rd_L4 xs i).length≤c0∧k44.C w A0 (rd_L4 xs i).length (rd_L4 xs i):=by
 obtain ⟨ad,c,e,_,hK,hc0⟩:=C_get h ([]:List S44) i h0 h1;have hc:∀ j u,c[j]?=some u→w.cell? (ad.add (i.toNat * 1+j))=some u:=hc0;obtain ⟨A0,c0,rfl,l0,g0⟩:=hK;exact ⟨ad,A0,c0,e,by have hq:=hc 0 _ rfl;rwa [Nat.mul_one,Nat.add_zero] at hq,l0,g0⟩
abbrev S29:=Go.Proofs.YtlhniagacegbeaaDoor.Cat.Goal
def z29:S29:=⟨(0:Int),([]:List S44),([]:List S44),([]:List S44)⟩
def k29:Kd S29:=Kd.iso (Kd.pair (Kd.int .i64) (Kd.pair (Kd.slice 44 k44) (Kd.pair (Kd.slice 44 k44) (Kd.slice 44 k44)))) (fun x:S29=>(x.f0,x.f1,x.f2,x.f3))
theorem k29_open {w:World} {x:S29} {cs:List Value} (h:k29.K w x cs):∃ A1 c1 A2 c2 A3 c3,cs=[.int .i64 x.f0,.slice A1 x.f1.length c1,.slice A2 x.f2.length c2,.slice A3 x.f3.length c3]∧x.f1.length≤c1∧k44.C w A1 x.f1.length x.f1∧x.f2.length≤c2∧k44.C w A2 x.f2.length x.f2∧x.f3.length≤c3∧k44.C w A3 x.f3.length x.f3:=by
 obtain ⟨_,_,rfl,rfl,⟨_,_,rfl,⟨A1,c1,rfl,l1,g1⟩,⟨_,_,rfl,⟨A2,c2,rfl,l2,g2⟩,⟨A3,c3,rfl,l3,g3⟩⟩⟩⟩:=h;exact ⟨A1,c1,A2,c2,A3,c3,rfl,l1,g1,l2,g2,l3,g3⟩
theorem k29_mk (w:World) (x:S29) {A1:Option Addr} {c1:Nat} (l1:x.f1.length≤c1) (g1:k44.C w A1 x.f1.length x.f1) {A2:Option Addr} {c2:Nat} (l2:x.f2.length≤c2) (g2:k44.C w A2 x.f2.length x.f2) {A3:Option Addr} {c3:Nat} (l3:x.f3.length≤c3) (g3:k44.C w A3 x.f3.length x.f3):k29.K w x [.int .i64 x.f0,.slice A1 x.f1.length c1,.slice A2 x.f2.length c2,.slice A3 x.f3.length c3]:=⟨[.int .i64 x.f0],[.slice A1 x.f1.length c1,.slice A2 x.f2.length c2,.slice A3 x.f3.length c3],rfl,rfl,⟨[.slice A1 x.f1.length c1],[.slice A2 x.f2.length c2,.slice A3 x.f3.length c3],rfl,⟨A1,c1,rfl,l1,g1⟩,⟨[.slice A2 x.f2.length c2],[.slice A3 x.f3.length c3],rfl,⟨A2,c2,rfl,l2,g2⟩,⟨A3,c3,rfl,l3,g3⟩⟩⟩⟩
theorem k29_mkM (w:World) (base:Nat) (ok:Nat→Prop) (x:S29) {v1:Value} (g1:k44.R 44 w base ok v1 x.f1) {v2:Value} (g2:k44.R 44 w base ok v2 x.f2) {v3:Value} (g3:k44.R 44 w base ok v3 x.f3):k29.M w base ok x [.int .i64 x.f0,v1,v2,v3]:=⟨[.int .i64 x.f0],[v1,v2,v3],rfl,rfl,⟨[v1],[v2,v3],rfl,⟨v1,rfl,g1⟩,⟨[v2],[v3],rfl,⟨v2,rfl,g2⟩,⟨v3,rfl,g3⟩⟩⟩⟩
theorem k29_mkF (W:World) (ok:Nat→Prop) (x:S29) {A1:Option Addr} {c1:Nat} (l1:x.f1.length≤c1) (g1:Kd.F k44 W ok A1 x.f1.length x.f1) {A2:Option Addr} {c2:Nat} (l2:x.f2.length≤c2) (g2:Kd.F k44 W ok A2 x.f2.length x.f2) {A3:Option Addr} {c3:Nat} (l3:x.f3.length≤c3) (g3:Kd.F k44 W ok A3 x.f3.length x.f3):Kd.FK k29 W ok x [.int .i64 x.f0,.slice A1 x.f1.length c1,.slice A2 x.f2.length c2,.slice A3 x.f3.length c3]:=fun W2 hW=>k29_mk W2 x l1 (g1 W2 hW) l2 (g2 W2 hW) l3 (g3 W2 hW)
def rd_T29 (xs:List S29) (i:Int):S29:=xs.getD i.toNat z29
theorem at_T29 {w:World} {A:Option Addr} {n:Nat} {xs:List S29} (h:Kd.C k29 w A n xs) (i:Int) (h0:0≤i) (h1:i<n):∃ ad A1 c1 A2 c2 A3 c3,A=some ad∧w.cell? (ad.add (i.toNat * 4))=some (.int .i64 (rd_T29 xs i).f0)∧w.cell? ⟨(ad.add (i.toNat * 4)).block,(ad.add (i.toNat * 4)).off+1,none⟩=some (.slice A1 (rd_T29 xs i).f1.length c1)∧w.cell? ⟨(ad.add (i.toNat * 4)).block,(ad.add (i.toNat * 4)).off+2,none⟩=some (.slice A2 (rd_T29 xs i).f2.length c2)∧w.cell? ⟨(ad.add (i.toNat * 4)).block,(ad.add (i.toNat * 4)).off+3,none⟩=some (.slice A3 (rd_T29 xs i).f3.length c3)∧(rd_T29 xs i).f1.length≤c1∧k44.C w A1 (rd_T29 xs i).f1.length (rd_T29 xs i).f1∧(rd_T29 xs i).f2.length≤c2∧k44.C w A2 (rd_T29 xs i).f2.length (rd_T29 xs i).f2∧(rd_T29 xs i).f3.length≤c3∧k44.C w A3 (rd_T29 xs i).f3.length (rd_T29 xs i).f3:=by
 obtain ⟨ad,c,e,_,hK,hc0⟩:=C_get h z29 i h0 h1;have hc:∀ j u,c[j]?=some u→w.cell? (ad.add (i.toNat * 4+j))=some u:=hc0;obtain ⟨A1,c1,A2,c2,A3,c3,rfl,l1,g1,l2,g2,l3,g3⟩:=k29_open hK;exact ⟨ad,A1,c1,A2,c2,A3,c3,e,hc 0 _ rfl,ZV,by rw [← add_field _ _ 2 Qe];exact hc 2 _ rfl,by rw [← add_field _ _ 3 Qe];exact hc 3 _ rfl,l1,g1,l2,g2,l3,g3⟩
abbrev S69:=Go.Proofs.YtlhniagacegbeaaDoor.Cat.Clause
def z69:S69:=⟨([]:List S44),([]:List S29)⟩
def k69:Kd S69:=Kd.iso (Kd.pair (Kd.slice 44 k44) (Kd.slice 29 k29)) (fun x:S69=>(x.f0,x.f1))
theorem k69_open {w:World} {x:S69} {cs:List Value} (h:k69.K w x cs):∃ A0 c0 A1 c1,cs=[.slice A0 x.f0.length c0,.slice A1 x.f1.length c1]∧x.f0.length≤c0∧k44.C w A0 x.f0.length x.f0∧x.f1.length≤c1∧k29.C w A1 x.f1.length x.f1:=by
 obtain ⟨_,_,rfl,⟨A0,c0,rfl,l0,g0⟩,⟨A1,c1,rfl,l1,g1⟩⟩:=h;exact ⟨A0,c0,A1,c1,rfl,l0,g0,l1,g1⟩
theorem k69_mk (w:World) (x:S69) {A0:Option Addr} {c0:Nat} (l0:x.f0.length≤c0) (g0:k44.C w A0 x.f0.length x.f0) {A1:Option Addr} {c1:Nat} (l1:x.f1.length≤c1) (g1:k29.C w A1 x.f1.length x.f1):k69.K w x [.slice A0 x.f0.length c0,.slice A1 x.f1.length c1]:=⟨[.slice A0 x.f0.length c0],[.slice A1 x.f1.length c1],rfl,⟨A0,c0,rfl,l0,g0⟩,⟨A1,c1,rfl,l1,g1⟩⟩
theorem k69_mkM (w:World) (base:Nat) (ok:Nat→Prop) (x:S69) {v0:Value} (g0:k44.R 44 w base ok v0 x.f0) {v1:Value} (g1:k29.R 29 w base ok v1 x.f1):k69.M w base ok x [v0,v1]:=⟨[v0],[v1],rfl,⟨v0,rfl,g0⟩,⟨v1,rfl,g1⟩⟩
theorem k69_mkF (W:World) (ok:Nat→Prop) (x:S69) {A0:Option Addr} {c0:Nat} (l0:x.f0.length≤c0) (g0:Kd.F k44 W ok A0 x.f0.length x.f0) {A1:Option Addr} {c1:Nat} (l1:x.f1.length≤c1) (g1:Kd.F k29 W ok A1 x.f1.length x.f1):Kd.FK k69 W ok x [.slice A0 x.f0.length c0,.slice A1 x.f1.length c1]:=fun W2 hW=>k69_mk W2 x l0 (g0 W2 hW) l1 (g1 W2 hW)
def rd_T69 (xs:List S69) (i:Int):S69:=xs.getD i.toNat z69
theorem at_T69 {w:World} {A:Option Addr} {n:Nat} {xs:List S69} (h:Kd.C k69 w A n xs) (i:Int) (h0:0≤i) (h1:i<n):∃ ad A0 c0 A1 c1,A=some ad∧w.cell? (ad.add (i.toNat * 2))=some (.slice A0 (rd_T69 xs i).f0.length c0)∧w.cell? ⟨(ad.add (i.toNat * 2)).block,(ad.add (i.toNat * 2)).off+1,none⟩=some (.slice A1 (rd_T69 xs i).f1.length c1)∧(rd_T69 xs i).f0.length≤c0∧k44.C w A0 (rd_T69 xs i).f0.length (rd_T69 xs i).f0∧(rd_T69 xs i).f1.length≤c1∧k29.C w A1 (rd_T69 xs i).f1.length (rd_T69 xs i).f1:=by
 obtain ⟨ad,c,e,_,hK,hc0⟩:=C_get h z69 i h0 h1;have hc:∀ j u,c[j]?=some u→w.cell? (ad.add (i.toNat * 2+j))=some u:=hc0;obtain ⟨A0,c0,A1,c1,rfl,l0,g0,l1,g1⟩:=k69_open hK;exact ⟨ad,A0,c0,A1,c1,e,hc 0 _ rfl,ZV,l0,g0,l1,g1⟩
abbrev S47:=Go.Proofs.YtlhniagacegbeaaDoor.Cat.Place
def z47:S47:=⟨(⟨#[]⟩:BA),(0:Int),(0:Int)⟩
def k47:Kd S47:=Kd.iso (Kd.pair Kd.string (Kd.pair (Kd.int .i64) (Kd.int .i64))) (fun x:S47=>(x.f0,x.f1,x.f2))
theorem k47_open {w:World} {x:S47} {cs:List Value} (h:k47.K w x cs):cs=[.string x.f0,.int .i64 x.f1,.int .i64 x.f2]:=by
 obtain ⟨_,_,rfl,rfl,⟨_,_,rfl,rfl,rfl⟩⟩:=h;exact rfl
theorem k47_mkM (w:World) (base:Nat) (ok:Nat→Prop) (x:S47) :k47.M w base ok x [.string x.f0,.int .i64 x.f1,.int .i64 x.f2]:=⟨[.string x.f0],[.int .i64 x.f1,.int .i64 x.f2],rfl,rfl,⟨[.int .i64 x.f1],[.int .i64 x.f2],rfl,rfl,rfl⟩⟩
def rd_T47 (xs:List S47) (i:Int):S47:=xs.getD i.toNat z47
theorem at_T47 {w:World} {A:Option Addr} {n:Nat} {xs:List S47} (h:Kd.C k47 w A n xs) (i:Int) (h0:0≤i) (h1:i<n):∃ ad ,A=some ad∧w.cell? (ad.add (i.toNat * 3))=some (.string (rd_T47 xs i).f0)∧w.cell? ⟨(ad.add (i.toNat * 3)).block,(ad.add (i.toNat * 3)).off+1,none⟩=some (.int .i64 (rd_T47 xs i).f1)∧w.cell? ⟨(ad.add (i.toNat * 3)).block,(ad.add (i.toNat * 3)).off+2,none⟩=some (.int .i64 (rd_T47 xs i).f2):=by
 obtain ⟨ad,c,e,_,hK,hc0⟩:=C_get h z47 i h0 h1;have hc:∀ j u,c[j]?=some u→w.cell? (ad.add (i.toNat * 3+j))=some u:=hc0;obtain rfl:=k47_open hK;exact ⟨ad,e,hc 0 _ rfl,ZV,by rw [← add_field _ _ 2 Qe];exact hc 2 _ rfl⟩
def rd_L10 (xs:List (List ByteArray)) (i:Int):(List ByteArray):=xs.getD i.toNat ([]:List ByteArray)
theorem at_L10 {w:World} {A:Option Addr} {n:Nat} {xs:List (List ByteArray)} (h:Kd.C (Kd.slice 9 Kd.string) w A n xs) (i:Int) (h0:0≤i) (h1:i<n):∃ ad A0 c0,A=some ad∧w.cell? (ad.add i.toNat)=some (.slice A0 (rd_L10 xs i).length c0)∧(rd_L10 xs i).length≤c0∧Kd.string.C w A0 (rd_L10 xs i).length (rd_L10 xs i):=by
 obtain ⟨ad,c,e,_,hK,hc0⟩:=C_get h ([]:List ByteArray) i h0 h1;have hc:∀ j u,c[j]?=some u→w.cell? (ad.add (i.toNat * 1+j))=some u:=hc0;obtain ⟨A0,c0,rfl,l0,g0⟩:=hK;exact ⟨ad,A0,c0,e,by have hq:=hc 0 _ rfl;rwa [Nat.mul_one,Nat.add_zero] at hq,l0,g0⟩
end Go.Proofs.YtlhniagacegbeaaDoor.P
