/- Contracts of Go's library at this program: the kit's shelf, laid in plain words. Conditions: each theorem's own. -/
import Derived.Test.YtlhniagacegbeaaGreatDoorProg
import Derived.WalkKit
import Derived.Shelf.Strings.SplitShaped
import Derived.Shelf.Strings.Cut
namespace Go.Proofs
open Go.Shelf Go.RowKit
set_option linter.unusedVariables false
def Tryz.lays145_ren:Go.Shelf.Ren:=⟨fun|145=>46|220=>72|219=>97|217=>112|225=>113|224=>114|267=>115|266=>131|314=>132|n=>n,fun|9=>9|4=>4|59=>64|3=>3|5=>5|46=>119|146=>137|51=>136|n=>n,fun|1=>0|n=>n⟩
theorem Tryz.lays145:Go.Proofs.Lays.n145 Tryz.prog Tryz.lays145_ren:={
 mixed:=by kernel_rfl
 f145:=Tryz.func46.trans (congrArg some (by kernel_rfl))
 f217:=Tryz.func112.trans (congrArg some (by kernel_rfl))
 f219:=Tryz.func97.trans (congrArg some (by kernel_rfl))
 f220:=Tryz.func72.trans (congrArg some (by kernel_rfl))
 f224:=Tryz.func114.trans (congrArg some (by kernel_rfl))
 f225:=Tryz.func113.trans (congrArg some (by kernel_rfl))
 f266:=Tryz.func131.trans (congrArg some (by kernel_rfl))
 f267:=Tryz.func115.trans (congrArg some (by kernel_rfl))
 f314:=Tryz.func132.trans (congrArg some (by kernel_rfl))
 t3:=Tryz.underlying3
 a3:=Tryz.isAgg3
 z3:=Tryz.sizeOf3
 v3:=Tryz.zeroValue3
 t4:=Tryz.underlying4
 a4:=Tryz.isAgg4
 z4:=Tryz.sizeOf4
 v4:=Tryz.zeroValue4
 t5:=Tryz.underlying5
 a5:=Tryz.isAgg5
 z5:=Tryz.sizeOf5
 v5:=Tryz.zeroValue5
 t9:=Tryz.underlying9
 a9:=Tryz.isAgg9
 z9:=Tryz.sizeOf9
 v9:=Tryz.zeroValue9
 t46:=Tryz.underlying119
 a46:=Tryz.isAgg119
 z46:=Tryz.sizeOf119
 v46:=Tryz.zeroValue119
 t51:=Tryz.underlying136
 a51:=Tryz.isAgg136
 z51:=Tryz.sizeOf136
 v51:=Tryz.zeroValue136
 t59:=Tryz.underlying64
 a59:=Tryz.isAgg64
 z59:=Tryz.sizeOf64
 v59:=Tryz.zeroValue64
 t146:=Tryz.underlying137
 a146:=Tryz.isAgg137
 z146:=Tryz.sizeOf137
 v146:=Tryz.zeroValue137
 g1:=by kernel_rfl }
def Tryz.laysM146_ren:Go.Shelf.Ren:=⟨fun|146=>26|221=>52|268=>75|138=>76|143=>77|195=>99|197=>100|218=>101|219=>97|260=>116|217=>112|225=>113|224=>114|267=>115|266=>131|314=>132|n=>n,fun|9=>9|31=>44|3=>3|4=>4|0=>0|105=>115|21=>21|5=>5|46=>119|119=>139|139=>142|138=>141|146=>137|51=>136|n=>n,fun|1=>0|3=>1|4=>2|n=>n⟩
theorem Tryz.laysM146:Go.Proofs.LaysM.n146 Tryz.prog Tryz.laysM146_ren:={
 mixed:=by kernel_rfl
 f138:=Tryz.func76.trans (congrArg some (by kernel_rfl))
 f143:=Tryz.func77.trans (congrArg some (by kernel_rfl))
 f146:=Tryz.func26.trans (congrArg some (by kernel_rfl))
 f195:=Tryz.func99.trans (congrArg some (by kernel_rfl))
 f197:=Tryz.func100.trans (congrArg some (by kernel_rfl))
 f217:=Tryz.func112.trans (congrArg some (by kernel_rfl))
 f218:=Tryz.func101.trans (congrArg some (by kernel_rfl))
 f219:=Tryz.func97.trans (congrArg some (by kernel_rfl))
 f221:=Tryz.func52.trans (congrArg some (by kernel_rfl))
 f224:=Tryz.func114.trans (congrArg some (by kernel_rfl))
 f225:=Tryz.func113.trans (congrArg some (by kernel_rfl))
 f260:=Tryz.func116.trans (congrArg some (by kernel_rfl))
 f266:=Tryz.func131.trans (congrArg some (by kernel_rfl))
 f267:=Tryz.func115.trans (congrArg some (by kernel_rfl))
 f268:=Tryz.func75.trans (congrArg some (by kernel_rfl))
 f314:=Tryz.func132.trans (congrArg some (by kernel_rfl))
 t0:=Tryz.underlying0
 a0:=Tryz.isAgg0
 z0:=Tryz.sizeOf0
 v0:=Tryz.zeroValue0
 t3:=Tryz.underlying3
 a3:=Tryz.isAgg3
 z3:=Tryz.sizeOf3
 v3:=Tryz.zeroValue3
 t4:=Tryz.underlying4
 a4:=Tryz.isAgg4
 z4:=Tryz.sizeOf4
 v4:=Tryz.zeroValue4
 t5:=Tryz.underlying5
 a5:=Tryz.isAgg5
 z5:=Tryz.sizeOf5
 v5:=Tryz.zeroValue5
 t9:=Tryz.underlying9
 a9:=Tryz.isAgg9
 z9:=Tryz.sizeOf9
 v9:=Tryz.zeroValue9
 t21:=Tryz.underlying21
 a21:=Tryz.isAgg21
 z21:=Tryz.sizeOf21
 v21:=Tryz.zeroValue21
 t31:=Tryz.underlying44
 a31:=Tryz.isAgg44
 z31:=Tryz.sizeOf44
 v31:=Tryz.zeroValue44
 t46:=Tryz.underlying119
 a46:=Tryz.isAgg119
 z46:=Tryz.sizeOf119
 v46:=Tryz.zeroValue119
 t51:=Tryz.underlying136
 a51:=Tryz.isAgg136
 z51:=Tryz.sizeOf136
 v51:=Tryz.zeroValue136
 t105:=Tryz.underlying115
 a105:=Tryz.isAgg115
 z105:=Tryz.sizeOf115
 v105:=Tryz.zeroValue115
 t119:=Tryz.underlying139
 a119:=Tryz.isAgg139
 z119:=Tryz.sizeOf139
 t138:=Tryz.underlying141
 a138:=Tryz.isAgg141
 z138:=Tryz.sizeOf141
 v138:=Tryz.zeroValue141
 t139:=Tryz.underlying142
 a139:=Tryz.isAgg142
 z139:=Tryz.sizeOf142
 v139:=Tryz.zeroValue142
 t146:=Tryz.underlying137
 a146:=Tryz.isAgg137
 z146:=Tryz.sizeOf137
 v146:=Tryz.zeroValue137
 g1:=by kernel_rfl
 g3:=by kernel_rfl
 g4:=by kernel_rfl
 i0:=by kernel_rfl
 i3:=by kernel_rfl
 i4:=by kernel_rfl
 i5:=by kernel_rfl
 i9:=by kernel_rfl
 i21:=by kernel_rfl
 i31:=by kernel_rfl
 i46:=by kernel_rfl
 i51:=by kernel_rfl
 i105:=by kernel_rfl
 i138:=by kernel_rfl
 i139:=by kernel_rfl
 i146:=by kernel_rfl
 m1:=by kernel_rfl
 s1_3:=fun w h=>Go.Proofs.cell_of_shapedOpen_int (zero:=#[.int .i64 0]) (t:=3) h (of_decide_eq_true (by kernel_rfl)) (by kernel_rfl) rfl (by kernel_rfl) (by kernel_rfl) Tryz.underlying3
 m3:=by kernel_rfl
 m4:=by kernel_rfl }
def MaxT (W:World):Prop:=∃ m,W.cell? ⟨0,0,none⟩=some (.int .i64 m)
theorem MaxT.below {W W':World} (h:MaxT W) (hb:Below W.heap.size W W'):MaxT W':=by
 obtain ⟨m,hm⟩:=h
 exact ⟨m,(hb.cell (p:=⟨0,0,none⟩) (World.block_lt_of_cell? W _ hm)).trans hm⟩
theorem Tryz.split_all (s sep:ByteArray) (m:Int) (w:World) (hs:s.size<4294967281) (hm:w.cell? ⟨0,0,none⟩=some (.int .i64 m)) (h1:1≤sep.size) :
  Calls Tryz.prog 26 #[.string s,.string sep] w fun e w'=>e = .returned (.slice (some ⟨w.heap.size,0,none⟩) (Lib.countB s sep+1) (Lib.countB s sep+1))∧w'=w.alloc (.cells ((Lib.splitB sep 0 (Lib.countB s sep) s).map Value.string).toArray 9):=
 Any.strings_Split { Tryz.laysM146 with } Tryz.laysM146.i9 s sep m w hs hm h1
theorem Tryz.maxT_of (W:World) (h:W.ShapedOpen Tryz.prog):MaxT W:=Tryz.laysM146.s1_3 W h
theorem Tryz.cut_all (s sep:ByteArray) (m:Int) (w:World) (hs:s.size<4294967281) (hm:w.cell? ⟨0,0,none⟩=some (.int .i64 m)) :
  Calls Tryz.prog 46 #[.string s,.string sep] w fun e w'=>e = .returned (.tuple #[.string ⟨(Lib.cut s.data.toList sep.data.toList).1.toArray⟩,.string ⟨(Lib.cut s.data.toList sep.data.toList).2.1.toArray⟩,.bool (Lib.cut s.data.toList sep.data.toList).2.2])∧∃ n,w'=w.drewN n:=
 Any.strings_Cut Tryz.lays145 s sep m w hs hm
end Go.Proofs
