/- Contracts of Go's library at this program: the kit's shelf, laid in plain words. Conditions: each theorem's own. -/
import Derived.Test.YtlhniagacegbeaaGreatDoorProg
import Derived.WalkKit
import Derived.Shelf.Strings.SlTrimAscii
namespace Go.Proofs
open Go.Shelf Go.RowKit
set_option linter.unusedVariables false
def Tryz.lays160_ren:Go.Shelf.Ren:=⟨fun|160=>111|232=>128|231=>117|227=>118|234=>129|233=>119|236=>130|235=>120|228=>133|271=>142|151=>134|197=>100|120=>151|152=>143|260=>116|137=>152|119=>153|224=>114|225=>113|217=>112|266=>131|n=>n,fun|9=>9|4=>4|3=>3|5=>5|117=>123|116=>122|0=>0|124=>126|21=>21|105=>115|46=>119|119=>139|139=>142|138=>141|n=>n,fun|3=>1|4=>2|n=>n⟩
theorem Tryz.lays160:Go.Proofs.Lays.n160 Tryz.prog Tryz.lays160_ren:={
  mixed:=by kernel_rfl
  f119:=Tryz.func153.trans (congrArg some (by kernel_rfl))
  f120:=Tryz.func151.trans (congrArg some (by kernel_rfl))
  f137:=Tryz.func152.trans (congrArg some (by kernel_rfl))
  f151:=Tryz.func134.trans (congrArg some (by kernel_rfl))
  f152:=Tryz.func143.trans (congrArg some (by kernel_rfl))
  f160:=Tryz.func111.trans (congrArg some (by kernel_rfl))
  f197:=Tryz.func100.trans (congrArg some (by kernel_rfl))
  f217:=Tryz.func112.trans (congrArg some (by kernel_rfl))
  f224:=Tryz.func114.trans (congrArg some (by kernel_rfl))
  f225:=Tryz.func113.trans (congrArg some (by kernel_rfl))
  f227:=Tryz.func118.trans (congrArg some (by kernel_rfl))
  f228:=Tryz.func133.trans (congrArg some (by kernel_rfl))
  f231:=Tryz.func117.trans (congrArg some (by kernel_rfl))
  f232:=Tryz.func128.trans (congrArg some (by kernel_rfl))
  f233:=Tryz.func119.trans (congrArg some (by kernel_rfl))
  f234:=Tryz.func129.trans (congrArg some (by kernel_rfl))
  f235:=Tryz.func120.trans (congrArg some (by kernel_rfl))
  f236:=Tryz.func130.trans (congrArg some (by kernel_rfl))
  f260:=Tryz.func116.trans (congrArg some (by kernel_rfl))
  f266:=Tryz.func131.trans (congrArg some (by kernel_rfl))
  f271:=Tryz.func142.trans (congrArg some (by kernel_rfl))
  t0:=Tryz.underlying0
  a0:=Tryz.isAgg0
  z0:=Tryz.sizeOf0
  v0:=Tryz.zeroValue0
  t3:=Tryz.underlying3
  a3:=Tryz.isAgg3
  z3:=Tryz.sizeOf3
  v3:=Tryz.zeroValue3
  t4:=Tryz.underlying4
  a4:=Tryz.isAgg4
  z4:=Tryz.sizeOf4
  v4:=Tryz.zeroValue4
  t5:=Tryz.underlying5
  a5:=Tryz.isAgg5
  z5:=Tryz.sizeOf5
  v5:=Tryz.zeroValue5
  t9:=Tryz.underlying9
  a9:=Tryz.isAgg9
  z9:=Tryz.sizeOf9
  v9:=Tryz.zeroValue9
  t21:=Tryz.underlying21
  a21:=Tryz.isAgg21
  z21:=Tryz.sizeOf21
  v21:=Tryz.zeroValue21
  t46:=Tryz.underlying119
  a46:=Tryz.isAgg119
  z46:=Tryz.sizeOf119
  v46:=Tryz.zeroValue119
  t105:=Tryz.underlying115
  a105:=Tryz.isAgg115
  z105:=Tryz.sizeOf115
  v105:=Tryz.zeroValue115
  t116:=Tryz.underlying122
  a116:=Tryz.isAgg122
  z116:=Tryz.sizeOf122
  t117:=Tryz.underlying123
  a117:=Tryz.isAgg123
  z117:=Tryz.sizeOf123
  v117:=Tryz.zeroValue123
  t119:=Tryz.underlying139
  a119:=Tryz.isAgg139
  z119:=Tryz.sizeOf139
  t124:=Tryz.underlying126
  a124:=Tryz.isAgg126
  z124:=Tryz.sizeOf126
  v124:=Tryz.zeroValue126
  t138:=Tryz.underlying141
  a138:=Tryz.isAgg141
  z138:=Tryz.sizeOf141
  v138:=Tryz.zeroValue141
  t139:=Tryz.underlying142
  a139:=Tryz.isAgg142
  z139:=Tryz.sizeOf142
  v139:=Tryz.zeroValue142
  g3:=by kernel_rfl
  g4:=by kernel_rfl }
theorem Tryz.trim_set (s cutset:ByteArray) (w:World) (hs:s.size≤9223372036854775807) (hcs:cutset.size<4294967281) (hascii:∀ (j:Nat) b,cutset.data.toList[j]?=some b→b.toNat<128) :
    Calls Tryz.prog 111 #[.string s,.string cutset] w fun e w'=>e = .returned (.string ⟨(Lib.trimS s.data.toList cutset.data.toList).toArray⟩)∧Below w.heap.size w w':=
  Any.strings_Trim_laid Tryz.lays160 (by kernel_rfl) s cutset w hs hcs hascii
end Go.Proofs
