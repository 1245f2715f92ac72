/- Contracts of Go's library at this program: the kit's shelf, laid in plain words. Conditions: each theorem's own. -/
import Derived.Test.YtibencknfheplaaGreatDoorProg
import Derived.WalkKit
import Derived.Shelf.Strings.SlTrimAscii
namespace Go.Proofs
open Go.Shelf Go.RowKit
set_option linter.unusedVariables false
def Tryz.lays160_ren:Go.Shelf.Ren:=⟨fun|160=>56|232=>68|231=>57|227=>58|234=>69|233=>59|236=>70|235=>60|228=>71|271=>81|151=>73|197=>72|120=>91|152=>83|260=>82|137=>92|119=>93|224=>94|225=>95|217=>98|266=>99|n=>n,fun|9=>9|4=>4|3=>3|5=>5|117=>84|116=>83|0=>0|124=>87|21=>21|105=>98|46=>104|119=>124|139=>127|138=>126|n=>n,fun|3=>3|4=>4|n=>n⟩
theorem Tryz.lays160:Go.Proofs.Lays.n160 Tryz.prog Tryz.lays160_ren:={
  mixed:=by kernel_rfl
  f119:=Tryz.func93.trans (congrArg some (by kernel_rfl))
  f120:=Tryz.func91.trans (congrArg some (by kernel_rfl))
  f137:=Tryz.func92.trans (congrArg some (by kernel_rfl))
  f151:=Tryz.func73.trans (congrArg some (by kernel_rfl))
  f152:=Tryz.func83.trans (congrArg some (by kernel_rfl))
  f160:=Tryz.func56.trans (congrArg some (by kernel_rfl))
  f197:=Tryz.func72.trans (congrArg some (by kernel_rfl))
  f217:=Tryz.func98.trans (congrArg some (by kernel_rfl))
  f224:=Tryz.func94.trans (congrArg some (by kernel_rfl))
  f225:=Tryz.func95.trans (congrArg some (by kernel_rfl))
  f227:=Tryz.func58.trans (congrArg some (by kernel_rfl))
  f228:=Tryz.func71.trans (congrArg some (by kernel_rfl))
  f231:=Tryz.func57.trans (congrArg some (by kernel_rfl))
  f232:=Tryz.func68.trans (congrArg some (by kernel_rfl))
  f233:=Tryz.func59.trans (congrArg some (by kernel_rfl))
  f234:=Tryz.func69.trans (congrArg some (by kernel_rfl))
  f235:=Tryz.func60.trans (congrArg some (by kernel_rfl))
  f236:=Tryz.func70.trans (congrArg some (by kernel_rfl))
  f260:=Tryz.func82.trans (congrArg some (by kernel_rfl))
  f266:=Tryz.func99.trans (congrArg some (by kernel_rfl))
  f271:=Tryz.func81.trans (congrArg some (by kernel_rfl))
  t0:=Tryz.underlying0
  a0:=Tryz.isAgg0
  z0:=Tryz.sizeOf0
  v0:=Tryz.zeroValue0
  t3:=Tryz.underlying3
  a3:=Tryz.isAgg3
  z3:=Tryz.sizeOf3
  v3:=Tryz.zeroValue3
  t4:=Tryz.underlying4
  a4:=Tryz.isAgg4
  z4:=Tryz.sizeOf4
  v4:=Tryz.zeroValue4
  t5:=Tryz.underlying5
  a5:=Tryz.isAgg5
  z5:=Tryz.sizeOf5
  v5:=Tryz.zeroValue5
  t9:=Tryz.underlying9
  a9:=Tryz.isAgg9
  z9:=Tryz.sizeOf9
  v9:=Tryz.zeroValue9
  t21:=Tryz.underlying21
  a21:=Tryz.isAgg21
  z21:=Tryz.sizeOf21
  v21:=Tryz.zeroValue21
  t46:=Tryz.underlying104
  a46:=Tryz.isAgg104
  z46:=Tryz.sizeOf104
  v46:=Tryz.zeroValue104
  t105:=Tryz.underlying98
  a105:=Tryz.isAgg98
  z105:=Tryz.sizeOf98
  v105:=Tryz.zeroValue98
  t116:=Tryz.underlying83
  a116:=Tryz.isAgg83
  z116:=Tryz.sizeOf83
  t117:=Tryz.underlying84
  a117:=Tryz.isAgg84
  z117:=Tryz.sizeOf84
  v117:=Tryz.zeroValue84
  t119:=Tryz.underlying124
  a119:=Tryz.isAgg124
  z119:=Tryz.sizeOf124
  t124:=Tryz.underlying87
  a124:=Tryz.isAgg87
  z124:=Tryz.sizeOf87
  v124:=Tryz.zeroValue87
  t138:=Tryz.underlying126
  a138:=Tryz.isAgg126
  z138:=Tryz.sizeOf126
  v138:=Tryz.zeroValue126
  t139:=Tryz.underlying127
  a139:=Tryz.isAgg127
  z139:=Tryz.sizeOf127
  v139:=Tryz.zeroValue127
  g3:=by kernel_rfl
  g4:=by kernel_rfl }
theorem Tryz.trim_set (s cutset:ByteArray) (w:World) (hs:s.size≤9223372036854775807) (hcs:cutset.size<4294967281) (hascii:∀ (j:Nat) b,cutset.data.toList[j]?=some b→b.toNat<128) :
    Calls Tryz.prog 56 #[.string s,.string cutset] w fun e w'=>e = .returned (.string ⟨(Lib.trimS s.data.toList cutset.data.toList).toArray⟩)∧Below w.heap.size w w':=
  Any.strings_Trim_laid Tryz.lays160 (by kernel_rfl) s cutset w hs hcs hascii
end Go.Proofs
