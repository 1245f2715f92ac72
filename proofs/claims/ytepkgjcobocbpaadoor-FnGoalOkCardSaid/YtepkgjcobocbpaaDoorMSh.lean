/- Contracts of Go's library at this program: the kit's shelf, laid in plain words. Conditions: each theorem's own. -/
import Derived.Test.YtepkgjcobocbpaaDoorProg
import Derived.WalkKit
import Derived.Shelf.Strings.SlTrimAscii
namespace Go.Proofs
open Go.Shelf Go.RowKit
set_option linter.unusedVariables false
def Tryd.lays160_ren:Go.Shelf.Ren:=⟨fun|160=>78|232=>91|231=>90|227=>92|234=>94|233=>93|236=>96|235=>95|228=>99|271=>102|151=>101|197=>100|120=>105|152=>104|260=>103|137=>106|119=>107|224=>108|225=>109|217=>110|266=>111|n=>n,fun|9=>9|4=>4|3=>3|5=>5|117=>125|116=>124|0=>0|124=>128|21=>21|105=>132|46=>137|119=>136|139=>140|138=>139|n=>n,fun|3=>0|4=>1|n=>n⟩
theorem Tryd.lays160:Go.Proofs.Lays.n160 Tryd.prog Tryd.lays160_ren:={
  mixed:=by kernel_rfl
  f119:=Tryd.func107.trans (congrArg some (by kernel_rfl))
  f120:=Tryd.func105.trans (congrArg some (by kernel_rfl))
  f137:=Tryd.func106.trans (congrArg some (by kernel_rfl))
  f151:=Tryd.func101.trans (congrArg some (by kernel_rfl))
  f152:=Tryd.func104.trans (congrArg some (by kernel_rfl))
  f160:=Tryd.func78.trans (congrArg some (by kernel_rfl))
  f197:=Tryd.func100.trans (congrArg some (by kernel_rfl))
  f217:=Tryd.func110.trans (congrArg some (by kernel_rfl))
  f224:=Tryd.func108.trans (congrArg some (by kernel_rfl))
  f225:=Tryd.func109.trans (congrArg some (by kernel_rfl))
  f227:=Tryd.func92.trans (congrArg some (by kernel_rfl))
  f228:=Tryd.func99.trans (congrArg some (by kernel_rfl))
  f231:=Tryd.func90.trans (congrArg some (by kernel_rfl))
  f232:=Tryd.func91.trans (congrArg some (by kernel_rfl))
  f233:=Tryd.func93.trans (congrArg some (by kernel_rfl))
  f234:=Tryd.func94.trans (congrArg some (by kernel_rfl))
  f235:=Tryd.func95.trans (congrArg some (by kernel_rfl))
  f236:=Tryd.func96.trans (congrArg some (by kernel_rfl))
  f260:=Tryd.func103.trans (congrArg some (by kernel_rfl))
  f266:=Tryd.func111.trans (congrArg some (by kernel_rfl))
  f271:=Tryd.func102.trans (congrArg some (by kernel_rfl))
  t0:=Tryd.underlying0
  a0:=Tryd.isAgg0
  z0:=Tryd.sizeOf0
  v0:=Tryd.zeroValue0
  t3:=Tryd.underlying3
  a3:=Tryd.isAgg3
  z3:=Tryd.sizeOf3
  v3:=Tryd.zeroValue3
  t4:=Tryd.underlying4
  a4:=Tryd.isAgg4
  z4:=Tryd.sizeOf4
  v4:=Tryd.zeroValue4
  t5:=Tryd.underlying5
  a5:=Tryd.isAgg5
  z5:=Tryd.sizeOf5
  v5:=Tryd.zeroValue5
  t9:=Tryd.underlying9
  a9:=Tryd.isAgg9
  z9:=Tryd.sizeOf9
  v9:=Tryd.zeroValue9
  t21:=Tryd.underlying21
  a21:=Tryd.isAgg21
  z21:=Tryd.sizeOf21
  v21:=Tryd.zeroValue21
  t46:=Tryd.underlying137
  a46:=Tryd.isAgg137
  z46:=Tryd.sizeOf137
  v46:=Tryd.zeroValue137
  t105:=Tryd.underlying132
  a105:=Tryd.isAgg132
  z105:=Tryd.sizeOf132
  v105:=Tryd.zeroValue132
  t116:=Tryd.underlying124
  a116:=Tryd.isAgg124
  z116:=Tryd.sizeOf124
  t117:=Tryd.underlying125
  a117:=Tryd.isAgg125
  z117:=Tryd.sizeOf125
  v117:=Tryd.zeroValue125
  t119:=Tryd.underlying136
  a119:=Tryd.isAgg136
  z119:=Tryd.sizeOf136
  t124:=Tryd.underlying128
  a124:=Tryd.isAgg128
  z124:=Tryd.sizeOf128
  v124:=Tryd.zeroValue128
  t138:=Tryd.underlying139
  a138:=Tryd.isAgg139
  z138:=Tryd.sizeOf139
  v138:=Tryd.zeroValue139
  t139:=Tryd.underlying140
  a139:=Tryd.isAgg140
  z139:=Tryd.sizeOf140
  v139:=Tryd.zeroValue140
  g3:=by kernel_rfl
  g4:=by kernel_rfl }
theorem Tryd.trim_set (s cutset:ByteArray) (w:World) (hs:s.size≤9223372036854775807) (hcs:cutset.size<4294967281) (hascii:∀ (j:Nat) b,cutset.data.toList[j]?=some b→b.toNat<128) :
    Calls Tryd.prog 78 #[.string s,.string cutset] w fun e w'=>e = .returned (.string ⟨(Lib.trimS s.data.toList cutset.data.toList).toArray⟩)∧Below w.heap.size w w':=
  Any.strings_Trim_laid Tryd.lays160 (by kernel_rfl) s cutset w hs hcs hascii
end Go.Proofs
