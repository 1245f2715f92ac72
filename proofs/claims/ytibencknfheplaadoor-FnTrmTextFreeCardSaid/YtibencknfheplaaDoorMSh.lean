/- Contracts of Go's library at this program: the kit's shelf, laid in plain words. Conditions: each theorem's own. -/
import Derived.Test.YtibencknfheplaaDoorProg
import Derived.WalkKit
import Derived.Shelf.Strings.SlTrimAscii
namespace Go.Proofs
open Go.Shelf Go.RowKit
set_option linter.unusedVariables false
def Tryd.lays160_ren:Go.Shelf.Ren:=⟨fun|160=>64|232=>76|231=>67|227=>68|234=>77|233=>69|236=>78|235=>70|228=>83|271=>89|151=>85|197=>84|120=>99|152=>96|260=>95|137=>102|119=>103|224=>104|225=>105|217=>106|266=>107|n=>n,fun|9=>9|4=>4|3=>3|5=>5|117=>93|116=>92|0=>0|124=>96|21=>21|105=>110|46=>115|119=>131|139=>134|138=>133|n=>n,fun|3=>3|4=>4|n=>n⟩
theorem Tryd.lays160:Go.Proofs.Lays.n160 Tryd.prog Tryd.lays160_ren:={
  mixed:=by kernel_rfl
  f119:=Tryd.func103.trans (congrArg some (by kernel_rfl))
  f120:=Tryd.func99.trans (congrArg some (by kernel_rfl))
  f137:=Tryd.func102.trans (congrArg some (by kernel_rfl))
  f151:=Tryd.func85.trans (congrArg some (by kernel_rfl))
  f152:=Tryd.func96.trans (congrArg some (by kernel_rfl))
  f160:=Tryd.func64.trans (congrArg some (by kernel_rfl))
  f197:=Tryd.func84.trans (congrArg some (by kernel_rfl))
  f217:=Tryd.func106.trans (congrArg some (by kernel_rfl))
  f224:=Tryd.func104.trans (congrArg some (by kernel_rfl))
  f225:=Tryd.func105.trans (congrArg some (by kernel_rfl))
  f227:=Tryd.func68.trans (congrArg some (by kernel_rfl))
  f228:=Tryd.func83.trans (congrArg some (by kernel_rfl))
  f231:=Tryd.func67.trans (congrArg some (by kernel_rfl))
  f232:=Tryd.func76.trans (congrArg some (by kernel_rfl))
  f233:=Tryd.func69.trans (congrArg some (by kernel_rfl))
  f234:=Tryd.func77.trans (congrArg some (by kernel_rfl))
  f235:=Tryd.func70.trans (congrArg some (by kernel_rfl))
  f236:=Tryd.func78.trans (congrArg some (by kernel_rfl))
  f260:=Tryd.func95.trans (congrArg some (by kernel_rfl))
  f266:=Tryd.func107.trans (congrArg some (by kernel_rfl))
  f271:=Tryd.func89.trans (congrArg some (by kernel_rfl))
  t0:=Tryd.underlying0
  a0:=Tryd.isAgg0
  z0:=Tryd.sizeOf0
  v0:=Tryd.zeroValue0
  t3:=Tryd.underlying3
  a3:=Tryd.isAgg3
  z3:=Tryd.sizeOf3
  v3:=Tryd.zeroValue3
  t4:=Tryd.underlying4
  a4:=Tryd.isAgg4
  z4:=Tryd.sizeOf4
  v4:=Tryd.zeroValue4
  t5:=Tryd.underlying5
  a5:=Tryd.isAgg5
  z5:=Tryd.sizeOf5
  v5:=Tryd.zeroValue5
  t9:=Tryd.underlying9
  a9:=Tryd.isAgg9
  z9:=Tryd.sizeOf9
  v9:=Tryd.zeroValue9
  t21:=Tryd.underlying21
  a21:=Tryd.isAgg21
  z21:=Tryd.sizeOf21
  v21:=Tryd.zeroValue21
  t46:=Tryd.underlying115
  a46:=Tryd.isAgg115
  z46:=Tryd.sizeOf115
  v46:=Tryd.zeroValue115
  t105:=Tryd.underlying110
  a105:=Tryd.isAgg110
  z105:=Tryd.sizeOf110
  v105:=Tryd.zeroValue110
  t116:=Tryd.underlying92
  a116:=Tryd.isAgg92
  z116:=Tryd.sizeOf92
  t117:=Tryd.underlying93
  a117:=Tryd.isAgg93
  z117:=Tryd.sizeOf93
  v117:=Tryd.zeroValue93
  t119:=Tryd.underlying131
  a119:=Tryd.isAgg131
  z119:=Tryd.sizeOf131
  t124:=Tryd.underlying96
  a124:=Tryd.isAgg96
  z124:=Tryd.sizeOf96
  v124:=Tryd.zeroValue96
  t138:=Tryd.underlying133
  a138:=Tryd.isAgg133
  z138:=Tryd.sizeOf133
  v138:=Tryd.zeroValue133
  t139:=Tryd.underlying134
  a139:=Tryd.isAgg134
  z139:=Tryd.sizeOf134
  v139:=Tryd.zeroValue134
  g3:=by kernel_rfl
  g4:=by kernel_rfl }
theorem Tryd.trim_set (s cutset:ByteArray) (w:World) (hs:s.size≤9223372036854775807) (hcs:cutset.size<4294967281) (hascii:∀ (j:Nat) b,cutset.data.toList[j]?=some b→b.toNat<128) :
    Calls Tryd.prog 64 #[.string s,.string cutset] w fun e w'=>e = .returned (.string ⟨(Lib.trimS s.data.toList cutset.data.toList).toArray⟩)∧Below w.heap.size w w':=
  Any.strings_Trim_laid Tryd.lays160 (by kernel_rfl) s cutset w hs hcs hascii
end Go.Proofs
