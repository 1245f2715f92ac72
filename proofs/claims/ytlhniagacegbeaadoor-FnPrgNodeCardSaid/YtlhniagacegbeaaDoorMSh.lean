/- Contracts of Go's library at this program: the kit's shelf, laid in plain words. Conditions: each theorem's own. -/
import Derived.Test.YtlhniagacegbeaaDoorProg
import Derived.WalkKit
import Derived.Shelf.Strings.SlTrimAscii
namespace Go.Proofs
open Go.Shelf Go.RowKit
set_option linter.unusedVariables false
def Tryd.lays160_ren:Go.Shelf.Ren:=⟨fun|160=>78|232=>92|231=>91|227=>93|234=>95|233=>94|236=>97|235=>96|228=>105|271=>108|151=>107|197=>106|120=>116|152=>115|260=>114|137=>122|119=>123|224=>124|225=>125|217=>128|266=>129|n=>n,fun|9=>9|4=>4|3=>3|5=>5|117=>128|116=>127|0=>0|124=>131|21=>21|105=>143|46=>159|119=>161|139=>164|138=>163|n=>n,fun|3=>1|4=>2|n=>n⟩
theorem Tryd.lays160:Go.Proofs.Lays.n160 Tryd.prog Tryd.lays160_ren:={
  mixed:=by kernel_rfl
  f119:=Tryd.func123.trans (congrArg some (by kernel_rfl))
  f120:=Tryd.func116.trans (congrArg some (by kernel_rfl))
  f137:=Tryd.func122.trans (congrArg some (by kernel_rfl))
  f151:=Tryd.func107.trans (congrArg some (by kernel_rfl))
  f152:=Tryd.func115.trans (congrArg some (by kernel_rfl))
  f160:=Tryd.func78.trans (congrArg some (by kernel_rfl))
  f197:=Tryd.func106.trans (congrArg some (by kernel_rfl))
  f217:=Tryd.func128.trans (congrArg some (by kernel_rfl))
  f224:=Tryd.func124.trans (congrArg some (by kernel_rfl))
  f225:=Tryd.func125.trans (congrArg some (by kernel_rfl))
  f227:=Tryd.func93.trans (congrArg some (by kernel_rfl))
  f228:=Tryd.func105.trans (congrArg some (by kernel_rfl))
  f231:=Tryd.func91.trans (congrArg some (by kernel_rfl))
  f232:=Tryd.func92.trans (congrArg some (by kernel_rfl))
  f233:=Tryd.func94.trans (congrArg some (by kernel_rfl))
  f234:=Tryd.func95.trans (congrArg some (by kernel_rfl))
  f235:=Tryd.func96.trans (congrArg some (by kernel_rfl))
  f236:=Tryd.func97.trans (congrArg some (by kernel_rfl))
  f260:=Tryd.func114.trans (congrArg some (by kernel_rfl))
  f266:=Tryd.func129.trans (congrArg some (by kernel_rfl))
  f271:=Tryd.func108.trans (congrArg some (by kernel_rfl))
  t0:=Tryd.underlying0
  a0:=Tryd.isAgg0
  z0:=Tryd.sizeOf0
  v0:=Tryd.zeroValue0
  t3:=Tryd.underlying3
  a3:=Tryd.isAgg3
  z3:=Tryd.sizeOf3
  v3:=Tryd.zeroValue3
  t4:=Tryd.underlying4
  a4:=Tryd.isAgg4
  z4:=Tryd.sizeOf4
  v4:=Tryd.zeroValue4
  t5:=Tryd.underlying5
  a5:=Tryd.isAgg5
  z5:=Tryd.sizeOf5
  v5:=Tryd.zeroValue5
  t9:=Tryd.underlying9
  a9:=Tryd.isAgg9
  z9:=Tryd.sizeOf9
  v9:=Tryd.zeroValue9
  t21:=Tryd.underlying21
  a21:=Tryd.isAgg21
  z21:=Tryd.sizeOf21
  v21:=Tryd.zeroValue21
  t46:=Tryd.underlying159
  a46:=Tryd.isAgg159
  z46:=Tryd.sizeOf159
  v46:=Tryd.zeroValue159
  t105:=Tryd.underlying143
  a105:=Tryd.isAgg143
  z105:=Tryd.sizeOf143
  v105:=Tryd.zeroValue143
  t116:=Tryd.underlying127
  a116:=Tryd.isAgg127
  z116:=Tryd.sizeOf127
  t117:=Tryd.underlying128
  a117:=Tryd.isAgg128
  z117:=Tryd.sizeOf128
  v117:=Tryd.zeroValue128
  t119:=Tryd.underlying161
  a119:=Tryd.isAgg161
  z119:=Tryd.sizeOf161
  t124:=Tryd.underlying131
  a124:=Tryd.isAgg131
  z124:=Tryd.sizeOf131
  v124:=Tryd.zeroValue131
  t138:=Tryd.underlying163
  a138:=Tryd.isAgg163
  z138:=Tryd.sizeOf163
  v138:=Tryd.zeroValue163
  t139:=Tryd.underlying164
  a139:=Tryd.isAgg164
  z139:=Tryd.sizeOf164
  v139:=Tryd.zeroValue164
  g3:=by kernel_rfl
  g4:=by kernel_rfl }
theorem Tryd.trim_set (s cutset:ByteArray) (w:World) (hs:s.size≤9223372036854775807) (hcs:cutset.size<4294967281) (hascii:∀ (j:Nat) b,cutset.data.toList[j]?=some b→b.toNat<128) :
    Calls Tryd.prog 78 #[.string s,.string cutset] w fun e w'=>e = .returned (.string ⟨(Lib.trimS s.data.toList cutset.data.toList).toArray⟩)∧Below w.heap.size w w':=
  Any.strings_Trim_laid Tryd.lays160 (by kernel_rfl) s cutset w hs hcs hascii
end Go.Proofs
