/- Contracts of Go's library at this program: the kit's shelf, laid in plain words. Conditions: each theorem's own. -/
import Derived.Test.YtlaicnoikeieeaaDoorProg
import Derived.WalkKit
import Derived.Shelf.Strings.SlTrimAscii
namespace Go.Proofs
open Go.Shelf Go.RowKit
set_option linter.unusedVariables false
def Tryd.lays160_ren:Go.Shelf.Ren:=⟨fun|160=>104|232=>111|231=>110|227=>112|234=>114|233=>113|236=>116|235=>115|228=>118|271=>121|151=>120|197=>119|120=>124|152=>123|260=>122|137=>125|119=>126|224=>127|225=>128|217=>129|266=>130|n=>n,fun|9=>9|4=>4|3=>3|5=>5|117=>129|116=>128|0=>0|124=>132|21=>21|105=>135|46=>140|119=>139|139=>143|138=>142|n=>n,fun|3=>0|4=>1|n=>n⟩
theorem Tryd.lays160:Go.Proofs.Lays.n160 Tryd.prog Tryd.lays160_ren:={
  mixed:=by kernel_rfl
  f119:=Tryd.func126.trans (congrArg some (by kernel_rfl))
  f120:=Tryd.func124.trans (congrArg some (by kernel_rfl))
  f137:=Tryd.func125.trans (congrArg some (by kernel_rfl))
  f151:=Tryd.func120.trans (congrArg some (by kernel_rfl))
  f152:=Tryd.func123.trans (congrArg some (by kernel_rfl))
  f160:=Tryd.func104.trans (congrArg some (by kernel_rfl))
  f197:=Tryd.func119.trans (congrArg some (by kernel_rfl))
  f217:=Tryd.func129.trans (congrArg some (by kernel_rfl))
  f224:=Tryd.func127.trans (congrArg some (by kernel_rfl))
  f225:=Tryd.func128.trans (congrArg some (by kernel_rfl))
  f227:=Tryd.func112.trans (congrArg some (by kernel_rfl))
  f228:=Tryd.func118.trans (congrArg some (by kernel_rfl))
  f231:=Tryd.func110.trans (congrArg some (by kernel_rfl))
  f232:=Tryd.func111.trans (congrArg some (by kernel_rfl))
  f233:=Tryd.func113.trans (congrArg some (by kernel_rfl))
  f234:=Tryd.func114.trans (congrArg some (by kernel_rfl))
  f235:=Tryd.func115.trans (congrArg some (by kernel_rfl))
  f236:=Tryd.func116.trans (congrArg some (by kernel_rfl))
  f260:=Tryd.func122.trans (congrArg some (by kernel_rfl))
  f266:=Tryd.func130.trans (congrArg some (by kernel_rfl))
  f271:=Tryd.func121.trans (congrArg some (by kernel_rfl))
  t0:=Tryd.underlying0
  a0:=Tryd.isAgg0
  z0:=Tryd.sizeOf0
  v0:=Tryd.zeroValue0
  t3:=Tryd.underlying3
  a3:=Tryd.isAgg3
  z3:=Tryd.sizeOf3
  v3:=Tryd.zeroValue3
  t4:=Tryd.underlying4
  a4:=Tryd.isAgg4
  z4:=Tryd.sizeOf4
  v4:=Tryd.zeroValue4
  t5:=Tryd.underlying5
  a5:=Tryd.isAgg5
  z5:=Tryd.sizeOf5
  v5:=Tryd.zeroValue5
  t9:=Tryd.underlying9
  a9:=Tryd.isAgg9
  z9:=Tryd.sizeOf9
  v9:=Tryd.zeroValue9
  t21:=Tryd.underlying21
  a21:=Tryd.isAgg21
  z21:=Tryd.sizeOf21
  v21:=Tryd.zeroValue21
  t46:=Tryd.underlying140
  a46:=Tryd.isAgg140
  z46:=Tryd.sizeOf140
  v46:=Tryd.zeroValue140
  t105:=Tryd.underlying135
  a105:=Tryd.isAgg135
  z105:=Tryd.sizeOf135
  v105:=Tryd.zeroValue135
  t116:=Tryd.underlying128
  a116:=Tryd.isAgg128
  z116:=Tryd.sizeOf128
  t117:=Tryd.underlying129
  a117:=Tryd.isAgg129
  z117:=Tryd.sizeOf129
  v117:=Tryd.zeroValue129
  t119:=Tryd.underlying139
  a119:=Tryd.isAgg139
  z119:=Tryd.sizeOf139
  t124:=Tryd.underlying132
  a124:=Tryd.isAgg132
  z124:=Tryd.sizeOf132
  v124:=Tryd.zeroValue132
  t138:=Tryd.underlying142
  a138:=Tryd.isAgg142
  z138:=Tryd.sizeOf142
  v138:=Tryd.zeroValue142
  t139:=Tryd.underlying143
  a139:=Tryd.isAgg143
  z139:=Tryd.sizeOf143
  v139:=Tryd.zeroValue143
  g3:=by kernel_rfl
  g4:=by kernel_rfl }
theorem Tryd.trim_set (s cutset:ByteArray)(w:World)(hs:s.size≤9223372036854775807)(hcs:cutset.size<4294967281)(hascii:∀ (j:Nat) b,cutset.data.toList[j]?=some b→b.toNat<128) :
    Calls Tryd.prog 104 #[.string s,.string cutset] w fun e w'=>e = .returned (.string ⟨(Lib.trimS s.data.toList cutset.data.toList).toArray⟩)∧Below w.heap.size w w':=
  Any.strings_Trim_laid Tryd.lays160 (by kernel_rfl) s cutset w hs hcs hascii
end Go.Proofs
