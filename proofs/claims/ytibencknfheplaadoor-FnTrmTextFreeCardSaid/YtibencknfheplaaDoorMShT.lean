/- Contracts of Go's library at this program: the kit's shelf, laid in plain words. Conditions: each theorem's own. -/
import Derived.Test.YtibencknfheplaaDoorProg
import Derived.WalkKit
import Derived.Shelf.Strings.BuilderK
import Derived.Lib.AppendIntMem
import Derived.Lib.ItoaLen
import Derived.Lib.AppendStr
import Derived.Lib.Builder
import Derived.Lib.FrozenHead
import Derived.Laws.Externs
import Derived.WalkSpells
import Derived.Deep.QuietTactic
import Derived.BigQuiet
import Derived.Shelf.Strconv.Itoa3
namespace Go.Proofs
open Go.Shelf Go.RowKit
set_option linter.unusedVariables false
def Tryd.lays169_ren:Go.Shelf.Ren:=⟨fun|169=>23|n=>n,fun|70=>45|9=>9|0=>0|72=>47|37=>29|127=>71|3=>3|5=>5|n=>n,fun|n=>n⟩
theorem Tryd.lays169:Go.Proofs.Lays.n169 Tryd.prog Tryd.lays169_ren:={
mixed:=by kernel_rfl
f169:=Tryd.func23.trans (congrArg some (by kernel_rfl))
t0:=Tryd.underlying0
a0:=Tryd.isAgg0
z0:=Tryd.sizeOf0
v0:=Tryd.zeroValue0
t3:=Tryd.underlying3
a3:=Tryd.isAgg3
z3:=Tryd.sizeOf3
v3:=Tryd.zeroValue3
t9:=Tryd.underlying9
a9:=Tryd.isAgg9
z9:=Tryd.sizeOf9
v9:=Tryd.zeroValue9
t37:=Tryd.underlying29
a37:=Tryd.isAgg29
z37:=Tryd.sizeOf29
v37:=Tryd.zeroValue29
t70:=Tryd.underlying45
a70:=Tryd.isAgg45
z70:=Tryd.sizeOf45
v70:=Tryd.zeroValue45
t72:=Tryd.underlying47
a72:=Tryd.isAgg47
z72:=Tryd.sizeOf47
v72:=Tryd.zeroValue47
t127:=Tryd.underlying71
a127:=Tryd.isAgg71
z127:=Tryd.sizeOf71
v127:=Tryd.zeroValue71 }
theorem Tryd.Builder_Extra_169:Builder.Extra Tryd.prog Tryd.lays169_ren:={
sizeBuilder:=by kernel_rfl
liesBuilder:=by kernel_rfl
t5:=Tryd.underlying5
a5:=Tryd.isAgg5
z5:=Tryd.sizeOf5
v5:=Tryd.zeroValue5
infoByte:=by kernel_rfl
cellsByte:=by kernel_rfl
sizeByte:=by kernel_rfl
neB5:=by decide }
open Go.RowKit in
theorem Tryd.Builder_String_any_k (B b:Nat) (l:List UInt8) (w:World) (h:Lib.IsBuilderF 47 5 B b (Lib.byteCells l) w) (hBw:B≤w.heap.size) :
Calls Tryd.prog 23 #[.pointer (some ⟨b,0,none⟩)] w fun e w'=>e = .returned (.string ⟨l.toArray⟩)∧(Lib.IsBuilderF 47 5 B b (Lib.byteCells l) w'∧Below B w w'∧Lib.OthersKept 5 (some b) w w'):=Any.Builder_String_any_k Tryd.lays169 Tryd.Builder_Extra_169 B b l w h hBw
def Tryd.laysM171_ren:Go.Shelf.Ren:=⟨fun|171=>39|243=>57|246=>66|283=>79|284=>80|285=>81|286=>82|129=>91|317=>90|318=>92|319=>93|320=>94|337=>100|338=>101|n=>n,fun|3=>3|9=>9|2=>2|4=>4|171=>103|0=>0|53=>104|37=>29|5=>5|173=>107|212=>121|51=>122|20=>20|213=>123|46=>115|232=>138|233=>139|n=>n,fun|17=>2|18=>5|19=>6|n=>n⟩
theorem Tryd.laysM171:Go.Proofs.LaysM.n171 Tryd.prog Tryd.laysM171_ren:={
mixed:=by kernel_rfl
f129:=Tryd.func91.trans (congrArg some (by kernel_rfl))
f171:=Tryd.func39.trans (congrArg some (by kernel_rfl))
f243:=Tryd.func57.trans (congrArg some (by kernel_rfl))
f246:=Tryd.func66.trans (congrArg some (by kernel_rfl))
f283:=Tryd.func79.trans (congrArg some (by kernel_rfl))
f284:=Tryd.func80.trans (congrArg some (by kernel_rfl))
f285:=Tryd.func81.trans (congrArg some (by kernel_rfl))
f286:=Tryd.func82.trans (congrArg some (by kernel_rfl))
f317:=Tryd.func90.trans (congrArg some (by kernel_rfl))
f318:=Tryd.func92.trans (congrArg some (by kernel_rfl))
f319:=Tryd.func93.trans (congrArg some (by kernel_rfl))
f320:=Tryd.func94.trans (congrArg some (by kernel_rfl))
f337:=Tryd.func100.trans (congrArg some (by kernel_rfl))
f338:=Tryd.func101.trans (congrArg some (by kernel_rfl))
t0:=Tryd.underlying0
a0:=Tryd.isAgg0
z0:=Tryd.sizeOf0
v0:=Tryd.zeroValue0
t2:=Tryd.underlying2
a2:=Tryd.isAgg2
z2:=Tryd.sizeOf2
v2:=Tryd.zeroValue2
t3:=Tryd.underlying3
a3:=Tryd.isAgg3
z3:=Tryd.sizeOf3
v3:=Tryd.zeroValue3
t4:=Tryd.underlying4
a4:=Tryd.isAgg4
z4:=Tryd.sizeOf4
v4:=Tryd.zeroValue4
t5:=Tryd.underlying5
a5:=Tryd.isAgg5
z5:=Tryd.sizeOf5
v5:=Tryd.zeroValue5
t9:=Tryd.underlying9
a9:=Tryd.isAgg9
z9:=Tryd.sizeOf9
v9:=Tryd.zeroValue9
t20:=Tryd.underlying20
a20:=Tryd.isAgg20
z20:=Tryd.sizeOf20
v20:=Tryd.zeroValue20
t37:=Tryd.underlying29
a37:=Tryd.isAgg29
z37:=Tryd.sizeOf29
v37:=Tryd.zeroValue29
t46:=Tryd.underlying115
a46:=Tryd.isAgg115
z46:=Tryd.sizeOf115
v46:=Tryd.zeroValue115
t51:=Tryd.underlying122
a51:=Tryd.isAgg122
z51:=Tryd.sizeOf122
v51:=Tryd.zeroValue122
t53:=Tryd.underlying104
a53:=Tryd.isAgg104
z53:=Tryd.sizeOf104
v53:=Tryd.zeroValue104
t171:=Tryd.underlying103
a171:=Tryd.isAgg103
z171:=Tryd.sizeOf103
v171:=Tryd.zeroValue103
t173:=Tryd.underlying107
a173:=Tryd.isAgg107
z173:=Tryd.sizeOf107
v173:=Tryd.zeroValue107
t212:=Tryd.underlying121
a212:=Tryd.isAgg121
z212:=Tryd.sizeOf121
v212:=Tryd.zeroValue121
t213:=Tryd.underlying123
a213:=Tryd.isAgg123
z213:=Tryd.sizeOf123
t232:=Tryd.underlying138
a232:=Tryd.isAgg138
z232:=Tryd.sizeOf138
v232:=Tryd.zeroValue138
t233:=Tryd.underlying139
a233:=Tryd.isAgg139
z233:=Tryd.sizeOf139
v233:=Tryd.zeroValue139
g17:=by kernel_rfl
g18:=by kernel_rfl
g19:=by kernel_rfl
i0:=by kernel_rfl
i2:=by kernel_rfl
i3:=by kernel_rfl
i4:=by kernel_rfl
i5:=by kernel_rfl
i9:=by kernel_rfl
i20:=by kernel_rfl
i37:=by kernel_rfl
i46:=by kernel_rfl
i51:=by kernel_rfl
i53:=by kernel_rfl
i171:=by kernel_rfl
i173:=by kernel_rfl
i212:=by kernel_rfl
i232:=by kernel_rfl
i233:=by kernel_rfl
m17:=by kernel_rfl
m18:=by kernel_rfl
m19:=by kernel_rfl }
open Go.RowKit Go.Sort Go.Lib in
theorem Tryd.strconv_Itoa (n : Int) (h0 : -9223372036854775808 ≤ n) (h1 : n ≤ 9223372036854775807) (w : World) (htab : Lib.TabIs Tryd.prog w "internal/strconv.uint64pow10" .u64 Lib.pow10Tab) :
Calls Tryd.prog 39 #[.int .i64 n] w fun e w'=>e = .returned (.string ⟨(Lib.itoa n).toArray⟩)∧∃ k os,w'=grow (w.drewN k) os:=Any.strconv_Itoa Tryd.laysM171 n h0 h1 w htab

end Go.Proofs
