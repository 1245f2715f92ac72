/- Contracts of Go's library at this program: the kit's shelf, laid in plain words. Conditions: each theorem's own. -/
import Derived.Test.YtlhniagacegbeaaDoorProg
import Derived.WalkKit
import Derived.Shelf.Strings.BuilderK
import Derived.Lib.AppendIntMem
import Derived.Lib.ItoaLen
import Derived.Lib.AppendStr
import Derived.Lib.Builder
import Derived.Lib.FrozenHead
import Derived.Laws.Externs
import Derived.WalkSpells
import Derived.Deep.QuietTactic
import Derived.BigQuiet
import Derived.Shelf.Strconv.Itoa3
namespace Go.Proofs
open Go.Shelf Go.RowKit
set_option linter.unusedVariables false
def Tryd.lays169_ren:Go.Shelf.Ren:=⟨fun|169=>47|n=>n,fun|70=>79|9=>9|0=>0|72=>81|37=>33|127=>106|3=>3|5=>5|n=>n,fun|n=>n⟩
theorem Tryd.lays169:Go.Proofs.Lays.n169 Tryd.prog Tryd.lays169_ren:={
 mixed:=by kernel_rfl
 f169:=Tryd.func47.trans (congrArg some (by kernel_rfl))
 t0:=Tryd.underlying0
 a0:=Tryd.isAgg0
 z0:=Tryd.sizeOf0
 v0:=Tryd.zeroValue0
 t3:=Tryd.underlying3
 a3:=Tryd.isAgg3
 z3:=Tryd.sizeOf3
 v3:=Tryd.zeroValue3
 t9:=Tryd.underlying9
 a9:=Tryd.isAgg9
 z9:=Tryd.sizeOf9
 v9:=Tryd.zeroValue9
 t37:=Tryd.underlying33
 a37:=Tryd.isAgg33
 z37:=Tryd.sizeOf33
 v37:=Tryd.zeroValue33
 t70:=Tryd.underlying79
 a70:=Tryd.isAgg79
 z70:=Tryd.sizeOf79
 v70:=Tryd.zeroValue79
 t72:=Tryd.underlying81
 a72:=Tryd.isAgg81
 z72:=Tryd.sizeOf81
 v72:=Tryd.zeroValue81
 t127:=Tryd.underlying106
 a127:=Tryd.isAgg106
 z127:=Tryd.sizeOf106
 v127:=Tryd.zeroValue106 }
theorem Tryd.Builder_Extra_169:Builder.Extra Tryd.prog Tryd.lays169_ren:={
 sizeBuilder:=by kernel_rfl
 liesBuilder:=by kernel_rfl
 t5:=Tryd.underlying5
 a5:=Tryd.isAgg5
 z5:=Tryd.sizeOf5
 v5:=Tryd.zeroValue5
 infoByte:=by kernel_rfl
 cellsByte:=by kernel_rfl
 sizeByte:=by kernel_rfl
 neB5:=by decide }
open Go.RowKit in
theorem Tryd.Builder_String_any_k (B b:Nat) (l:List UInt8) (w:World) (h:Lib.IsBuilderF 81 5 B b (Lib.byteCells l) w) (hBw:B≤w.heap.size) :
  Calls Tryd.prog 47 #[.pointer (some ⟨b,0,none⟩)] w fun e w'=>e = .returned (.string ⟨l.toArray⟩)∧(Lib.IsBuilderF 81 5 B b (Lib.byteCells l) w'∧Below B w w'∧Lib.OthersKept 5 (some b) w w'):=Any.Builder_String_any_k Tryd.lays169 Tryd.Builder_Extra_169 B b l w h hBw
def Tryd.laysM171_ren:Go.Shelf.Ren:=⟨fun|171=>69|243=>85|246=>100|283=>109|284=>110|285=>111|286=>112|129=>118|317=>117|318=>119|319=>120|320=>121|337=>126|338=>127|n=>n,fun|3=>3|9=>9|2=>2|4=>4|171=>146|0=>0|53=>147|37=>33|5=>5|173=>150|212=>156|51=>157|20=>20|213=>158|46=>159|232=>169|233=>170|n=>n,fun|17=>0|18=>4|19=>5|n=>n⟩
theorem Tryd.laysM171:Go.Proofs.LaysM.n171 Tryd.prog Tryd.laysM171_ren:={
 mixed:=by kernel_rfl
 f129:=Tryd.func118.trans (congrArg some (by kernel_rfl))
 f171:=Tryd.func69.trans (congrArg some (by kernel_rfl))
 f243:=Tryd.func85.trans (congrArg some (by kernel_rfl))
 f246:=Tryd.func100.trans (congrArg some (by kernel_rfl))
 f283:=Tryd.func109.trans (congrArg some (by kernel_rfl))
 f284:=Tryd.func110.trans (congrArg some (by kernel_rfl))
 f285:=Tryd.func111.trans (congrArg some (by kernel_rfl))
 f286:=Tryd.func112.trans (congrArg some (by kernel_rfl))
 f317:=Tryd.func117.trans (congrArg some (by kernel_rfl))
 f318:=Tryd.func119.trans (congrArg some (by kernel_rfl))
 f319:=Tryd.func120.trans (congrArg some (by kernel_rfl))
 f320:=Tryd.func121.trans (congrArg some (by kernel_rfl))
 f337:=Tryd.func126.trans (congrArg some (by kernel_rfl))
 f338:=Tryd.func127.trans (congrArg some (by kernel_rfl))
 t0:=Tryd.underlying0
 a0:=Tryd.isAgg0
 z0:=Tryd.sizeOf0
 v0:=Tryd.zeroValue0
 t2:=Tryd.underlying2
 a2:=Tryd.isAgg2
 z2:=Tryd.sizeOf2
 v2:=Tryd.zeroValue2
 t3:=Tryd.underlying3
 a3:=Tryd.isAgg3
 z3:=Tryd.sizeOf3
 v3:=Tryd.zeroValue3
 t4:=Tryd.underlying4
 a4:=Tryd.isAgg4
 z4:=Tryd.sizeOf4
 v4:=Tryd.zeroValue4
 t5:=Tryd.underlying5
 a5:=Tryd.isAgg5
 z5:=Tryd.sizeOf5
 v5:=Tryd.zeroValue5
 t9:=Tryd.underlying9
 a9:=Tryd.isAgg9
 z9:=Tryd.sizeOf9
 v9:=Tryd.zeroValue9
 t20:=Tryd.underlying20
 a20:=Tryd.isAgg20
 z20:=Tryd.sizeOf20
 v20:=Tryd.zeroValue20
 t37:=Tryd.underlying33
 a37:=Tryd.isAgg33
 z37:=Tryd.sizeOf33
 v37:=Tryd.zeroValue33
 t46:=Tryd.underlying159
 a46:=Tryd.isAgg159
 z46:=Tryd.sizeOf159
 v46:=Tryd.zeroValue159
 t51:=Tryd.underlying157
 a51:=Tryd.isAgg157
 z51:=Tryd.sizeOf157
 v51:=Tryd.zeroValue157
 t53:=Tryd.underlying147
 a53:=Tryd.isAgg147
 z53:=Tryd.sizeOf147
 v53:=Tryd.zeroValue147
 t171:=Tryd.underlying146
 a171:=Tryd.isAgg146
 z171:=Tryd.sizeOf146
 v171:=Tryd.zeroValue146
 t173:=Tryd.underlying150
 a173:=Tryd.isAgg150
 z173:=Tryd.sizeOf150
 v173:=Tryd.zeroValue150
 t212:=Tryd.underlying156
 a212:=Tryd.isAgg156
 z212:=Tryd.sizeOf156
 v212:=Tryd.zeroValue156
 t213:=Tryd.underlying158
 a213:=Tryd.isAgg158
 z213:=Tryd.sizeOf158
 t232:=Tryd.underlying169
 a232:=Tryd.isAgg169
 z232:=Tryd.sizeOf169
 v232:=Tryd.zeroValue169
 t233:=Tryd.underlying170
 a233:=Tryd.isAgg170
 z233:=Tryd.sizeOf170
 v233:=Tryd.zeroValue170
 g17:=by kernel_rfl
 g18:=by kernel_rfl
 g19:=by kernel_rfl
 i0:=by kernel_rfl
 i2:=by kernel_rfl
 i3:=by kernel_rfl
 i4:=by kernel_rfl
 i5:=by kernel_rfl
 i9:=by kernel_rfl
 i20:=by kernel_rfl
 i37:=by kernel_rfl
 i46:=by kernel_rfl
 i51:=by kernel_rfl
 i53:=by kernel_rfl
 i171:=by kernel_rfl
 i173:=by kernel_rfl
 i212:=by kernel_rfl
 i232:=by kernel_rfl
 i233:=by kernel_rfl
 m17:=by kernel_rfl
 m18:=by kernel_rfl
 m19:=by kernel_rfl }
open Go.RowKit Go.Sort Go.Lib in
theorem Tryd.strconv_Itoa (n : Int) (h0 : -9223372036854775808 ≤ n) (h1 : n ≤ 9223372036854775807) (w : World) (htab : Lib.TabIs Tryd.prog w "internal/strconv.uint64pow10" .u64 Lib.pow10Tab) :
  Calls Tryd.prog 69 #[.int .i64 n] w fun e w'=>e = .returned (.string ⟨(Lib.itoa n).toArray⟩)∧∃ k os,w'=grow (w.drewN k) os:=Any.strconv_Itoa Tryd.laysM171 n h0 h1 w htab

end Go.Proofs
