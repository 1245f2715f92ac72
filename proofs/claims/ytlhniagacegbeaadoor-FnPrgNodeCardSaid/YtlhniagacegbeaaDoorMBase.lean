/- Small words: numbers that fit, places of lists. -/
import Derived.Test.YtlhniagacegbeaaDoorP0
import Derived.Test.YtlhniagacegbeaaDoorMEv
namespace Go.Proofs.YtlhniagacegbeaaDoor.P
set_option linter.unusedVariables false
set_option linter.unusedSimpArgs false
open Go.RowKit Go.Proofs.YtlhniagacegbeaaDoor.Cat Go.Proofs.YtlhniagacegbeaaDoorW.PrintWords Go.Proofs.YtlhniagacegbeaaDoorW.PrintLast
theorem w64 {x:Int} (h:-9223372036854775808≤x) (h':x≤9223372036854775807):wrap64 x=x:=IntWalk.wrap64_in x ⟨h,h'⟩
theorem wnext {i:Nat} (h:i≤9223372036854775806):wrap64 ((i:Int)+1)=((i+1:Nat):Int):=by rw [w64 (by omega) (by omega)];rfl
theorem rdC (a r:List Cell) (c:Cell):rd_T44 (a++c :: r) ((a.length:Nat):Int)=c:=by
 simp [rd_T44,List.getD]
theorem lt_app {α:Type} (a r:List α) (c:α):((a.length:Nat):Int)<((a++c :: r).length:Int):=by simp;omega
theorem not_lt_app {α:Type} (a:List α):¬ ((a.length:Nat):Int)<((a++[]).length:Int):=by simp
theorem snoc_len {α:Type} (a:List α) (c:α):(a++[c]).length=a.length+1:=by simp
end Go.Proofs.YtlhniagacegbeaaDoor.P
