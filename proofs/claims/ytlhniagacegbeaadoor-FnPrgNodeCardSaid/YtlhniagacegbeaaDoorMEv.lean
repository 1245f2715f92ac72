/- Words for what holds from some number of rounds on. -/
import Derived.Test.YtlhniagacegbeaaDoorV0
import Derived.Lib.Strings
namespace Go.Proofs.YtlhniagacegbeaaDoorW.PrintWords
open Go.RowKit
theorem Ev.ifp {α:Type} {c:Prop} [Decidable c] {f g:Nat→Option α} {r:α} (h:c) (k:Ev f r):Ev (fun n=>if c then f n else g n) r:=
 Ev.congr (fun n=>by rw [if_pos h]) k
theorem Ev.ifn {α:Type} {c:Prop} [Decidable c] {f g:Nat→Option α} {r:α} (h:¬ c) (k:Ev g r):Ev (fun n=>if c then f n else g n) r:=
 Ev.congr (fun n=>by rw [if_neg h]) k
theorem Ev.all {α:Type} {g:Nat→Option α} {r:α} (h:∀ k,g k=some r):Ev g r:=⟨0,fun k _=>h k⟩
theorem Ev.pure {α:Type} {x r:α} (h:x=r):Ev (fun _=>some x) r:=h ▸ Ev.now x
theorem Ev.bindv {α β:Type} {x:Option α} {f:Nat→α→Option β} {a:α} {r:β} (h:x=some a) (k:Ev (fun n=>f n a) r):Ev (fun n=>x.bind (f n)) r:=
 Ev.congr (fun n=>by rw [h];rfl) k
end Go.Proofs.YtlhniagacegbeaaDoorW.PrintWords
