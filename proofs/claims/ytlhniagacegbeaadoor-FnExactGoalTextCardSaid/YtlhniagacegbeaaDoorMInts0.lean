/- What an argument's form says of its size. -/
import Derived.Test.YtlhniagacegbeaaDoorMLaw
namespace Go.Proofs.YtlhniagacegbeaaDoor.P
open Go.RowKit Go.Proofs.YtlhniagacegbeaaDoor.Cat Go.Proofs.YtlhniagacegbeaaDoorW.PrintWords
theorem room_of {l:List Cell} (h:l.length≤maxLen∧∀ x ∈ l,CellIn x.f0 x.f1 x.f2):Room l:=by
 unfold maxLen at h
 exact ⟨h.1,fun c hc=>by have:=(h.2 c hc).2.2;unfold maxLen at this;exact this⟩
end Go.Proofs.YtlhniagacegbeaaDoor.P
