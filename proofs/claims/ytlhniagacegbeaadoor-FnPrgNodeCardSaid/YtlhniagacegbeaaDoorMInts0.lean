/- What an argument's form says of its size. -/
import Derived.Test.YtlhniagacegbeaaDoorMLaw
namespace Go.Proofs.YtlhniagacegbeaaDoor.P
open Go.RowKit Go.Proofs.YtlhniagacegbeaaDoor.Cat Go.Proofs.YtlhniagacegbeaaDoorW.PrintWords
end Go.Proofs.YtlhniagacegbeaaDoor.P
