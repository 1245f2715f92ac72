/- What the laws' own helpers do to cells: sizes, copies, equality, marks. -/
import Derived.Test.YtlhniagacegbeaaDoorMBase
namespace Go.Proofs.YtlhniagacegbeaaDoor.P
set_option linter.unusedVariables false
set_option linter.unusedSimpArgs false
open Go.RowKit Go.Proofs.YtlhniagacegbeaaDoor.Cat Go.Proofs.YtlhniagacegbeaaDoorW.PrintWords Go.Proofs.YtlhniagacegbeaaDoorW.PrintLast
end Go.Proofs.YtlhniagacegbeaaDoor.P
