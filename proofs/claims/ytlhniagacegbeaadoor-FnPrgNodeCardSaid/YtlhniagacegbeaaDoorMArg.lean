/- Arguments, shifts, names with arguments: what both answer. -/
import Derived.Test.YtlhniagacegbeaaDoorMTrm
import Derived.Test.YtlhniagacegbeaaDoorP5
import Derived.Test.YtlhniagacegbeaaDoorP5
namespace Go.Proofs.YtlhniagacegbeaaDoor.P
set_option linter.unusedVariables false
set_option linter.unusedSimpArgs false
open Go.RowKit Go.Proofs.YtlhniagacegbeaaDoor.Cat Go.Proofs.YtlhniagacegbeaaDoorW.PrintWords Go.Proofs.YtlhniagacegbeaaDoorW.PrintLast
end Go.Proofs.YtlhniagacegbeaaDoor.P
