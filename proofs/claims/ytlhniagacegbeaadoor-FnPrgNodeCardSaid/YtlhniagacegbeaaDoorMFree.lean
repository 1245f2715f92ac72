/- Variables of places, by the reference and by the program: frees; canon; the same. -/
import Derived.Test.YtlhniagacegbeaaDoorMBase
namespace Go.Proofs.YtlhniagacegbeaaDoor.P
set_option linter.unusedVariables false
set_option linter.unusedSimpArgs false
open Go.RowKit Go.Proofs.YtlhniagacegbeaaDoor.Cat Go.Proofs.YtlhniagacegbeaaDoorW.PrintWords Go.Proofs.YtlhniagacegbeaaDoorW.PrintLast
end Go.Proofs.YtlhniagacegbeaaDoor.P
