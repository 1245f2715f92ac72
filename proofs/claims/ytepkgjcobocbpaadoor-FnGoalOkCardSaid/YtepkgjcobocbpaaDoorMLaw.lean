/- What the laws' own helpers do to cells: sizes, copies, equality, marks. -/
import Derived.Test.YtepkgjcobocbpaaDoorMBase
namespace Go.Proofs.YtepkgjcobocbpaaDoor.P
set_option linter.unusedVariables false
set_option linter.unusedSimpArgs false
open Go.RowKit Go.Proofs.YtepkgjcobocbpaaDoor.Cat Go.Proofs.YtepkgjcobocbpaaDoorW.PrintWords Go.Proofs.YtepkgjcobocbpaaDoorW.PrintLast

end Go.Proofs.YtepkgjcobocbpaaDoor.P
