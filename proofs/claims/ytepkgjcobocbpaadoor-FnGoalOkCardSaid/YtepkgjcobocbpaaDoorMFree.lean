/- Variables of places, by the reference and by the program: frees; canon; the same. -/
import Derived.Test.YtepkgjcobocbpaaDoorMBase
namespace Go.Proofs.YtepkgjcobocbpaaDoor.P
set_option linter.unusedVariables false
set_option linter.unusedSimpArgs false
open Go.RowKit Go.Proofs.YtepkgjcobocbpaaDoor.Cat Go.Proofs.YtepkgjcobocbpaaDoorW.PrintWords Go.Proofs.YtepkgjcobocbpaaDoorW.PrintLast

end Go.Proofs.YtepkgjcobocbpaaDoor.P
