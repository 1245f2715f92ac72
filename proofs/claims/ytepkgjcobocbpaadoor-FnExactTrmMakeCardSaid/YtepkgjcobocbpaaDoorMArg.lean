/- Arguments, shifts, names with arguments: what both answer. -/
import Derived.Test.YtepkgjcobocbpaaDoorMTrm
import Derived.Test.YtepkgjcobocbpaaDoorP2
import Derived.Test.YtepkgjcobocbpaaDoorP2
namespace Go.Proofs.YtepkgjcobocbpaaDoor.P
set_option linter.unusedVariables false
set_option linter.unusedSimpArgs false
open Go.RowKit Go.Proofs.YtepkgjcobocbpaaDoor.Cat Go.Proofs.YtepkgjcobocbpaaDoorW.PrintWords Go.Proofs.YtepkgjcobocbpaaDoorW.PrintLast

end Go.Proofs.YtepkgjcobocbpaaDoor.P
