/- What an argument's form says of its size. -/
import Derived.Test.YtepkgjcobocbpaaDoorMLaw
namespace Go.Proofs.YtepkgjcobocbpaaDoor.P
open Go.RowKit Go.Proofs.YtepkgjcobocbpaaDoor.Cat Go.Proofs.YtepkgjcobocbpaaDoorW.PrintWords
end Go.Proofs.YtepkgjcobocbpaaDoor.P
