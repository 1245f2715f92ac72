/- Marks in a goal's rows, and what is held there. -/
import Derived.Test.YtlhniagacegbeaaGreatDoorMLaw
import Derived.Test.YtlhniagacegbeaaGreatDoorMGoal
namespace Go.Proofs.YtlhniagacegbeaaGreatDoor.P
set_option linter.unusedVariables false
set_option linter.unusedSimpArgs false
open Go.RowKit Go.Proofs.YtlhniagacegbeaaGreatDoor.Cat Go.Proofs.YtlhniagacegbeaaGreatDoorW.PrintWords Go.Proofs.YtlhniagacegbeaaGreatDoorW.PrintLast
end Go.Proofs.YtlhniagacegbeaaGreatDoor.P
