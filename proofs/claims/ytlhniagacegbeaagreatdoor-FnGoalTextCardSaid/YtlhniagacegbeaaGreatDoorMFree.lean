/- Variables of places, by the reference and by the program: frees; canon; the same. -/
import Derived.Test.YtlhniagacegbeaaGreatDoorMBase
namespace Go.Proofs.YtlhniagacegbeaaGreatDoor.P
set_option linter.unusedVariables false
set_option linter.unusedSimpArgs false
open Go.RowKit Go.Proofs.YtlhniagacegbeaaGreatDoor.Cat Go.Proofs.YtlhniagacegbeaaGreatDoorW.PrintWords Go.Proofs.YtlhniagacegbeaaGreatDoorW.PrintLast

end Go.Proofs.YtlhniagacegbeaaGreatDoor.P
