/- Variables of places, by the reference and by the program: frees; canon; the same. -/
import Derived.Test.YtibencknfheplaaGreatDoorMBase
namespace Go.Proofs.YtibencknfheplaaGreatDoor.P
set_option linter.unusedVariables false
set_option linter.unusedSimpArgs false
open Go.RowKit Go.Proofs.YtibencknfheplaaGreatDoor.Cat Go.Proofs.YtibencknfheplaaGreatDoorW.PrintWords Go.Proofs.YtibencknfheplaaGreatDoorW.PrintLast

end Go.Proofs.YtibencknfheplaaGreatDoor.P
