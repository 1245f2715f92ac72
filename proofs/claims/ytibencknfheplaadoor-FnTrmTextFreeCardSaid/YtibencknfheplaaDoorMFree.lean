/- Variables of places, by the reference and by the program: frees; canon; the same. -/
import Derived.Test.YtibencknfheplaaDoorMBase
namespace Go.Proofs.YtibencknfheplaaDoor.P
set_option linter.unusedVariables false
set_option linter.unusedSimpArgs false
open Go.RowKit Go.Proofs.YtibencknfheplaaDoor.Cat Go.Proofs.YtibencknfheplaaDoorW.PrintWords Go.Proofs.YtibencknfheplaaDoorW.PrintLast

end Go.Proofs.YtibencknfheplaaDoor.P
