/- Variables in the order in which they come first; places with variables renumbered so; two terms that come from each other are one but for numbers. Plain Lean, no program. -/
import Derived.Test.YtibencknfheplaaDoorMOk
namespace Go.Proofs.YtibencknfheplaaDoor.Cat
set_option linter.unusedVariables false
set_option linter.unusedSimpArgs false

end Go.Proofs.YtibencknfheplaaDoor.Cat
