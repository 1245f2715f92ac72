/- Variables in the order in which they come first; places with variables renumbered so; two terms that come from each other are one but for numbers. Plain Lean, no program. -/
import Derived.Test.YtlhniagacegbeaaGreatDoorMOk
namespace Go.Proofs.YtlhniagacegbeaaGreatDoor.Cat
set_option linter.unusedVariables false
set_option linter.unusedSimpArgs false

end Go.Proofs.YtlhniagacegbeaaGreatDoor.Cat
