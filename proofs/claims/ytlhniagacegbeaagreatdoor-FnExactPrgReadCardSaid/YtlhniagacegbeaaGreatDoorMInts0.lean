/- What an argument's form says of its size. -/
import Derived.Test.YtlhniagacegbeaaGreatDoorMLaw
namespace Go.Proofs.YtlhniagacegbeaaGreatDoor.P
open Go.RowKit Go.Proofs.YtlhniagacegbeaaGreatDoor.Cat Go.Proofs.YtlhniagacegbeaaGreatDoorW.PrintWords
end Go.Proofs.YtlhniagacegbeaaGreatDoor.P
