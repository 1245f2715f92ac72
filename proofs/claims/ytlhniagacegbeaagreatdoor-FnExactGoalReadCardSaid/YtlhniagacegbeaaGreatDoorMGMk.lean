/- Marks in a goal's rows, and what is held there. -/
import Derived.Test.YtlhniagacegbeaaGreatDoorMLaw
import Derived.Test.YtlhniagacegbeaaGreatDoorMGoal
import Derived.Test.YtlhniagacegbeaaGreatDoorP16
import Derived.Test.YtlhniagacegbeaaGreatDoorP16
namespace Go.Proofs.YtlhniagacegbeaaGreatDoor.P
set_option linter.unusedVariables false
set_option linter.unusedSimpArgs false
open Go.RowKit Go.Proofs.YtlhniagacegbeaaGreatDoor.Cat Go.Proofs.YtlhniagacegbeaaGreatDoorW.PrintWords Go.Proofs.YtlhniagacegbeaaGreatDoorW.PrintLast
theorem markG_ev (k:Int) (a b c:List Cell) (m:Int) (h0:0≤m) (h:m+3 * a.length+3 * b.length+3 * c.length≤900000000) :
  Ev (fun n=>laws_markPrgGoal.f n k a b c m) (m+3 * a.length+3 * b.length+3 * c.length,marked m a.length,marked (m+3 * a.length) b.length,marked (m+3 * a.length+3 * b.length) c.length):=by
 unfold laws_markPrgGoal.f
 exact Ev.bind (mark_ev a m h0 (by omega)) (Ev.bind (mark_ev b _ (by show 0≤m+_;omega) (by show m+_+_≤_;omega)) (Ev.bind (mark_ev c _ (by show 0≤m+_+_;omega) (by show m+_+_+_≤_;omega)) (Ev.now _)))
theorem heldG_ev (k:Int) (x y z:Nat) (m:Int) (h0:0≤m) (h:m+3 * x+3 * y+3 * z≤900000000) :
  Ev (fun n=>laws_heldPrgGoal.f n k (marked m x) (marked (m+3 * x) y) (marked (m+3 * x+3 * y) z) m) (m+3 * x+3 * y+3 * z):=by
 unfold laws_heldPrgGoal.f
 exact Ev.bind (held_ev m x h0 (by omega)) (Ev.ifn (by omega) (Ev.bind (held_ev _ y (by omega) (by omega)) (Ev.ifn (by omega) (Ev.bind (held_ev _ z (by omega) (by omega)) (Ev.ifn (by omega) (Ev.now _))))))
end Go.Proofs.YtlhniagacegbeaaGreatDoor.P
