/- What the program's get, walk, fill, holds, bind and unify answer, in the words of the plain theory. -/
import Derived.Test.YtlaicnoikeieeaaDoorMFree
import Derived.Test.YtlaicnoikeieeaaDoorMArg
import Derived.Test.YtlaicnoikeieeaaDoorMSubOk
import Derived.Test.YtlaicnoikeieeaaDoorMLeads
import Derived.Test.YtlaicnoikeieeaaDoorP8
import Derived.Test.YtlaicnoikeieeaaDoorP8
import Derived.Test.YtlaicnoikeieeaaDoorP9
namespace Go.Proofs.YtlaicnoikeieeaaDoor.P
set_option linter.unusedVariables false
set_option linter.unusedSimpArgs false
open Go.RowKit Go.Proofs.YtlaicnoikeieeaaDoor.Cat Go.Proofs.YtlaicnoikeieeaaDoorW.PrintWords Go.Proofs.YtlaicnoikeieeaaDoorW.PrintLast

theorem term_pos {s:List Bind} (hs:Cat.Good s) {v:Int} {t:List Cell} (h:Cat.get s v=some t):t≠[]:=(hs.get h).1.pos

theorem good_len {s:List Bind} (hs:Cat.Good s):s.length≤100000:=by
 have h:=nodup_len (U:=(List.range 100000).map Int.ofNat) hs.nodup (fun x hx=>by
  obtain ⟨b,hb,rfl⟩:=List.mem_map.1 hx
  have:=hs.range b hb
  refine List.mem_map.2 ⟨b.f0.toNat,List.mem_range.2 (by omega),?_⟩
  show ((b.f0.toNat:Nat):Int)=b.f0
  omega)
 simpa using h

end Go.Proofs.YtlaicnoikeieeaaDoor.P
