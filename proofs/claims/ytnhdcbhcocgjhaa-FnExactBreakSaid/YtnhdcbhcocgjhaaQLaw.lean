/- Texts for laws: Law, RunAt, Fresh, Slots, Slots2, Room. -/
import Derived.Test.YtnhdcbhcocgjhaaQData
import Derived.Test.YtnhdcbhcocgjhaaQEq
import Derived.Test.YtnhdcbhcocgjhaaQOpen
import Derived.Test.YtnhdcbhcocgjhaaQSz
import Derived.Test.YtnhdcbhcocgjhaaQTo
import Derived.Test.YtnhdcbhcocgjhaaQTy
import Derived.Deep.RegionWith
namespace Go.Proofs.Ytnhdcbhcocgjhaa
open Go.RowKit Go.Sort Go.BigFrame

section
variable {w w' : World} {own : Bool} {d : D} {v : Value} {S : List Nat}
theorem upA (h : Rep w own d v S) (o : Obj) : Rep (w.alloc o) own d v S := Rep.keep d h fun b hb => Below.heap_alloc w o b (Rep.lt d h b hb)
theorem up (h : Rep w own d v S) (hb : Below w.heap.size w w') : Rep w' own d v S := h.below hb (Nat.le_refl _)
theorem upB {w0 : World} (h : Below w0.heap.size w0 w) (o : Obj) : Below w0.heap.size w0 (w.alloc o) := h.alloc h.size o
end
end Go.Proofs.Ytnhdcbhcocgjhaa
namespace Go.Proofs.Ytnhdcbhcocgjhaa
open Go.RowKit Go.Sort Go.BigFrame

end Go.Proofs.Ytnhdcbhcocgjhaa
namespace Go.Proofs.Ytnhdcbhcocgjhaa
open Go.RowKit Go.Sort Go.BigFrame

end Go.Proofs.Ytnhdcbhcocgjhaa
namespace Go.Proofs.Ytnhdcbhcocgjhaa
open Go.RowKit Go.Sort Go.BigFrame

end Go.Proofs.Ytnhdcbhcocgjhaa
namespace Go.Proofs.Ytnhdcbhcocgjhaa
open Go.RowKit Go.Sort Go.BigFrame

end Go.Proofs.Ytnhdcbhcocgjhaa
namespace Go.Proofs.Ytnhdcbhcocgjhaa
open Go.RowKit Go.Sort Go.BigFrame

end Go.Proofs.Ytnhdcbhcocgjhaa
