/- Texts for laws: Law. -/
import Derived.Test.YtmnpailnelmpiaaGreatQEq
import Derived.Test.YtmnpailnelmpiaaGreatQOpen
import Derived.Test.YtmnpailnelmpiaaGreatQSz
import Derived.Test.YtmnpailnelmpiaaGreatQTo
import Derived.Deep.RegionWith
namespace Go.Proofs.YtmnpailnelmpiaaGreat
open Go.RowKit Go.Sort Go.BigFrame

/-- A call that returns an int, the int said anew. -/
theorem ci {P : Program} {f : FuncId} {args : Array Value} {w : World} {b b' : Int} (h : Calls P f args w fun e w' => e = .returned (.int .i64 b) ∧ Below w.heap.size w w') (hb : b = b') : Calls P f args w fun e w' => e = .returned (.int .i64 b') ∧ Below w.heap.size w w' := by subst hb; exact h
section
variable {w w' : World} {own : Bool} {d : D} {v : Value} {S : List Nat}
theorem upA (h : Rep w own d v S) (o : Obj) : Rep (w.alloc o) own d v S := Rep.keep d h fun b hb => Below.heap_alloc w o b (Rep.lt d h b hb)
theorem up (h : Rep w own d v S) (hb : Below w.heap.size w w') : Rep w' own d v S := h.below hb (Nat.le_refl _)
theorem upB {w0 : World} (h : Below w0.heap.size w0 w) (o : Obj) : Below w0.heap.size w0 (w.alloc o) := h.alloc h.size o
end
end Go.Proofs.YtmnpailnelmpiaaGreat
