/- Small words for the laws' own walks. -/
import Derived.Test.YtbplebgnkhmemaaGreatSz
import Derived.Test.YtbplebgnkhmemaaGreatTo
import Derived.Test.YtbplebgnkhmemaaGreatEq
import Derived.Test.YtbplebgnkhmemaaGreatOpen
import Derived.Deep.RegionWith
namespace Go.Proofs.YtbplebgnkhmemaaGreat
open Go.RowKit Go.Sort Go.BigFrame

/-- A call that returns an int, the int said anew. -/
theorem ci {P : Program} {f : FuncId} {args : Array Value} {w : World} {b b' : Int} (h : Calls P f args w fun e w' => e = .returned (.int .i64 b) ∧ Below w.heap.size w w') (hb : b = b') : Calls P f args w fun e w' => e = .returned (.int .i64 b') ∧ Below w.heap.size w w' := by subst hb; exact h
section
variable {w w' : World} {own : Bool} {d : D} {v : Value} {S : List Nat}
theorem upA (h : Rep w own d v S) (o : Obj) : Rep (w.alloc o) own d v S := Rep.keep d h fun b hb => Below.heap_alloc w o b (Rep.lt d h b hb)
theorem up (h : Rep w own d v S) (hb : Below w.heap.size w w') : Rep w' own d v S := h.below hb (Nat.le_refl _)
theorem upD (h : Rep w own d v S) : Rep w.drew own d v S := Rep.keep d h fun _ _ => rfl
theorem upBD {w0 : World} (h : Below w0.heap.size w0 w) : Below w0.heap.size w0 w.drew := h.drew
theorem unD (h : Below w.drew.heap.size w.drew w') : Below w.heap.size w w' := ⟨h.os, h.tape, h.output, h.size, h.block⟩
theorem upB {w0 : World} (h : Below w0.heap.size w0 w) (o : Obj) : Below w0.heap.size w0 (w.alloc o) := h.alloc h.size o
end
end Go.Proofs.YtbplebgnkhmemaaGreat
