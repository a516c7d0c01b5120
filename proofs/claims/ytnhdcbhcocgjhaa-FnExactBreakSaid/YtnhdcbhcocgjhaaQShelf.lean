/- Texts for laws: Shelf, EqR, PlanF. -/
import Derived.Test.YtnhdcbhcocgjhaaQAb
import Derived.Test.YtnhdcbhcocgjhaaQRunP
import Derived.Test.YtnhdcbhcocgjhaaQW
import Derived.Test.YtnhdcbhcocgjhaaProg
import Derived.Laws.StructEq
set_option linter.unusedSimpArgs false
set_option linter.unusedVariables false
set_option maxRecDepth 100000
namespace Go.Proofs.Ytnhdcbhcocgjhaa
open Go.RowKit Go.Sort
theorem byte_ {v : Nat} (h : v < 256) : D.val (.int .u8 (IntKind.u8.wrap (v : Int))) = byteVal (UInt8.ofNat v) := by
  have : IntKind.u8.wrap (v : Int) = v := IntWalk.u8_in _ (by omega)
  rw [this]
  simp [byteVal, Nat.mod_eq_of_lt h]
end Go.Proofs.Ytnhdcbhcocgjhaa
set_option linter.unusedSimpArgs false
set_option linter.unusedVariables false
namespace Go.Proofs.Ytnhdcbhcocgjhaa
open Go.RowKit Go.Sort
end Go.Proofs.Ytnhdcbhcocgjhaa
set_option linter.unusedSimpArgs false
set_option linter.unusedVariables false
set_option maxRecDepth 100000
namespace Go.Proofs.Ytnhdcbhcocgjhaa
open Go.RowKit Go.Sort
end Go.Proofs.Ytnhdcbhcocgjhaa
set_option linter.unusedSimpArgs false
set_option linter.unusedVariables false
set_option maxRecDepth 100000
namespace Go.Proofs.Ytnhdcbhcocgjhaa
open Go.RowKit Go.Sort
end Go.Proofs.Ytnhdcbhcocgjhaa
