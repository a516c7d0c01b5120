/- Texts for laws: W. -/
import Derived.Test.YtnhdcbhcocgjhaaQAb
set_option linter.unusedVariables false
set_option linter.unusedSimpArgs false
namespace Go.Proofs.Ytnhdcbhcocgjhaa
open Go.RowKit Go.Sort
attribute [go_sem] Nat.zero_le Nat.sub_zero List.drop_zero
end Go.Proofs.Ytnhdcbhcocgjhaa
