/- Texts for laws: EqR. -/
import Derived.Test.YtnhdcbhcocgjhaaQAb
import Derived.Test.YtnhdcbhcocgjhaaProg
import Derived.Laws.StructEq
set_option linter.unusedSimpArgs false
set_option linter.unusedVariables false
namespace Go.Proofs.Ytnhdcbhcocgjhaa
open Go.RowKit Go.Sort
end Go.Proofs.Ytnhdcbhcocgjhaa
