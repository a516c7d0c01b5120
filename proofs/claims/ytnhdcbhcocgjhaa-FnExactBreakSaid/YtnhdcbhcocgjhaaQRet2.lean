/- Texts for laws: Ret2, RunNew. -/
import Derived.Test.YtnhdcbhcocgjhaaQCopyY
import Derived.Test.YtnhdcbhcocgjhaaQHole
import Derived.Test.YtnhdcbhcocgjhaaQYardB
set_option linter.unusedSimpArgs false
set_option linter.unusedVariables false
set_option maxRecDepth 100000
namespace Go.Proofs.Ytnhdcbhcocgjhaa
open Go.RowKit Go.Sort
end Go.Proofs.Ytnhdcbhcocgjhaa
set_option linter.unusedSimpArgs false
set_option linter.unusedVariables false
set_option maxRecDepth 100000
namespace Go.Proofs.Ytnhdcbhcocgjhaa
open Go.RowKit Go.Sort
end Go.Proofs.Ytnhdcbhcocgjhaa
