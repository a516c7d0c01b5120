/- Texts for laws: RunOk. -/
import Derived.Test.YtnhdcbhcocgjhaaQRunP
import Derived.Test.YtnhdcbhcocgjhaaQShelf
import Derived.Test.YtnhdcbhcocgjhaaQSort
set_option linter.unusedSimpArgs false
set_option linter.unusedVariables false
set_option maxRecDepth 100000
namespace Go.Proofs.Ytnhdcbhcocgjhaa
open Go.RowKit Go.Sort
end Go.Proofs.Ytnhdcbhcocgjhaa
set_option linter.unusedSimpArgs false
set_option linter.unusedVariables false
set_option maxRecDepth 100000
namespace Go.Proofs.Ytnhdcbhcocgjhaa
open Go.RowKit Go.Sort
end Go.Proofs.Ytnhdcbhcocgjhaa
set_option linter.unusedSimpArgs false
set_option linter.unusedVariables false
set_option maxRecDepth 100000
namespace Go.Proofs.Ytnhdcbhcocgjhaa
open Go.RowKit Go.Sort
end Go.Proofs.Ytnhdcbhcocgjhaa
set_option linter.unusedSimpArgs false
set_option linter.unusedVariables false
set_option maxRecDepth 100000
namespace Go.Proofs.Ytnhdcbhcocgjhaa
open Go.RowKit Go.Sort
end Go.Proofs.Ytnhdcbhcocgjhaa
set_option linter.unusedSimpArgs false
set_option linter.unusedVariables false
set_option maxRecDepth 100000
namespace Go.Proofs.Ytnhdcbhcocgjhaa
open Go.RowKit Go.Sort
end Go.Proofs.Ytnhdcbhcocgjhaa
set_option linter.unusedSimpArgs false
set_option linter.unusedVariables false
set_option maxRecDepth 100000
namespace Go.Proofs.Ytnhdcbhcocgjhaa
open Go.RowKit Go.Sort
end Go.Proofs.Ytnhdcbhcocgjhaa
