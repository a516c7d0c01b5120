/- Texts for laws: OverP. -/
import Derived.Test.YtnhdcbhcocgjhaaQAb
import Derived.Test.YtnhdcbhcocgjhaaQData
set_option linter.unusedSimpArgs false
set_option linter.unusedVariables false
namespace Go.Proofs.Ytnhdcbhcocgjhaa
open Go.RowKit Go.Sort
end Go.Proofs.Ytnhdcbhcocgjhaa
