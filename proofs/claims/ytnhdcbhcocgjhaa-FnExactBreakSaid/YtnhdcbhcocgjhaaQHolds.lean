/- Texts for laws: Holds, Told, TurnP. -/
import Derived.Test.YtnhdcbhcocgjhaaQLaw
import Derived.Test.YtnhdcbhcocgjhaaQRet2
import Derived.Test.YtnhdcbhcocgjhaaQSub
import Derived.Test.YtnhdcbhcocgjhaaQYardB
namespace Go.Proofs.Ytnhdcbhcocgjhaa
open Go.RowKit Go.Sort Go.BigFrame

end Go.Proofs.Ytnhdcbhcocgjhaa
set_option linter.unusedSimpArgs false
set_option linter.unusedVariables false
set_option maxRecDepth 100000
namespace Go.Proofs.Ytnhdcbhcocgjhaa
open Go.RowKit Go.Sort
end Go.Proofs.Ytnhdcbhcocgjhaa
set_option linter.unusedSimpArgs false
set_option linter.unusedVariables false
set_option maxRecDepth 100000
namespace Go.Proofs.Ytnhdcbhcocgjhaa
open Go.RowKit Go.Sort
end Go.Proofs.Ytnhdcbhcocgjhaa
