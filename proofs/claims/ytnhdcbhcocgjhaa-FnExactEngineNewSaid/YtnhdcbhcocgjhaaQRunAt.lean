/- Texts for laws: RunAt, Fresh. -/
import Derived.Test.YtnhdcbhcocgjhaaQData
import Derived.Test.YtnhdcbhcocgjhaaQLaw
import Derived.Test.YtnhdcbhcocgjhaaQTy
namespace Go.Proofs.Ytnhdcbhcocgjhaa
open Go.RowKit Go.Sort Go.BigFrame

end Go.Proofs.Ytnhdcbhcocgjhaa
namespace Go.Proofs.Ytnhdcbhcocgjhaa
open Go.RowKit Go.Sort Go.BigFrame

end Go.Proofs.Ytnhdcbhcocgjhaa
