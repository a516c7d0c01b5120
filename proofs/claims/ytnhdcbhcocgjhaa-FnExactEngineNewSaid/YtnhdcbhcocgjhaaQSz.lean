/- Texts for laws: Sz. -/
import Derived.Test.YtnhdcbhcocgjhaaQTy
namespace Go.Proofs.Ytnhdcbhcocgjhaa
open Go.RowKit Go.Sort Go.BigFrame

end Go.Proofs.Ytnhdcbhcocgjhaa
