/- Texts for laws: Slots, Slots2, Room. -/
import Derived.Test.YtnhdcbhcocgjhaaQRunAt
namespace Go.Proofs.Ytnhdcbhcocgjhaa
open Go.RowKit Go.Sort Go.BigFrame

end Go.Proofs.Ytnhdcbhcocgjhaa
namespace Go.Proofs.Ytnhdcbhcocgjhaa
open Go.RowKit Go.Sort Go.BigFrame

end Go.Proofs.Ytnhdcbhcocgjhaa
namespace Go.Proofs.Ytnhdcbhcocgjhaa
open Go.RowKit Go.Sort Go.BigFrame

end Go.Proofs.Ytnhdcbhcocgjhaa
