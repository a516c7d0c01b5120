/- Texts for laws: MarkI. -/
import Derived.Test.YtnhdcbhcocgjhaaGreatQIss
import Derived.Test.YtnhdcbhcocgjhaaGreatQMarkB
namespace Go.Proofs.YtnhdcbhcocgjhaaGreat
open Go.RowKit Go.Sort Go.BigFrame
end Go.Proofs.YtnhdcbhcocgjhaaGreat
