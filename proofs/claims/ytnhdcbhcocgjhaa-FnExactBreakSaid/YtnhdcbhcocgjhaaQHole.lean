/- Texts for laws: Hole, ReadyOf, Insert, Swept. -/
import Derived.Test.YtnhdcbhcocgjhaaQAb
import Derived.Test.YtnhdcbhcocgjhaaQCopyY
import Derived.Test.YtnhdcbhcocgjhaaQE8
import Derived.Test.YtnhdcbhcocgjhaaQLaw
import Derived.Test.YtnhdcbhcocgjhaaQOverP
import Derived.Test.YtnhdcbhcocgjhaaQRunD
import Derived.Test.YtnhdcbhcocgjhaaQTy
import Derived.Test.YtnhdcbhcocgjhaaProg
import Derived.Shelf.Spec.SlicesInsertGrow
import Derived.Lib.Overlaps
set_option linter.unusedSimpArgs false
set_option linter.unusedVariables false
namespace Go.Proofs.Ytnhdcbhcocgjhaa
open Go.RowKit Go.Sort
end Go.Proofs.Ytnhdcbhcocgjhaa
set_option linter.unusedSimpArgs false
set_option linter.unusedVariables false
set_option maxRecDepth 100000
namespace Go.Proofs.Ytnhdcbhcocgjhaa
open Go.RowKit Go.Sort
end Go.Proofs.Ytnhdcbhcocgjhaa
set_option linter.unusedSimpArgs false
set_option linter.unusedVariables false
namespace Go.Proofs.Ytnhdcbhcocgjhaa
open Go.RowKit Go.Sort Go.Lib
end Go.Proofs.Ytnhdcbhcocgjhaa
set_option linter.unusedSimpArgs false
set_option linter.unusedVariables false
set_option maxRecDepth 100000
namespace Go.Proofs.Ytnhdcbhcocgjhaa
open Go.RowKit Go.Sort
end Go.Proofs.Ytnhdcbhcocgjhaa
