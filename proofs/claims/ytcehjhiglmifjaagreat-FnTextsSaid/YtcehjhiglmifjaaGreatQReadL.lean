/- Parts. -/
import Derived.Test.YtcehjhiglmifjaaGreatQReadI
import Derived.Test.YtcehjhiglmifjaaGreatQReadS
set_option linter.all false
set_option maxRecDepth 100000
namespace Go.Proofs.YtcehjhiglmifjaaGreat
open Go.RowKit Go.Sort
theorem jav (t:ByteArray) (ht:t.size<=1048576):jZ Tryz.prog 40 [.c (.val (.string t))] (.tup [(true,jb (jko t).1),(false,[.val (.bool (jko t).2)])]):=by
 rw [<-jpx];exact jk0 t ht
