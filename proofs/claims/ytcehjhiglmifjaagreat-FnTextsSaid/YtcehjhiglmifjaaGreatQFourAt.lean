/- Parts. -/
import Derived.Test.YtcehjhiglmifjaaGreatQDeedB
import Derived.Test.YtcehjhiglmifjaaGreatQFresh
import Derived.Lib.ConvBytes
import Derived.Lib.AtoiErrMem
set_option linter.all false
set_option maxRecDepth 100000
namespace Go.Proofs.YtcehjhiglmifjaaGreat
open Go.RowKit Go.Sort
