/- Parts. -/
import Derived.Test.YtcehjhiglmifjaaGreatQVarAt
set_option linter.all false
namespace Go.Proofs.YtcehjhiglmifjaaGreat
open Go.RowKit Go.Sort
