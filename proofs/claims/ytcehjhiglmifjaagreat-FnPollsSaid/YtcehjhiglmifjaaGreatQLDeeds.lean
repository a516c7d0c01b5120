/- Parts. -/
import Derived.Test.YtcehjhiglmifjaaGreatQDeedsP
import Derived.Test.YtcehjhiglmifjaaGreatQDrawE
import Derived.Test.YtcehjhiglmifjaaGreatQLYardsN
import Derived.Test.YtcehjhiglmifjaaGreatQSameR
set_option linter.all false
set_option maxRecDepth 100000
namespace Go.Proofs.YtcehjhiglmifjaaGreat
open Go.RowKit Go.Sort
abbrev RpB (b:Nat) (r:Rp):Ob:=.box b 32 [.a (.v (.int .i64 r.code)),.a (.v (.int .i64 r.run)),.a (.v (.int .i64 r.aOK)),.a (.v (.int .i64 r.tri))]
