/- Parts. -/
import Derived.Test.YtcehjhiglmifjaaGreatQReadY
set_option linter.all false
set_option maxRecDepth 100000
namespace Go.Proofs.YtcehjhiglmifjaaGreat
open Go.RowKit Go.Sort
theorem jC8 (l:List En) (a b c d:Int):D.sl 4 tEn (l.flatMap jj++[.val (.int .i64 a),.val (.int .i64 b),.val (.int .i64 c),.val (.int .i64 d)])=jf (l++[⟨a,b,c,d⟩]):=jvl l ⟨a,b,c,d⟩
