/- Parts. -/
import Derived.Test.YtcehjhiglmifjaaGreatQNumY
set_option linter.all false
set_option maxRecDepth 100000
namespace Go.Proofs.YtcehjhiglmifjaaGreat
open Go.RowKit Go.Sort
theorem jBI (l:List Tk) (a b c d:Int):D.sl 4 tTk (l.flatMap jz++[.val (.int .i64 a),.val (.int .i64 b),.val (.int .i64 c),.val (.int .i64 d)])=ju (l++[⟨a,b,c,d⟩]):=jvk l ⟨a,b,c,d⟩
