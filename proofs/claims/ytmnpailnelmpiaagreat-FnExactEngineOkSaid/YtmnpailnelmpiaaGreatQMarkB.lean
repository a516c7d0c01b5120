/- Texts for laws: MarkB. -/
import Derived.Test.YtmnpailnelmpiaaGreatQLaw
namespace Go.Proofs.YtmnpailnelmpiaaGreat
open Go.RowKit Go.Sort Go.BigFrame

end Go.Proofs.YtmnpailnelmpiaaGreat
namespace Go.Proofs.YtmnpailnelmpiaaGreat
open Go.RowKit Go.Sort Go.BigFrame

def c4 (l : List En) : Nat := 4 * l.length
end Go.Proofs.YtmnpailnelmpiaaGreat
namespace Go.Proofs.YtmnpailnelmpiaaGreat
open Go.RowKit Go.Sort Go.BigFrame

end Go.Proofs.YtmnpailnelmpiaaGreat
