/- Texts for laws: Bnd. -/
import Derived.Test.YtmnpailnelmpiaaGreatQMarkB
namespace Go.Proofs.YtmnpailnelmpiaaGreat
end Go.Proofs.YtmnpailnelmpiaaGreat
