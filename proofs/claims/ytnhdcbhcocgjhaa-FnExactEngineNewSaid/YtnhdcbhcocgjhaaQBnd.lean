/- Texts for laws: Bnd. -/
import Derived.Test.YtnhdcbhcocgjhaaQMarkB
namespace Go.Proofs.Ytnhdcbhcocgjhaa
@[go_sem] theorem mkYd_now (y : Yd) (k : Int) : (mkYd y k).now = y.now := rfl
@[go_sem] theorem mkYd_seq (y : Yd) (k : Int) : (mkYd y k).seq = y.seq := rfl
end Go.Proofs.Ytnhdcbhcocgjhaa
