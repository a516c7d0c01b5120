/- Parts. -/
import Derived.Test.YtcehjhiglmifjaaGreatQFourAt
import Derived.Test.YtcehjhiglmifjaaGreatQMarkTx
import Derived.Test.YtcehjhiglmifjaaGreatQReadL
set_option linter.all false
set_option maxRecDepth 100000
namespace Go.Proofs.YtcehjhiglmifjaaGreat
open Go.RowKit Go.Sort
theorem jzv {t:ByteArray} {y:Yd} (h:jjq t y):qh y=t/\t.size≠0:=by
 have h1:qh y=t:=by rw [qh,if_pos (qX h.ok)];exact h.txt.symm
 refine ⟨h1,?_⟩;rw [h.txt,jhX,zM,aRE,aRE,zN];obtain ⟨v,e1,e2,e3⟩:=jd7 (h.nums y.now (by simp [zM]))
 rw [e3,aOU];have:=aRP.2 (jc2 v);omega
