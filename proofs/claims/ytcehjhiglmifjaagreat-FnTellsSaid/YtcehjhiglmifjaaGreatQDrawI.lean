/- Parts. -/
import Derived.Test.YtcehjhiglmifjaaGreatQDrawB
set_option linter.all false
set_option maxRecDepth 100000
namespace Go.Proofs.YtcehjhiglmifjaaGreat
open Go.RowKit Go.Sort
noncomputable def dY (c:List UInt8):Yd:=(jke c (jlc c)).1
theorem dY_I (c:List UInt8):YdI (dY c)/\(dY c).seq<=100000:=by
 have s1:=jq (c:=c) (n:=26) (s:=jlc c) (aNE _);have x1:=jN c (n:=26) (jlc c) (by omega)
 have h:=jnp (c:=c) (jo c 26 (jlc c)).1.toNat 0 (.start s1);refine ⟨h.yd,?_⟩;have:=h.seq;simp only [dY,jke];omega
theorem jC2 (c:List UInt8):idsLe (dY c):=jma c _ (λr hr=>by simp [newYd] at hr)
