/- Parts. -/
import Derived.Test.YtmnpailnelmpiaaQBound
import Derived.Test.YtmnpailnelmpiaaQReadI
import Derived.Test.YtmnpailnelmpiaaQReadS
set_option linter.unusedSimpArgs false
set_option linter.unusedVariables false
set_option maxRecDepth 100000
namespace Go.Proofs.Ytmnpailnelmpiaa
open Go.RowKit Go.Sort
theorem jo0 {t:ByteArray} (h:(jaf t).2=true):jk3 t (jaf t).1:=by
 unfold jaf at h⊢;split
 ·rename_i hx;exact hx.choose_spec
 ·rename_i hx;rw [dif_neg hx] at h;cases h
theorem jmr (t:ByteArray):kH (jaf t).1≤700:=by
 cases h:(jaf t).2 with
 |true=>exact (jo0 h).ok.small
 |false=>
  unfold jaf at h⊢;split
  ·rename_i hx;rw [dif_pos hx] at h;cases h
  ·decide
theorem jd0 (t:ByteArray) (ht:t.size≤1048576):kg Try.prog 17 [.c (.val (.string t))] (.tup [(true,jd (jaf t).1),(false,[.val (.bool (jaf t).2)])]):=by
 rw [←jns];exact jeZ t ht
theorem jd2 (t:ByteArray) (ht:t.size≤1048576):kg Try.prog 18 [.c (.val (.string t))] (.tup [(true,jd (jaf t).1),(false,[.val (.bool (jaf t).2)])]):=by
 rw [←jnt];exact je3 t ht
end Go.Proofs.Ytmnpailnelmpiaa
