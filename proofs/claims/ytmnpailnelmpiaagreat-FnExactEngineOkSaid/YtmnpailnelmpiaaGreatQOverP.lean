/- Texts for laws: OverP. -/
import Derived.Test.YtmnpailnelmpiaaGreatQAb
import Derived.Test.YtmnpailnelmpiaaGreatQData
set_option linter.unusedSimpArgs false
set_option linter.unusedVariables false
namespace Go.Proofs.YtmnpailnelmpiaaGreat
open Go.RowKit Go.Sort
theorem runs_le {y : Yd} (h : totYd y ≤ 2000000) : y.runs.length ≤ 2000000 := by
  simp only [totYd, totRns] at h; omega
theorem shelf_le {y : Yd} (h : totYd y ≤ 2000000) : y.shelf.length ≤ 2000000 := by
  simp only [totYd, totSh] at h; omega
theorem flat_le (l : List (List En)) : l.flatten.length ≤ totSh l := by
  induction l with
  | nil => simp
  | cons x l ih =>
    simp only [List.flatten_cons, List.length_append, totSh, List.length_cons, tsum, List.map_cons, List.sum_cons, totEnS] at ih ⊢
    omega
theorem flat_take {l : List (List En)} {k : Nat} {x : List En} (h : l[k]? = some x) : (l.take (k + 1)).flatten = (l.take k).flatten ++ x := by
  rw [List.take_add_one, h]; simp
theorem flat_take_le (l : List (List En)) (k : Nat) : (l.take k).flatten.length ≤ l.flatten.length := by
  have h : l.flatten = (l.take k).flatten ++ (l.drop k).flatten := by rw [← List.flatten_append, List.take_append_drop]
  rw [h, List.length_append]; omega
theorem shelf_flat {y : Yd} (h : totYd y ≤ 2000000) : y.shelf.flatten.length ≤ 2000000 := by
  have := flat_le y.shelf
  simp only [totYd] at h; omega
end Go.Proofs.YtmnpailnelmpiaaGreat
