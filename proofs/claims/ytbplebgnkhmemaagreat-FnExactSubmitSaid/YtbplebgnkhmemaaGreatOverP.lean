/- OverOf, ReadyOf: what they compute. -/
import Derived.Test.YtbplebgnkhmemaaGreatAb
import Derived.Test.YtbplebgnkhmemaaGreatData
set_option linter.unusedSimpArgs false
set_option linter.unusedVariables false
namespace Go.Proofs.YtbplebgnkhmemaaGreat
open Go.RowKit Go.Sort
/-- The runs that are over. -/
def overR (l : List Rn) : List Int := (l.filter fun r => r.state != 1).map (·.id)
def overL (y : Yd) : List Int := overR y.runs
theorem overR_take {l : List Rn} {k : Nat} {x : Rn} (h : l[k]? = some x) : overR (l.take (k + 1)) = if (x.state != 1) = true then overR (l.take k) ++ [x.id] else overR (l.take k) := by
  rw [List.take_add_one, h]
  unfold overR
  cases hx : x.state != 1 <;> simp [List.filter_append, hx]
theorem overR_le (l : List Rn) : (overR l).length ≤ l.length := by
  unfold overR
  rw [List.length_map]; exact List.length_filter_le _ _
theorem runs_le {y : Yd} (h : totYd y ≤ 2000000) : y.runs.length ≤ 2000000 := by
  simp only [totYd, totRns] at h; omega
theorem shelf_le {y : Yd} (h : totYd y ≤ 2000000) : y.shelf.length ≤ 2000000 := by
  simp only [totYd, totSh] at h; omega
theorem over_le (y : Yd) (h : totYd y ≤ 2000000) : (overL y).length ≤ 2000000 := Nat.le_trans (overR_le _) (runs_le h)
theorem flat_le (l : List (List En)) : l.flatten.length ≤ totSh l := by
  induction l with
  | nil => simp
  | cons x l ih =>
    simp only [List.flatten_cons, List.length_append, totSh, List.length_cons, tsum, List.map_cons, List.sum_cons, totEnS] at ih ⊢
    omega
theorem flat_take {l : List (List En)} {k : Nat} {x : List En} (h : l[k]? = some x) : (l.take (k + 1)).flatten = (l.take k).flatten ++ x := by
  rw [List.take_add_one, h]; simp
theorem flat_take_le (l : List (List En)) (k : Nat) : (l.take k).flatten.length ≤ l.flatten.length := by
  have h : l.flatten = (l.take k).flatten ++ (l.drop k).flatten := by rw [← List.flatten_append, List.take_append_drop]
  rw [h, List.length_append]; omega
theorem shelf_flat {y : Yd} (h : totYd y ≤ 2000000) : y.shelf.flatten.length ≤ 2000000 := by
  have := flat_le y.shelf
  simp only [totYd] at h; omega
/-- What stands ready, in order. -/
def readyL (y : Yd) : List En := y.shelf.flatten.filter (fresh y)
theorem ready_le (y : Yd) (h : totYd y ≤ 2000000) : (readyL y).length ≤ 2000000 := Nat.le_trans (List.length_filter_le _ _) (shelf_flat h)
theorem filter_take {α : Type} {f : α → Bool} {l : List α} {k : Nat} {x : α} (h : l[k]? = some x) : (l.take (k + 1)).filter f = if f x = true then (l.take k).filter f ++ [x] else (l.take k).filter f := by
  rw [List.take_add_one, h]
  cases hx : f x <;> simp [List.filter_append, hx]
end Go.Proofs.YtbplebgnkhmemaaGreat
