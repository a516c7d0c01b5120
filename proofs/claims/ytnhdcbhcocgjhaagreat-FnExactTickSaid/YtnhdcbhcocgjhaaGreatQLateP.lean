/- Texts for laws: LateP. -/
import Derived.Test.YtnhdcbhcocgjhaaGreatQFresh
import Derived.Test.YtnhdcbhcocgjhaaGreatQIss
import Derived.Test.YtnhdcbhcocgjhaaGreatQMarkI
namespace Go.Proofs.YtnhdcbhcocgjhaaGreat
open Go.RowKit Go.Sort
theorem lateR_snoc (now : Int) (r : Rn) (x : Tk) : ∀ (ts : List Tk) (k : Nat), lateR now r k (ts ++ [x]) = lateR now r k ts ++ (lateT now r.id x (k + ts.length)).toList
  | [], k => by simp [lateR]
  | t :: ts, k => by
    rw [List.cons_append, lateR, lateR, lateR_snoc now r x ts (k + 1), List.append_assoc]
    congr 3
    simp only [List.length_cons]; congr 1; omega
theorem lateR_take {now : Int} {r : Rn} {ts : List Tk} {k : Nat} {x : Tk} (h : ts[k]? = some x) : lateR now r 0 (ts.take (k + 1)) = lateR now r 0 (ts.take k) ++ (lateT now r.id x k).toList := by
  have hk : k < ts.length := (List.getElem?_eq_some_iff.1 h).1
  rw [List.take_add_one, h]
  have := lateR_snoc now r x (ts.take k) 0
  rw [List.length_take, Nat.min_eq_left (by omega), Nat.zero_add] at this
  exact this
theorem lateR_le (now : Int) (r : Rn) : ∀ (ts : List Tk) (k : Nat), (lateR now r k ts).length ≤ ts.length
  | [], k => by simp [lateR]
  | t :: ts, k => by
    have := lateR_le now r ts (k + 1)
    have h2 : (lateT now r.id t k).toList.length ≤ 1 := by
      unfold lateT; split <;> simp
    rw [lateR, List.length_append, List.length_cons]; omega
def lateF (now : Int) (r : Rn) : List (List Int) := lateR now r 0 r.tasks
theorem lateL_eq (y : Yd) : lateL y = y.runs.flatMap (lateF y.now) := rfl
theorem late_take {now : Int} {l : List Rn} {k : Nat} {r : Rn} (h : l[k]? = some r) : (l.take (k + 1)).flatMap (lateF now) = (l.take k).flatMap (lateF now) ++ lateF now r := by
  rw [List.take_add_one, h]; simp
theorem late_le (now : Int) (l : List Rn) : (l.flatMap (lateF now)).length ≤ tsum totRn l := by
  induction l with
  | nil => simp
  | cons r l ih =>
    have := lateR_le now r r.tasks 0
    simp only [List.flatMap_cons, List.length_append, lateF, tsum, List.map_cons, List.sum_cons, totRn] at ih ⊢
    omega
end Go.Proofs.YtnhdcbhcocgjhaaGreat
