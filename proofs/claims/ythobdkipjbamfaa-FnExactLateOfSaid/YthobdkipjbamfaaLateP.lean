/- LateOf: what it computes, step by step. -/
import Derived.Test.YthobdkipjbamfaaIss
import Derived.Test.YthobdkipjbamfaaMarkI
import Derived.Test.YthobdkipjbamfaaOverP
namespace Go.Proofs.Ythobdkipjbamfaa
open Go.RowKit Go.Sort
theorem lateR_snoc (now : Int) (r : Rn) (x : Tk) : ∀ (ts : List Tk) (k : Nat), lateR now r k (ts ++ [x]) = lateR now r k ts ++ (lateT now r.id x (k + ts.length)).toList
  | [], k => by simp [lateR]
  | t :: ts, k => by
    rw [List.cons_append, lateR, lateR, lateR_snoc now r x ts (k + 1), List.append_assoc]
    congr 3
    simp only [List.length_cons]; congr 1; omega
theorem lateR_take {now : Int} {r : Rn} {ts : List Tk} {k : Nat} {x : Tk} (h : ts[k]? = some x) : lateR now r 0 (ts.take (k + 1)) = lateR now r 0 (ts.take k) ++ (lateT now r.id x k).toList := by
  have hk : k < ts.length := (List.getElem?_eq_some_iff.1 h).1
  rw [List.take_add_one, h]
  have := lateR_snoc now r x (ts.take k) 0
  rw [List.length_take, Nat.min_eq_left (by omega), Nat.zero_add] at this
  exact this
theorem lateR_le (now : Int) (r : Rn) : ∀ (ts : List Tk) (k : Nat), (lateR now r k ts).length ≤ ts.length
  | [], k => by simp [lateR]
  | t :: ts, k => by
    have := lateR_le now r ts (k + 1)
    have h2 : (lateT now r.id t k).toList.length ≤ 1 := by
      unfold lateT; split <;> simp
    rw [lateR, List.length_append, List.length_cons]; omega
def lateF (now : Int) (r : Rn) : List (List Int) := lateR now r 0 r.tasks
theorem lateL_eq (y : Yd) : lateL y = y.runs.flatMap (lateF y.now) := rfl
theorem late_take {now : Int} {l : List Rn} {k : Nat} {r : Rn} (h : l[k]? = some r) : (l.take (k + 1)).flatMap (lateF now) = (l.take k).flatMap (lateF now) ++ lateF now r := by
  rw [List.take_add_one, h]; simp
theorem late_le (now : Int) (l : List Rn) : (l.flatMap (lateF now)).length ≤ tsum totRn l := by
  induction l with
  | nil => simp
  | cons r l ih =>
    have := lateR_le now r r.tasks 0
    simp only [List.flatMap_cons, List.length_append, lateF, tsum, List.map_cons, List.sum_cons, totRn] at ih ⊢
    omega
theorem late_len (y : Yd) (h : totYd y ≤ 2000000) : (lateL y).length ≤ 2000000 := by
  have := late_le y.now y.runs
  rw [lateL_eq]
  simp only [totYd, totRns] at h; omega
theorem c1i_lt {l : List (List Int)} (h : tsum c1i l ≤ 1000000000) : ∀ x ∈ l, x.length < 4611686018427387904 := by
  intro x hx
  have : c1i x ≤ tsum c1i l := by
    induction l with
    | nil => simp at hx
    | cons a l ih =>
      simp only [tsum, List.map_cons, List.sum_cons] at h ih ⊢
      rcases List.mem_cons.1 hx with rfl | hx
      · omega
      · have := ih (by omega) hx; omega
  simp only [c1i] at this h; omega
theorem lateR_three (now : Int) (r : Rn) : ∀ (ts : List Tk) (k : Nat), ∀ x ∈ lateR now r k ts, x.length = 3
  | [], _, _, h => by simp [lateR] at h
  | t :: ts, k, x, h => by
    rcases List.mem_append.1 h with h | h
    · unfold lateT at h
      split at h
      · simp at h; subst h; rfl
      · simp at h
    · exact lateR_three now r ts _ x h
theorem late_tot (y : Yd) (h : totYd y ≤ 2000000) : tsum c1i (lateL y) ≤ 6000000 := by
  have h3 : ∀ x ∈ lateL y, x.length = 3 := fun x hx => by
    obtain ⟨r, _, hr⟩ := List.mem_flatMap.1 hx
    exact lateR_three _ _ _ _ x hr
  have hl := late_len y h
  have : ∀ l : List (List Int), (∀ x ∈ l, x.length = 3) → tsum c1i l = 3 * l.length := by
    intro l
    induction l with
    | nil => intro; rfl
    | cons a l ih =>
      intro h
      have h1 := h a (by simp)
      have h2 := ih (fun x hx => h x (by simp [hx]))
      simp only [tsum, List.map_cons, List.sum_cons, List.length_cons, c1i] at h2 ⊢
      omega
  rw [this _ h3]; omega
end Go.Proofs.Ythobdkipjbamfaa
