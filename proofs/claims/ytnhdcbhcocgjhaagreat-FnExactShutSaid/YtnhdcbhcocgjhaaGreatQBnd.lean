/- Texts for laws: Bnd. -/
import Derived.Test.YtnhdcbhcocgjhaaGreatQMarkB
namespace Go.Proofs.YtnhdcbhcocgjhaaGreat
theorem tsum_mul {α : Type} {c t : α → Nat} {K : Nat} (h : ∀ x, c x ≤ K * t x + K) : ∀ l : List α, tsum c l ≤ K * tsum t l + K * l.length
  | [] => by simp [tsum]
  | x :: l => by
    have h1 := h x
    have h2 := tsum_mul h l
    simp only [tsum, List.map_cons, List.sum_cons, List.length_cons] at h2 ⊢
    rw [Nat.mul_add, Nat.mul_add]
    omega
theorem b_cRn (r : Rn) : cRn r ≤ 16 * totRn r + 16 := by
  simp only [cRn, totRn, totPl]; omega
theorem b_yd (y : Yd) : cYd y ≤ 16 * totYd y := by
  have h1 := tsum_mul (c := c4) (t := totEnS) (K := 16) (fun l => by simp only [c4, totEnS]; omega) y.shelf
  have h2 := tsum_mul b_cRn y.runs
  have h3 : totYd y = (y.shelf.length + tsum totEnS y.shelf) + (y.runs.length + tsum totRn y.runs) := rfl
  have h4 : cYd y = tsum c4 y.shelf + tsum cRn y.runs := rfl
  omega
@[go_sem] theorem mkYd_now (y : Yd) (k : Int) : (mkYd y k).now = y.now := rfl
@[go_sem] theorem mkYd_seq (y : Yd) (k : Int) : (mkYd y k).seq = y.seq := rfl
end Go.Proofs.YtnhdcbhcocgjhaaGreat
