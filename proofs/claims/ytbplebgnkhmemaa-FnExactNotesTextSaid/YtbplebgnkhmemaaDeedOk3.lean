/- DeedOk: the two agree. -/
import Derived.Test.YtbplebgnkhmemaaDeedOk2
set_option linter.unusedSimpArgs false
set_option linter.unusedVariables false
namespace Go.Proofs.Ytbplebgnkhmemaa
open Go.RowKit Go.Sort
theorem noPlan_iff (p : Pl) : noPlanB p = decide (p = zeroPl) := by
  obtain ⟨a, b, c, d, e⟩ := p
  rw [Bool.eq_iff_iff]
  simp only [noPlanB, zeroPl, Bool.and_eq_true, beq_iff_eq, decide_eq_true_eq, Pl.mk.injEq]
  constructor
  · rintro ⟨⟨⟨⟨h1, h2⟩, h3⟩, h4⟩, h5⟩
    exact ⟨h1, h2, h3, h4, List.eq_nil_of_length_eq_zero (by omega)⟩
  · rintro ⟨h1, h2, h3, h4, rfl⟩
    exact ⟨⟨⟨⟨h1, h2⟩, h3⟩, h4⟩, rfl⟩
theorem all_fl (l : List Ed) : (l.flatMap fun e => [e.src, e.dst]).all numB = l.all edB := by
  induction l with
  | nil => rfl
  | cons x l ih => simp [List.flatMap_cons, List.all_append, ih, edB, Bool.and_assoc]
theorem okI_deedB (d : Dd) : okI d = deedB d := by
  have hz : zeroPl.edges.length = 0 := rfl
  obtain ⟨kind, run, plan, task, tri, worker, draw⟩ := d
  by_cases h1 : kind = 1
  · subst h1
    have e : (numsL ⟨1, run, plan, task, tri, worker, draw⟩).all numB = (numB run && numB plan.prio && numB plan.most && numB plan.wait && numB plan.tasks && numB plan.edges.length && plan.edges.all edB) := by
      simp only [numsL, if_true, List.all_append, all_fl]
      simp [Bool.and_assoc]
    have e2 : decide (plan.edges.length ≤ 31) = true → numB (plan.edges.length : Int) = true := by
      intro h
      have h := of_decide_eq_true h
      exact decide_eq_true (by omega)
    rw [okI, e, deedB]
    simp only [usedD, planB, if_true, Dd.mk.injEq, true_and]
    rw [Bool.eq_iff_iff]
    simp only [Bool.and_eq_true, decide_eq_true_eq, beq_iff_eq] at e2 ⊢
    constructor
    · rintro ⟨⟨⟨_, h2⟩, h3⟩, h4⟩
      grind
    · intro h
      have h5 : plan.edges.length ≤ 31 := by grind
      have := e2 h5
      grind
  · by_cases h2 : kind = 2
    · subst h2
      rw [Bool.eq_iff_iff]
      simp only [okI, deedB, usedD, numsL, noPlan_iff, Bool.and_eq_true, decide_eq_true_eq, beq_iff_eq, Dd.mk.injEq, List.all_cons, List.all_nil, Int.reduceEq, if_false, if_true, true_and, and_true]
      constructor
      · rintro h; grind
      · rintro ⟨⟨⟨⟨⟨a, b⟩, c⟩, d⟩, e⟩, f⟩
        subst f
        exact ⟨⟨⟨by omega, by rw [hz]; omega⟩, a, rfl, b, c⟩, d, e⟩
    · by_cases h34 : kind = 3 ∨ kind = 4
      · rw [Bool.eq_iff_iff]
        simp only [okI, deedB, usedD, numsL, noPlan_iff, h1, h2, h34, Bool.and_eq_true, decide_eq_true_eq, beq_iff_eq, Dd.mk.injEq, List.all_cons, List.all_nil, if_false, if_true, true_and, and_true]
        constructor
        · rintro h; grind
        · rintro ⟨⟨⟨⟨⟨a, b⟩, c⟩, d⟩, e⟩, f⟩
          subst f
          exact ⟨⟨⟨by omega, by rw [hz]; omega⟩, rfl, d, e⟩, a, b, c⟩
      · by_cases h67 : kind = 6 ∨ kind = 7
        · have h58 : ¬ (kind = 5 ∨ kind = 8) := by omega
          rw [Bool.eq_iff_iff]
          simp only [okI, deedB, usedD, numsL, noPlan_iff, h1, h2, h34, h67, h58, Bool.and_eq_true, decide_eq_true_eq, beq_iff_eq, Dd.mk.injEq, List.all_cons, List.all_nil, if_false, if_true, true_and, and_true]
          constructor
          · rintro h; grind
          · rintro ⟨⟨⟨⟨⟨a, b⟩, c⟩, d⟩, e⟩, f⟩
            subst f
            exact ⟨⟨⟨by omega, by rw [hz]; omega⟩, rfl, b, c, d, e⟩, a⟩
        · by_cases h58 : kind = 5 ∨ kind = 8
          · rw [Bool.eq_iff_iff]
            simp only [okI, deedB, usedD, numsL, noPlan_iff, h1, h2, h34, h67, h58, Bool.and_eq_true, decide_eq_true_eq, beq_iff_eq, Dd.mk.injEq, List.all_cons, List.all_nil, if_false, if_true, true_and, and_true]
            constructor
            · rintro h; grind
            · rintro ⟨⟨⟨⟨⟨a, b⟩, c⟩, d⟩, e⟩, f⟩
              subst f
              exact ⟨⟨by omega, by rw [hz]; omega⟩, a, rfl, b, c, d, e⟩
          · have hk : ¬ (1 ≤ kind ∧ kind ≤ 8) := by omega
            simp [okI, deedB, h1, h2, h34, h67, h58, hk]
theorem p_impl_DeedOk (d : Dd) (hb : totDd d ≤ 2000000) : Pure Try.prog 100 [.agg (encDd d)] (.c (.val (.bool (deedB d)))) := by
  rw [← okI_deedB]; exact p_impl_DeedOk0 d hb
end Go.Proofs.Ytbplebgnkhmemaa
