/- DeedOk, both, and what they call. -/
import Derived.Test.YtbplebgnkhmemaaGreatProg
import Derived.Test.YtbplebgnkhmemaaGreatAb
import Derived.Test.YtbplebgnkhmemaaGreatShelf
import Derived.Test.YtbplebgnkhmemaaGreatSame
set_option linter.unusedSimpArgs false
set_option linter.unusedVariables false
set_option maxRecDepth 100000
namespace Go.Proofs.YtbplebgnkhmemaaGreat
open Go.RowKit Go.Sort
def c_spec_l16Num : C := .seq (.reg [⟨some 2, none, .mov (.c (.bool false))⟩]) (.seq (.reg [⟨some 3, none, .mov (.t 0)⟩, ⟨some 4, none, .call 66 [.t 3, .c (.int .i64 0), .c (.int .i64 1000000000)]⟩, ⟨some 2, none, .mov (.t 4)⟩]) .ret)
theorem code_spec_l16Num : fnC Tryz.prog Tryz.f36 = some (c_spec_l16Num, [.t 2], 5) := by kernel_rfl
def numB (n : Int) : Bool := decide (0 ≤ n ∧ n ≤ 1000000000)
theorem p_l16Num (n : Int) : Pure Tryz.prog 36 [.c (.val (.int .i64 n))] (.c (.val (.bool (numB n)))) := by
  refine pure_fn Tryz.func36 code_spec_l16Num (by simp) ?_
  unfold c_spec_l16Num
  simp -implicitDefEqProofs only [go_sem]
  refine run_call (p_spec_l01In n 0 1000000000) (by simp -implicitDefEqProofs only [go_sem]) fun η => ?_
  simp -implicitDefEqProofs only [go_sem]
  rfl
def noPlanB (p : Pl) : Bool := p.prio == 0 && p.most == 0 && p.wait == 0 && p.tasks == 0 && ((p.edges.length : Int) == 0)
def edB (e : Ed) : Bool := numB e.src && numB e.dst
def planB (p : Pl) : Bool := numB p.prio && numB p.most && numB p.wait && numB p.tasks && decide (p.edges.length ≤ 31) && p.edges.all edB
theorem all_take {α : Type} {f : α → Bool} {l : List α} {k : Nat} {x : α} (h : l[k]? = some x) (ht : (l.take k).all f = true) (hx : f x = true) : (l.take (k + 1)).all f = true := by
  rw [List.take_add_one, h]; simp only [List.all_append, ht, Option.toList_some, List.all_cons, hx, List.all_nil, Bool.and_self]
theorem all_no {α : Type} {f : α → Bool} {l : List α} {k : Nat} {x : α} (h : l[k]? = some x) (hx : f x = false) : l.all f = false := by
  rw [List.all_eq_false]
  exact ⟨x, List.mem_of_getElem? h, by simp [hx]⟩
/-- What a deed has to be. -/
def deedB (d : Dd) : Bool :=
  if d.kind = 1 then numB d.run && d.task == 0 && d.tri == 0 && d.worker == 0 && d.draw == 0 && planB d.plan
  else if d.kind = 2 then d.run == 0 && d.task == 0 && d.tri == 0 && numB d.worker && numB d.draw && noPlanB d.plan
  else if d.kind = 3 ∨ d.kind = 4 then numB d.run && numB d.task && numB d.tri && d.worker == 0 && d.draw == 0 && noPlanB d.plan
  else if d.kind = 5 ∨ d.kind = 8 then d.run == 0 && d.task == 0 && d.tri == 0 && d.worker == 0 && d.draw == 0 && noPlanB d.plan
  else if d.kind = 6 ∨ d.kind = 7 then numB d.run && d.task == 0 && d.tri == 0 && d.worker == 0 && d.draw == 0 && noPlanB d.plan
  else false
end Go.Proofs.YtbplebgnkhmemaaGreat
set_option linter.unusedSimpArgs false
set_option linter.unusedVariables false
set_option maxRecDepth 100000
namespace Go.Proofs.YtbplebgnkhmemaaGreat
open Go.RowKit Go.Sort
/-- The numbers of a deed. -/
def numsL (d : Dd) : List Int :=
  if d.kind = 1 then [d.run, d.plan.prio, d.plan.most, d.plan.wait, d.plan.tasks, d.plan.edges.length] ++ d.plan.edges.flatMap fun e => [e.src, e.dst]
  else if d.kind = 2 then [d.worker, d.draw]
  else if d.kind = 3 ∨ d.kind = 4 then [d.run, d.task, d.tri]
  else if d.kind = 6 ∨ d.kind = 7 then [d.run]
  else []
theorem fl_len (l : List Ed) : (l.flatMap fun e => [e.src, e.dst]).length = 2 * l.length := by
  induction l with
  | nil => rfl
  | cons x l ih => simp only [List.flatMap_cons, List.length_append, ih, List.length_cons, List.length_nil]; omega
def zeroPl : Pl := ⟨0, 0, 0, 0, []⟩
/-- A deed with what its kind uses. -/
def usedD (d : Dd) : Dd :=
  if d.kind = 1 then ⟨1, d.run, d.plan, 0, 0, 0, 0⟩
  else if d.kind = 2 then ⟨2, 0, zeroPl, 0, 0, d.worker, d.draw⟩
  else if d.kind = 3 ∨ d.kind = 4 then ⟨d.kind, d.run, zeroPl, d.task, d.tri, 0, 0⟩
  else if d.kind = 6 ∨ d.kind = 7 then ⟨d.kind, d.run, zeroPl, 0, 0, 0, 0⟩
  else ⟨d.kind, 0, zeroPl, 0, 0, 0, 0⟩
def okI (d : Dd) : Bool := decide (1 ≤ d.kind ∧ d.kind ≤ 8) && decide (d.plan.edges.length ≤ 31) && decide (d = usedD d) && (numsL d).all numB
theorem bge (n : Int) (k : Int) : (decide (k < n)) = !decide (n ≤ k) := by
  by_cases h : k < n
  · simp [h, Int.not_le.2 h]
  · simp [h, Int.not_lt.1 h]
end Go.Proofs.YtbplebgnkhmemaaGreat
set_option linter.unusedSimpArgs false
set_option linter.unusedVariables false
namespace Go.Proofs.YtbplebgnkhmemaaGreat
open Go.RowKit Go.Sort
theorem noPlan_iff (p : Pl) : noPlanB p = decide (p = zeroPl) := by
  obtain ⟨a, b, c, d, e⟩ := p
  rw [Bool.eq_iff_iff]
  simp only [noPlanB, zeroPl, Bool.and_eq_true, beq_iff_eq, decide_eq_true_eq, Pl.mk.injEq]
  constructor
  · rintro ⟨⟨⟨⟨h1, h2⟩, h3⟩, h4⟩, h5⟩
    exact ⟨h1, h2, h3, h4, List.eq_nil_of_length_eq_zero (by omega)⟩
  · rintro ⟨h1, h2, h3, h4, rfl⟩
    exact ⟨⟨⟨⟨h1, h2⟩, h3⟩, h4⟩, rfl⟩
theorem all_fl (l : List Ed) : (l.flatMap fun e => [e.src, e.dst]).all numB = l.all edB := by
  induction l with
  | nil => rfl
  | cons x l ih => simp [List.flatMap_cons, List.all_append, ih, edB, Bool.and_assoc]
theorem okI_deedB (d : Dd) : okI d = deedB d := by
  have hz : zeroPl.edges.length = 0 := rfl
  obtain ⟨kind, run, plan, task, tri, worker, draw⟩ := d
  by_cases h1 : kind = 1
  · subst h1
    have e : (numsL ⟨1, run, plan, task, tri, worker, draw⟩).all numB = (numB run && numB plan.prio && numB plan.most && numB plan.wait && numB plan.tasks && numB plan.edges.length && plan.edges.all edB) := by
      simp only [numsL, if_true, List.all_append, all_fl]
      simp [Bool.and_assoc]
    have e2 : decide (plan.edges.length ≤ 31) = true → numB (plan.edges.length : Int) = true := by
      intro h
      have h := of_decide_eq_true h
      exact decide_eq_true (by omega)
    rw [okI, e, deedB]
    simp only [usedD, planB, if_true, Dd.mk.injEq, true_and]
    rw [Bool.eq_iff_iff]
    simp only [Bool.and_eq_true, decide_eq_true_eq, beq_iff_eq] at e2 ⊢
    constructor
    · rintro ⟨⟨⟨_, h2⟩, h3⟩, h4⟩
      grind
    · intro h
      have h5 : plan.edges.length ≤ 31 := by grind
      have := e2 h5
      grind
  · by_cases h2 : kind = 2
    · subst h2
      rw [Bool.eq_iff_iff]
      simp only [okI, deedB, usedD, numsL, noPlan_iff, Bool.and_eq_true, decide_eq_true_eq, beq_iff_eq, Dd.mk.injEq, List.all_cons, List.all_nil, Int.reduceEq, if_false, if_true, true_and, and_true]
      constructor
      · rintro h; grind
      · rintro ⟨⟨⟨⟨⟨a, b⟩, c⟩, d⟩, e⟩, f⟩
        subst f
        exact ⟨⟨⟨by omega, by rw [hz]; omega⟩, a, rfl, b, c⟩, d, e⟩
    · by_cases h34 : kind = 3 ∨ kind = 4
      · rw [Bool.eq_iff_iff]
        simp only [okI, deedB, usedD, numsL, noPlan_iff, h1, h2, h34, Bool.and_eq_true, decide_eq_true_eq, beq_iff_eq, Dd.mk.injEq, List.all_cons, List.all_nil, if_false, if_true, true_and, and_true]
        constructor
        · rintro h; grind
        · rintro ⟨⟨⟨⟨⟨a, b⟩, c⟩, d⟩, e⟩, f⟩
          subst f
          exact ⟨⟨⟨by omega, by rw [hz]; omega⟩, rfl, d, e⟩, a, b, c⟩
      · by_cases h67 : kind = 6 ∨ kind = 7
        · have h58 : ¬ (kind = 5 ∨ kind = 8) := by omega
          rw [Bool.eq_iff_iff]
          simp only [okI, deedB, usedD, numsL, noPlan_iff, h1, h2, h34, h67, h58, Bool.and_eq_true, decide_eq_true_eq, beq_iff_eq, Dd.mk.injEq, List.all_cons, List.all_nil, if_false, if_true, true_and, and_true]
          constructor
          · rintro h; grind
          · rintro ⟨⟨⟨⟨⟨a, b⟩, c⟩, d⟩, e⟩, f⟩
            subst f
            exact ⟨⟨⟨by omega, by rw [hz]; omega⟩, rfl, b, c, d, e⟩, a⟩
        · by_cases h58 : kind = 5 ∨ kind = 8
          · rw [Bool.eq_iff_iff]
            simp only [okI, deedB, usedD, numsL, noPlan_iff, h1, h2, h34, h67, h58, Bool.and_eq_true, decide_eq_true_eq, beq_iff_eq, Dd.mk.injEq, List.all_cons, List.all_nil, if_false, if_true, true_and, and_true]
            constructor
            · rintro h; grind
            · rintro ⟨⟨⟨⟨⟨a, b⟩, c⟩, d⟩, e⟩, f⟩
              subst f
              exact ⟨⟨by omega, by rw [hz]; omega⟩, a, rfl, b, c, d, e⟩
          · have hk : ¬ (1 ≤ kind ∧ kind ≤ 8) := by omega
            simp [okI, deedB, h1, h2, h34, h67, h58, hk]
end Go.Proofs.YtbplebgnkhmemaaGreat
