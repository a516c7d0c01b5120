/- Texts for laws: Copy, RunD. -/
import Derived.Test.YtnhdcbhcocgjhaaGreatQAb
import Derived.Test.YtnhdcbhcocgjhaaGreatQRunOk
import Derived.Test.YtnhdcbhcocgjhaaGreatProg
set_option linter.unusedSimpArgs false
set_option linter.unusedVariables false
set_option maxRecDepth 100000
namespace Go.Proofs.YtnhdcbhcocgjhaaGreat
open Go.RowKit Go.Sort
def c_spec_l06Copy : C := .seq (.reg [⟨some 1, none, .box 77 5 (.t 0)⟩, ⟨some 2, none, .alloc 77 [.int .i64 0, .int .i64 0, .int .i64 0, .int .i64 0, .slice none 0 0]⟩]) (.seq (.reg [⟨some 3, none, .bsl 182 2 0 [] []⟩, ⟨some 4, none, .fa 4 (.t 1)⟩, ⟨some 5, none, .ld false 1 (.t 4)⟩, ⟨some 6, none, .app 182 2 16 (.t 3) (.t 5)⟩, ⟨some 7, none, .fa 4 (.t 1)⟩, ⟨none, none, .st 1 [some (2, 182)] (.t 7) (.t 6)⟩]) (.seq (.reg [⟨some 8, none, .ld true 5 (.t 1)⟩, ⟨none, none, .st 5 [none, none, none, none, some (2, 182)] (.t 2) (.t 8)⟩]) .ret))
theorem code_spec_l06Copy : fnC Tryz.prog Tryz.f163 = some (c_spec_l06Copy, [.cell 2 true 5], 9) := by kernel_rfl
def c_impl_copyPlan : C := .seq (.reg [⟨some 1, none, .box 77 5 (.t 0)⟩, ⟨some 2, none, .alloc 77 [.int .i64 0, .int .i64 0, .int .i64 0, .int .i64 0, .slice none 0 0]⟩]) (.seq (.reg [⟨some 3, none, .fa 4 (.t 1)⟩, ⟨some 4, none, .ld false 1 (.t 3)⟩, ⟨some 5, none, .app 182 2 16 (.c (.slice none 0 0)) (.t 4)⟩, ⟨some 6, none, .fa 4 (.t 1)⟩, ⟨none, none, .st 1 [some (2, 182)] (.t 6) (.t 5)⟩]) (.seq (.reg [⟨some 7, none, .ld true 5 (.t 1)⟩, ⟨none, none, .st 5 [none, none, none, none, some (2, 182)] (.t 2) (.t 7)⟩]) .ret))
theorem code_impl_copyPlan : fnC Tryz.prog Tryz.f168 = some (c_impl_copyPlan, [.cell 2 true 5], 8) := by kernel_rfl
theorem p_spec_l06Copy (p : Pl) (hb : p.edges.length ≤ 4000000) : Pure Tryz.prog 163 [.agg (encPl p)] (.agg (encPl p)) := by
  refine pure_fn Tryz.func163 code_spec_l06Copy (by simp) ?_
  unfold c_spec_l06Copy
  have h1 : p.edges.length ≤ maxLen := by unfold maxLen; omega
  have h2 : p.edges.length * 16 ≤ 140737488355328 := by omega
  simp -implicitDefEqProofs only [go_sem, encPl, h1, h2, fold_encEds]
theorem p_impl_copyPlan (p : Pl) (hb : p.edges.length ≤ 4000000) : Pure Tryz.prog 168 [.agg (encPl p)] (.agg (encPl p)) := by
  refine pure_fn Tryz.func168 code_impl_copyPlan (by simp) ?_
  unfold c_impl_copyPlan
  have h1 : p.edges.length ≤ maxLen := by unfold maxLen; omega
  have h2 : p.edges.length * 16 ≤ 140737488355328 := by omega
  simp -implicitDefEqProofs only [go_sem, encPl, h1, h2, fold_encEds]
end Go.Proofs.YtnhdcbhcocgjhaaGreat
set_option linter.unusedSimpArgs false
set_option linter.unusedVariables false
set_option maxRecDepth 100000
namespace Go.Proofs.YtnhdcbhcocgjhaaGreat
open Go.RowKit Go.Sort
theorem setAt_app {α : Type} {A B C v : List α} {o j : Nat} (ho : o = A.length + j) (hj : j + v.length ≤ B.length) : setAt (A ++ (B ++ C)) o v = A ++ (setAt B j v ++ C) := by
  subst ho
  rw [setAt_eq _ _ _ (by simp only [List.length_append]; omega), setAt_eq _ _ _ hj]
  have h1 : (A ++ (B ++ C)).take (A.length + j) = A ++ B.take j := by
    rw [List.take_append, List.take_of_length_le (by omega), Nat.add_sub_cancel_left, List.take_append_of_le_length (by omega)]
  have h2 : (A ++ (B ++ C)).drop (A.length + j + v.length) = B.drop (j + v.length) ++ C := by
    rw [List.drop_append, List.drop_eq_nil_of_le (by omega), List.nil_append, show A.length + j + v.length - A.length = j + v.length by omega, List.drop_append_of_le_length (by omega)]
  rw [h1, h2]
  simp only [List.append_assoc]
section
variable {α : Type} {enc : α → List D} {size ty : Nat} {l : List α} {k : Nat} {x : α}
theorem split_flat (hx : l[k]? = some x) : l.flatMap enc = (l.take k).flatMap enc ++ (enc x ++ (l.drop (k + 1)).flatMap enc) := by
  obtain ⟨hk, he⟩ := List.getElem?_eq_some_iff.1 hx
  have e : l = l.take k ++ x :: l.drop (k + 1) := by rw [← he, ← List.drop_eq_getElem_cons hk, List.take_append_drop]
  have h2 := congrArg (List.flatMap enc) e
  rw [h2, List.flatMap_append, List.flatMap_cons]
theorem take_len (hs : ∀ x, (enc x).length = size) (hx : l[k]? = some x) : ((l.take k).flatMap enc).length = k * size := by
  have hk := (List.getElem?_eq_some_iff.1 hx).1
  rw [len_flat hs, List.length_take, Nat.min_eq_left (by omega)]
theorem put1_flat (hs : ∀ x, (enc x).length = size) (hx : l[k]? = some x) {y : α} {j : Nat} {v : List D} (hy : setAt (enc x) j v = enc y) (hj : j + v.length ≤ size) : D.put [] (k * size + j) v (.sl size ty (l.flatMap enc)) = .sl size ty ((l.set k y).flatMap enc) := by
  have hk := (List.getElem?_eq_some_iff.1 hx).1
  have h2 : (l.set k y)[k]? = some y := List.getElem?_set_self hk
  have e1 : (l.set k y).take k = l.take k := List.take_set_of_le (Nat.le_refl k)
  have e2 : (l.set k y).drop (k + 1) = l.drop (k + 1) := List.drop_set_of_lt (Nat.lt_succ_self k)
  simp only [D.put]
  rw [split_flat hx, setAt_app (by rw [take_len hs hx]) (by rw [hs]; exact hj), hy, split_flat h2, e1, e2]
theorem at1_flat (hs : ∀ x, (enc x).length = size) (hx : l[k]? = some x) {j n : Nat} (hj : j + n ≤ size) : ((l.flatMap enc).drop (k * size + j)).take n = ((enc x).drop j).take n := by
  rw [split_flat hx, ← List.drop_drop, List.drop_left' (take_len hs hx), List.drop_append_of_le_length (by rw [hs]; omega), List.take_append_of_le_length (by rw [List.length_drop, hs]; omega)]
theorem in1_flat (hs : ∀ x, (enc x).length = size) (hx : l[k]? = some x) {j n : Nat} (hj : j + n ≤ size) : k * size + j + n ≤ (l.flatMap enc).length := by
  have hk := (List.getElem?_eq_some_iff.1 hx).1
  rw [len_flat hs]
  have : (k + 1) * size ≤ l.length * size := Nat.mul_le_mul_right _ hk
  rw [Nat.succ_mul] at this
  omega
end
section
variable {l : List En} {k : Nat} {x : En}
theorem at_en (hx : l[k]? = some x) : ((l.flatMap encEn).drop (k * 4)).take 4 = encEn x := at1_flat (enc := encEn) (size := 4) (fun _ => rfl) hx (j := 0) (n := 4) (by decide)
theorem at_en1 (hx : l[k]? = some x) : ((l.flatMap encEn).drop (k * 4 + 1)).take 1 = [.val (.int .i64 x.seq)] := at1_flat (enc := encEn) (size := 4) (fun _ => rfl) hx (j := 1) (n := 1) (by decide)
theorem in_en (hx : l[k]? = some x) : k * 4 + 4 ≤ (l.flatMap encEn).length := in1_flat (enc := encEn) (size := 4) (fun _ => rfl) hx (j := 0) (n := 4) (by decide)
theorem in_en1 (hx : l[k]? = some x) : k * 4 + 1 + 1 ≤ (l.flatMap encEn).length := in1_flat (enc := encEn) (size := 4) (fun _ => rfl) hx (j := 1) (n := 1) (by decide)
end
theorem fold_encTks' (l : List Tk) : D.sl 4 tTk (l.flatMap encTk) = encTks l := rfl
def c_spec_l09Copy : C := .seq (.reg [⟨some 1, none, .box 80 8 (.t 0)⟩, ⟨some 2, none, .alloc 80 [.int .i64 0, .int .i64 0, .int .i64 0, .int .i64 0, .int .i64 0, .slice none 0 0, .int .i64 0, .slice none 0 0]⟩]) (.seq (.reg [⟨some 3, none, .fa 1 (.t 1)⟩, ⟨some 4, none, .ld true 5 (.t 3)⟩, ⟨some 5, none, .call 163 [.t 4]⟩, ⟨some 6, none, .fa 1 (.t 1)⟩, ⟨none, none, .st 5 [none, none, none, none, some (2, 182)] (.t 6) (.t 5)⟩]) (.seq (.reg [⟨some 7, none, .bsl 98 4 0 [] []⟩, ⟨some 8, none, .fa 7 (.t 1)⟩, ⟨some 9, none, .ld false 1 (.t 8)⟩, ⟨some 10, none, .app 98 4 32 (.t 7) (.t 9)⟩, ⟨some 11, none, .fa 7 (.t 1)⟩, ⟨none, none, .st 1 [some (4, 98)] (.t 11) (.t 10)⟩]) (.seq (.reg [⟨some 12, none, .ld true 8 (.t 1)⟩, ⟨none, none, .st 8 [none, none, none, none, none, some (2, 182), none, some (4, 98)] (.t 2) (.t 12)⟩]) .ret)))
theorem code_spec_l09Copy : fnC Tryz.prog Tryz.f105 = some (c_spec_l09Copy, [.cell 2 true 8], 13) := by kernel_rfl
def c_impl_copyRun : C := .seq (.reg [⟨some 1, none, .box 80 8 (.t 0)⟩, ⟨some 2, none, .alloc 80 [.int .i64 0, .int .i64 0, .int .i64 0, .int .i64 0, .int .i64 0, .slice none 0 0, .int .i64 0, .slice none 0 0]⟩]) (.seq (.reg [⟨some 3, none, .fa 1 (.t 1)⟩, ⟨some 4, none, .ld true 5 (.t 3)⟩, ⟨some 5, none, .call 168 [.t 4]⟩, ⟨some 6, none, .fa 1 (.t 1)⟩, ⟨none, none, .st 5 [none, none, none, none, some (2, 182)] (.t 6) (.t 5)⟩]) (.seq (.reg [⟨some 7, none, .fa 7 (.t 1)⟩, ⟨some 8, none, .ld false 1 (.t 7)⟩, ⟨some 9, none, .app 98 4 32 (.c (.slice none 0 0)) (.t 8)⟩, ⟨some 10, none, .fa 7 (.t 1)⟩, ⟨none, none, .st 1 [some (4, 98)] (.t 10) (.t 9)⟩]) (.seq (.reg [⟨some 11, none, .ld true 8 (.t 1)⟩, ⟨none, none, .st 8 [none, none, none, none, none, some (2, 182), none, some (4, 98)] (.t 2) (.t 11)⟩]) .ret)))
theorem code_impl_copyRun : fnC Tryz.prog Tryz.f114 = some (c_impl_copyRun, [.cell 2 true 8], 12) := by kernel_rfl
theorem p_impl_copyRun (r : Rn) (hb : r.plan.edges.length ≤ 4000000) (ht : r.tasks.length ≤ 4000000) : Pure Tryz.prog 114 [.agg (encRn r)] (.agg (encRn r)) := by
  refine pure_fn Tryz.func114 code_impl_copyRun (by simp) ?_
  unfold c_impl_copyRun
  have h1 : r.tasks.length ≤ maxLen := by unfold maxLen; omega
  have h2 : r.tasks.length * 32 ≤ 140737488355328 := by omega
  simp -implicitDefEqProofs only [go_sem, encRn, encPl]
  intro b b2
  refine run_call (p_impl_copyPlan r.plan hb) (by simp -implicitDefEqProofs only [go_sem, encRn, encPl]) fun η => ?_
  simp -implicitDefEqProofs only [go_sem, encRn, encPl]
  simp -implicitDefEqProofs only [go_sem, encRn, encPl, h1, h2, fold_encTks']
theorem p_spec_l09Copy (r : Rn) (hb : r.plan.edges.length ≤ 4000000) (ht : r.tasks.length ≤ 4000000) : Pure Tryz.prog 105 [.agg (encRn r)] (.agg (encRn r)) := by
  refine pure_fn Tryz.func105 code_spec_l09Copy (by simp) ?_
  unfold c_spec_l09Copy
  have h1 : r.tasks.length ≤ maxLen := by unfold maxLen; omega
  have h2 : r.tasks.length * 32 ≤ 140737488355328 := by omega
  simp -implicitDefEqProofs only [go_sem, encRn, encPl]
  intro b b2
  refine run_call (p_spec_l06Copy r.plan hb) (by simp -implicitDefEqProofs only [go_sem, encRn, encPl]) fun η => ?_
  simp -implicitDefEqProofs only [go_sem, encRn, encPl]
  simp -implicitDefEqProofs only [go_sem, encRn, encPl, h1, h2, fold_encTks']
end Go.Proofs.YtnhdcbhcocgjhaaGreat
set_option linter.unusedSimpArgs false
set_option linter.unusedVariables false
set_option maxRecDepth 100000
namespace Go.Proofs.YtnhdcbhcocgjhaaGreat
open Go.RowKit Go.Sort
end Go.Proofs.YtnhdcbhcocgjhaaGreat
set_option linter.unusedSimpArgs false
set_option linter.unusedVariables false
set_option maxRecDepth 100000
namespace Go.Proofs.YtnhdcbhcocgjhaaGreat
open Go.RowKit Go.Sort
-- impl.leave: NOT UNDERSTOOD
-- impl.done: NOT UNDERSTOOD
-- impl.fails: NOT UNDERSTOOD
end Go.Proofs.YtnhdcbhcocgjhaaGreat
