/- Copies of plans, deeds, notes; Since. -/
import Derived.Test.YtfjgkakilmiheaaProg
import Derived.Test.YtfjgkakilmiheaaE9
set_option linter.unusedSimpArgs false
set_option linter.unusedVariables false
set_option maxRecDepth 100000
namespace Go.Proofs.Ytfjgkakilmiheaa
open Go.RowKit Go.Sort
def c_spec_l06Copy : C := .seq (.reg [⟨some 1, none, .box 38 5 (.t 0)⟩, ⟨some 2, none, .alloc 38 [.int .i64 0, .int .i64 0, .int .i64 0, .int .i64 0, .slice none 0 0]⟩]) (.seq (.reg [⟨some 3, none, .bsl 100 2 0 [] []⟩, ⟨some 4, none, .fa 4 (.t 1)⟩, ⟨some 5, none, .ld false 1 (.t 4)⟩, ⟨some 6, none, .app 100 2 16 (.t 3) (.t 5)⟩, ⟨some 7, none, .fa 4 (.t 1)⟩, ⟨none, none, .st 1 [some (2, 100)] (.t 7) (.t 6)⟩]) (.seq (.reg [⟨some 8, none, .ld true 5 (.t 1)⟩, ⟨none, none, .st 5 [none, none, none, none, some (2, 100)] (.t 2) (.t 8)⟩]) .ret))
theorem code_spec_l06Copy : fnC Try.prog Try.f101 = some (c_spec_l06Copy, [.cell 2 true 5], 9) := by kernel_rfl
def c_impl_copyPlan : C := .seq (.reg [⟨some 1, none, .box 38 5 (.t 0)⟩, ⟨some 2, none, .alloc 38 [.int .i64 0, .int .i64 0, .int .i64 0, .int .i64 0, .slice none 0 0]⟩]) (.seq (.reg [⟨some 3, none, .fa 4 (.t 1)⟩, ⟨some 4, none, .ld false 1 (.t 3)⟩, ⟨some 5, none, .app 100 2 16 (.c (.slice none 0 0)) (.t 4)⟩, ⟨some 6, none, .fa 4 (.t 1)⟩, ⟨none, none, .st 1 [some (2, 100)] (.t 6) (.t 5)⟩]) (.seq (.reg [⟨some 7, none, .ld true 5 (.t 1)⟩, ⟨none, none, .st 5 [none, none, none, none, some (2, 100)] (.t 2) (.t 7)⟩]) .ret))
theorem code_impl_copyPlan : fnC Try.prog Try.f120 = some (c_impl_copyPlan, [.cell 2 true 5], 8) := by kernel_rfl
def c_impl_copyDeed : C := .seq (.reg [⟨some 1, none, .box 40 11 (.t 0)⟩, ⟨some 2, none, .alloc 40 [.int .i64 0, .int .i64 0, .int .i64 0, .int .i64 0, .int .i64 0, .int .i64 0, .slice none 0 0, .int .i64 0, .int .i64 0, .int .i64 0, .int .i64 0]⟩]) (.seq (.reg [⟨some 3, none, .fa 2 (.t 1)⟩, ⟨some 4, none, .ld true 5 (.t 3)⟩, ⟨some 5, none, .call 120 [.t 4]⟩, ⟨some 6, none, .fa 2 (.t 1)⟩, ⟨none, none, .st 5 [none, none, none, none, some (2, 100)] (.t 6) (.t 5)⟩]) (.seq (.reg [⟨some 7, none, .ld true 11 (.t 1)⟩, ⟨none, none, .st 11 [none, none, none, none, none, none, some (2, 100), none, none, none, none] (.t 2) (.t 7)⟩]) .ret))
theorem code_impl_copyDeed : fnC Try.prog Try.f102 = some (c_impl_copyDeed, [.cell 2 true 11], 8) := by kernel_rfl
def c_impl_copyNote : C := .seq (.reg [⟨some 1, none, .box 49 12 (.t 0)⟩, ⟨some 2, none, .alloc 49 [.int .i64 0, .int .i64 0, .int .i64 0, .int .i64 0, .int .i64 0, .int .i64 0, .int .i64 0, .slice none 0 0, .int .i64 0, .int .i64 0, .int .i64 0, .int .i64 0]⟩]) (.seq (.dreg (T.pure 0 ⟨some 3, none, .fa 0 (.t 1)⟩ (T.pure 1 ⟨some 4, none, .ld false 1 (.t 3)⟩ (T.pure 2 ⟨some 5, none, .fa 1 (.t 1)⟩ (T.pure 3 ⟨some 6, none, .ld true 11 (.t 5)⟩ (T.alt ⟨some 7, none, .call 102 [.t 6]⟩ [1, 0] (T.pure 5 ⟨some 8, none, .bld [.int .i64 0, .int .i64 0, .int .i64 0, .int .i64 0, .int .i64 0, .int .i64 0, .int .i64 0, .slice none 0 0, .int .i64 0, .int .i64 0, .int .i64 0, .int .i64 0] [(0, 1, .t 4), (1, 11, .t 7)]⟩ (T.alt ⟨none, none, .st 12 [none, none, none, none, none, none, none, some (2, 100), none, none, none, none] (.t 2) (.t 8)⟩ [] T.done T.stop)) T.stop)))))) .ret)
theorem code_impl_copyNote : fnC Try.prog Try.f79 = some (c_impl_copyNote, [.cell 2 true 12], 9) := by kernel_rfl
def c_spec_l19Note : C := .seq (.reg [⟨some 1, none, .box 49 12 (.t 0)⟩, ⟨some 2, none, .alloc 49 [.int .i64 0, .int .i64 0, .int .i64 0, .int .i64 0, .int .i64 0, .int .i64 0, .int .i64 0, .slice none 0 0, .int .i64 0, .int .i64 0, .int .i64 0, .int .i64 0]⟩]) (.seq (.reg [⟨some 3, none, .fa 1 (.t 1)⟩, ⟨some 4, none, .fa 2 (.t 3)⟩, ⟨some 5, none, .ld true 5 (.t 4)⟩, ⟨some 6, none, .call 101 [.t 5]⟩, ⟨some 7, none, .fa 1 (.t 1)⟩, ⟨some 8, none, .fa 2 (.t 7)⟩, ⟨none, none, .st 5 [none, none, none, none, some (2, 100)] (.t 8) (.t 6)⟩]) (.seq (.reg [⟨some 9, none, .ld true 12 (.t 1)⟩, ⟨none, none, .st 12 [none, none, none, none, none, none, none, some (2, 100), none, none, none, none] (.t 2) (.t 9)⟩]) .ret))
theorem code_spec_l19Note : fnC Try.prog Try.f78 = some (c_spec_l19Note, [.cell 2 true 12], 10) := by kernel_rfl
theorem p_spec_l06Copy (p : Pl) (hb : p.edges.length ≤ 4000000) : Pure Try.prog 101 [.agg (encPl p)] (.agg (encPl p)) := by
  refine pure_fn Try.func101 code_spec_l06Copy (by simp) ?_
  unfold c_spec_l06Copy
  have h1 : p.edges.length ≤ maxLen := by unfold maxLen; omega
  have h2 : p.edges.length * 16 ≤ 140737488355328 := by omega
  simp only [go_sem, encPl, h1, h2, fold_encEds]
theorem p_impl_copyPlan (p : Pl) (hb : p.edges.length ≤ 4000000) : Pure Try.prog 120 [.agg (encPl p)] (.agg (encPl p)) := by
  refine pure_fn Try.func120 code_impl_copyPlan (by simp) ?_
  unfold c_impl_copyPlan
  have h1 : p.edges.length ≤ maxLen := by unfold maxLen; omega
  have h2 : p.edges.length * 16 ≤ 140737488355328 := by omega
  simp only [go_sem, encPl, h1, h2, fold_encEds]
theorem p_impl_copyDeed (d : Dd) (hb : d.plan.edges.length ≤ 4000000) : Pure Try.prog 102 [.agg (encDd d)] (.agg (encDd d)) := by
  refine pure_fn Try.func102 code_impl_copyDeed (by simp) ?_
  unfold c_impl_copyDeed
  simp only [go_sem, encDd, encPl]
  intro b b1
  refine run_call (p_impl_copyPlan d.plan hb) (by simp only [go_sem, encPl]) fun η => ?_
  simp only [go_sem, encPl]
theorem p_impl_copyNote (n : Nt) (hb : n.deed.plan.edges.length ≤ 4000000) : Pure Try.prog 79 [.agg (encNt n)] (.agg (encNt n)) := by
  refine pure_fn Try.func79 code_impl_copyNote (by simp) ?_
  unfold c_impl_copyNote
  simp only [go_sem, encNt, encDd, encPl]
  intro b b1
  refine run_call (p_impl_copyDeed n.deed hb) (by simp only [go_sem, encDd, encPl]) fun η => ?_
  simp only [go_sem, encDd, encPl]
theorem p_spec_l19Note (n : Nt) (hb : n.deed.plan.edges.length ≤ 4000000) : Pure Try.prog 78 [.agg (encNt n)] (.agg (encNt n)) := by
  refine pure_fn Try.func78 code_spec_l19Note (by simp) ?_
  unfold c_spec_l19Note
  simp only [go_sem, encNt, encDd, encPl]
  intro b b1
  refine run_call (p_spec_l06Copy n.deed.plan hb) (by simp only [go_sem, encPl]) fun η => ?_
  simp only [go_sem, encPl]
end Go.Proofs.Ytfjgkakilmiheaa
