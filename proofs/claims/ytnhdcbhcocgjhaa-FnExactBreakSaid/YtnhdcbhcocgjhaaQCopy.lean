/- Texts for laws: Copy. -/
import Derived.Test.YtnhdcbhcocgjhaaQAb
import Derived.Test.YtnhdcbhcocgjhaaProg
set_option linter.unusedSimpArgs false
set_option linter.unusedVariables false
set_option maxRecDepth 100000
namespace Go.Proofs.Ytnhdcbhcocgjhaa
open Go.RowKit Go.Sort
def c_spec_l06Copy : C := .seq (.reg [⟨some 1, none, .box 38 5 (.t 0)⟩, ⟨some 2, none, .alloc 38 [.int .i64 0, .int .i64 0, .int .i64 0, .int .i64 0, .slice none 0 0]⟩]) (.seq (.reg [⟨some 3, none, .bsl 117 2 0 [] []⟩, ⟨some 4, none, .fa 4 (.t 1)⟩, ⟨some 5, none, .ld false 1 (.t 4)⟩, ⟨some 6, none, .app 117 2 16 (.t 3) (.t 5)⟩, ⟨some 7, none, .fa 4 (.t 1)⟩, ⟨none, none, .st 1 [some (2, 117)] (.t 7) (.t 6)⟩]) (.seq (.reg [⟨some 8, none, .ld true 5 (.t 1)⟩, ⟨none, none, .st 5 [none, none, none, none, some (2, 117)] (.t 2) (.t 8)⟩]) .ret))
theorem code_spec_l06Copy : fnC Try.prog Try.f135 = some (c_spec_l06Copy, [.cell 2 true 5], 9) := by kernel_rfl
def c_impl_copyPlan : C := .seq (.reg [⟨some 1, none, .box 38 5 (.t 0)⟩, ⟨some 2, none, .alloc 38 [.int .i64 0, .int .i64 0, .int .i64 0, .int .i64 0, .slice none 0 0]⟩]) (.seq (.reg [⟨some 3, none, .fa 4 (.t 1)⟩, ⟨some 4, none, .ld false 1 (.t 3)⟩, ⟨some 5, none, .app 117 2 16 (.c (.slice none 0 0)) (.t 4)⟩, ⟨some 6, none, .fa 4 (.t 1)⟩, ⟨none, none, .st 1 [some (2, 117)] (.t 6) (.t 5)⟩]) (.seq (.reg [⟨some 7, none, .ld true 5 (.t 1)⟩, ⟨none, none, .st 5 [none, none, none, none, some (2, 117)] (.t 2) (.t 7)⟩]) .ret))
theorem code_impl_copyPlan : fnC Try.prog Try.f139 = some (c_impl_copyPlan, [.cell 2 true 5], 8) := by kernel_rfl
theorem p_spec_l06Copy (p : Pl) (hb : p.edges.length ≤ 4000000) : Pure Try.prog 135 [.agg (encPl p)] (.agg (encPl p)) := by
  refine pure_fn Try.func135 code_spec_l06Copy (by simp) ?_
  unfold c_spec_l06Copy
  have h1 : p.edges.length ≤ maxLen := by unfold maxLen; omega
  have h2 : p.edges.length * 16 ≤ 140737488355328 := by omega
  simp -implicitDefEqProofs only [go_sem, encPl, h1, h2, fold_encEds]
theorem p_impl_copyPlan (p : Pl) (hb : p.edges.length ≤ 4000000) : Pure Try.prog 139 [.agg (encPl p)] (.agg (encPl p)) := by
  refine pure_fn Try.func139 code_impl_copyPlan (by simp) ?_
  unfold c_impl_copyPlan
  have h1 : p.edges.length ≤ maxLen := by unfold maxLen; omega
  have h2 : p.edges.length * 16 ≤ 140737488355328 := by omega
  simp -implicitDefEqProofs only [go_sem, encPl, h1, h2, fold_encEds]
end Go.Proofs.Ytnhdcbhcocgjhaa
