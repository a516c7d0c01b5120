/- Texts for laws: Shelf. -/
import Derived.Test.YtmnpailnelmpiaaGreatQAb
import Derived.Test.YtmnpailnelmpiaaGreatProg
set_option linter.unusedSimpArgs false
set_option linter.unusedVariables false
set_option maxRecDepth 100000
namespace Go.Proofs.YtmnpailnelmpiaaGreat
open Go.RowKit Go.Sort
def c_spec_l01In : C := .seq (.reg [⟨some 6, none, .mov (.c (.bool false))⟩]) (.seq (.reg [⟨some 7, none, .mov (.t 0)⟩, ⟨some 8, none, .mov (.t 1)⟩, ⟨some 9, none, .bin .geq 3 (.t 7) (.t 8)⟩, ⟨some 10, none, .mov (.t 9)⟩, ⟨some 11, some (10, true), .mov (.t 0)⟩, ⟨some 12, some (10, true), .mov (.t 2)⟩, ⟨some 13, some (10, true), .bin .leq 3 (.t 11) (.t 12)⟩, ⟨some 14, none, .pick (.t 10) (.t 13) (.c (.bool false))⟩, ⟨some 6, none, .mov (.t 14)⟩]) .ret)
theorem code_spec_l01In : fnC Tryz.prog Tryz.f74 = some (c_spec_l01In, [.t 6], 15) := by kernel_rfl
def c_impl_within : C := .seq (.reg [⟨some 6, none, .mov (.c (.bool false))⟩]) (.seq (.reg [⟨some 7, none, .mov (.t 0)⟩, ⟨some 8, none, .mov (.t 1)⟩, ⟨some 9, none, .bin .geq 3 (.t 7) (.t 8)⟩, ⟨some 10, none, .mov (.t 9)⟩, ⟨some 11, some (10, true), .mov (.t 0)⟩, ⟨some 12, some (10, true), .mov (.t 2)⟩, ⟨some 13, some (10, true), .bin .leq 3 (.t 11) (.t 12)⟩, ⟨some 14, none, .pick (.t 10) (.t 13) (.c (.bool false))⟩, ⟨some 6, none, .mov (.t 14)⟩]) .ret)
theorem code_impl_within : fnC Tryz.prog Tryz.f78 = some (c_impl_within, [.t 6], 15) := by kernel_rfl
theorem p_spec_l01In (a b c : Int) : Pure Tryz.prog 74 [.c (.val (.int .i64 a)), .c (.val (.int .i64 b)), .c (.val (.int .i64 c))] (.c (.val (.bool (decide (b ≤ a ∧ a ≤ c))))) := by
  refine pure_fn Tryz.func74 code_spec_l01In (by simp) ?_
  unfold c_spec_l01In
  by_cases h : b ≤ a
  · simp -implicitDefEqProofs only [go_sem, h]
  · simp -implicitDefEqProofs only [go_sem, h]
theorem p_impl_within (a b c : Int) : Pure Tryz.prog 78 [.c (.val (.int .i64 a)), .c (.val (.int .i64 b)), .c (.val (.int .i64 c))] (.c (.val (.bool (decide (b ≤ a ∧ a ≤ c))))) := by
  refine pure_fn Tryz.func78 code_impl_within (by simp) ?_
  unfold c_impl_within
  by_cases h : b ≤ a
  · simp -implicitDefEqProofs only [go_sem, h]
  · simp -implicitDefEqProofs only [go_sem, h]
end Go.Proofs.YtmnpailnelmpiaaGreat
