/- Texts for laws: LYardNew. -/
import Derived.Test.YtnhdcbhcocgjhaaQNew
import Derived.Test.YtnhdcbhcocgjhaaQPu
set_option linter.unusedSimpArgs false
set_option linter.unusedVariables false
set_option maxRecDepth 100000
namespace Go.Proofs.Ytnhdcbhcocgjhaa
open Go.RowKit Go.Sort
theorem p_spec_YardNew : Pure Try.prog 26 [] (.agg (encYd newYd)) := pure0_agg ⟨_, Try.func26, by kernel_rfl, by kernel_rfl⟩ fun w => sYardNew_c w
theorem p_impl_YardNew : Pure Try.prog 27 [] (.agg (encYd newYd)) := pure0_agg ⟨_, Try.func27, by kernel_rfl, by kernel_rfl⟩ fun w => iYardNew_c w
end Go.Proofs.Ytnhdcbhcocgjhaa
