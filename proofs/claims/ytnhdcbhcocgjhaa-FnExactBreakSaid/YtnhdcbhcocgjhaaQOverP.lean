/- Texts for laws: OverP. -/
import Derived.Test.YtnhdcbhcocgjhaaQAb
import Derived.Test.YtnhdcbhcocgjhaaQData
set_option linter.unusedSimpArgs false
set_option linter.unusedVariables false
namespace Go.Proofs.Ytnhdcbhcocgjhaa
open Go.RowKit Go.Sort
theorem runs_le {y : Yd} (h : totYd y ≤ 2000000) : y.runs.length ≤ 2000000 := by
  simp only [totYd, totRns] at h; omega
end Go.Proofs.Ytnhdcbhcocgjhaa
