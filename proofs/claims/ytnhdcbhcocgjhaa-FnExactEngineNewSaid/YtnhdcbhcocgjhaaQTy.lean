/- Texts for laws: Ty. -/
import Derived.Test.YtnhdcbhcocgjhaaQData
import Derived.Test.YtnhdcbhcocgjhaaRows
namespace Go.Proofs.Ytnhdcbhcocgjhaa
open Go.RowKit

theorem iEnS : (Try.prog.info? tEnS).map (fun i => (i.zero, i.size, i.bytes)) = some (some (.slice none 0 0), 1, 24) := by kernel_rfl
theorem slEnS : SlT Try.prog tSh tEnS 1 24 [.slice none 0 0] := ⟨by kernel_rfl, info_of iEnS, rfl, by decide⟩
theorem encEnS_one : ∀ (y : List En), ∀ d ∈ [encEns y], d.one := by intro y d hd; simp at hd; subst hd; trivial
theorem zEnS (w : World) : RepL w true [encEns []] [.slice none 0 0] [] := RepL.cons_ (Rep.nil_ w 4 tEn) RepL.nil_
end Go.Proofs.Ytnhdcbhcocgjhaa
