/- Parts. -/
import Derived.Test.YtcehjhiglmifjaaGreatQRunD
set_option linter.all false
set_option maxRecDepth 100000
namespace Go.Proofs.YtcehjhiglmifjaaGreat
open Go.RowKit Go.Sort
theorem jaM:kg Tryz.prog 28 [] (.agg (jb newYd)):=jjN ⟨_,Tryz.func28,by kernel_rfl,by kernel_rfl⟩ λw=>jtk w
theorem jjP:kg Tryz.prog 33 [] (.agg (jb newYd)):=jjN ⟨_,Tryz.func33,by kernel_rfl,by kernel_rfl⟩ λw=>jlC w
