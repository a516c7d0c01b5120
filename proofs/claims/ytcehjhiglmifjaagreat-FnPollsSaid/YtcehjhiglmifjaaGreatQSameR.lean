/- Parts. -/
import Derived.Test.YtcehjhiglmifjaaGreatQDatR
import Derived.Test.YtcehjhiglmifjaaGreatQReadY
set_option linter.all false
set_option maxRecDepth 100000
namespace Go.Proofs.YtcehjhiglmifjaaGreat
open Go.RowKit Go.Sort
theorem jFK (w:World) (x y:Rp):(Op.equalIn 10000 32 (.agg #[.int .i64 x.code,.int .i64 x.run,.int .i64 x.aOK,.int .i64 x.tri]) (.agg #[.int .i64 y.code,.int .i64 y.run,.int .i64 y.aOK,.int .i64 y.tri])).run Tryz.prog w=.ok (decide (x=y)) w:=by
 have u3:=Tryz.underlying3;have a3:=Tryz.isAgg3;have z3:=Tryz.sizeOf3;rw [show (10000:Nat)=9999+1 from rfl,run_equalIn_agg w 9999 32 _ _ (by kernel_rfl) (by kernel_rfl)]
 simp only [Program.fieldsOf,Tryz.underlying32];obtain ⟨xstate,xneed,xtri,xtil⟩:=x;obtain ⟨ystate,yneed,ytri,ytil⟩:=y
 go_simp
 by_cases h0:xstate=ystate<;>by_cases h1:xneed=yneed<;>by_cases h2:xtri=ytri<;>by_cases h3:xtil=ytil<;>simp [h0,h1,h2,h3]
theorem jx8 {d:Option Nat} {s:St} {K:St->Prop} (x y:Rp):jvr Tryz.prog d s K .neq 32 (.agg [.v (.int .i64 x.code),.v (.int .i64 x.run),.v (.int .i64 x.aOK),.v (.int .i64 x.tri)]) (.agg [.v (.int .i64 y.code),.v (.int .i64 y.run),.v (.int .i64 y.aOK),.v (.int .i64 y.tri)])=K (s.put d (.c (.v (.bool (!decide (x=y)))))):=jhP rfl rfl (jto (λw=>jFK w x y) (by kernel_rfl))
attribute [go_sem] jx8
