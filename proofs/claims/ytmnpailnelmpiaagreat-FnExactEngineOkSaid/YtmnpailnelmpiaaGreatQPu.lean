/- Texts for laws: Pu. -/
import Derived.Test.YtmnpailnelmpiaaGreatQAb
import Derived.Test.YtmnpailnelmpiaaGreatQMarkB
set_option linter.unusedVariables false
namespace Go.Proofs.YtmnpailnelmpiaaGreat
open Go.RowKit Go.Sort

theorem p_eqYard (x y : Yd) : Pure Tryz.prog 25 [.agg (encYd x), .agg (encYd y)] (.c (.val (.bool (decide (x = y))))) := pure2 ⟨_, Tryz.func25, by kernel_rfl, by kernel_rfl⟩ fun w a b ⟨S, ha⟩ ⟨S2, hb⟩ => eqYard_c x y a b S S2 w false false ha hb
theorem p_toYard (x : Yd) (hsz : totYd x ≤ 2000000) : Pure Tryz.prog 31 [.agg (encYd x)] (.agg (encYd x)) := pure_agg ⟨_, Tryz.func31, by kernel_rfl, by kernel_rfl⟩ fun w a ⟨S, ha⟩ => toYard_c x a S w false ha hsz
theorem p_szYard (x : Yd) (left : Int) (h0 : 0 ≤ left) (h1 : left ≤ 1048576) : Pure Tryz.prog 28 [.agg (encYd x), .c (.val (.int .i64 left))] (.c (.val (.int .i64 (szf (totYd x) left)))) := pure2 ⟨_, Tryz.func28, by kernel_rfl, by kernel_rfl⟩ fun w a b ⟨S, ha⟩ hb => by rw [view_val hb]; exact szYard_c x a S w false left ha h0 h1
end Go.Proofs.YtmnpailnelmpiaaGreat
