/- Texts for laws: Pu. -/
import Derived.Test.YtnhdcbhcocgjhaaGreatQAb
import Derived.Test.YtnhdcbhcocgjhaaGreatQMarkB
set_option linter.unusedVariables false
namespace Go.Proofs.YtnhdcbhcocgjhaaGreat
open Go.RowKit Go.Sort

theorem p_eqYard (x y : Yd) : Pure Tryz.prog 15 [.agg (encYd x), .agg (encYd y)] (.c (.val (.bool (decide (x = y))))) := pure2 ⟨_, Tryz.func15, by kernel_rfl, by kernel_rfl⟩ fun w a b ⟨S, ha⟩ ⟨S2, hb⟩ => eqYard_c x y a b S S2 w false false ha hb
theorem p_toYard (x : Yd) (hsz : totYd x ≤ 2000000) : Pure Tryz.prog 13 [.agg (encYd x)] (.agg (encYd x)) := pure_agg ⟨_, Tryz.func13, by kernel_rfl, by kernel_rfl⟩ fun w a ⟨S, ha⟩ => toYard_c x a S w false ha hsz
theorem p_szYard (x : Yd) (left : Int) (h0 : 0 ≤ left) (h1 : left ≤ 1048576) : Pure Tryz.prog 11 [.agg (encYd x), .c (.val (.int .i64 left))] (.c (.val (.int .i64 (szf (totYd x) left)))) := pure2 ⟨_, Tryz.func11, by kernel_rfl, by kernel_rfl⟩ fun w a b ⟨S, ha⟩ hb => by rw [view_val hb]; exact szYard_c x a S w false left ha h0 h1
theorem p_heldYard (y : Yd) (k : Int) (h0 : 0 ≤ k) (h1 : k + (cYd y : Nat) ≤ 2305843009213693952) (h2 : y.shelf.length ≤ 2305843009213693952) (h3 : y.runs.length ≤ 2305843009213693952) : Pure Tryz.prog 17 [.agg (encYd (mkYd y k)), .c (.val (.int .i64 k))] (.c (.val (.int .i64 (k + (cYd y : Nat))))) := pure2 ⟨_, Tryz.func17, by kernel_rfl, by kernel_rfl⟩ fun w a b ⟨S, ha⟩ hb => by rw [view_val hb]; exact heldYard_c y k a S w false ha h0 h1 h2 h3
end Go.Proofs.YtnhdcbhcocgjhaaGreat
