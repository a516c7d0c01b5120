/- The law of YardNew. -/
import Derived.Test.YtfjgkakilmiheaaNew
import Derived.Test.YtfjgkakilmiheaaPu
set_option linter.unusedSimpArgs false
set_option linter.unusedVariables false
set_option maxRecDepth 100000
namespace Go.Proofs.Ytfjgkakilmiheaa
open Go.RowKit Go.Sort
def c_laws_FnExactYardNew : C := .seq (.reg [⟨some 0, none, .mov (.c (.bool false))⟩]) (.seq (.reg [⟨some 6, none, .call 44 []⟩, ⟨some 1, none, .alloc 70 [.int .i64 0, .int .i64 0, .slice none 0 0, .slice none 0 0]⟩, ⟨none, none, .st 4 [none, none, some (1, 115), some (8, 108)] (.t 1) (.t 6)⟩]) (.seq (.reg [⟨some 7, none, .call 45 []⟩, ⟨some 2, none, .alloc 70 [.int .i64 0, .int .i64 0, .slice none 0 0, .slice none 0 0]⟩, ⟨none, none, .st 4 [none, none, some (1, 115), some (8, 108)] (.t 2) (.t 7)⟩]) (.seq (.seq (.reg [⟨some 8, none, .ld true 4 (.t 2)⟩, ⟨some 9, none, .ld true 4 (.t 1)⟩, ⟨some 10, none, .call 43 [.t 8, .t 9]⟩, ⟨some 11, none, .un .not (.t 10)⟩]) (.cond (.t 11) (.seq (.reg [⟨some 0, none, .mov (.c (.bool false))⟩]) .ret) .skip)) (.seq (.reg [⟨some 3, none, .mov (.c (.int .i64 1))⟩]) (.seq (.reg [⟨some 12, none, .ld true 4 (.t 2)⟩, ⟨some 13, none, .mov (.t 3)⟩, ⟨some 14, none, .call 46 [.t 12, .t 13]⟩, ⟨some 3, none, .mov (.t 14)⟩]) (.seq (.reg [⟨some 4, none, .mov (.c (.int .i64 1))⟩]) (.seq (.reg [⟨some 15, none, .ld true 4 (.t 2)⟩, ⟨some 16, none, .mov (.t 4)⟩, ⟨some 17, none, .call 47 [.t 15, .t 16]⟩, ⟨some 4, none, .mov (.t 17)⟩]) (.seq (.seq (.reg [⟨some 18, none, .mov (.t 4)⟩, ⟨some 19, none, .bin .lss 3 (.t 18) (.c (.int .i64 0))⟩]) (.cond (.t 19) (.seq (.reg [⟨some 0, none, .mov (.c (.bool false))⟩]) .ret) .skip)) (.seq (.seq (.reg [⟨some 20, none, .mov (.t 4)⟩, ⟨some 21, none, .mov (.t 3)⟩, ⟨some 22, none, .bin .neq 3 (.t 20) (.t 21)⟩]) (.cond (.t 22) (.seq (.reg [⟨some 0, none, .mov (.c (.bool false))⟩]) .ret) .skip)) (.seq (.reg [⟨some 23, none, .call 45 []⟩, ⟨some 5, none, .alloc 70 [.int .i64 0, .int .i64 0, .slice none 0 0, .slice none 0 0]⟩, ⟨none, none, .st 4 [none, none, some (1, 115), some (8, 108)] (.t 5) (.t 23)⟩]) (.seq (.seq (.reg [⟨some 24, none, .ld true 4 (.t 5)⟩, ⟨some 25, none, .ld true 4 (.t 1)⟩, ⟨some 26, none, .call 43 [.t 24, .t 25]⟩, ⟨some 27, none, .un .not (.t 26)⟩]) (.cond (.t 27) (.seq (.reg [⟨some 0, none, .mov (.c (.bool false))⟩]) .ret) .skip)) (.seq (.reg [⟨some 4, none, .mov (.c (.int .i64 1))⟩]) (.seq (.reg [⟨some 28, none, .ld true 4 (.t 2)⟩, ⟨some 29, none, .mov (.t 4)⟩, ⟨some 30, none, .call 47 [.t 28, .t 29]⟩, ⟨some 4, none, .mov (.t 30)⟩]) (.seq (.seq (.reg [⟨some 31, none, .mov (.t 4)⟩, ⟨some 32, none, .bin .lss 3 (.t 31) (.c (.int .i64 0))⟩]) (.cond (.t 32) (.seq (.reg [⟨some 0, none, .mov (.c (.bool false))⟩]) .ret) .skip)) (.seq (.seq (.reg [⟨some 33, none, .mov (.t 4)⟩, ⟨some 34, none, .mov (.t 3)⟩, ⟨some 35, none, .bin .neq 3 (.t 33) (.t 34)⟩]) (.cond (.t 35) (.seq (.reg [⟨some 0, none, .mov (.c (.bool false))⟩]) .ret) .skip)) (.seq (.reg [⟨some 0, none, .mov (.c (.bool true))⟩]) .ret))))))))))))))))
theorem code_laws_FnExactYardNew : fnC Try.prog Try.f9 = some (c_laws_FnExactYardNew, [.t 0], 36) := by kernel_rfl
theorem p_spec_YardNew : Pure Try.prog 44 [] (.agg (encYd newYd)) := pure0_agg ⟨_, Try.func44, by kernel_rfl, by kernel_rfl⟩ fun w => sYardNew_c w
theorem p_impl_YardNew : Pure Try.prog 45 [] (.agg (encYd newYd)) := pure0_agg ⟨_, Try.func45, by kernel_rfl, by kernel_rfl⟩ fun w => iYardNew_c w
theorem p_YardNew : Pure Try.prog 9 [] (.c (.val (.bool true))) := by
  refine pure_fn Try.func9 code_laws_FnExactYardNew (by simp) ?_
  unfold c_laws_FnExactYardNew
  have pS := p_spec_YardNew
  have pI := p_impl_YardNew
  have hc : cYd newYd ≤ 1000 := by decide
  have hs : newYd.shelf.length ≤ 1000 := by decide
  have hr : newYd.runs.length ≤ 1000 := by decide
  generalize newYd = y at *
  simp only [go_sem]
  refine run_call pS (by simp only [go_sem]) fun η => ?_
  simp only [go_sem, encYd]
  intro b1
  refine run_call pI (by simp only [go_sem]) fun η1 => ?_
  simp only [go_sem, encYd]
  intro b2
  refine run_call (p_eqYard y y) (by simp only [go_sem, encYd]) fun η2 => ?_
  simp only [go_sem]
  refine run_mark_agg (l := [.v (.int .i64 y.now), .v (.int .i64 y.seq), .h 200 2 [] (η1 2 []), .h 200 3 [] (η1 3 [])]) (ds := encYd y) (ds' := encYd (mkYd y 1)) (k := 1) (r := 1 + (cYd y : Nat)) ⟨_, Try.func46, by kernel_rfl, by kernel_rfl⟩ (fun B w v S h hF => markYard_c y 1 v S B w h hF (by decide) (by omega) (by omega) (by omega)) (by simp only [go_sem]) (by simp only [go_sem]) ⟨rfl, rfl, rfl, rfl, trivial⟩ (by simp [Apart] <;> (intros; omega)) (by simp [NoPath]) ?_
  simp only [go_sem, encYd]
  rintro η3 ⟨h3, h4⟩
  have hm : encYd (mkYd y 1) = [iv (mkYd y 1).now, iv (mkYd y 1).seq, encSh (mkYd y 1).shelf, encRns (mkYd y 1).runs] := rfl
  have m0 : (mkYd y 1).now = y.now := rfl
  have m1 : (mkYd y 1).seq = y.seq := rfl
  refine run_call (p_heldYard y 1 (by decide) (by omega) (by omega) (by omega)) (by simp only [go_sem, hm, m0, m1, h3, h4]) fun η4 => ?_
  have hn : ¬ (1 + (cYd y : Int) < 0) := by omega
  simp only [go_sem, hn, bne_self_eq_false]
  refine run_call pI (by simp only [go_sem]) fun η5 => ?_
  simp only [go_sem, encYd]
  intro b3
  refine run_call (p_eqYard y y) (by simp only [go_sem, encYd]) fun η6 => ?_
  simp only [go_sem]
  refine run_call (p_heldYard y 1 (by decide) (by omega) (by omega) (by omega)) (by simp only [go_sem, hm, m0, m1, h3, h4]) fun η7 => ?_
  simp only [go_sem, hn, bne_self_eq_false]
end Go.Proofs.Ytfjgkakilmiheaa
