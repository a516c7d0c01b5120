/- Texts for laws: LEngineOk. -/
import Derived.Test.YtmnpailnelmpiaaGreatQDatE
import Derived.Test.YtmnpailnelmpiaaGreatQDatZ
import Derived.Test.YtmnpailnelmpiaaGreatQOpenE
set_option linter.unusedSimpArgs false
set_option linter.unusedVariables false
set_option maxRecDepth 100000
namespace Go.Proofs.YtmnpailnelmpiaaGreat
open Go.RowKit Go.Sort
def c_laws_FnExactEngineOk : C := .seq (.reg [⟨some 1, none, .box 31 10 (.t 0)⟩, ⟨some 2, none, .mov (.c (.bool false))⟩]) (.seq (.reg [⟨some 3, none, .mov (.c (.int .i64 1048576))⟩]) (.seq (.reg [⟨some 7, none, .ld true 10 (.t 1)⟩, ⟨some 8, none, .mov (.t 3)⟩, ⟨some 9, none, .call 11 [.t 7, .t 8]⟩, ⟨some 3, none, .mov (.t 9)⟩]) (.seq (.seq (.reg [⟨some 10, none, .mov (.t 3)⟩, ⟨some 11, none, .bin .lss 3 (.t 10) (.c (.int .i64 0))⟩]) (.cond (.t 11) (.seq (.reg [⟨some 2, none, .mov (.c (.bool true))⟩]) .ret) .skip)) (.seq (.reg [⟨some 12, none, .ld true 10 (.t 1)⟩, ⟨some 13, none, .call 13 [.t 12]⟩, ⟨some 14, none, .call 12 [.t 13]⟩, ⟨some 4, none, .mov (.t 14)⟩]) (.seq (.reg [⟨some 15, none, .ld true 10 (.t 1)⟩, ⟨some 16, none, .call 13 [.t 15]⟩, ⟨some 5, none, .alloc 43 [.int .i64 0, .int .i64 0, .slice none 0 0, .slice none 0 0, .slice none 0 0, .int .i64 0, .int .i64 0, .slice none 0 0, .int .i64 0, .bool false]⟩, ⟨none, none, .st 10 [none, none, some (1, 102), some (8, 108), some (3, 184), none, none, some (5, 126), none, none] (.t 5) (.t 16)⟩]) (.seq (.reg [⟨some 17, none, .ld true 10 (.t 5)⟩, ⟨some 18, none, .call 14 [.t 17]⟩, ⟨some 6, none, .mov (.t 18)⟩]) (.seq (.seq (.reg [⟨some 19, none, .mov (.t 6)⟩, ⟨some 20, none, .mov (.t 4)⟩, ⟨some 21, none, .beq true (.t 19) (.t 20)⟩]) (.cond (.t 21) (.seq (.reg [⟨some 2, none, .mov (.c (.bool false))⟩]) .ret) .skip)) (.seq (.seq (.dreg (T.pure 0 ⟨some 22, none, .ld true 10 (.t 5)⟩ (T.pure 1 ⟨some 23, none, .ld true 10 (.t 1)⟩ (T.alt ⟨some 24, none, .call 13 [.t 23]⟩ [0] (T.alt ⟨some 25, none, .call 15 [.t 22, .t 24]⟩ [] (T.pure 4 ⟨some 26, none, .un .not (.t 25)⟩ T.done) T.stop) T.stop)))) (.cond (.t 26) (.seq (.reg [⟨some 2, none, .mov (.c (.bool false))⟩]) .ret) .skip)) (.seq (.reg [⟨some 2, none, .mov (.c (.bool true))⟩]) .ret)))))))))
theorem code_laws_FnExactEngineOk : fnC Tryz.prog Tryz.f3 = some (c_laws_FnExactEngineOk, [.t 2], 27) := by kernel_rfl
set_option maxHeartbeats 8000000 in
theorem p_EngineOk (x : Eg) (hz : egOk x) : Pure Tryz.prog 3 [.agg (encEg x)] (.c (.val (.bool true))) := by
  refine pure_fn Tryz.func3 code_laws_FnExactEngineOk (by simp) ?_
  unfold c_laws_FnExactEngineOk
  obtain ⟨z1, z2, z3⟩ := hz
  simp -implicitDefEqProofs only [go_sem, encEg]
  intro b1
  refine run_call (p_szEngine x 1048576 (by omega) (by omega) z1 z2 z3) (by simp -implicitDefEqProofs only [go_sem, encEg]) fun η => ?_
  simp -implicitDefEqProofs only [go_sem, encEg]
  rcases szf_spec (totEg x) (1048576) with ⟨hle0, hz0⟩ | ⟨hle0, hz0⟩
  rotate_left
  · have h7 : ((-1 : Int) < 0) = True := by simp
    simp -implicitDefEqProofs only [go_sem, hz0, h7]
  have hT : totEg x = totYd x.yard + totFls x.disk + x.waits.length := rfl
  have hF : totFls x.disk = x.disk.length + tsum totFl x.disk := rfl
  have ht0 : totYd x.yard ≤ 2000000 := by omega
  have hd0 : x.disk.length ≤ 2000000 := by omega
  have hw0 : x.waits.length ≤ 2000000 := by omega
  have hn0 : ¬ (1048576 - (totEg x : Int) < 0) := by omega
  have pS := p_spec_EngineOk x ht0 hd0
  have pI := p_impl_EngineOk x ht0 hd0
  generalize egB x = r at *
  have pT := p_toEngine x ht0 (by omega) (by omega)
  have pX := p_eqEngine1 x (by omega) (by omega)
  simp -implicitDefEqProofs only [go_sem, hz0, hn0, encEg]
  refine run_call (pT) (by simp -implicitDefEqProofs only [go_sem, encEg]) fun η1 => ?_
  simp -implicitDefEqProofs only [go_sem, encEg]
  refine run_call (pS) (by simp -implicitDefEqProofs only [go_sem, encEg]) fun η2 => ?_
  simp -implicitDefEqProofs only [go_sem, encEg]
  refine run_call (pT) (by simp -implicitDefEqProofs only [go_sem, encEg]) fun η3 => ?_
  simp -implicitDefEqProofs only [go_sem, encEg]
  intro b5
  refine run_call (pI) (by simp -implicitDefEqProofs only [go_sem, encEg, bne_self_eq_false, beq_self_eq_true, Bool.not_true]) fun η4 => ?_
  simp -implicitDefEqProofs only [go_sem, encEg, bne_self_eq_false, beq_self_eq_true, Bool.not_true]
  refine run_call (pT) (by simp -implicitDefEqProofs only [go_sem, encEg]) fun η6 => ?_
  simp -implicitDefEqProofs only [go_sem, encEg]
  refine run_call (pX) (by simp -implicitDefEqProofs only [go_sem, encEg, Bool.not_true]) fun η7 => ?_
  simp -implicitDefEqProofs only [go_sem, encEg, Bool.not_true]
end Go.Proofs.YtmnpailnelmpiaaGreat
