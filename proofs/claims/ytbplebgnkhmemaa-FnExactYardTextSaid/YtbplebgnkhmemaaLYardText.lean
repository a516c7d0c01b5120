/- The law of YardText. -/
import Derived.Test.YtbplebgnkhmemaaTextY
import Derived.Test.YtbplebgnkhmemaaPu
import Derived.Test.YtbplebgnkhmemaaBnd
set_option linter.unusedSimpArgs false
set_option linter.unusedVariables false
set_option maxRecDepth 100000
namespace Go.Proofs.Ytbplebgnkhmemaa
open Go.RowKit Go.Sort
def c_laws_FnExactYardText : C := .seq (.reg [⟨some 1, none, .box 25 4 (.t 0)⟩, ⟨some 2, none, .mov (.c (.bool false))⟩]) (.seq (.reg [⟨some 3, none, .mov (.c (.int .i64 1048576))⟩]) (.seq (.reg [⟨some 7, none, .ld true 4 (.t 1)⟩, ⟨some 8, none, .mov (.t 3)⟩, ⟨some 9, none, .call 8 [.t 7, .t 8]⟩, ⟨some 3, none, .mov (.t 9)⟩]) (.seq (.seq (.reg [⟨some 10, none, .mov (.t 3)⟩, ⟨some 11, none, .bin .lss 3 (.t 10) (.c (.int .i64 0))⟩]) (.cond (.t 11) (.seq (.reg [⟨some 2, none, .mov (.c (.bool true))⟩]) .ret) .skip)) (.seq (.reg [⟨some 12, none, .ld true 4 (.t 1)⟩, ⟨some 13, none, .call 10 [.t 12]⟩, ⟨some 14, none, .call 18 [.t 13]⟩, ⟨some 4, none, .mov (.t 14)⟩]) (.seq (.reg [⟨some 15, none, .ld true 4 (.t 1)⟩, ⟨some 16, none, .call 10 [.t 15]⟩, ⟨some 5, none, .alloc 31 [.int .i64 0, .int .i64 0, .slice none 0 0, .slice none 0 0]⟩, ⟨none, none, .st 4 [none, none, some (1, 66), some (8, 65)] (.t 5) (.t 16)⟩]) (.seq (.reg [⟨some 17, none, .ld true 4 (.t 5)⟩, ⟨some 18, none, .call 19 [.t 17]⟩, ⟨some 6, none, .mov (.t 18)⟩]) (.seq (.seq (.reg [⟨some 19, none, .mov (.t 6)⟩, ⟨some 20, none, .mov (.t 4)⟩, ⟨some 21, none, .bin .neq 9 (.t 19) (.t 20)⟩]) (.cond (.t 21) (.seq (.reg [⟨some 2, none, .mov (.c (.bool false))⟩]) .ret) .skip)) (.seq (.seq (.dreg (T.pure 0 ⟨some 22, none, .ld true 4 (.t 5)⟩ (T.pure 1 ⟨some 23, none, .ld true 4 (.t 1)⟩ (T.alt ⟨some 24, none, .call 10 [.t 23]⟩ [0] (T.alt ⟨some 25, none, .call 12 [.t 22, .t 24]⟩ [] (T.pure 4 ⟨some 26, none, .un .not (.t 25)⟩ T.done) T.stop) T.stop)))) (.cond (.t 26) (.seq (.reg [⟨some 2, none, .mov (.c (.bool false))⟩]) .ret) .skip)) (.seq (.reg [⟨some 2, none, .mov (.c (.bool true))⟩]) .ret)))))))))
theorem code_laws_FnExactYardText : fnC Try.prog Try.f5 = some (c_laws_FnExactYardText, [.t 2], 27) := by kernel_rfl
set_option maxHeartbeats 2000000 in
theorem p_YardText (b0 : Yd) : Pure Try.prog 5 [.agg (encYd b0)] (.c (.val (.bool true))) := by
  refine pure_fn Try.func5 code_laws_FnExactYardText (by simp) ?_
  unfold c_laws_FnExactYardText
  simp -implicitDefEqProofs only [go_sem, encYd, encNt, encDd, encPl, encRn, encEn, bne_self_eq_false, beq_self_eq_true]
  intros
  refine run_call (p_szYard b0 (1048576) (by omega) (by omega)) (by simp -implicitDefEqProofs only [go_sem, encYd, encNt, encDd, encPl, encRn, encEn, bne_self_eq_false, beq_self_eq_true]) fun η => ?_
  rcases szf_spec (totYd b0) (1048576) with ⟨hle0, hz0⟩ | ⟨hle0, hz0⟩
  rotate_left
  · simp -implicitDefEqProofs only [go_sem, encYd, encNt, encDd, encPl, encRn, encEn, bne_self_eq_false, beq_self_eq_true, hz0]
  have ht0 : totYd b0 ≤ 2000000 := by omega
  have hn0 : ¬ (1048576 - (totYd b0 : Int) < 0) := by omega
  simp -implicitDefEqProofs only [go_sem, encYd, encNt, encDd, encPl, encRn, encEn, bne_self_eq_false, beq_self_eq_true, hz0, hn0]
  intros
  have hca0 := b_yd b0
  have hsa0 : b0.shelf.length ≤ totYd b0 := by simp only [totYd, totSh]; omega
  have hra0 : b0.runs.length ≤ totYd b0 := by simp only [totYd, totRns]; omega
  have pS := p_spec_YardText b0 ht0
  have pI := p_impl_YardText b0 ht0
  generalize yardS b0 = r0 at *
  refine run_call (p_toYard b0 (by omega)) (by simp -implicitDefEqProofs only [go_sem, encYd, encNt, encDd, encPl, encRn, encEn, bne_self_eq_false, beq_self_eq_true, hz0, hn0]) fun η1 => ?_
  simp -implicitDefEqProofs only [go_sem, encYd, encNt, encDd, encPl, encRn, encEn, bne_self_eq_false, beq_self_eq_true, hz0, hn0]
  intros
  refine run_call (pS) (by simp -implicitDefEqProofs only [go_sem, encYd, encNt, encDd, encPl, encRn, encEn, bne_self_eq_false, beq_self_eq_true, hz0, hn0]) fun η2 => ?_
  simp -implicitDefEqProofs only [go_sem, encYd, encNt, encDd, encPl, encRn, encEn, bne_self_eq_false, beq_self_eq_true, hz0, hn0]
  intros
  refine run_call (p_toYard b0 (by omega)) (by simp -implicitDefEqProofs only [go_sem, encYd, encNt, encDd, encPl, encRn, encEn, bne_self_eq_false, beq_self_eq_true, hz0, hn0]) fun η3 => ?_
  simp -implicitDefEqProofs only [go_sem, encYd, encNt, encDd, encPl, encRn, encEn, bne_self_eq_false, beq_self_eq_true, hz0, hn0]
  intros
  refine run_call (pI) (by simp -implicitDefEqProofs only [go_sem, encYd, encNt, encDd, encPl, encRn, encEn, bne_self_eq_false, beq_self_eq_true, hz0, hn0]) fun η4 => ?_
  simp -implicitDefEqProofs only [go_sem, encYd, encNt, encDd, encPl, encRn, encEn, bne_self_eq_false, beq_self_eq_true, hz0, hn0]
  intros
  refine run_call (p_toYard b0 (by omega)) (by simp -implicitDefEqProofs only [go_sem, encYd, encNt, encDd, encPl, encRn, encEn, bne_self_eq_false, beq_self_eq_true, hz0, hn0]) fun η5 => ?_
  simp -implicitDefEqProofs only [go_sem, encYd, encNt, encDd, encPl, encRn, encEn, bne_self_eq_false, beq_self_eq_true, hz0, hn0]
  intros
  refine run_call (p_eqYard b0 b0) (by simp -implicitDefEqProofs only [go_sem, encYd, encNt, encDd, encPl, encRn, encEn, bne_self_eq_false, beq_self_eq_true, hz0, hn0]) fun η6 => ?_
  simp -implicitDefEqProofs only [go_sem, encYd, encNt, encDd, encPl, encRn, encEn, bne_self_eq_false, beq_self_eq_true, hz0, hn0]
end Go.Proofs.Ytbplebgnkhmemaa
