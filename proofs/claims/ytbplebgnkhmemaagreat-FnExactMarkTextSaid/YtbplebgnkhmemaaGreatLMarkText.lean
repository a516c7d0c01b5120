/- The law of MarkText. -/
import Derived.Test.YtbplebgnkhmemaaGreatMarkTx
import Derived.Test.YtbplebgnkhmemaaGreatPu
import Derived.Test.YtbplebgnkhmemaaGreatBnd
set_option linter.unusedSimpArgs false
set_option linter.unusedVariables false
set_option maxRecDepth 100000
namespace Go.Proofs.YtbplebgnkhmemaaGreat
open Go.RowKit Go.Sort
def c_laws_FnExactMarkText : C := .seq (.reg [⟨some 3, none, .box 25 4 (.t 1)⟩, ⟨some 4, none, .mov (.c (.bool false))⟩]) (.seq (.reg [⟨some 5, none, .mov (.c (.int .i64 1048576))⟩]) (.seq (.reg [⟨some 9, none, .ld true 4 (.t 3)⟩, ⟨some 10, none, .mov (.t 5)⟩, ⟨some 11, none, .call 10 [.t 9, .t 10]⟩, ⟨some 5, none, .mov (.t 11)⟩]) (.seq (.seq (.reg [⟨some 12, none, .mov (.t 5)⟩, ⟨some 13, none, .bin .lss 3 (.t 12) (.c (.int .i64 0))⟩]) (.cond (.t 13) (.seq (.reg [⟨some 4, none, .mov (.c (.bool true))⟩]) .ret) .skip)) (.seq (.reg [⟨some 14, none, .mov (.t 0)⟩, ⟨some 15, none, .ld true 4 (.t 3)⟩, ⟨some 16, none, .call 12 [.t 15]⟩, ⟨some 17, none, .call 11 [.t 14, .t 16]⟩, ⟨some 6, none, .mov (.t 17)⟩]) (.seq (.reg [⟨some 18, none, .ld true 4 (.t 3)⟩, ⟨some 19, none, .call 12 [.t 18]⟩, ⟨some 7, none, .alloc 31 [.int .i64 0, .int .i64 0, .slice none 0 0, .slice none 0 0]⟩, ⟨none, none, .st 4 [none, none, some (1, 105), some (8, 70)] (.t 7) (.t 19)⟩]) (.seq (.reg [⟨some 20, none, .mov (.t 0)⟩, ⟨some 21, none, .ld true 4 (.t 7)⟩, ⟨some 22, none, .call 13 [.t 20, .t 21]⟩, ⟨some 8, none, .mov (.t 22)⟩]) (.seq (.seq (.reg [⟨some 23, none, .mov (.t 8)⟩, ⟨some 24, none, .mov (.t 6)⟩, ⟨some 25, none, .bin .neq 9 (.t 23) (.t 24)⟩]) (.cond (.t 25) (.seq (.reg [⟨some 4, none, .mov (.c (.bool false))⟩]) .ret) .skip)) (.seq (.seq (.dreg (T.pure 0 ⟨some 26, none, .ld true 4 (.t 7)⟩ (T.pure 1 ⟨some 27, none, .ld true 4 (.t 3)⟩ (T.alt ⟨some 28, none, .call 12 [.t 27]⟩ [0] (T.alt ⟨some 29, none, .call 14 [.t 26, .t 28]⟩ [] (T.pure 4 ⟨some 30, none, .un .not (.t 29)⟩ T.done) T.stop) T.stop)))) (.cond (.t 30) (.seq (.reg [⟨some 4, none, .mov (.c (.bool false))⟩]) .ret) .skip)) (.seq (.reg [⟨some 4, none, .mov (.c (.bool true))⟩]) .ret)))))))))
theorem code_laws_FnExactMarkText : fnC Tryz.prog Tryz.f3 = some (c_laws_FnExactMarkText, [.t 4], 31) := by kernel_rfl
set_option maxHeartbeats 2000000 in
theorem p_MarkText (b0 : Int) (b1 : Yd) : Pure Tryz.prog 3 [.c (.val (.int .i64 b0)), .agg (encYd b1)] (.c (.val (.bool true))) := by
  refine pure_fn Tryz.func3 code_laws_FnExactMarkText (by simp) ?_
  unfold c_laws_FnExactMarkText
  simp -implicitDefEqProofs only [go_sem, encYd, encNt, encDd, encPl, encRn, encEn, bne_self_eq_false, beq_self_eq_true]
  intros
  refine run_call (p_szYard b1 (1048576) (by omega) (by omega)) (by simp -implicitDefEqProofs only [go_sem, encYd, encNt, encDd, encPl, encRn, encEn, bne_self_eq_false, beq_self_eq_true]) fun η => ?_
  rcases szf_spec (totYd b1) (1048576) with ⟨hle1, hz1⟩ | ⟨hle1, hz1⟩
  rotate_left
  · simp -implicitDefEqProofs only [go_sem, encYd, encNt, encDd, encPl, encRn, encEn, bne_self_eq_false, beq_self_eq_true, hz1]
  have ht1 : totYd b1 ≤ 2000000 := by omega
  have hn1 : ¬ (1048576 - (totYd b1 : Int) < 0) := by omega
  simp -implicitDefEqProofs only [go_sem, encYd, encNt, encDd, encPl, encRn, encEn, bne_self_eq_false, beq_self_eq_true, hz1, hn1]
  intros
  have hca1 := b_yd b1
  have hsa1 : b1.shelf.length ≤ totYd b1 := by simp only [totYd, totSh]; omega
  have hra1 : b1.runs.length ≤ totYd b1 := by simp only [totYd, totRns]; omega
  have pS := p_spec_MarkText b0 b1 ht1
  have pI := p_impl_MarkText b0 b1 ht1
  generalize markS b0 b1 = r0 at *
  refine run_call (p_toYard b1 (by omega)) (by simp -implicitDefEqProofs only [go_sem, encYd, encNt, encDd, encPl, encRn, encEn, bne_self_eq_false, beq_self_eq_true, hz1, hn1]) fun η1 => ?_
  simp -implicitDefEqProofs only [go_sem, encYd, encNt, encDd, encPl, encRn, encEn, bne_self_eq_false, beq_self_eq_true, hz1, hn1]
  intros
  refine run_call (pS) (by simp -implicitDefEqProofs only [go_sem, encYd, encNt, encDd, encPl, encRn, encEn, bne_self_eq_false, beq_self_eq_true, hz1, hn1]) fun η2 => ?_
  simp -implicitDefEqProofs only [go_sem, encYd, encNt, encDd, encPl, encRn, encEn, bne_self_eq_false, beq_self_eq_true, hz1, hn1]
  intros
  refine run_call (p_toYard b1 (by omega)) (by simp -implicitDefEqProofs only [go_sem, encYd, encNt, encDd, encPl, encRn, encEn, bne_self_eq_false, beq_self_eq_true, hz1, hn1]) fun η3 => ?_
  simp -implicitDefEqProofs only [go_sem, encYd, encNt, encDd, encPl, encRn, encEn, bne_self_eq_false, beq_self_eq_true, hz1, hn1]
  intros
  refine run_call (pI) (by simp -implicitDefEqProofs only [go_sem, encYd, encNt, encDd, encPl, encRn, encEn, bne_self_eq_false, beq_self_eq_true, hz1, hn1]) fun η4 => ?_
  simp -implicitDefEqProofs only [go_sem, encYd, encNt, encDd, encPl, encRn, encEn, bne_self_eq_false, beq_self_eq_true, hz1, hn1]
  intros
  refine run_call (p_toYard b1 (by omega)) (by simp -implicitDefEqProofs only [go_sem, encYd, encNt, encDd, encPl, encRn, encEn, bne_self_eq_false, beq_self_eq_true, hz1, hn1]) fun η5 => ?_
  simp -implicitDefEqProofs only [go_sem, encYd, encNt, encDd, encPl, encRn, encEn, bne_self_eq_false, beq_self_eq_true, hz1, hn1]
  intros
  refine run_call (p_eqYard b1 b1) (by simp -implicitDefEqProofs only [go_sem, encYd, encNt, encDd, encPl, encRn, encEn, bne_self_eq_false, beq_self_eq_true, hz1, hn1]) fun η6 => ?_
  simp -implicitDefEqProofs only [go_sem, encYd, encNt, encDd, encPl, encRn, encEn, bne_self_eq_false, beq_self_eq_true, hz1, hn1]
end Go.Proofs.YtbplebgnkhmemaaGreat
