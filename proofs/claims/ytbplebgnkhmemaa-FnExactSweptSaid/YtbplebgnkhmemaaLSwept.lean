/- The law of Swept. -/
import Derived.Test.YtbplebgnkhmemaaSwept
import Derived.Test.YtbplebgnkhmemaaPu
import Derived.Test.YtbplebgnkhmemaaBnd
set_option linter.unusedSimpArgs false
set_option linter.unusedVariables false
set_option maxRecDepth 100000
namespace Go.Proofs.Ytbplebgnkhmemaa
open Go.RowKit Go.Sort
def c_laws_FnExactSwept : C := .seq (.reg [⟨some 2, none, .box 25 4 (.t 0)⟩, ⟨some 4, none, .mov (.c (.bool false))⟩]) (.seq (.reg [⟨some 5, none, .mov (.c (.int .i64 1048576))⟩]) (.seq (.reg [⟨some 13, none, .ld true 4 (.t 2)⟩, ⟨some 14, none, .mov (.t 5)⟩, ⟨some 15, none, .call 8 [.t 13, .t 14]⟩, ⟨some 5, none, .mov (.t 15)⟩]) (.seq (.seq (.reg [⟨some 16, none, .mov (.t 5)⟩, ⟨some 17, none, .bin .lss 3 (.t 16) (.c (.int .i64 0))⟩]) (.cond (.t 17) (.seq (.reg [⟨some 4, none, .mov (.c (.bool true))⟩]) .ret) .skip)) (.seq (.reg [⟨some 18, none, .ld true 4 (.t 2)⟩, ⟨some 19, none, .call 10 [.t 18]⟩, ⟨some 20, none, .mov (.t 1)⟩, ⟨some 21, none, .call 20 [.t 19, .t 20]⟩, ⟨some 6, none, .alloc 31 [.int .i64 0, .int .i64 0, .slice none 0 0, .slice none 0 0]⟩, ⟨none, none, .st 4 [none, none, some (1, 66), some (8, 65)] (.t 6) (.t 21)⟩]) (.seq (.reg [⟨some 22, none, .ld true 4 (.t 2)⟩, ⟨some 23, none, .call 10 [.t 22]⟩, ⟨some 7, none, .alloc 31 [.int .i64 0, .int .i64 0, .slice none 0 0, .slice none 0 0]⟩, ⟨none, none, .st 4 [none, none, some (1, 66), some (8, 65)] (.t 7) (.t 23)⟩]) (.seq (.reg [⟨some 24, none, .ld true 4 (.t 7)⟩, ⟨some 25, none, .mov (.t 1)⟩, ⟨some 26, none, .call 21 [.t 24, .t 25]⟩, ⟨some 8, none, .alloc 31 [.int .i64 0, .int .i64 0, .slice none 0 0, .slice none 0 0]⟩, ⟨none, none, .st 4 [none, none, some (1, 66), some (8, 65)] (.t 8) (.t 26)⟩]) (.seq (.seq (.reg [⟨some 27, none, .ld true 4 (.t 8)⟩, ⟨some 28, none, .ld true 4 (.t 6)⟩, ⟨some 29, none, .call 12 [.t 27, .t 28]⟩, ⟨some 30, none, .un .not (.t 29)⟩]) (.cond (.t 30) (.seq (.reg [⟨some 4, none, .mov (.c (.bool false))⟩]) .ret) .skip)) (.seq (.seq (.dreg (T.pure 0 ⟨some 31, none, .ld true 4 (.t 7)⟩ (T.pure 1 ⟨some 32, none, .ld true 4 (.t 2)⟩ (T.alt ⟨some 33, none, .call 10 [.t 32]⟩ [0] (T.alt ⟨some 34, none, .call 12 [.t 31, .t 33]⟩ [] (T.pure 4 ⟨some 35, none, .un .not (.t 34)⟩ T.done) T.stop) T.stop)))) (.cond (.t 35) (.seq (.reg [⟨some 4, none, .mov (.c (.bool false))⟩]) .ret) .skip)) (.seq (.reg [⟨some 9, none, .mov (.c (.int .i64 1))⟩]) (.seq (.reg [⟨some 36, none, .ld true 4 (.t 7)⟩, ⟨some 37, none, .mov (.t 9)⟩, ⟨some 38, none, .call 22 [.t 36, .t 37]⟩, ⟨some 9, none, .mov (.t 38)⟩]) (.seq (.seq (.reg [⟨some 39, none, .mov (.t 9)⟩, ⟨some 40, none, .bin .lss 3 (.t 39) (.c (.int .i64 0))⟩, ⟨some 41, none, .mov (.t 40)⟩, ⟨some 42, some (41, false), .ld true 4 (.t 8)⟩, ⟨some 43, some (41, false), .ld true 4 (.t 6)⟩, ⟨some 44, some (41, false), .call 12 [.t 42, .t 43]⟩, ⟨some 45, some (41, false), .un .not (.t 44)⟩, ⟨some 46, none, .pick (.t 41) (.c (.bool true)) (.t 45)⟩]) (.cond (.t 46) (.seq (.reg [⟨some 4, none, .mov (.c (.bool false))⟩]) .ret) .skip)) (.seq (.reg [⟨some 10, none, .mov (.c (.int .i64 1))⟩]) (.seq (.reg [⟨some 47, none, .ld true 4 (.t 8)⟩, ⟨some 48, none, .mov (.t 10)⟩, ⟨some 49, none, .call 22 [.t 47, .t 48]⟩, ⟨some 10, none, .mov (.t 49)⟩]) (.seq (.reg [⟨some 11, none, .mov (.c (.int .i64 1))⟩]) (.seq (.reg [⟨some 50, none, .ld true 4 (.t 8)⟩, ⟨some 51, none, .mov (.t 11)⟩, ⟨some 52, none, .call 23 [.t 50, .t 51]⟩, ⟨some 11, none, .mov (.t 52)⟩]) (.seq (.seq (.reg [⟨some 53, none, .mov (.t 11)⟩, ⟨some 54, none, .bin .lss 3 (.t 53) (.c (.int .i64 0))⟩]) (.cond (.t 54) (.seq (.reg [⟨some 4, none, .mov (.c (.bool false))⟩]) .ret) .skip)) (.seq (.seq (.reg [⟨some 55, none, .mov (.t 11)⟩, ⟨some 56, none, .mov (.t 10)⟩, ⟨some 57, none, .bin .neq 3 (.t 55) (.t 56)⟩]) (.cond (.t 57) (.seq (.reg [⟨some 4, none, .mov (.c (.bool false))⟩]) .ret) .skip)) (.seq (.reg [⟨some 58, none, .ld true 4 (.t 2)⟩, ⟨some 59, none, .call 10 [.t 58]⟩, ⟨some 60, none, .mov (.t 1)⟩, ⟨some 61, none, .call 21 [.t 59, .t 60]⟩, ⟨some 12, none, .alloc 31 [.int .i64 0, .int .i64 0, .slice none 0 0, .slice none 0 0]⟩, ⟨none, none, .st 4 [none, none, some (1, 66), some (8, 65)] (.t 12) (.t 61)⟩]) (.seq (.seq (.reg [⟨some 62, none, .ld true 4 (.t 12)⟩, ⟨some 63, none, .ld true 4 (.t 6)⟩, ⟨some 64, none, .call 12 [.t 62, .t 63]⟩, ⟨some 65, none, .un .not (.t 64)⟩]) (.cond (.t 65) (.seq (.reg [⟨some 4, none, .mov (.c (.bool false))⟩]) .ret) .skip)) (.seq (.reg [⟨some 11, none, .mov (.c (.int .i64 1))⟩]) (.seq (.reg [⟨some 66, none, .ld true 4 (.t 8)⟩, ⟨some 67, none, .mov (.t 11)⟩, ⟨some 68, none, .call 23 [.t 66, .t 67]⟩, ⟨some 11, none, .mov (.t 68)⟩]) (.seq (.seq (.reg [⟨some 69, none, .mov (.t 11)⟩, ⟨some 70, none, .bin .lss 3 (.t 69) (.c (.int .i64 0))⟩]) (.cond (.t 70) (.seq (.reg [⟨some 4, none, .mov (.c (.bool false))⟩]) .ret) .skip)) (.seq (.seq (.reg [⟨some 71, none, .mov (.t 11)⟩, ⟨some 72, none, .mov (.t 10)⟩, ⟨some 73, none, .bin .neq 3 (.t 71) (.t 72)⟩]) (.cond (.t 73) (.seq (.reg [⟨some 4, none, .mov (.c (.bool false))⟩]) .ret) .skip)) (.seq (.reg [⟨some 4, none, .mov (.c (.bool true))⟩]) .ret))))))))))))))))))))))))
theorem code_laws_FnExactSwept : fnC Try.prog Try.f6 = some (c_laws_FnExactSwept, [.t 4], 74) := by kernel_rfl
set_option maxHeartbeats 2000000 in
theorem p_Swept (b0 : Yd) (b1 : Int) : Pure Try.prog 6 [.agg (encYd b0), .c (.val (.int .i64 b1))] (.c (.val (.bool true))) := by
  refine pure_fn Try.func6 code_laws_FnExactSwept (by simp) ?_
  unfold c_laws_FnExactSwept
  simp -implicitDefEqProofs only [go_sem, encYd, encNt, encDd, encPl, encRn, encEn, bne_self_eq_false, beq_self_eq_true]
  intros
  refine run_call (p_szYard b0 (1048576) (by omega) (by omega)) (by simp -implicitDefEqProofs only [go_sem, encYd, encNt, encDd, encPl, encRn, encEn, bne_self_eq_false, beq_self_eq_true]) fun η => ?_
  rcases szf_spec (totYd b0) (1048576) with ⟨hle0, hz0⟩ | ⟨hle0, hz0⟩
  rotate_left
  · simp -implicitDefEqProofs only [go_sem, encYd, encNt, encDd, encPl, encRn, encEn, bne_self_eq_false, beq_self_eq_true, hz0]
  have ht0 : totYd b0 ≤ 2000000 := by omega
  have hn0 : ¬ (1048576 - (totYd b0 : Int) < 0) := by omega
  simp -implicitDefEqProofs only [go_sem, encYd, encNt, encDd, encPl, encRn, encEn, bne_self_eq_false, beq_self_eq_true, hz0, hn0]
  intros
  have hca0 := b_yd b0
  have hsa0 : b0.shelf.length ≤ totYd b0 := by simp only [totYd, totSh]; omega
  have hra0 : b0.runs.length ≤ totYd b0 := by simp only [totYd, totRns]; omega
  have hq0 : totYd (sweptY b0 b1) ≤ 2000000 := tot_swept b0 b1 ht0
  have pS := p_spec_Swept b0 b1 ht0
  have pI := p_impl_Swept b0 b1 ht0
  generalize sweptY b0 b1 = r0 at *
  have hcr0 := b_yd r0
  have hsr0 : r0.shelf.length ≤ totYd r0 := by simp only [totYd, totSh]; omega
  have hrr0 : r0.runs.length ≤ totYd r0 := by simp only [totYd, totRns]; omega
  refine run_call (p_toYard b0 (by omega)) (by simp -implicitDefEqProofs only [go_sem, encYd, encNt, encDd, encPl, encRn, encEn, bne_self_eq_false, beq_self_eq_true, hz0, hn0]) fun η1 => ?_
  simp -implicitDefEqProofs only [go_sem, encYd, encNt, encDd, encPl, encRn, encEn, bne_self_eq_false, beq_self_eq_true, hz0, hn0]
  intros
  refine run_call (pS) (by simp -implicitDefEqProofs only [go_sem, encYd, encNt, encDd, encPl, encRn, encEn, bne_self_eq_false, beq_self_eq_true, hz0, hn0]) fun η2 => ?_
  simp -implicitDefEqProofs only [go_sem, encYd, encNt, encDd, encPl, encRn, encEn, bne_self_eq_false, beq_self_eq_true, hz0, hn0]
  intros
  refine run_call (p_toYard b0 (by omega)) (by simp -implicitDefEqProofs only [go_sem, encYd, encNt, encDd, encPl, encRn, encEn, bne_self_eq_false, beq_self_eq_true, hz0, hn0]) fun η3 => ?_
  simp -implicitDefEqProofs only [go_sem, encYd, encNt, encDd, encPl, encRn, encEn, bne_self_eq_false, beq_self_eq_true, hz0, hn0]
  intros
  refine run_call (pI) (by simp -implicitDefEqProofs only [go_sem, encYd, encNt, encDd, encPl, encRn, encEn, bne_self_eq_false, beq_self_eq_true, hz0, hn0]) fun η4 => ?_
  simp -implicitDefEqProofs only [go_sem, encYd, encNt, encDd, encPl, encRn, encEn, bne_self_eq_false, beq_self_eq_true, hz0, hn0]
  intros
  refine run_call (p_eqYard r0 r0) (by simp -implicitDefEqProofs only [go_sem, encYd, encNt, encDd, encPl, encRn, encEn, bne_self_eq_false, beq_self_eq_true, hz0, hn0]) fun η5 => ?_
  simp -implicitDefEqProofs only [go_sem, encYd, encNt, encDd, encPl, encRn, encEn, bne_self_eq_false, beq_self_eq_true, hz0, hn0]
  intros
  refine run_call (p_toYard b0 (by omega)) (by simp -implicitDefEqProofs only [go_sem, encYd, encNt, encDd, encPl, encRn, encEn, bne_self_eq_false, beq_self_eq_true, hz0, hn0]) fun η6 => ?_
  simp -implicitDefEqProofs only [go_sem, encYd, encNt, encDd, encPl, encRn, encEn, bne_self_eq_false, beq_self_eq_true, hz0, hn0]
  intros
  refine run_call (p_eqYard b0 b0) (by simp -implicitDefEqProofs only [go_sem, encYd, encNt, encDd, encPl, encRn, encEn, bne_self_eq_false, beq_self_eq_true, hz0, hn0]) fun η7 => ?_
  simp -implicitDefEqProofs only [go_sem, encYd, encNt, encDd, encPl, encRn, encEn, bne_self_eq_false, beq_self_eq_true, hz0, hn0]
  intros
  refine mark_agg (k := 1) (r := 1 + ((cYd b0 : Nat) : Int)) (ds := encYd b0) (ds' := encYd (mkYd b0 1)) ⟨_, Try.func22, by kernel_rfl, by kernel_rfl⟩ (fun B w v S h hF => markYard_c b0 1 v S B w h hF (by decide) (by omega) (by omega) (by omega)) ?_
  have hm8 : ¬ (1 + ((cYd b0 : Nat) : Int) < 0) := by omega
  simp -implicitDefEqProofs only [go_sem, encYd, encNt, encDd, encPl, encRn, encEn, bne_self_eq_false, beq_self_eq_true, hz0, hn0, hm8]
  rintro η8 ⟨hm8h0, hm8h1⟩
  intros
  refine run_call (p_eqYard r0 r0) (by simp -implicitDefEqProofs only [go_sem, encYd, encNt, encDd, encPl, encRn, encEn, bne_self_eq_false, beq_self_eq_true, hz0, hn0, hm8, hm8h0, hm8h1]) fun η9 => ?_
  simp -implicitDefEqProofs only [go_sem, encYd, encNt, encDd, encPl, encRn, encEn, bne_self_eq_false, beq_self_eq_true, hz0, hn0, hm8, hm8h0, hm8h1]
  intros
  refine mark_agg (k := 1) (r := 1 + ((cYd r0 : Nat) : Int)) (ds := encYd r0) (ds' := encYd (mkYd r0 1)) ⟨_, Try.func22, by kernel_rfl, by kernel_rfl⟩ (fun B w v S h hF => markYard_c r0 1 v S B w h hF (by decide) (by omega) (by omega) (by omega)) ?_
  have hm10 : ¬ (1 + ((cYd r0 : Nat) : Int) < 0) := by omega
  simp -implicitDefEqProofs only [go_sem, encYd, encNt, encDd, encPl, encRn, encEn, bne_self_eq_false, beq_self_eq_true, hz0, hn0, hm8, hm8h0, hm8h1, hm10]
  rintro η10 ⟨hm10h0, hm10h1⟩
  intros
  refine run_call (p_heldYard r0 1 (by decide) (by omega) (by omega) (by omega)) (by simp -implicitDefEqProofs only [go_sem, encYd, encNt, encDd, encPl, encRn, encEn, bne_self_eq_false, beq_self_eq_true, hz0, hn0, hm8, hm8h0, hm8h1, hm10, hm10h0, hm10h1]) fun η11 => ?_
  simp -implicitDefEqProofs only [go_sem, encYd, encNt, encDd, encPl, encRn, encEn, bne_self_eq_false, beq_self_eq_true, hz0, hn0, hm8, hm8h0, hm8h1, hm10, hm10h0, hm10h1]
  intros
  refine run_call (p_toYard b0 (by omega)) (by simp -implicitDefEqProofs only [go_sem, encYd, encNt, encDd, encPl, encRn, encEn, bne_self_eq_false, beq_self_eq_true, hz0, hn0, hm8, hm8h0, hm8h1, hm10, hm10h0, hm10h1]) fun η12 => ?_
  simp -implicitDefEqProofs only [go_sem, encYd, encNt, encDd, encPl, encRn, encEn, bne_self_eq_false, beq_self_eq_true, hz0, hn0, hm8, hm8h0, hm8h1, hm10, hm10h0, hm10h1]
  intros
  refine run_call (pI) (by simp -implicitDefEqProofs only [go_sem, encYd, encNt, encDd, encPl, encRn, encEn, bne_self_eq_false, beq_self_eq_true, hz0, hn0, hm8, hm8h0, hm8h1, hm10, hm10h0, hm10h1]) fun η13 => ?_
  simp -implicitDefEqProofs only [go_sem, encYd, encNt, encDd, encPl, encRn, encEn, bne_self_eq_false, beq_self_eq_true, hz0, hn0, hm8, hm8h0, hm8h1, hm10, hm10h0, hm10h1]
  intros
  refine run_call (p_eqYard r0 r0) (by simp -implicitDefEqProofs only [go_sem, encYd, encNt, encDd, encPl, encRn, encEn, bne_self_eq_false, beq_self_eq_true, hz0, hn0, hm8, hm8h0, hm8h1, hm10, hm10h0, hm10h1]) fun η14 => ?_
  simp -implicitDefEqProofs only [go_sem, encYd, encNt, encDd, encPl, encRn, encEn, bne_self_eq_false, beq_self_eq_true, hz0, hn0, hm8, hm8h0, hm8h1, hm10, hm10h0, hm10h1]
  intros
  refine run_call (p_heldYard r0 1 (by decide) (by omega) (by omega) (by omega)) (by simp -implicitDefEqProofs only [go_sem, encYd, encNt, encDd, encPl, encRn, encEn, bne_self_eq_false, beq_self_eq_true, hz0, hn0, hm8, hm8h0, hm8h1, hm10, hm10h0, hm10h1]) fun η15 => ?_
  simp -implicitDefEqProofs only [go_sem, encYd, encNt, encDd, encPl, encRn, encEn, bne_self_eq_false, beq_self_eq_true, hz0, hn0, hm8, hm8h0, hm8h1, hm10, hm10h0, hm10h1]
end Go.Proofs.Ytbplebgnkhmemaa
