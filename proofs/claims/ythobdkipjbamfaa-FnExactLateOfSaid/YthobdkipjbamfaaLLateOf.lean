/- The law of LateOf. -/
import Derived.Test.YthobdkipjbamfaaLateOf
import Derived.Test.YthobdkipjbamfaaEqII
import Derived.Test.YthobdkipjbamfaaPu
import Derived.Test.YthobdkipjbamfaaBnd
set_option linter.unusedSimpArgs false
set_option linter.unusedVariables false
set_option maxRecDepth 100000
namespace Go.Proofs.Ythobdkipjbamfaa
open Go.RowKit Go.Sort
def c_laws_FnExactLateOf : C := .seq (.reg [⟨some 1, none, .box 25 4 (.t 0)⟩, ⟨some 2, none, .mov (.c (.bool false))⟩]) (.seq (.reg [⟨some 3, none, .mov (.c (.int .i64 1048576))⟩]) (.seq (.reg [⟨some 11, none, .ld true 4 (.t 1)⟩, ⟨some 12, none, .mov (.t 3)⟩, ⟨some 13, none, .call 15 [.t 11, .t 12]⟩, ⟨some 3, none, .mov (.t 13)⟩]) (.seq (.seq (.reg [⟨some 14, none, .mov (.t 3)⟩, ⟨some 15, none, .bin .lss 3 (.t 14) (.c (.int .i64 0))⟩]) (.cond (.t 15) (.seq (.reg [⟨some 2, none, .mov (.c (.bool true))⟩]) .ret) .skip)) (.seq (.reg [⟨some 16, none, .ld true 4 (.t 1)⟩, ⟨some 17, none, .call 17 [.t 16]⟩, ⟨some 18, none, .call 34 [.t 17]⟩, ⟨some 4, none, .mov (.t 18)⟩]) (.seq (.reg [⟨some 19, none, .ld true 4 (.t 1)⟩, ⟨some 20, none, .call 17 [.t 19]⟩, ⟨some 5, none, .alloc 32 [.int .i64 0, .int .i64 0, .slice none 0 0, .slice none 0 0]⟩, ⟨none, none, .st 4 [none, none, some (1, 62), some (8, 100)] (.t 5) (.t 20)⟩]) (.seq (.reg [⟨some 21, none, .ld true 4 (.t 5)⟩, ⟨some 22, none, .call 35 [.t 21]⟩, ⟨some 6, none, .mov (.t 22)⟩]) (.seq (.seq (.reg [⟨some 23, none, .mov (.t 6)⟩, ⟨some 24, none, .mov (.t 4)⟩, ⟨some 25, none, .call 36 [.t 23, .t 24]⟩, ⟨some 26, none, .un .not (.t 25)⟩]) (.cond (.t 26) (.seq (.reg [⟨some 2, none, .mov (.c (.bool false))⟩]) .ret) .skip)) (.seq (.seq (.dreg (T.pure 0 ⟨some 27, none, .ld true 4 (.t 5)⟩ (T.pure 1 ⟨some 28, none, .ld true 4 (.t 1)⟩ (T.alt ⟨some 29, none, .call 17 [.t 28]⟩ [0] (T.alt ⟨some 30, none, .call 20 [.t 27, .t 29]⟩ [] (T.pure 4 ⟨some 31, none, .un .not (.t 30)⟩ T.done) T.stop) T.stop)))) (.cond (.t 31) (.seq (.reg [⟨some 2, none, .mov (.c (.bool false))⟩]) .ret) .skip)) (.seq (.reg [⟨some 7, none, .mov (.c (.int .i64 1))⟩]) (.seq (.reg [⟨some 32, none, .ld true 4 (.t 5)⟩, ⟨some 33, none, .mov (.t 7)⟩, ⟨some 34, none, .call 21 [.t 32, .t 33]⟩, ⟨some 7, none, .mov (.t 34)⟩]) (.seq (.seq (.reg [⟨some 35, none, .mov (.t 7)⟩, ⟨some 36, none, .bin .lss 3 (.t 35) (.c (.int .i64 0))⟩, ⟨some 37, none, .mov (.t 36)⟩, ⟨some 38, some (37, false), .mov (.t 6)⟩, ⟨some 39, some (37, false), .mov (.t 4)⟩, ⟨some 40, some (37, false), .call 36 [.t 38, .t 39]⟩, ⟨some 41, some (37, false), .un .not (.t 40)⟩, ⟨some 42, none, .pick (.t 37) (.c (.bool true)) (.t 41)⟩]) (.cond (.t 42) (.seq (.reg [⟨some 2, none, .mov (.c (.bool false))⟩]) .ret) .skip)) (.seq (.reg [⟨some 8, none, .mov (.c (.int .i64 1))⟩]) (.seq (.reg [⟨some 43, none, .mov (.t 6)⟩, ⟨some 44, none, .mov (.t 8)⟩, ⟨some 45, none, .call 37 [.t 43, .t 44]⟩, ⟨some 8, none, .mov (.t 45)⟩]) (.seq (.reg [⟨some 9, none, .mov (.c (.int .i64 1))⟩]) (.seq (.reg [⟨some 46, none, .mov (.t 6)⟩, ⟨some 47, none, .mov (.t 9)⟩, ⟨some 48, none, .call 38 [.t 46, .t 47]⟩, ⟨some 9, none, .mov (.t 48)⟩]) (.seq (.seq (.reg [⟨some 49, none, .mov (.t 9)⟩, ⟨some 50, none, .bin .lss 3 (.t 49) (.c (.int .i64 0))⟩]) (.cond (.t 50) (.seq (.reg [⟨some 2, none, .mov (.c (.bool false))⟩]) .ret) .skip)) (.seq (.seq (.reg [⟨some 51, none, .mov (.t 9)⟩, ⟨some 52, none, .mov (.t 8)⟩, ⟨some 53, none, .bin .neq 3 (.t 51) (.t 52)⟩]) (.cond (.t 53) (.seq (.reg [⟨some 2, none, .mov (.c (.bool false))⟩]) .ret) .skip)) (.seq (.reg [⟨some 54, none, .ld true 4 (.t 1)⟩, ⟨some 55, none, .call 17 [.t 54]⟩, ⟨some 56, none, .call 35 [.t 55]⟩, ⟨some 10, none, .mov (.t 56)⟩]) (.seq (.seq (.reg [⟨some 57, none, .mov (.t 10)⟩, ⟨some 58, none, .mov (.t 4)⟩, ⟨some 59, none, .call 36 [.t 57, .t 58]⟩, ⟨some 60, none, .un .not (.t 59)⟩]) (.cond (.t 60) (.seq (.reg [⟨some 2, none, .mov (.c (.bool false))⟩]) .ret) .skip)) (.seq (.reg [⟨some 9, none, .mov (.c (.int .i64 1))⟩]) (.seq (.reg [⟨some 61, none, .mov (.t 6)⟩, ⟨some 62, none, .mov (.t 9)⟩, ⟨some 63, none, .call 38 [.t 61, .t 62]⟩, ⟨some 9, none, .mov (.t 63)⟩]) (.seq (.seq (.reg [⟨some 64, none, .mov (.t 9)⟩, ⟨some 65, none, .bin .lss 3 (.t 64) (.c (.int .i64 0))⟩]) (.cond (.t 65) (.seq (.reg [⟨some 2, none, .mov (.c (.bool false))⟩]) .ret) .skip)) (.seq (.seq (.reg [⟨some 66, none, .mov (.t 9)⟩, ⟨some 67, none, .mov (.t 8)⟩, ⟨some 68, none, .bin .neq 3 (.t 66) (.t 67)⟩]) (.cond (.t 68) (.seq (.reg [⟨some 2, none, .mov (.c (.bool false))⟩]) .ret) .skip)) (.seq (.reg [⟨some 2, none, .mov (.c (.bool true))⟩]) .ret))))))))))))))))))))))))
theorem code_laws_FnExactLateOf : fnC Try.prog Try.f6 = some (c_laws_FnExactLateOf, [.t 2], 69) := by kernel_rfl
set_option maxHeartbeats 2000000 in
theorem p_LateOf (b0 : Yd) (wf0 : b0.wf) : Pure Try.prog 6 [.agg (encYd b0)] (.c (.val (.bool true))) := by
  refine pure_fn Try.func6 code_laws_FnExactLateOf (by simp) ?_
  unfold c_laws_FnExactLateOf
  simp only [go_sem, encYd, encNt, encDd, encPl, encRn, encEn, bne_self_eq_false, beq_self_eq_true]
  intros
  refine run_call (p_szYard b0 (1048576) (by omega) (by omega)) (by simp only [go_sem, encYd, encNt, encDd, encPl, encRn, encEn, bne_self_eq_false, beq_self_eq_true]) fun η => ?_
  rcases szf_spec (totYd b0) (1048576) with ⟨hle0, hz0⟩ | ⟨hle0, hz0⟩
  rotate_left
  · simp only [go_sem, encYd, encNt, encDd, encPl, encRn, encEn, bne_self_eq_false, beq_self_eq_true, hz0]
  have ht0 : totYd b0 ≤ 2000000 := by omega
  have hn0 : ¬ (1048576 - (totYd b0 : Int) < 0) := by omega
  simp only [go_sem, encYd, encNt, encDd, encPl, encRn, encEn, bne_self_eq_false, beq_self_eq_true, hz0, hn0]
  intros
  have hca0 := b_yd b0
  have hsa0 : b0.shelf.length ≤ totYd b0 := by simp only [totYd, totSh]; omega
  have hra0 : b0.runs.length ≤ totYd b0 := by simp only [totYd, totRns]; omega
  have hq0 : tsum c1i (lateL b0) ≤ 6000000 := late_tot b0 ht0
  have hqq0 : (lateL b0).length ≤ 2000000 := late_len b0 ht0
  have pS := p_spec_LateOf b0 ht0 wf0
  have pI := p_impl_LateOf b0 ht0 wf0
  generalize lateL b0 = r0 at *
  have hinr0 := c1i_lt (l := r0) (by omega)
  refine run_call (p_toYard b0 (by omega)) (by simp only [go_sem, encYd, encNt, encDd, encPl, encRn, encEn, bne_self_eq_false, beq_self_eq_true, hz0, hn0]) fun η1 => ?_
  simp only [go_sem, encYd, encNt, encDd, encPl, encRn, encEn, bne_self_eq_false, beq_self_eq_true, hz0, hn0]
  intros
  refine run_call (pS) (by simp only [go_sem, encYd, encNt, encDd, encPl, encRn, encEn, bne_self_eq_false, beq_self_eq_true, hz0, hn0]) fun η2 => ?_
  simp only [go_sem, encYd, encNt, encDd, encPl, encRn, encEn, bne_self_eq_false, beq_self_eq_true, hz0, hn0]
  intros
  refine run_call (p_toYard b0 (by omega)) (by simp only [go_sem, encYd, encNt, encDd, encPl, encRn, encEn, bne_self_eq_false, beq_self_eq_true, hz0, hn0]) fun η3 => ?_
  simp only [go_sem, encYd, encNt, encDd, encPl, encRn, encEn, bne_self_eq_false, beq_self_eq_true, hz0, hn0]
  intros
  refine run_call (pI) (by simp only [go_sem, encYd, encNt, encDd, encPl, encRn, encEn, bne_self_eq_false, beq_self_eq_true, hz0, hn0]) fun η4 => ?_
  simp only [go_sem, encYd, encNt, encDd, encPl, encRn, encEn, bne_self_eq_false, beq_self_eq_true, hz0, hn0]
  intros
  refine run_call (p_eqIntSS r0 r0 (by omega) (c1i_lt (by omega))) (by simp only [go_sem, encYd, encNt, encDd, encPl, encRn, encEn, bne_self_eq_false, beq_self_eq_true, hz0, hn0]) fun η5 => ?_
  simp only [go_sem, encYd, encNt, encDd, encPl, encRn, encEn, bne_self_eq_false, beq_self_eq_true, hz0, hn0]
  intros
  refine run_call (p_toYard b0 (by omega)) (by simp only [go_sem, encYd, encNt, encDd, encPl, encRn, encEn, bne_self_eq_false, beq_self_eq_true, hz0, hn0]) fun η6 => ?_
  simp only [go_sem, encYd, encNt, encDd, encPl, encRn, encEn, bne_self_eq_false, beq_self_eq_true, hz0, hn0]
  intros
  refine run_call (p_eqYard b0 b0) (by simp only [go_sem, encYd, encNt, encDd, encPl, encRn, encEn, bne_self_eq_false, beq_self_eq_true, hz0, hn0]) fun η7 => ?_
  simp only [go_sem, encYd, encNt, encDd, encPl, encRn, encEn, bne_self_eq_false, beq_self_eq_true, hz0, hn0]
  intros
  refine mark_agg (k := 1) (r := 1 + ((cYd b0 : Nat) : Int)) (ds := encYd b0) (ds' := encYd (mkYd b0 1)) ⟨_, Try.func21, by kernel_rfl, by kernel_rfl⟩ (fun B w v S h hF => markYard_c b0 1 v S B w h hF (by decide) (by omega) (by omega) (by omega)) ?_
  have hm8 : ¬ (1 + ((cYd b0 : Nat) : Int) < 0) := by omega
  simp only [go_sem, encYd, encNt, encDd, encPl, encRn, encEn, bne_self_eq_false, beq_self_eq_true, hz0, hn0, hm8]
  rintro η8 ⟨hm8h0, hm8h1⟩
  intros
  refine run_call (p_eqIntSS r0 r0 (by omega) (c1i_lt (by omega))) (by simp only [go_sem, encYd, encNt, encDd, encPl, encRn, encEn, bne_self_eq_false, beq_self_eq_true, hz0, hn0, hm8, hm8h0, hm8h1]) fun η9 => ?_
  simp only [go_sem, encYd, encNt, encDd, encPl, encRn, encEn, bne_self_eq_false, beq_self_eq_true, hz0, hn0, hm8, hm8h0, hm8h1]
  intros
  refine mark_c (k := 1) (r := 1 + ((tsum c1i r0 : Nat) : Int)) (dd := encIss r0) (dd' := encIss (mkL mkIs c1i r0 1)) ⟨_, Try.func37, by kernel_rfl, by kernel_rfl⟩ (fun B w v S h hF => markIntSS_c r0 1 v S B w h hF (by decide) (by omega) (by omega)) ?_
  have hm10 : ¬ (1 + ((tsum c1i r0 : Nat) : Int) < 0) := by omega
  simp only [go_sem, encYd, encNt, encDd, encPl, encRn, encEn, bne_self_eq_false, beq_self_eq_true, hz0, hn0, hm8, hm8h0, hm8h1, hm10]
  rintro η10 hm10h0
  intros
  refine run_call (p_heldIntSS r0 1 (by decide) (by omega) (by omega)) (by simp only [go_sem, encYd, encNt, encDd, encPl, encRn, encEn, bne_self_eq_false, beq_self_eq_true, hz0, hn0, hm8, hm8h0, hm8h1, hm10, hm10h0]) fun η11 => ?_
  simp only [go_sem, encYd, encNt, encDd, encPl, encRn, encEn, bne_self_eq_false, beq_self_eq_true, hz0, hn0, hm8, hm8h0, hm8h1, hm10, hm10h0]
  intros
  refine run_call (p_toYard b0 (by omega)) (by simp only [go_sem, encYd, encNt, encDd, encPl, encRn, encEn, bne_self_eq_false, beq_self_eq_true, hz0, hn0, hm8, hm8h0, hm8h1, hm10, hm10h0]) fun η12 => ?_
  simp only [go_sem, encYd, encNt, encDd, encPl, encRn, encEn, bne_self_eq_false, beq_self_eq_true, hz0, hn0, hm8, hm8h0, hm8h1, hm10, hm10h0]
  intros
  refine run_call (pI) (by simp only [go_sem, encYd, encNt, encDd, encPl, encRn, encEn, bne_self_eq_false, beq_self_eq_true, hz0, hn0, hm8, hm8h0, hm8h1, hm10, hm10h0]) fun η13 => ?_
  simp only [go_sem, encYd, encNt, encDd, encPl, encRn, encEn, bne_self_eq_false, beq_self_eq_true, hz0, hn0, hm8, hm8h0, hm8h1, hm10, hm10h0]
  intros
  refine run_call (p_eqIntSS r0 r0 (by omega) (c1i_lt (by omega))) (by simp only [go_sem, encYd, encNt, encDd, encPl, encRn, encEn, bne_self_eq_false, beq_self_eq_true, hz0, hn0, hm8, hm8h0, hm8h1, hm10, hm10h0]) fun η14 => ?_
  simp only [go_sem, encYd, encNt, encDd, encPl, encRn, encEn, bne_self_eq_false, beq_self_eq_true, hz0, hn0, hm8, hm8h0, hm8h1, hm10, hm10h0]
  intros
  refine run_call (p_heldIntSS r0 1 (by decide) (by omega) (by omega)) (by simp only [go_sem, encYd, encNt, encDd, encPl, encRn, encEn, bne_self_eq_false, beq_self_eq_true, hz0, hn0, hm8, hm8h0, hm8h1, hm10, hm10h0]) fun η15 => ?_
  simp only [go_sem, encYd, encNt, encDd, encPl, encRn, encEn, bne_self_eq_false, beq_self_eq_true, hz0, hn0, hm8, hm8h0, hm8h1, hm10, hm10h0]
end Go.Proofs.Ythobdkipjbamfaa
