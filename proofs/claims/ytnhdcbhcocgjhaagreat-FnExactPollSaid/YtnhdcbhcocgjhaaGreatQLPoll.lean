/- Texts for laws: LPoll. -/
import Derived.Test.YtnhdcbhcocgjhaaGreatQBnd
import Derived.Test.YtnhdcbhcocgjhaaGreatQPoll
import Derived.Test.YtnhdcbhcocgjhaaGreatQPu
set_option linter.unusedSimpArgs false
set_option linter.unusedVariables false
set_option maxRecDepth 100000
namespace Go.Proofs.YtnhdcbhcocgjhaaGreat
open Go.RowKit Go.Sort
def c_laws_FnExactPoll : C := .seq (.reg [⟨some 3, none, .box 25 4 (.t 0)⟩, ⟨some 6, none, .mov (.c (.bool false))⟩]) (.seq (.reg [⟨some 7, none, .mov (.c (.int .i64 1048576))⟩]) (.seq (.reg [⟨some 18, none, .ld true 4 (.t 3)⟩, ⟨some 19, none, .mov (.t 7)⟩, ⟨some 20, none, .call 11 [.t 18, .t 19]⟩, ⟨some 7, none, .mov (.t 20)⟩]) (.seq (.seq (.reg [⟨some 21, none, .mov (.t 7)⟩, ⟨some 22, none, .bin .lss 3 (.t 21) (.c (.int .i64 0))⟩]) (.cond (.t 22) (.seq (.reg [⟨some 6, none, .mov (.c (.bool true))⟩]) .ret) .skip)) (.seq (.reg [⟨some 24, none, .ld true 4 (.t 3)⟩, ⟨some 25, none, .call 13 [.t 24]⟩, ⟨some 26, none, .mov (.t 1)⟩, ⟨some 27, none, .mov (.t 2)⟩, ⟨some 28, none, .call 24 [.t 25, .t 26, .t 27]⟩, ⟨some 23, none, .mov (.t 28)⟩, ⟨some 29, none, .ext (.t 23) 0⟩, ⟨some 30, none, .ext (.t 23) 1⟩, ⟨some 8, none, .alloc 30 [.int .i64 0, .int .i64 0, .slice none 0 0, .slice none 0 0]⟩, ⟨some 9, none, .alloc 41 [.int .i64 0, .int .i64 0, .int .i64 0, .int .i64 0]⟩, ⟨none, none, .st 4 [none, none, some (1, 103), some (8, 80)] (.t 8) (.t 29)⟩, ⟨none, none, .st 4 [none, none, none, none] (.t 9) (.t 30)⟩]) (.seq (.reg [⟨some 31, none, .ld true 4 (.t 3)⟩, ⟨some 32, none, .call 13 [.t 31]⟩, ⟨some 10, none, .alloc 30 [.int .i64 0, .int .i64 0, .slice none 0 0, .slice none 0 0]⟩, ⟨none, none, .st 4 [none, none, some (1, 103), some (8, 80)] (.t 10) (.t 32)⟩]) (.seq (.reg [⟨some 34, none, .ld true 4 (.t 10)⟩, ⟨some 35, none, .mov (.t 1)⟩, ⟨some 36, none, .mov (.t 2)⟩, ⟨some 37, none, .call 25 [.t 34, .t 35, .t 36]⟩, ⟨some 33, none, .mov (.t 37)⟩, ⟨some 38, none, .ext (.t 33) 0⟩, ⟨some 39, none, .ext (.t 33) 1⟩, ⟨some 11, none, .alloc 30 [.int .i64 0, .int .i64 0, .slice none 0 0, .slice none 0 0]⟩, ⟨some 12, none, .alloc 41 [.int .i64 0, .int .i64 0, .int .i64 0, .int .i64 0]⟩, ⟨none, none, .st 4 [none, none, some (1, 103), some (8, 80)] (.t 11) (.t 38)⟩, ⟨none, none, .st 4 [none, none, none, none] (.t 12) (.t 39)⟩]) (.seq (.seq (.reg [⟨some 40, none, .ld true 4 (.t 11)⟩, ⟨some 41, none, .ld true 4 (.t 8)⟩, ⟨some 42, none, .call 15 [.t 40, .t 41]⟩, ⟨some 43, none, .un .not (.t 42)⟩, ⟨some 44, none, .mov (.t 43)⟩, ⟨some 45, some (44, false), .ld true 4 (.t 12)⟩, ⟨some 46, some (44, false), .ld true 4 (.t 9)⟩, ⟨some 47, some (44, false), .call 26 [.t 45, .t 46]⟩, ⟨some 48, some (44, false), .un .not (.t 47)⟩, ⟨some 49, none, .pick (.t 44) (.c (.bool true)) (.t 48)⟩]) (.cond (.t 49) (.seq (.reg [⟨some 6, none, .mov (.c (.bool false))⟩]) .ret) .skip)) (.seq (.seq (.dreg (T.pure 0 ⟨some 50, none, .ld true 4 (.t 10)⟩ (T.pure 1 ⟨some 51, none, .ld true 4 (.t 3)⟩ (T.alt ⟨some 52, none, .call 13 [.t 51]⟩ [0] (T.alt ⟨some 53, none, .call 15 [.t 50, .t 52]⟩ [] (T.pure 4 ⟨some 54, none, .un .not (.t 53)⟩ T.done) T.stop) T.stop)))) (.cond (.t 54) (.seq (.reg [⟨some 6, none, .mov (.c (.bool false))⟩]) .ret) .skip)) (.seq (.reg [⟨some 13, none, .mov (.c (.int .i64 1))⟩]) (.seq (.reg [⟨some 55, none, .ld true 4 (.t 10)⟩, ⟨some 56, none, .mov (.t 13)⟩, ⟨some 57, none, .call 16 [.t 55, .t 56]⟩, ⟨some 13, none, .mov (.t 57)⟩]) (.seq (.seq (.reg [⟨some 58, none, .mov (.t 13)⟩, ⟨some 59, none, .bin .lss 3 (.t 58) (.c (.int .i64 0))⟩, ⟨some 60, none, .mov (.t 59)⟩, ⟨some 61, some (60, false), .ld true 4 (.t 11)⟩, ⟨some 62, some (60, false), .ld true 4 (.t 8)⟩, ⟨some 63, some (60, false), .call 15 [.t 61, .t 62]⟩, ⟨some 64, some (60, false), .un .not (.t 63)⟩, ⟨some 65, none, .pick (.t 60) (.c (.bool true)) (.t 64)⟩, ⟨some 66, none, .mov (.t 65)⟩, ⟨some 67, some (66, false), .ld true 4 (.t 12)⟩, ⟨some 68, some (66, false), .ld true 4 (.t 9)⟩, ⟨some 69, some (66, false), .call 26 [.t 67, .t 68]⟩, ⟨some 70, some (66, false), .un .not (.t 69)⟩, ⟨some 71, none, .pick (.t 66) (.c (.bool true)) (.t 70)⟩]) (.cond (.t 71) (.seq (.reg [⟨some 6, none, .mov (.c (.bool false))⟩]) .ret) .skip)) (.seq (.reg [⟨some 14, none, .mov (.c (.int .i64 1))⟩]) (.seq (.reg [⟨some 72, none, .ld true 4 (.t 11)⟩, ⟨some 73, none, .mov (.t 14)⟩, ⟨some 74, none, .call 16 [.t 72, .t 73]⟩, ⟨some 14, none, .mov (.t 74)⟩]) (.seq (.reg [⟨some 15, none, .mov (.c (.int .i64 1))⟩]) (.seq (.reg [⟨some 75, none, .ld true 4 (.t 11)⟩, ⟨some 76, none, .mov (.t 15)⟩, ⟨some 77, none, .call 17 [.t 75, .t 76]⟩, ⟨some 15, none, .mov (.t 77)⟩]) (.seq (.seq (.reg [⟨some 78, none, .mov (.t 15)⟩, ⟨some 79, none, .bin .lss 3 (.t 78) (.c (.int .i64 0))⟩]) (.cond (.t 79) (.seq (.reg [⟨some 6, none, .mov (.c (.bool false))⟩]) .ret) .skip)) (.seq (.seq (.reg [⟨some 80, none, .mov (.t 15)⟩, ⟨some 81, none, .mov (.t 14)⟩, ⟨some 82, none, .bin .neq 3 (.t 80) (.t 81)⟩]) (.cond (.t 82) (.seq (.reg [⟨some 6, none, .mov (.c (.bool false))⟩]) .ret) .skip)) (.seq (.reg [⟨some 84, none, .ld true 4 (.t 3)⟩, ⟨some 85, none, .call 13 [.t 84]⟩, ⟨some 86, none, .mov (.t 1)⟩, ⟨some 87, none, .mov (.t 2)⟩, ⟨some 88, none, .call 25 [.t 85, .t 86, .t 87]⟩, ⟨some 83, none, .mov (.t 88)⟩, ⟨some 89, none, .ext (.t 83) 0⟩, ⟨some 90, none, .ext (.t 83) 1⟩, ⟨some 16, none, .alloc 30 [.int .i64 0, .int .i64 0, .slice none 0 0, .slice none 0 0]⟩, ⟨some 17, none, .alloc 41 [.int .i64 0, .int .i64 0, .int .i64 0, .int .i64 0]⟩, ⟨none, none, .st 4 [none, none, some (1, 103), some (8, 80)] (.t 16) (.t 89)⟩, ⟨none, none, .st 4 [none, none, none, none] (.t 17) (.t 90)⟩]) (.seq (.seq (.reg [⟨some 91, none, .ld true 4 (.t 16)⟩, ⟨some 92, none, .ld true 4 (.t 8)⟩, ⟨some 93, none, .call 15 [.t 91, .t 92]⟩, ⟨some 94, none, .un .not (.t 93)⟩, ⟨some 95, none, .mov (.t 94)⟩, ⟨some 96, some (95, false), .ld true 4 (.t 17)⟩, ⟨some 97, some (95, false), .ld true 4 (.t 9)⟩, ⟨some 98, some (95, false), .call 26 [.t 96, .t 97]⟩, ⟨some 99, some (95, false), .un .not (.t 98)⟩, ⟨some 100, none, .pick (.t 95) (.c (.bool true)) (.t 99)⟩]) (.cond (.t 100) (.seq (.reg [⟨some 6, none, .mov (.c (.bool false))⟩]) .ret) .skip)) (.seq (.reg [⟨some 15, none, .mov (.c (.int .i64 1))⟩]) (.seq (.reg [⟨some 101, none, .ld true 4 (.t 11)⟩, ⟨some 102, none, .mov (.t 15)⟩, ⟨some 103, none, .call 17 [.t 101, .t 102]⟩, ⟨some 15, none, .mov (.t 103)⟩]) (.seq (.seq (.reg [⟨some 104, none, .mov (.t 15)⟩, ⟨some 105, none, .bin .lss 3 (.t 104) (.c (.int .i64 0))⟩]) (.cond (.t 105) (.seq (.reg [⟨some 6, none, .mov (.c (.bool false))⟩]) .ret) .skip)) (.seq (.seq (.reg [⟨some 106, none, .mov (.t 15)⟩, ⟨some 107, none, .mov (.t 14)⟩, ⟨some 108, none, .bin .neq 3 (.t 106) (.t 107)⟩]) (.cond (.t 108) (.seq (.reg [⟨some 6, none, .mov (.c (.bool false))⟩]) .ret) .skip)) (.seq (.reg [⟨some 6, none, .mov (.c (.bool true))⟩]) .ret))))))))))))))))))))))))
theorem code_laws_FnExactPoll : fnC Tryz.prog Tryz.f7 = some (c_laws_FnExactPoll, [.t 6], 109) := by kernel_rfl
set_option maxHeartbeats 2000000 in
theorem p_Poll (b0 : Yd) (b1 : Int) (b2 : Int) : Pure Tryz.prog 7 [.agg (encYd b0), .c (.val (.int .i64 b1)), .c (.val (.int .i64 b2))] (.c (.val (.bool true))) := by
  refine pure_fn Tryz.func7 code_laws_FnExactPoll (by simp) ?_
  unfold c_laws_FnExactPoll
  simp -implicitDefEqProofs only [go_sem, encYd, encNt, encDd, encPl, encRn, encEn, encRp, bne_self_eq_false, beq_self_eq_true]
  intros
  refine run_call (p_szYard b0 (1048576) (by omega) (by omega)) (by simp -implicitDefEqProofs only [go_sem, encYd, encNt, encDd, encPl, encRn, encEn, encRp, bne_self_eq_false, beq_self_eq_true]) fun η => ?_
  rcases szf_spec (totYd b0) (1048576) with ⟨hle0, hz0⟩ | ⟨hle0, hz0⟩
  rotate_left
  · simp -implicitDefEqProofs only [go_sem, encYd, encNt, encDd, encPl, encRn, encEn, encRp, bne_self_eq_false, beq_self_eq_true, hz0]
  have ht0 : totYd b0 ≤ 2000000 := by omega
  have hn0 : ¬ (1048576 - (totYd b0 : Int) < 0) := by omega
  simp -implicitDefEqProofs only [go_sem, encYd, encNt, encDd, encPl, encRn, encEn, encRp, bne_self_eq_false, beq_self_eq_true, hz0, hn0]
  intros
  have hca0 := b_yd b0
  have hsa0 : b0.shelf.length ≤ totYd b0 := by simp only [totYd, totSh]; omega
  have hra0 : b0.runs.length ≤ totYd b0 := by simp only [totYd, totRns]; omega
  have hq0 : totYd (pollY b0 b1 b2) ≤ 2000000 := tot_poll b0 b1 b2 ht0
  have pS := p_spec_Poll b0 b1 b2 ht0
  have pI := p_impl_Poll b0 b1 b2 ht0
  generalize pollY b0 b1 b2 = r0 at *
  have hcr0 := b_yd r0
  have hsr0 : r0.shelf.length ≤ totYd r0 := by simp only [totYd, totSh]; omega
  have hrr0 : r0.runs.length ≤ totYd r0 := by simp only [totYd, totRns]; omega
  generalize pollQ b0 b1 b2 = r1 at *
  refine run_call (p_toYard b0 (by omega)) (by simp -implicitDefEqProofs only [go_sem, encYd, encNt, encDd, encPl, encRn, encEn, encRp, bne_self_eq_false, beq_self_eq_true, hz0, hn0]) fun η1 => ?_
  simp -implicitDefEqProofs only [go_sem, encYd, encNt, encDd, encPl, encRn, encEn, encRp, bne_self_eq_false, beq_self_eq_true, hz0, hn0]
  intros
  refine run_call (pS) (by simp -implicitDefEqProofs only [go_sem, encYd, encNt, encDd, encPl, encRn, encEn, encRp, bne_self_eq_false, beq_self_eq_true, hz0, hn0]) fun η2 => ?_
  simp -implicitDefEqProofs only [go_sem, encYd, encNt, encDd, encPl, encRn, encEn, encRp, bne_self_eq_false, beq_self_eq_true, hz0, hn0]
  intros
  refine run_call (p_toYard b0 (by omega)) (by simp -implicitDefEqProofs only [go_sem, encYd, encNt, encDd, encPl, encRn, encEn, encRp, bne_self_eq_false, beq_self_eq_true, hz0, hn0]) fun η3 => ?_
  simp -implicitDefEqProofs only [go_sem, encYd, encNt, encDd, encPl, encRn, encEn, encRp, bne_self_eq_false, beq_self_eq_true, hz0, hn0]
  intros
  refine run_call (pI) (by simp -implicitDefEqProofs only [go_sem, encYd, encNt, encDd, encPl, encRn, encEn, encRp, bne_self_eq_false, beq_self_eq_true, hz0, hn0]) fun η4 => ?_
  simp -implicitDefEqProofs only [go_sem, encYd, encNt, encDd, encPl, encRn, encEn, encRp, bne_self_eq_false, beq_self_eq_true, hz0, hn0]
  intros
  refine run_call (p_eqYard r0 r0) (by simp -implicitDefEqProofs only [go_sem, encYd, encNt, encDd, encPl, encRn, encEn, encRp, bne_self_eq_false, beq_self_eq_true, hz0, hn0]) fun η5 => ?_
  simp -implicitDefEqProofs only [go_sem, encYd, encNt, encDd, encPl, encRn, encEn, encRp, bne_self_eq_false, beq_self_eq_true, hz0, hn0]
  intros
  refine run_call (p_eqReply r1 r1) (by simp -implicitDefEqProofs only [go_sem, encYd, encNt, encDd, encPl, encRn, encEn, encRp, bne_self_eq_false, beq_self_eq_true, hz0, hn0]) fun η6 => ?_
  simp -implicitDefEqProofs only [go_sem, encYd, encNt, encDd, encPl, encRn, encEn, encRp, bne_self_eq_false, beq_self_eq_true, hz0, hn0]
  intros
  refine run_call (p_toYard b0 (by omega)) (by simp -implicitDefEqProofs only [go_sem, encYd, encNt, encDd, encPl, encRn, encEn, encRp, bne_self_eq_false, beq_self_eq_true, hz0, hn0]) fun η7 => ?_
  simp -implicitDefEqProofs only [go_sem, encYd, encNt, encDd, encPl, encRn, encEn, encRp, bne_self_eq_false, beq_self_eq_true, hz0, hn0]
  intros
  refine run_call (p_eqYard b0 b0) (by simp -implicitDefEqProofs only [go_sem, encYd, encNt, encDd, encPl, encRn, encEn, encRp, bne_self_eq_false, beq_self_eq_true, hz0, hn0]) fun η8 => ?_
  simp -implicitDefEqProofs only [go_sem, encYd, encNt, encDd, encPl, encRn, encEn, encRp, bne_self_eq_false, beq_self_eq_true, hz0, hn0]
  intros
  refine mark_agg (k := 1) (r := 1 + ((cYd b0 : Nat) : Int)) (ds := encYd b0) (ds' := encYd (mkYd b0 1)) ⟨_, Tryz.func16, by kernel_rfl, by kernel_rfl⟩ (fun B w v S h hF => markYard_c b0 1 v S B w h hF (by decide) (by omega) (by omega) (by omega)) ?_
  have hm9 : ¬ (1 + ((cYd b0 : Nat) : Int) < 0) := by omega
  simp -implicitDefEqProofs only [go_sem, encYd, encNt, encDd, encPl, encRn, encEn, encRp, bne_self_eq_false, beq_self_eq_true, hz0, hn0, hm9]
  rintro η9 ⟨hm9h0, hm9h1⟩
  intros
  refine run_call (p_eqYard r0 r0) (by simp -implicitDefEqProofs only [go_sem, encYd, encNt, encDd, encPl, encRn, encEn, encRp, bne_self_eq_false, beq_self_eq_true, hz0, hn0, hm9, hm9h0, hm9h1]) fun η10 => ?_
  simp -implicitDefEqProofs only [go_sem, encYd, encNt, encDd, encPl, encRn, encEn, encRp, bne_self_eq_false, beq_self_eq_true, hz0, hn0, hm9, hm9h0, hm9h1]
  intros
  refine run_call (p_eqReply r1 r1) (by simp -implicitDefEqProofs only [go_sem, encYd, encNt, encDd, encPl, encRn, encEn, encRp, bne_self_eq_false, beq_self_eq_true, hz0, hn0, hm9, hm9h0, hm9h1]) fun η11 => ?_
  simp -implicitDefEqProofs only [go_sem, encYd, encNt, encDd, encPl, encRn, encEn, encRp, bne_self_eq_false, beq_self_eq_true, hz0, hn0, hm9, hm9h0, hm9h1]
  intros
  refine mark_agg (k := 1) (r := 1 + ((cYd r0 : Nat) : Int)) (ds := encYd r0) (ds' := encYd (mkYd r0 1)) ⟨_, Tryz.func16, by kernel_rfl, by kernel_rfl⟩ (fun B w v S h hF => markYard_c r0 1 v S B w h hF (by decide) (by omega) (by omega) (by omega)) ?_
  have hm12 : ¬ (1 + ((cYd r0 : Nat) : Int) < 0) := by omega
  simp -implicitDefEqProofs only [go_sem, encYd, encNt, encDd, encPl, encRn, encEn, encRp, bne_self_eq_false, beq_self_eq_true, hz0, hn0, hm9, hm9h0, hm9h1, hm12]
  rintro η12 ⟨hm12h0, hm12h1⟩
  intros
  refine run_call (p_heldYard r0 1 (by decide) (by omega) (by omega) (by omega)) (by simp -implicitDefEqProofs only [go_sem, encYd, encNt, encDd, encPl, encRn, encEn, encRp, bne_self_eq_false, beq_self_eq_true, hz0, hn0, hm9, hm9h0, hm9h1, hm12, hm12h0, hm12h1]) fun η13 => ?_
  simp -implicitDefEqProofs only [go_sem, encYd, encNt, encDd, encPl, encRn, encEn, encRp, bne_self_eq_false, beq_self_eq_true, hz0, hn0, hm9, hm9h0, hm9h1, hm12, hm12h0, hm12h1]
  intros
  refine run_call (p_toYard b0 (by omega)) (by simp -implicitDefEqProofs only [go_sem, encYd, encNt, encDd, encPl, encRn, encEn, encRp, bne_self_eq_false, beq_self_eq_true, hz0, hn0, hm9, hm9h0, hm9h1, hm12, hm12h0, hm12h1]) fun η14 => ?_
  simp -implicitDefEqProofs only [go_sem, encYd, encNt, encDd, encPl, encRn, encEn, encRp, bne_self_eq_false, beq_self_eq_true, hz0, hn0, hm9, hm9h0, hm9h1, hm12, hm12h0, hm12h1]
  intros
  refine run_call (pI) (by simp -implicitDefEqProofs only [go_sem, encYd, encNt, encDd, encPl, encRn, encEn, encRp, bne_self_eq_false, beq_self_eq_true, hz0, hn0, hm9, hm9h0, hm9h1, hm12, hm12h0, hm12h1]) fun η15 => ?_
  simp -implicitDefEqProofs only [go_sem, encYd, encNt, encDd, encPl, encRn, encEn, encRp, bne_self_eq_false, beq_self_eq_true, hz0, hn0, hm9, hm9h0, hm9h1, hm12, hm12h0, hm12h1]
  intros
  refine run_call (p_eqYard r0 r0) (by simp -implicitDefEqProofs only [go_sem, encYd, encNt, encDd, encPl, encRn, encEn, encRp, bne_self_eq_false, beq_self_eq_true, hz0, hn0, hm9, hm9h0, hm9h1, hm12, hm12h0, hm12h1]) fun η16 => ?_
  simp -implicitDefEqProofs only [go_sem, encYd, encNt, encDd, encPl, encRn, encEn, encRp, bne_self_eq_false, beq_self_eq_true, hz0, hn0, hm9, hm9h0, hm9h1, hm12, hm12h0, hm12h1]
  intros
  refine run_call (p_eqReply r1 r1) (by simp -implicitDefEqProofs only [go_sem, encYd, encNt, encDd, encPl, encRn, encEn, encRp, bne_self_eq_false, beq_self_eq_true, hz0, hn0, hm9, hm9h0, hm9h1, hm12, hm12h0, hm12h1]) fun η17 => ?_
  simp -implicitDefEqProofs only [go_sem, encYd, encNt, encDd, encPl, encRn, encEn, encRp, bne_self_eq_false, beq_self_eq_true, hz0, hn0, hm9, hm9h0, hm9h1, hm12, hm12h0, hm12h1]
  intros
  refine run_call (p_heldYard r0 1 (by decide) (by omega) (by omega) (by omega)) (by simp -implicitDefEqProofs only [go_sem, encYd, encNt, encDd, encPl, encRn, encEn, encRp, bne_self_eq_false, beq_self_eq_true, hz0, hn0, hm9, hm9h0, hm9h1, hm12, hm12h0, hm12h1]) fun η18 => ?_
  simp -implicitDefEqProofs only [go_sem, encYd, encNt, encDd, encPl, encRn, encEn, encRp, bne_self_eq_false, beq_self_eq_true, hz0, hn0, hm9, hm9h0, hm9h1, hm12, hm12h0, hm12h1]
end Go.Proofs.YtnhdcbhcocgjhaaGreat
