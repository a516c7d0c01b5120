/- Texts for laws: LForget. -/
import Derived.Test.YtnhdcbhcocgjhaaGreatQBnd
import Derived.Test.YtnhdcbhcocgjhaaGreatQForg
import Derived.Test.YtnhdcbhcocgjhaaGreatQPu
set_option linter.unusedSimpArgs false
set_option linter.unusedVariables false
set_option maxRecDepth 100000
namespace Go.Proofs.YtnhdcbhcocgjhaaGreat
open Go.RowKit Go.Sort
def c_laws_FnExactForget : C := .seq (.reg [⟨some 2, none, .box 25 4 (.t 0)⟩, ⟨some 4, none, .mov (.c (.bool false))⟩]) (.seq (.reg [⟨some 5, none, .mov (.c (.int .i64 1048576))⟩]) (.seq (.reg [⟨some 16, none, .ld true 4 (.t 2)⟩, ⟨some 17, none, .mov (.t 5)⟩, ⟨some 18, none, .call 11 [.t 16, .t 17]⟩, ⟨some 5, none, .mov (.t 18)⟩]) (.seq (.seq (.reg [⟨some 19, none, .mov (.t 5)⟩, ⟨some 20, none, .bin .lss 3 (.t 19) (.c (.int .i64 0))⟩]) (.cond (.t 20) (.seq (.reg [⟨some 4, none, .mov (.c (.bool true))⟩]) .ret) .skip)) (.seq (.reg [⟨some 22, none, .ld true 4 (.t 2)⟩, ⟨some 23, none, .call 13 [.t 22]⟩, ⟨some 24, none, .mov (.t 1)⟩, ⟨some 25, none, .call 27 [.t 23, .t 24]⟩, ⟨some 21, none, .mov (.t 25)⟩, ⟨some 26, none, .ext (.t 21) 0⟩, ⟨some 27, none, .ext (.t 21) 1⟩, ⟨some 6, none, .alloc 30 [.int .i64 0, .int .i64 0, .slice none 0 0, .slice none 0 0]⟩, ⟨none, none, .st 4 [none, none, some (1, 103), some (8, 80)] (.t 6) (.t 26)⟩, ⟨some 7, none, .mov (.t 27)⟩]) (.seq (.reg [⟨some 28, none, .ld true 4 (.t 2)⟩, ⟨some 29, none, .call 13 [.t 28]⟩, ⟨some 8, none, .alloc 30 [.int .i64 0, .int .i64 0, .slice none 0 0, .slice none 0 0]⟩, ⟨none, none, .st 4 [none, none, some (1, 103), some (8, 80)] (.t 8) (.t 29)⟩]) (.seq (.reg [⟨some 31, none, .ld true 4 (.t 8)⟩, ⟨some 32, none, .mov (.t 1)⟩, ⟨some 33, none, .call 28 [.t 31, .t 32]⟩, ⟨some 30, none, .mov (.t 33)⟩, ⟨some 34, none, .ext (.t 30) 0⟩, ⟨some 35, none, .ext (.t 30) 1⟩, ⟨some 9, none, .alloc 30 [.int .i64 0, .int .i64 0, .slice none 0 0, .slice none 0 0]⟩, ⟨none, none, .st 4 [none, none, some (1, 103), some (8, 80)] (.t 9) (.t 34)⟩, ⟨some 10, none, .mov (.t 35)⟩]) (.seq (.seq (.reg [⟨some 36, none, .ld true 4 (.t 9)⟩, ⟨some 37, none, .ld true 4 (.t 6)⟩, ⟨some 38, none, .call 15 [.t 36, .t 37]⟩, ⟨some 39, none, .un .not (.t 38)⟩, ⟨some 40, none, .mov (.t 39)⟩, ⟨some 41, some (40, false), .mov (.t 10)⟩, ⟨some 42, some (40, false), .mov (.t 7)⟩, ⟨some 43, some (40, false), .bin .neq 3 (.t 41) (.t 42)⟩, ⟨some 44, none, .pick (.t 40) (.c (.bool true)) (.t 43)⟩]) (.cond (.t 44) (.seq (.reg [⟨some 4, none, .mov (.c (.bool false))⟩]) .ret) .skip)) (.seq (.seq (.dreg (T.pure 0 ⟨some 45, none, .ld true 4 (.t 8)⟩ (T.pure 1 ⟨some 46, none, .ld true 4 (.t 2)⟩ (T.alt ⟨some 47, none, .call 13 [.t 46]⟩ [0] (T.alt ⟨some 48, none, .call 15 [.t 45, .t 47]⟩ [] (T.pure 4 ⟨some 49, none, .un .not (.t 48)⟩ T.done) T.stop) T.stop)))) (.cond (.t 49) (.seq (.reg [⟨some 4, none, .mov (.c (.bool false))⟩]) .ret) .skip)) (.seq (.reg [⟨some 11, none, .mov (.c (.int .i64 1))⟩]) (.seq (.reg [⟨some 50, none, .ld true 4 (.t 8)⟩, ⟨some 51, none, .mov (.t 11)⟩, ⟨some 52, none, .call 16 [.t 50, .t 51]⟩, ⟨some 11, none, .mov (.t 52)⟩]) (.seq (.seq (.reg [⟨some 53, none, .mov (.t 11)⟩, ⟨some 54, none, .bin .lss 3 (.t 53) (.c (.int .i64 0))⟩, ⟨some 55, none, .mov (.t 54)⟩, ⟨some 56, some (55, false), .ld true 4 (.t 9)⟩, ⟨some 57, some (55, false), .ld true 4 (.t 6)⟩, ⟨some 58, some (55, false), .call 15 [.t 56, .t 57]⟩, ⟨some 59, some (55, false), .un .not (.t 58)⟩, ⟨some 60, none, .pick (.t 55) (.c (.bool true)) (.t 59)⟩, ⟨some 61, none, .mov (.t 60)⟩, ⟨some 62, some (61, false), .mov (.t 10)⟩, ⟨some 63, some (61, false), .mov (.t 7)⟩, ⟨some 64, some (61, false), .bin .neq 3 (.t 62) (.t 63)⟩, ⟨some 65, none, .pick (.t 61) (.c (.bool true)) (.t 64)⟩]) (.cond (.t 65) (.seq (.reg [⟨some 4, none, .mov (.c (.bool false))⟩]) .ret) .skip)) (.seq (.reg [⟨some 12, none, .mov (.c (.int .i64 1))⟩]) (.seq (.reg [⟨some 66, none, .ld true 4 (.t 9)⟩, ⟨some 67, none, .mov (.t 12)⟩, ⟨some 68, none, .call 16 [.t 66, .t 67]⟩, ⟨some 12, none, .mov (.t 68)⟩]) (.seq (.reg [⟨some 13, none, .mov (.c (.int .i64 1))⟩]) (.seq (.reg [⟨some 69, none, .ld true 4 (.t 9)⟩, ⟨some 70, none, .mov (.t 13)⟩, ⟨some 71, none, .call 17 [.t 69, .t 70]⟩, ⟨some 13, none, .mov (.t 71)⟩]) (.seq (.seq (.reg [⟨some 72, none, .mov (.t 13)⟩, ⟨some 73, none, .bin .lss 3 (.t 72) (.c (.int .i64 0))⟩]) (.cond (.t 73) (.seq (.reg [⟨some 4, none, .mov (.c (.bool false))⟩]) .ret) .skip)) (.seq (.seq (.reg [⟨some 74, none, .mov (.t 13)⟩, ⟨some 75, none, .mov (.t 12)⟩, ⟨some 76, none, .bin .neq 3 (.t 74) (.t 75)⟩]) (.cond (.t 76) (.seq (.reg [⟨some 4, none, .mov (.c (.bool false))⟩]) .ret) .skip)) (.seq (.reg [⟨some 78, none, .ld true 4 (.t 2)⟩, ⟨some 79, none, .call 13 [.t 78]⟩, ⟨some 80, none, .mov (.t 1)⟩, ⟨some 81, none, .call 28 [.t 79, .t 80]⟩, ⟨some 77, none, .mov (.t 81)⟩, ⟨some 82, none, .ext (.t 77) 0⟩, ⟨some 83, none, .ext (.t 77) 1⟩, ⟨some 14, none, .alloc 30 [.int .i64 0, .int .i64 0, .slice none 0 0, .slice none 0 0]⟩, ⟨none, none, .st 4 [none, none, some (1, 103), some (8, 80)] (.t 14) (.t 82)⟩, ⟨some 15, none, .mov (.t 83)⟩]) (.seq (.seq (.reg [⟨some 84, none, .ld true 4 (.t 14)⟩, ⟨some 85, none, .ld true 4 (.t 6)⟩, ⟨some 86, none, .call 15 [.t 84, .t 85]⟩, ⟨some 87, none, .un .not (.t 86)⟩, ⟨some 88, none, .mov (.t 87)⟩, ⟨some 89, some (88, false), .mov (.t 15)⟩, ⟨some 90, some (88, false), .mov (.t 7)⟩, ⟨some 91, some (88, false), .bin .neq 3 (.t 89) (.t 90)⟩, ⟨some 92, none, .pick (.t 88) (.c (.bool true)) (.t 91)⟩]) (.cond (.t 92) (.seq (.reg [⟨some 4, none, .mov (.c (.bool false))⟩]) .ret) .skip)) (.seq (.reg [⟨some 13, none, .mov (.c (.int .i64 1))⟩]) (.seq (.reg [⟨some 93, none, .ld true 4 (.t 9)⟩, ⟨some 94, none, .mov (.t 13)⟩, ⟨some 95, none, .call 17 [.t 93, .t 94]⟩, ⟨some 13, none, .mov (.t 95)⟩]) (.seq (.seq (.reg [⟨some 96, none, .mov (.t 13)⟩, ⟨some 97, none, .bin .lss 3 (.t 96) (.c (.int .i64 0))⟩]) (.cond (.t 97) (.seq (.reg [⟨some 4, none, .mov (.c (.bool false))⟩]) .ret) .skip)) (.seq (.seq (.reg [⟨some 98, none, .mov (.t 13)⟩, ⟨some 99, none, .mov (.t 12)⟩, ⟨some 100, none, .bin .neq 3 (.t 98) (.t 99)⟩]) (.cond (.t 100) (.seq (.reg [⟨some 4, none, .mov (.c (.bool false))⟩]) .ret) .skip)) (.seq (.reg [⟨some 4, none, .mov (.c (.bool true))⟩]) .ret))))))))))))))))))))))))
theorem code_laws_FnExactForget : fnC Tryz.prog Tryz.f8 = some (c_laws_FnExactForget, [.t 4], 101) := by kernel_rfl
set_option maxHeartbeats 2000000 in
theorem p_Forget (b0 : Yd) (b1 : Int) : Pure Tryz.prog 8 [.agg (encYd b0), .c (.val (.int .i64 b1))] (.c (.val (.bool true))) := by
  refine pure_fn Tryz.func8 code_laws_FnExactForget (by simp) ?_
  unfold c_laws_FnExactForget
  simp -implicitDefEqProofs only [go_sem, encYd, encNt, encDd, encPl, encRn, encEn, bne_self_eq_false, beq_self_eq_true]
  intros
  refine run_call (p_szYard b0 (1048576) (by omega) (by omega)) (by simp -implicitDefEqProofs only [go_sem, encYd, encNt, encDd, encPl, encRn, encEn, bne_self_eq_false, beq_self_eq_true]) fun η => ?_
  rcases szf_spec (totYd b0) (1048576) with ⟨hle0, hz0⟩ | ⟨hle0, hz0⟩
  rotate_left
  · simp -implicitDefEqProofs only [go_sem, encYd, encNt, encDd, encPl, encRn, encEn, bne_self_eq_false, beq_self_eq_true, hz0]
  have ht0 : totYd b0 ≤ 2000000 := by omega
  have hn0 : ¬ (1048576 - (totYd b0 : Int) < 0) := by omega
  simp -implicitDefEqProofs only [go_sem, encYd, encNt, encDd, encPl, encRn, encEn, bne_self_eq_false, beq_self_eq_true, hz0, hn0]
  intros
  have hca0 := b_yd b0
  have hsa0 : b0.shelf.length ≤ totYd b0 := by simp only [totYd, totSh]; omega
  have hra0 : b0.runs.length ≤ totYd b0 := by simp only [totYd, totRns]; omega
  have hq0 : totYd (forgY b0 b1) ≤ 2000000 := tot_forg b0 b1 ht0
  have pS := p_spec_Forget b0 b1 ht0
  have pI := p_impl_Forget b0 b1 ht0
  generalize forgY b0 b1 = r0 at *
  have hcr0 := b_yd r0
  have hsr0 : r0.shelf.length ≤ totYd r0 := by simp only [totYd, totSh]; omega
  have hrr0 : r0.runs.length ≤ totYd r0 := by simp only [totYd, totRns]; omega
  generalize forgC b0 b1 = r1 at *
  refine run_call (p_toYard b0 (by omega)) (by simp -implicitDefEqProofs only [go_sem, encYd, encNt, encDd, encPl, encRn, encEn, bne_self_eq_false, beq_self_eq_true, hz0, hn0]) fun η1 => ?_
  simp -implicitDefEqProofs only [go_sem, encYd, encNt, encDd, encPl, encRn, encEn, bne_self_eq_false, beq_self_eq_true, hz0, hn0]
  intros
  refine run_call (pS) (by simp -implicitDefEqProofs only [go_sem, encYd, encNt, encDd, encPl, encRn, encEn, bne_self_eq_false, beq_self_eq_true, hz0, hn0]) fun η2 => ?_
  simp -implicitDefEqProofs only [go_sem, encYd, encNt, encDd, encPl, encRn, encEn, bne_self_eq_false, beq_self_eq_true, hz0, hn0]
  intros
  refine run_call (p_toYard b0 (by omega)) (by simp -implicitDefEqProofs only [go_sem, encYd, encNt, encDd, encPl, encRn, encEn, bne_self_eq_false, beq_self_eq_true, hz0, hn0]) fun η3 => ?_
  simp -implicitDefEqProofs only [go_sem, encYd, encNt, encDd, encPl, encRn, encEn, bne_self_eq_false, beq_self_eq_true, hz0, hn0]
  intros
  refine run_call (pI) (by simp -implicitDefEqProofs only [go_sem, encYd, encNt, encDd, encPl, encRn, encEn, bne_self_eq_false, beq_self_eq_true, hz0, hn0]) fun η4 => ?_
  simp -implicitDefEqProofs only [go_sem, encYd, encNt, encDd, encPl, encRn, encEn, bne_self_eq_false, beq_self_eq_true, hz0, hn0]
  intros
  refine run_call (p_eqYard r0 r0) (by simp -implicitDefEqProofs only [go_sem, encYd, encNt, encDd, encPl, encRn, encEn, bne_self_eq_false, beq_self_eq_true, hz0, hn0]) fun η5 => ?_
  simp -implicitDefEqProofs only [go_sem, encYd, encNt, encDd, encPl, encRn, encEn, bne_self_eq_false, beq_self_eq_true, hz0, hn0]
  intros
  refine run_call (p_toYard b0 (by omega)) (by simp -implicitDefEqProofs only [go_sem, encYd, encNt, encDd, encPl, encRn, encEn, bne_self_eq_false, beq_self_eq_true, hz0, hn0]) fun η6 => ?_
  simp -implicitDefEqProofs only [go_sem, encYd, encNt, encDd, encPl, encRn, encEn, bne_self_eq_false, beq_self_eq_true, hz0, hn0]
  intros
  refine run_call (p_eqYard b0 b0) (by simp -implicitDefEqProofs only [go_sem, encYd, encNt, encDd, encPl, encRn, encEn, bne_self_eq_false, beq_self_eq_true, hz0, hn0]) fun η7 => ?_
  simp -implicitDefEqProofs only [go_sem, encYd, encNt, encDd, encPl, encRn, encEn, bne_self_eq_false, beq_self_eq_true, hz0, hn0]
  intros
  refine mark_agg (k := 1) (r := 1 + ((cYd b0 : Nat) : Int)) (ds := encYd b0) (ds' := encYd (mkYd b0 1)) ⟨_, Tryz.func16, by kernel_rfl, by kernel_rfl⟩ (fun B w v S h hF => markYard_c b0 1 v S B w h hF (by decide) (by omega) (by omega) (by omega)) ?_
  have hm8 : ¬ (1 + ((cYd b0 : Nat) : Int) < 0) := by omega
  simp -implicitDefEqProofs only [go_sem, encYd, encNt, encDd, encPl, encRn, encEn, bne_self_eq_false, beq_self_eq_true, hz0, hn0, hm8]
  rintro η8 ⟨hm8h0, hm8h1⟩
  intros
  refine run_call (p_eqYard r0 r0) (by simp -implicitDefEqProofs only [go_sem, encYd, encNt, encDd, encPl, encRn, encEn, bne_self_eq_false, beq_self_eq_true, hz0, hn0, hm8, hm8h0, hm8h1]) fun η9 => ?_
  simp -implicitDefEqProofs only [go_sem, encYd, encNt, encDd, encPl, encRn, encEn, bne_self_eq_false, beq_self_eq_true, hz0, hn0, hm8, hm8h0, hm8h1]
  intros
  refine mark_agg (k := 1) (r := 1 + ((cYd r0 : Nat) : Int)) (ds := encYd r0) (ds' := encYd (mkYd r0 1)) ⟨_, Tryz.func16, by kernel_rfl, by kernel_rfl⟩ (fun B w v S h hF => markYard_c r0 1 v S B w h hF (by decide) (by omega) (by omega) (by omega)) ?_
  have hm10 : ¬ (1 + ((cYd r0 : Nat) : Int) < 0) := by omega
  simp -implicitDefEqProofs only [go_sem, encYd, encNt, encDd, encPl, encRn, encEn, bne_self_eq_false, beq_self_eq_true, hz0, hn0, hm8, hm8h0, hm8h1, hm10]
  rintro η10 ⟨hm10h0, hm10h1⟩
  intros
  refine run_call (p_heldYard r0 1 (by decide) (by omega) (by omega) (by omega)) (by simp -implicitDefEqProofs only [go_sem, encYd, encNt, encDd, encPl, encRn, encEn, bne_self_eq_false, beq_self_eq_true, hz0, hn0, hm8, hm8h0, hm8h1, hm10, hm10h0, hm10h1]) fun η11 => ?_
  simp -implicitDefEqProofs only [go_sem, encYd, encNt, encDd, encPl, encRn, encEn, bne_self_eq_false, beq_self_eq_true, hz0, hn0, hm8, hm8h0, hm8h1, hm10, hm10h0, hm10h1]
  intros
  refine run_call (p_toYard b0 (by omega)) (by simp -implicitDefEqProofs only [go_sem, encYd, encNt, encDd, encPl, encRn, encEn, bne_self_eq_false, beq_self_eq_true, hz0, hn0, hm8, hm8h0, hm8h1, hm10, hm10h0, hm10h1]) fun η12 => ?_
  simp -implicitDefEqProofs only [go_sem, encYd, encNt, encDd, encPl, encRn, encEn, bne_self_eq_false, beq_self_eq_true, hz0, hn0, hm8, hm8h0, hm8h1, hm10, hm10h0, hm10h1]
  intros
  refine run_call (pI) (by simp -implicitDefEqProofs only [go_sem, encYd, encNt, encDd, encPl, encRn, encEn, bne_self_eq_false, beq_self_eq_true, hz0, hn0, hm8, hm8h0, hm8h1, hm10, hm10h0, hm10h1]) fun η13 => ?_
  simp -implicitDefEqProofs only [go_sem, encYd, encNt, encDd, encPl, encRn, encEn, bne_self_eq_false, beq_self_eq_true, hz0, hn0, hm8, hm8h0, hm8h1, hm10, hm10h0, hm10h1]
  intros
  refine run_call (p_eqYard r0 r0) (by simp -implicitDefEqProofs only [go_sem, encYd, encNt, encDd, encPl, encRn, encEn, bne_self_eq_false, beq_self_eq_true, hz0, hn0, hm8, hm8h0, hm8h1, hm10, hm10h0, hm10h1]) fun η14 => ?_
  simp -implicitDefEqProofs only [go_sem, encYd, encNt, encDd, encPl, encRn, encEn, bne_self_eq_false, beq_self_eq_true, hz0, hn0, hm8, hm8h0, hm8h1, hm10, hm10h0, hm10h1]
  intros
  refine run_call (p_heldYard r0 1 (by decide) (by omega) (by omega) (by omega)) (by simp -implicitDefEqProofs only [go_sem, encYd, encNt, encDd, encPl, encRn, encEn, bne_self_eq_false, beq_self_eq_true, hz0, hn0, hm8, hm8h0, hm8h1, hm10, hm10h0, hm10h1]) fun η15 => ?_
  simp -implicitDefEqProofs only [go_sem, encYd, encNt, encDd, encPl, encRn, encEn, bne_self_eq_false, beq_self_eq_true, hz0, hn0, hm8, hm8h0, hm8h1, hm10, hm10h0, hm10h1]
end Go.Proofs.YtnhdcbhcocgjhaaGreat
