/- Texts for laws: LFail. -/
import Derived.Test.YtnhdcbhcocgjhaaGreatQAb
import Derived.Test.YtnhdcbhcocgjhaaGreatQBnd
import Derived.Test.YtnhdcbhcocgjhaaGreatQFailI
set_option linter.unusedSimpArgs false
set_option linter.unusedVariables false
set_option maxRecDepth 100000
namespace Go.Proofs.YtnhdcbhcocgjhaaGreat
open Go.RowKit Go.Sort
def c_laws_FnExactFail : C := .seq (.reg [⟨some 4, none, .box 25 4 (.t 0)⟩, ⟨some 8, none, .mov (.c (.bool false))⟩]) (.seq (.reg [⟨some 9, none, .mov (.c (.int .i64 1048576))⟩]) (.seq (.reg [⟨some 20, none, .ld true 4 (.t 4)⟩, ⟨some 21, none, .mov (.t 9)⟩, ⟨some 22, none, .call 11 [.t 20, .t 21]⟩, ⟨some 9, none, .mov (.t 22)⟩]) (.seq (.seq (.reg [⟨some 23, none, .mov (.t 9)⟩, ⟨some 24, none, .bin .lss 3 (.t 23) (.c (.int .i64 0))⟩]) (.cond (.t 24) (.seq (.reg [⟨some 8, none, .mov (.c (.bool true))⟩]) .ret) .skip)) (.seq (.reg [⟨some 26, none, .ld true 4 (.t 4)⟩, ⟨some 27, none, .call 13 [.t 26]⟩, ⟨some 28, none, .mov (.t 1)⟩, ⟨some 29, none, .mov (.t 2)⟩, ⟨some 30, none, .mov (.t 3)⟩, ⟨some 31, none, .call 18 [.t 27, .t 28, .t 29, .t 30]⟩, ⟨some 25, none, .mov (.t 31)⟩, ⟨some 32, none, .ext (.t 25) 0⟩, ⟨some 33, none, .ext (.t 25) 1⟩, ⟨some 10, none, .alloc 30 [.int .i64 0, .int .i64 0, .slice none 0 0, .slice none 0 0]⟩, ⟨none, none, .st 4 [none, none, some (1, 103), some (8, 80)] (.t 10) (.t 32)⟩, ⟨some 11, none, .mov (.t 33)⟩]) (.seq (.reg [⟨some 34, none, .ld true 4 (.t 4)⟩, ⟨some 35, none, .call 13 [.t 34]⟩, ⟨some 12, none, .alloc 30 [.int .i64 0, .int .i64 0, .slice none 0 0, .slice none 0 0]⟩, ⟨none, none, .st 4 [none, none, some (1, 103), some (8, 80)] (.t 12) (.t 35)⟩]) (.seq (.reg [⟨some 37, none, .ld true 4 (.t 12)⟩, ⟨some 38, none, .mov (.t 1)⟩, ⟨some 39, none, .mov (.t 2)⟩, ⟨some 40, none, .mov (.t 3)⟩, ⟨some 41, none, .call 19 [.t 37, .t 38, .t 39, .t 40]⟩, ⟨some 36, none, .mov (.t 41)⟩, ⟨some 42, none, .ext (.t 36) 0⟩, ⟨some 43, none, .ext (.t 36) 1⟩, ⟨some 13, none, .alloc 30 [.int .i64 0, .int .i64 0, .slice none 0 0, .slice none 0 0]⟩, ⟨none, none, .st 4 [none, none, some (1, 103), some (8, 80)] (.t 13) (.t 42)⟩, ⟨some 14, none, .mov (.t 43)⟩]) (.seq (.seq (.reg [⟨some 44, none, .ld true 4 (.t 13)⟩, ⟨some 45, none, .ld true 4 (.t 10)⟩, ⟨some 46, none, .call 15 [.t 44, .t 45]⟩, ⟨some 47, none, .un .not (.t 46)⟩, ⟨some 48, none, .mov (.t 47)⟩, ⟨some 49, some (48, false), .mov (.t 14)⟩, ⟨some 50, some (48, false), .mov (.t 11)⟩, ⟨some 51, some (48, false), .bin .neq 3 (.t 49) (.t 50)⟩, ⟨some 52, none, .pick (.t 48) (.c (.bool true)) (.t 51)⟩]) (.cond (.t 52) (.seq (.reg [⟨some 8, none, .mov (.c (.bool false))⟩]) .ret) .skip)) (.seq (.seq (.dreg (T.pure 0 ⟨some 53, none, .ld true 4 (.t 12)⟩ (T.pure 1 ⟨some 54, none, .ld true 4 (.t 4)⟩ (T.alt ⟨some 55, none, .call 13 [.t 54]⟩ [0] (T.alt ⟨some 56, none, .call 15 [.t 53, .t 55]⟩ [] (T.pure 4 ⟨some 57, none, .un .not (.t 56)⟩ T.done) T.stop) T.stop)))) (.cond (.t 57) (.seq (.reg [⟨some 8, none, .mov (.c (.bool false))⟩]) .ret) .skip)) (.seq (.reg [⟨some 15, none, .mov (.c (.int .i64 1))⟩]) (.seq (.reg [⟨some 58, none, .ld true 4 (.t 12)⟩, ⟨some 59, none, .mov (.t 15)⟩, ⟨some 60, none, .call 16 [.t 58, .t 59]⟩, ⟨some 15, none, .mov (.t 60)⟩]) (.seq (.seq (.reg [⟨some 61, none, .mov (.t 15)⟩, ⟨some 62, none, .bin .lss 3 (.t 61) (.c (.int .i64 0))⟩, ⟨some 63, none, .mov (.t 62)⟩, ⟨some 64, some (63, false), .ld true 4 (.t 13)⟩, ⟨some 65, some (63, false), .ld true 4 (.t 10)⟩, ⟨some 66, some (63, false), .call 15 [.t 64, .t 65]⟩, ⟨some 67, some (63, false), .un .not (.t 66)⟩, ⟨some 68, none, .pick (.t 63) (.c (.bool true)) (.t 67)⟩, ⟨some 69, none, .mov (.t 68)⟩, ⟨some 70, some (69, false), .mov (.t 14)⟩, ⟨some 71, some (69, false), .mov (.t 11)⟩, ⟨some 72, some (69, false), .bin .neq 3 (.t 70) (.t 71)⟩, ⟨some 73, none, .pick (.t 69) (.c (.bool true)) (.t 72)⟩]) (.cond (.t 73) (.seq (.reg [⟨some 8, none, .mov (.c (.bool false))⟩]) .ret) .skip)) (.seq (.reg [⟨some 16, none, .mov (.c (.int .i64 1))⟩]) (.seq (.reg [⟨some 74, none, .ld true 4 (.t 13)⟩, ⟨some 75, none, .mov (.t 16)⟩, ⟨some 76, none, .call 16 [.t 74, .t 75]⟩, ⟨some 16, none, .mov (.t 76)⟩]) (.seq (.reg [⟨some 17, none, .mov (.c (.int .i64 1))⟩]) (.seq (.reg [⟨some 77, none, .ld true 4 (.t 13)⟩, ⟨some 78, none, .mov (.t 17)⟩, ⟨some 79, none, .call 17 [.t 77, .t 78]⟩, ⟨some 17, none, .mov (.t 79)⟩]) (.seq (.seq (.reg [⟨some 80, none, .mov (.t 17)⟩, ⟨some 81, none, .bin .lss 3 (.t 80) (.c (.int .i64 0))⟩]) (.cond (.t 81) (.seq (.reg [⟨some 8, none, .mov (.c (.bool false))⟩]) .ret) .skip)) (.seq (.seq (.reg [⟨some 82, none, .mov (.t 17)⟩, ⟨some 83, none, .mov (.t 16)⟩, ⟨some 84, none, .bin .neq 3 (.t 82) (.t 83)⟩]) (.cond (.t 84) (.seq (.reg [⟨some 8, none, .mov (.c (.bool false))⟩]) .ret) .skip)) (.seq (.reg [⟨some 86, none, .ld true 4 (.t 4)⟩, ⟨some 87, none, .call 13 [.t 86]⟩, ⟨some 88, none, .mov (.t 1)⟩, ⟨some 89, none, .mov (.t 2)⟩, ⟨some 90, none, .mov (.t 3)⟩, ⟨some 91, none, .call 19 [.t 87, .t 88, .t 89, .t 90]⟩, ⟨some 85, none, .mov (.t 91)⟩, ⟨some 92, none, .ext (.t 85) 0⟩, ⟨some 93, none, .ext (.t 85) 1⟩, ⟨some 18, none, .alloc 30 [.int .i64 0, .int .i64 0, .slice none 0 0, .slice none 0 0]⟩, ⟨none, none, .st 4 [none, none, some (1, 103), some (8, 80)] (.t 18) (.t 92)⟩, ⟨some 19, none, .mov (.t 93)⟩]) (.seq (.seq (.reg [⟨some 94, none, .ld true 4 (.t 18)⟩, ⟨some 95, none, .ld true 4 (.t 10)⟩, ⟨some 96, none, .call 15 [.t 94, .t 95]⟩, ⟨some 97, none, .un .not (.t 96)⟩, ⟨some 98, none, .mov (.t 97)⟩, ⟨some 99, some (98, false), .mov (.t 19)⟩, ⟨some 100, some (98, false), .mov (.t 11)⟩, ⟨some 101, some (98, false), .bin .neq 3 (.t 99) (.t 100)⟩, ⟨some 102, none, .pick (.t 98) (.c (.bool true)) (.t 101)⟩]) (.cond (.t 102) (.seq (.reg [⟨some 8, none, .mov (.c (.bool false))⟩]) .ret) .skip)) (.seq (.reg [⟨some 17, none, .mov (.c (.int .i64 1))⟩]) (.seq (.reg [⟨some 103, none, .ld true 4 (.t 13)⟩, ⟨some 104, none, .mov (.t 17)⟩, ⟨some 105, none, .call 17 [.t 103, .t 104]⟩, ⟨some 17, none, .mov (.t 105)⟩]) (.seq (.seq (.reg [⟨some 106, none, .mov (.t 17)⟩, ⟨some 107, none, .bin .lss 3 (.t 106) (.c (.int .i64 0))⟩]) (.cond (.t 107) (.seq (.reg [⟨some 8, none, .mov (.c (.bool false))⟩]) .ret) .skip)) (.seq (.seq (.reg [⟨some 108, none, .mov (.t 17)⟩, ⟨some 109, none, .mov (.t 16)⟩, ⟨some 110, none, .bin .neq 3 (.t 108) (.t 109)⟩]) (.cond (.t 110) (.seq (.reg [⟨some 8, none, .mov (.c (.bool false))⟩]) .ret) .skip)) (.seq (.reg [⟨some 8, none, .mov (.c (.bool true))⟩]) .ret))))))))))))))))))))))))
theorem code_laws_FnExactFail : fnC Tryz.prog Tryz.f4 = some (c_laws_FnExactFail, [.t 8], 111) := by kernel_rfl
set_option maxHeartbeats 2000000 in
theorem p_Fail (b0 : Yd) (b1 : Int) (b2 : Int) (b3 : Int) : Pure Tryz.prog 4 [.agg (encYd b0), .c (.val (.int .i64 b1)), .c (.val (.int .i64 b2)), .c (.val (.int .i64 b3))] (.c (.val (.bool true))) := by
  refine pure_fn Tryz.func4 code_laws_FnExactFail (by simp) ?_
  unfold c_laws_FnExactFail
  simp -implicitDefEqProofs only [go_sem, encYd, encNt, encDd, encPl, encRn, encEn, bne_self_eq_false, beq_self_eq_true]
  intros
  refine run_call (p_szYard b0 (1048576) (by omega) (by omega)) (by simp -implicitDefEqProofs only [go_sem, encYd, encNt, encDd, encPl, encRn, encEn, bne_self_eq_false, beq_self_eq_true]) fun η => ?_
  rcases szf_spec (totYd b0) (1048576) with ⟨hle0, hz0⟩ | ⟨hle0, hz0⟩
  rotate_left
  · simp -implicitDefEqProofs only [go_sem, encYd, encNt, encDd, encPl, encRn, encEn, bne_self_eq_false, beq_self_eq_true, hz0]
  have ht0 : totYd b0 ≤ 2000000 := by omega
  have hn0 : ¬ (1048576 - (totYd b0 : Int) < 0) := by omega
  simp -implicitDefEqProofs only [go_sem, encYd, encNt, encDd, encPl, encRn, encEn, bne_self_eq_false, beq_self_eq_true, hz0, hn0]
  intros
  have hca0 := b_yd b0
  have hsa0 : b0.shelf.length ≤ totYd b0 := by simp only [totYd, totSh]; omega
  have hra0 : b0.runs.length ≤ totYd b0 := by simp only [totYd, totRns]; omega
  have hq0 : totYd (failY b0 b1 b2 b3) ≤ 2000000 := tot_fail b0 b1 b2 b3 (by omega)
  have pS := p_spec_Fail b0 b1 b2 b3 ht0
  have pI := p_impl_Fail b0 b1 b2 b3 ht0
  generalize failY b0 b1 b2 b3 = r0 at *
  have hcr0 := b_yd r0
  have hsr0 : r0.shelf.length ≤ totYd r0 := by simp only [totYd, totSh]; omega
  have hrr0 : r0.runs.length ≤ totYd r0 := by simp only [totYd, totRns]; omega
  generalize askC b0 b1 b2 b3 = r1 at *
  refine run_call (p_toYard b0 (by omega)) (by simp -implicitDefEqProofs only [go_sem, encYd, encNt, encDd, encPl, encRn, encEn, bne_self_eq_false, beq_self_eq_true, hz0, hn0]) fun η1 => ?_
  simp -implicitDefEqProofs only [go_sem, encYd, encNt, encDd, encPl, encRn, encEn, bne_self_eq_false, beq_self_eq_true, hz0, hn0]
  intros
  refine run_call (pS) (by simp -implicitDefEqProofs only [go_sem, encYd, encNt, encDd, encPl, encRn, encEn, bne_self_eq_false, beq_self_eq_true, hz0, hn0]) fun η2 => ?_
  simp -implicitDefEqProofs only [go_sem, encYd, encNt, encDd, encPl, encRn, encEn, bne_self_eq_false, beq_self_eq_true, hz0, hn0]
  intros
  refine run_call (p_toYard b0 (by omega)) (by simp -implicitDefEqProofs only [go_sem, encYd, encNt, encDd, encPl, encRn, encEn, bne_self_eq_false, beq_self_eq_true, hz0, hn0]) fun η3 => ?_
  simp -implicitDefEqProofs only [go_sem, encYd, encNt, encDd, encPl, encRn, encEn, bne_self_eq_false, beq_self_eq_true, hz0, hn0]
  intros
  refine run_call (pI) (by simp -implicitDefEqProofs only [go_sem, encYd, encNt, encDd, encPl, encRn, encEn, bne_self_eq_false, beq_self_eq_true, hz0, hn0]) fun η4 => ?_
  simp -implicitDefEqProofs only [go_sem, encYd, encNt, encDd, encPl, encRn, encEn, bne_self_eq_false, beq_self_eq_true, hz0, hn0]
  intros
  refine run_call (p_eqYard r0 r0) (by simp -implicitDefEqProofs only [go_sem, encYd, encNt, encDd, encPl, encRn, encEn, bne_self_eq_false, beq_self_eq_true, hz0, hn0]) fun η5 => ?_
  simp -implicitDefEqProofs only [go_sem, encYd, encNt, encDd, encPl, encRn, encEn, bne_self_eq_false, beq_self_eq_true, hz0, hn0]
  intros
  refine run_call (p_toYard b0 (by omega)) (by simp -implicitDefEqProofs only [go_sem, encYd, encNt, encDd, encPl, encRn, encEn, bne_self_eq_false, beq_self_eq_true, hz0, hn0]) fun η6 => ?_
  simp -implicitDefEqProofs only [go_sem, encYd, encNt, encDd, encPl, encRn, encEn, bne_self_eq_false, beq_self_eq_true, hz0, hn0]
  intros
  refine run_call (p_eqYard b0 b0) (by simp -implicitDefEqProofs only [go_sem, encYd, encNt, encDd, encPl, encRn, encEn, bne_self_eq_false, beq_self_eq_true, hz0, hn0]) fun η7 => ?_
  simp -implicitDefEqProofs only [go_sem, encYd, encNt, encDd, encPl, encRn, encEn, bne_self_eq_false, beq_self_eq_true, hz0, hn0]
  intros
  refine mark_agg (k := 1) (r := 1 + ((cYd b0 : Nat) : Int)) (ds := encYd b0) (ds' := encYd (mkYd b0 1)) ⟨_, Tryz.func16, by kernel_rfl, by kernel_rfl⟩ (fun B w v S h hF => markYard_c b0 1 v S B w h hF (by decide) (by omega) (by omega) (by omega)) ?_
  have hm8 : ¬ (1 + ((cYd b0 : Nat) : Int) < 0) := by omega
  simp -implicitDefEqProofs only [go_sem, encYd, encNt, encDd, encPl, encRn, encEn, bne_self_eq_false, beq_self_eq_true, hz0, hn0, hm8]
  rintro η8 ⟨hm8h0, hm8h1⟩
  intros
  refine run_call (p_eqYard r0 r0) (by simp -implicitDefEqProofs only [go_sem, encYd, encNt, encDd, encPl, encRn, encEn, bne_self_eq_false, beq_self_eq_true, hz0, hn0, hm8, hm8h0, hm8h1]) fun η9 => ?_
  simp -implicitDefEqProofs only [go_sem, encYd, encNt, encDd, encPl, encRn, encEn, bne_self_eq_false, beq_self_eq_true, hz0, hn0, hm8, hm8h0, hm8h1]
  intros
  refine mark_agg (k := 1) (r := 1 + ((cYd r0 : Nat) : Int)) (ds := encYd r0) (ds' := encYd (mkYd r0 1)) ⟨_, Tryz.func16, by kernel_rfl, by kernel_rfl⟩ (fun B w v S h hF => markYard_c r0 1 v S B w h hF (by decide) (by omega) (by omega) (by omega)) ?_
  have hm10 : ¬ (1 + ((cYd r0 : Nat) : Int) < 0) := by omega
  simp -implicitDefEqProofs only [go_sem, encYd, encNt, encDd, encPl, encRn, encEn, bne_self_eq_false, beq_self_eq_true, hz0, hn0, hm8, hm8h0, hm8h1, hm10]
  rintro η10 ⟨hm10h0, hm10h1⟩
  intros
  refine run_call (p_heldYard r0 1 (by decide) (by omega) (by omega) (by omega)) (by simp -implicitDefEqProofs only [go_sem, encYd, encNt, encDd, encPl, encRn, encEn, bne_self_eq_false, beq_self_eq_true, hz0, hn0, hm8, hm8h0, hm8h1, hm10, hm10h0, hm10h1]) fun η11 => ?_
  simp -implicitDefEqProofs only [go_sem, encYd, encNt, encDd, encPl, encRn, encEn, bne_self_eq_false, beq_self_eq_true, hz0, hn0, hm8, hm8h0, hm8h1, hm10, hm10h0, hm10h1]
  intros
  refine run_call (p_toYard b0 (by omega)) (by simp -implicitDefEqProofs only [go_sem, encYd, encNt, encDd, encPl, encRn, encEn, bne_self_eq_false, beq_self_eq_true, hz0, hn0, hm8, hm8h0, hm8h1, hm10, hm10h0, hm10h1]) fun η12 => ?_
  simp -implicitDefEqProofs only [go_sem, encYd, encNt, encDd, encPl, encRn, encEn, bne_self_eq_false, beq_self_eq_true, hz0, hn0, hm8, hm8h0, hm8h1, hm10, hm10h0, hm10h1]
  intros
  refine run_call (pI) (by simp -implicitDefEqProofs only [go_sem, encYd, encNt, encDd, encPl, encRn, encEn, bne_self_eq_false, beq_self_eq_true, hz0, hn0, hm8, hm8h0, hm8h1, hm10, hm10h0, hm10h1]) fun η13 => ?_
  simp -implicitDefEqProofs only [go_sem, encYd, encNt, encDd, encPl, encRn, encEn, bne_self_eq_false, beq_self_eq_true, hz0, hn0, hm8, hm8h0, hm8h1, hm10, hm10h0, hm10h1]
  intros
  refine run_call (p_eqYard r0 r0) (by simp -implicitDefEqProofs only [go_sem, encYd, encNt, encDd, encPl, encRn, encEn, bne_self_eq_false, beq_self_eq_true, hz0, hn0, hm8, hm8h0, hm8h1, hm10, hm10h0, hm10h1]) fun η14 => ?_
  simp -implicitDefEqProofs only [go_sem, encYd, encNt, encDd, encPl, encRn, encEn, bne_self_eq_false, beq_self_eq_true, hz0, hn0, hm8, hm8h0, hm8h1, hm10, hm10h0, hm10h1]
  intros
  refine run_call (p_heldYard r0 1 (by decide) (by omega) (by omega) (by omega)) (by simp -implicitDefEqProofs only [go_sem, encYd, encNt, encDd, encPl, encRn, encEn, bne_self_eq_false, beq_self_eq_true, hz0, hn0, hm8, hm8h0, hm8h1, hm10, hm10h0, hm10h1]) fun η15 => ?_
  simp -implicitDefEqProofs only [go_sem, encYd, encNt, encDd, encPl, encRn, encEn, bne_self_eq_false, beq_self_eq_true, hz0, hn0, hm8, hm8h0, hm8h1, hm10, hm10h0, hm10h1]
end Go.Proofs.YtnhdcbhcocgjhaaGreat
