/- Texts for laws: LTick. -/
import Derived.Test.YtnhdcbhcocgjhaaGreatQAb
import Derived.Test.YtnhdcbhcocgjhaaGreatQBnd
import Derived.Test.YtnhdcbhcocgjhaaGreatQTick
set_option linter.unusedSimpArgs false
set_option linter.unusedVariables false
set_option maxRecDepth 100000
namespace Go.Proofs.YtnhdcbhcocgjhaaGreat
open Go.RowKit Go.Sort
def c_laws_FnExactTick : C := .seq (.reg [⟨some 1, none, .box 25 4 (.t 0)⟩, ⟨some 2, none, .mov (.c (.bool false))⟩]) (.seq (.reg [⟨some 3, none, .mov (.c (.int .i64 1048576))⟩]) (.seq (.reg [⟨some 14, none, .ld true 4 (.t 1)⟩, ⟨some 15, none, .mov (.t 3)⟩, ⟨some 16, none, .call 11 [.t 14, .t 15]⟩, ⟨some 3, none, .mov (.t 16)⟩]) (.seq (.seq (.reg [⟨some 17, none, .mov (.t 3)⟩, ⟨some 18, none, .bin .lss 3 (.t 17) (.c (.int .i64 0))⟩]) (.cond (.t 18) (.seq (.reg [⟨some 2, none, .mov (.c (.bool true))⟩]) .ret) .skip)) (.seq (.reg [⟨some 20, none, .ld true 4 (.t 1)⟩, ⟨some 21, none, .call 13 [.t 20]⟩, ⟨some 22, none, .call 20 [.t 21]⟩, ⟨some 19, none, .mov (.t 22)⟩, ⟨some 23, none, .ext (.t 19) 0⟩, ⟨some 24, none, .ext (.t 19) 1⟩, ⟨some 4, none, .alloc 30 [.int .i64 0, .int .i64 0, .slice none 0 0, .slice none 0 0]⟩, ⟨none, none, .st 4 [none, none, some (1, 103), some (8, 80)] (.t 4) (.t 23)⟩, ⟨some 5, none, .mov (.t 24)⟩]) (.seq (.reg [⟨some 25, none, .ld true 4 (.t 1)⟩, ⟨some 26, none, .call 13 [.t 25]⟩, ⟨some 6, none, .alloc 30 [.int .i64 0, .int .i64 0, .slice none 0 0, .slice none 0 0]⟩, ⟨none, none, .st 4 [none, none, some (1, 103), some (8, 80)] (.t 6) (.t 26)⟩]) (.seq (.reg [⟨some 28, none, .ld true 4 (.t 6)⟩, ⟨some 29, none, .call 21 [.t 28]⟩, ⟨some 27, none, .mov (.t 29)⟩, ⟨some 30, none, .ext (.t 27) 0⟩, ⟨some 31, none, .ext (.t 27) 1⟩, ⟨some 7, none, .alloc 30 [.int .i64 0, .int .i64 0, .slice none 0 0, .slice none 0 0]⟩, ⟨none, none, .st 4 [none, none, some (1, 103), some (8, 80)] (.t 7) (.t 30)⟩, ⟨some 8, none, .mov (.t 31)⟩]) (.seq (.seq (.reg [⟨some 32, none, .ld true 4 (.t 7)⟩, ⟨some 33, none, .ld true 4 (.t 4)⟩, ⟨some 34, none, .call 15 [.t 32, .t 33]⟩, ⟨some 35, none, .un .not (.t 34)⟩, ⟨some 36, none, .mov (.t 35)⟩, ⟨some 37, some (36, false), .mov (.t 8)⟩, ⟨some 38, some (36, false), .mov (.t 5)⟩, ⟨some 39, some (36, false), .bin .neq 3 (.t 37) (.t 38)⟩, ⟨some 40, none, .pick (.t 36) (.c (.bool true)) (.t 39)⟩]) (.cond (.t 40) (.seq (.reg [⟨some 2, none, .mov (.c (.bool false))⟩]) .ret) .skip)) (.seq (.seq (.dreg (T.pure 0 ⟨some 41, none, .ld true 4 (.t 6)⟩ (T.pure 1 ⟨some 42, none, .ld true 4 (.t 1)⟩ (T.alt ⟨some 43, none, .call 13 [.t 42]⟩ [0] (T.alt ⟨some 44, none, .call 15 [.t 41, .t 43]⟩ [] (T.pure 4 ⟨some 45, none, .un .not (.t 44)⟩ T.done) T.stop) T.stop)))) (.cond (.t 45) (.seq (.reg [⟨some 2, none, .mov (.c (.bool false))⟩]) .ret) .skip)) (.seq (.reg [⟨some 9, none, .mov (.c (.int .i64 1))⟩]) (.seq (.reg [⟨some 46, none, .ld true 4 (.t 6)⟩, ⟨some 47, none, .mov (.t 9)⟩, ⟨some 48, none, .call 16 [.t 46, .t 47]⟩, ⟨some 9, none, .mov (.t 48)⟩]) (.seq (.seq (.reg [⟨some 49, none, .mov (.t 9)⟩, ⟨some 50, none, .bin .lss 3 (.t 49) (.c (.int .i64 0))⟩, ⟨some 51, none, .mov (.t 50)⟩, ⟨some 52, some (51, false), .ld true 4 (.t 7)⟩, ⟨some 53, some (51, false), .ld true 4 (.t 4)⟩, ⟨some 54, some (51, false), .call 15 [.t 52, .t 53]⟩, ⟨some 55, some (51, false), .un .not (.t 54)⟩, ⟨some 56, none, .pick (.t 51) (.c (.bool true)) (.t 55)⟩, ⟨some 57, none, .mov (.t 56)⟩, ⟨some 58, some (57, false), .mov (.t 8)⟩, ⟨some 59, some (57, false), .mov (.t 5)⟩, ⟨some 60, some (57, false), .bin .neq 3 (.t 58) (.t 59)⟩, ⟨some 61, none, .pick (.t 57) (.c (.bool true)) (.t 60)⟩]) (.cond (.t 61) (.seq (.reg [⟨some 2, none, .mov (.c (.bool false))⟩]) .ret) .skip)) (.seq (.reg [⟨some 10, none, .mov (.c (.int .i64 1))⟩]) (.seq (.reg [⟨some 62, none, .ld true 4 (.t 7)⟩, ⟨some 63, none, .mov (.t 10)⟩, ⟨some 64, none, .call 16 [.t 62, .t 63]⟩, ⟨some 10, none, .mov (.t 64)⟩]) (.seq (.reg [⟨some 11, none, .mov (.c (.int .i64 1))⟩]) (.seq (.reg [⟨some 65, none, .ld true 4 (.t 7)⟩, ⟨some 66, none, .mov (.t 11)⟩, ⟨some 67, none, .call 17 [.t 65, .t 66]⟩, ⟨some 11, none, .mov (.t 67)⟩]) (.seq (.seq (.reg [⟨some 68, none, .mov (.t 11)⟩, ⟨some 69, none, .bin .lss 3 (.t 68) (.c (.int .i64 0))⟩]) (.cond (.t 69) (.seq (.reg [⟨some 2, none, .mov (.c (.bool false))⟩]) .ret) .skip)) (.seq (.seq (.reg [⟨some 70, none, .mov (.t 11)⟩, ⟨some 71, none, .mov (.t 10)⟩, ⟨some 72, none, .bin .neq 3 (.t 70) (.t 71)⟩]) (.cond (.t 72) (.seq (.reg [⟨some 2, none, .mov (.c (.bool false))⟩]) .ret) .skip)) (.seq (.reg [⟨some 74, none, .ld true 4 (.t 1)⟩, ⟨some 75, none, .call 13 [.t 74]⟩, ⟨some 76, none, .call 21 [.t 75]⟩, ⟨some 73, none, .mov (.t 76)⟩, ⟨some 77, none, .ext (.t 73) 0⟩, ⟨some 78, none, .ext (.t 73) 1⟩, ⟨some 12, none, .alloc 30 [.int .i64 0, .int .i64 0, .slice none 0 0, .slice none 0 0]⟩, ⟨none, none, .st 4 [none, none, some (1, 103), some (8, 80)] (.t 12) (.t 77)⟩, ⟨some 13, none, .mov (.t 78)⟩]) (.seq (.seq (.reg [⟨some 79, none, .ld true 4 (.t 12)⟩, ⟨some 80, none, .ld true 4 (.t 4)⟩, ⟨some 81, none, .call 15 [.t 79, .t 80]⟩, ⟨some 82, none, .un .not (.t 81)⟩, ⟨some 83, none, .mov (.t 82)⟩, ⟨some 84, some (83, false), .mov (.t 13)⟩, ⟨some 85, some (83, false), .mov (.t 5)⟩, ⟨some 86, some (83, false), .bin .neq 3 (.t 84) (.t 85)⟩, ⟨some 87, none, .pick (.t 83) (.c (.bool true)) (.t 86)⟩]) (.cond (.t 87) (.seq (.reg [⟨some 2, none, .mov (.c (.bool false))⟩]) .ret) .skip)) (.seq (.reg [⟨some 11, none, .mov (.c (.int .i64 1))⟩]) (.seq (.reg [⟨some 88, none, .ld true 4 (.t 7)⟩, ⟨some 89, none, .mov (.t 11)⟩, ⟨some 90, none, .call 17 [.t 88, .t 89]⟩, ⟨some 11, none, .mov (.t 90)⟩]) (.seq (.seq (.reg [⟨some 91, none, .mov (.t 11)⟩, ⟨some 92, none, .bin .lss 3 (.t 91) (.c (.int .i64 0))⟩]) (.cond (.t 92) (.seq (.reg [⟨some 2, none, .mov (.c (.bool false))⟩]) .ret) .skip)) (.seq (.seq (.reg [⟨some 93, none, .mov (.t 11)⟩, ⟨some 94, none, .mov (.t 10)⟩, ⟨some 95, none, .bin .neq 3 (.t 93) (.t 94)⟩]) (.cond (.t 95) (.seq (.reg [⟨some 2, none, .mov (.c (.bool false))⟩]) .ret) .skip)) (.seq (.reg [⟨some 2, none, .mov (.c (.bool true))⟩]) .ret))))))))))))))))))))))))
theorem code_laws_FnExactTick : fnC Tryz.prog Tryz.f5 = some (c_laws_FnExactTick, [.t 2], 96) := by kernel_rfl
set_option maxHeartbeats 2000000 in
theorem p_Tick (b0 : Yd) (wf0 : b0.wf) : Pure Tryz.prog 5 [.agg (encYd b0)] (.c (.val (.bool true))) := by
  refine pure_fn Tryz.func5 code_laws_FnExactTick (by simp) ?_
  unfold c_laws_FnExactTick
  simp -implicitDefEqProofs only [go_sem, encYd, encNt, encDd, encPl, encRn, encEn, bne_self_eq_false, beq_self_eq_true]
  intros
  refine run_call (p_szYard b0 (1048576) (by omega) (by omega)) (by simp -implicitDefEqProofs only [go_sem, encYd, encNt, encDd, encPl, encRn, encEn, bne_self_eq_false, beq_self_eq_true]) fun η => ?_
  rcases szf_spec (totYd b0) (1048576) with ⟨hle0, hz0⟩ | ⟨hle0, hz0⟩
  rotate_left
  · simp -implicitDefEqProofs only [go_sem, encYd, encNt, encDd, encPl, encRn, encEn, bne_self_eq_false, beq_self_eq_true, hz0]
  have ht0 : totYd b0 ≤ 2000000 := by omega
  have hn0 : ¬ (1048576 - (totYd b0 : Int) < 0) := by omega
  simp -implicitDefEqProofs only [go_sem, encYd, encNt, encDd, encPl, encRn, encEn, bne_self_eq_false, beq_self_eq_true, hz0, hn0]
  intros
  have hca0 := b_yd b0
  have hsa0 : b0.shelf.length ≤ totYd b0 := by simp only [totYd, totSh]; omega
  have hra0 : b0.runs.length ≤ totYd b0 := by simp only [totYd, totRns]; omega
  have hq0 : totYd (tickY b0) ≤ 2000000 := tot_tick b0 (by omega)
  have pS := p_spec_Tick b0 (by omega) wf0
  have pI := p_impl_Tick b0 (by omega) wf0
  generalize tickY b0 = r0 at *
  have hcr0 := b_yd r0
  have hsr0 : r0.shelf.length ≤ totYd r0 := by simp only [totYd, totSh]; omega
  have hrr0 : r0.runs.length ≤ totYd r0 := by simp only [totYd, totRns]; omega
  generalize tickC b0 = r1 at *
  refine run_call (p_toYard b0 (by omega)) (by simp -implicitDefEqProofs only [go_sem, encYd, encNt, encDd, encPl, encRn, encEn, bne_self_eq_false, beq_self_eq_true, hz0, hn0]) fun η1 => ?_
  simp -implicitDefEqProofs only [go_sem, encYd, encNt, encDd, encPl, encRn, encEn, bne_self_eq_false, beq_self_eq_true, hz0, hn0]
  intros
  refine run_call (pS) (by simp -implicitDefEqProofs only [go_sem, encYd, encNt, encDd, encPl, encRn, encEn, bne_self_eq_false, beq_self_eq_true, hz0, hn0]) fun η2 => ?_
  simp -implicitDefEqProofs only [go_sem, encYd, encNt, encDd, encPl, encRn, encEn, bne_self_eq_false, beq_self_eq_true, hz0, hn0]
  intros
  refine run_call (p_toYard b0 (by omega)) (by simp -implicitDefEqProofs only [go_sem, encYd, encNt, encDd, encPl, encRn, encEn, bne_self_eq_false, beq_self_eq_true, hz0, hn0]) fun η3 => ?_
  simp -implicitDefEqProofs only [go_sem, encYd, encNt, encDd, encPl, encRn, encEn, bne_self_eq_false, beq_self_eq_true, hz0, hn0]
  intros
  refine run_call (pI) (by simp -implicitDefEqProofs only [go_sem, encYd, encNt, encDd, encPl, encRn, encEn, bne_self_eq_false, beq_self_eq_true, hz0, hn0]) fun η4 => ?_
  simp -implicitDefEqProofs only [go_sem, encYd, encNt, encDd, encPl, encRn, encEn, bne_self_eq_false, beq_self_eq_true, hz0, hn0]
  intros
  refine run_call (p_eqYard r0 r0) (by simp -implicitDefEqProofs only [go_sem, encYd, encNt, encDd, encPl, encRn, encEn, bne_self_eq_false, beq_self_eq_true, hz0, hn0]) fun η5 => ?_
  simp -implicitDefEqProofs only [go_sem, encYd, encNt, encDd, encPl, encRn, encEn, bne_self_eq_false, beq_self_eq_true, hz0, hn0]
  intros
  refine run_call (p_toYard b0 (by omega)) (by simp -implicitDefEqProofs only [go_sem, encYd, encNt, encDd, encPl, encRn, encEn, bne_self_eq_false, beq_self_eq_true, hz0, hn0]) fun η6 => ?_
  simp -implicitDefEqProofs only [go_sem, encYd, encNt, encDd, encPl, encRn, encEn, bne_self_eq_false, beq_self_eq_true, hz0, hn0]
  intros
  refine run_call (p_eqYard b0 b0) (by simp -implicitDefEqProofs only [go_sem, encYd, encNt, encDd, encPl, encRn, encEn, bne_self_eq_false, beq_self_eq_true, hz0, hn0]) fun η7 => ?_
  simp -implicitDefEqProofs only [go_sem, encYd, encNt, encDd, encPl, encRn, encEn, bne_self_eq_false, beq_self_eq_true, hz0, hn0]
  intros
  refine mark_agg (k := 1) (r := 1 + ((cYd b0 : Nat) : Int)) (ds := encYd b0) (ds' := encYd (mkYd b0 1)) ⟨_, Tryz.func16, by kernel_rfl, by kernel_rfl⟩ (fun B w v S h hF => markYard_c b0 1 v S B w h hF (by decide) (by omega) (by omega) (by omega)) ?_
  have hm8 : ¬ (1 + ((cYd b0 : Nat) : Int) < 0) := by omega
  simp -implicitDefEqProofs only [go_sem, encYd, encNt, encDd, encPl, encRn, encEn, bne_self_eq_false, beq_self_eq_true, hz0, hn0, hm8]
  rintro η8 ⟨hm8h0, hm8h1⟩
  intros
  refine run_call (p_eqYard r0 r0) (by simp -implicitDefEqProofs only [go_sem, encYd, encNt, encDd, encPl, encRn, encEn, bne_self_eq_false, beq_self_eq_true, hz0, hn0, hm8, hm8h0, hm8h1]) fun η9 => ?_
  simp -implicitDefEqProofs only [go_sem, encYd, encNt, encDd, encPl, encRn, encEn, bne_self_eq_false, beq_self_eq_true, hz0, hn0, hm8, hm8h0, hm8h1]
  intros
  refine mark_agg (k := 1) (r := 1 + ((cYd r0 : Nat) : Int)) (ds := encYd r0) (ds' := encYd (mkYd r0 1)) ⟨_, Tryz.func16, by kernel_rfl, by kernel_rfl⟩ (fun B w v S h hF => markYard_c r0 1 v S B w h hF (by decide) (by omega) (by omega) (by omega)) ?_
  have hm10 : ¬ (1 + ((cYd r0 : Nat) : Int) < 0) := by omega
  simp -implicitDefEqProofs only [go_sem, encYd, encNt, encDd, encPl, encRn, encEn, bne_self_eq_false, beq_self_eq_true, hz0, hn0, hm8, hm8h0, hm8h1, hm10]
  rintro η10 ⟨hm10h0, hm10h1⟩
  intros
  refine run_call (p_heldYard r0 1 (by decide) (by omega) (by omega) (by omega)) (by simp -implicitDefEqProofs only [go_sem, encYd, encNt, encDd, encPl, encRn, encEn, bne_self_eq_false, beq_self_eq_true, hz0, hn0, hm8, hm8h0, hm8h1, hm10, hm10h0, hm10h1]) fun η11 => ?_
  simp -implicitDefEqProofs only [go_sem, encYd, encNt, encDd, encPl, encRn, encEn, bne_self_eq_false, beq_self_eq_true, hz0, hn0, hm8, hm8h0, hm8h1, hm10, hm10h0, hm10h1]
  intros
  refine run_call (p_toYard b0 (by omega)) (by simp -implicitDefEqProofs only [go_sem, encYd, encNt, encDd, encPl, encRn, encEn, bne_self_eq_false, beq_self_eq_true, hz0, hn0, hm8, hm8h0, hm8h1, hm10, hm10h0, hm10h1]) fun η12 => ?_
  simp -implicitDefEqProofs only [go_sem, encYd, encNt, encDd, encPl, encRn, encEn, bne_self_eq_false, beq_self_eq_true, hz0, hn0, hm8, hm8h0, hm8h1, hm10, hm10h0, hm10h1]
  intros
  refine run_call (pI) (by simp -implicitDefEqProofs only [go_sem, encYd, encNt, encDd, encPl, encRn, encEn, bne_self_eq_false, beq_self_eq_true, hz0, hn0, hm8, hm8h0, hm8h1, hm10, hm10h0, hm10h1]) fun η13 => ?_
  simp -implicitDefEqProofs only [go_sem, encYd, encNt, encDd, encPl, encRn, encEn, bne_self_eq_false, beq_self_eq_true, hz0, hn0, hm8, hm8h0, hm8h1, hm10, hm10h0, hm10h1]
  intros
  refine run_call (p_eqYard r0 r0) (by simp -implicitDefEqProofs only [go_sem, encYd, encNt, encDd, encPl, encRn, encEn, bne_self_eq_false, beq_self_eq_true, hz0, hn0, hm8, hm8h0, hm8h1, hm10, hm10h0, hm10h1]) fun η14 => ?_
  simp -implicitDefEqProofs only [go_sem, encYd, encNt, encDd, encPl, encRn, encEn, bne_self_eq_false, beq_self_eq_true, hz0, hn0, hm8, hm8h0, hm8h1, hm10, hm10h0, hm10h1]
  intros
  refine run_call (p_heldYard r0 1 (by decide) (by omega) (by omega) (by omega)) (by simp -implicitDefEqProofs only [go_sem, encYd, encNt, encDd, encPl, encRn, encEn, bne_self_eq_false, beq_self_eq_true, hz0, hn0, hm8, hm8h0, hm8h1, hm10, hm10h0, hm10h1]) fun η15 => ?_
  simp -implicitDefEqProofs only [go_sem, encYd, encNt, encDd, encPl, encRn, encEn, bne_self_eq_false, beq_self_eq_true, hz0, hn0, hm8, hm8h0, hm8h1, hm10, hm10h0, hm10h1]
end Go.Proofs.YtnhdcbhcocgjhaaGreat
