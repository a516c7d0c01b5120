/- The text of a mark; both. -/
import Derived.Test.YtbplebgnkhmemaaGreatTextY
import Derived.Test.YtbplebgnkhmemaaGreatDeedB
set_option linter.unusedSimpArgs false
set_option linter.unusedVariables false
set_option maxRecDepth 100000
namespace Go.Proofs.YtbplebgnkhmemaaGreat
open Go.RowKit Go.Sort
def c_spec_MarkText : C := .seq (.reg [⟨some 3, none, .box 31 4 (.t 1)⟩, ⟨some 4, none, .mov (.c (.string ⟨⟨[]⟩⟩))⟩]) (.seq (.reg [⟨some 6, none, .ld true 4 (.t 3)⟩, ⟨some 7, none, .call 35 [.t 6]⟩, ⟨some 5, none, .mov (.t 7)⟩]) (.seq (.seq (.reg [⟨some 8, none, .mov (.t 0)⟩, ⟨some 9, none, .call 36 [.t 8]⟩, ⟨some 10, none, .un .not (.t 9)⟩, ⟨some 11, none, .mov (.t 10)⟩, ⟨some 12, some (11, false), .mov (.t 5)⟩, ⟨some 13, some (11, false), .bin .eql 9 (.t 12) (.c (.string ⟨⟨[]⟩⟩))⟩, ⟨some 14, none, .pick (.t 11) (.c (.bool true)) (.t 13)⟩, ⟨some 15, none, .mov (.t 14)⟩, ⟨some 16, some (15, false), .mov (.t 5)⟩, ⟨some 17, some (15, false), .len true (.t 16)⟩, ⟨some 18, some (15, false), .bin .gtr 3 (.t 17) (.c (.int .i64 59992))⟩, ⟨some 19, none, .pick (.t 15) (.c (.bool true)) (.t 18)⟩]) (.cond (.t 19) (.seq (.reg [⟨some 4, none, .mov (.c (.string ⟨⟨[]⟩⟩))⟩]) .ret) .skip)) (.seq (.reg [⟨some 20, none, .mov (.t 0)⟩, ⟨some 21, none, .call 37 [.t 20]⟩, ⟨some 22, none, .mov (.t 5)⟩, ⟨some 23, none, .call 38 [.t 22]⟩, ⟨some 24, none, .call 37 [.t 23]⟩, ⟨some 25, none, .bin .add 9 (.t 21) (.t 24)⟩, ⟨some 26, none, .mov (.t 5)⟩, ⟨some 27, none, .bin .add 9 (.t 25) (.t 26)⟩, ⟨some 4, none, .mov (.t 27)⟩]) .ret)))
theorem code_spec_MarkText : fnC Tryz.prog Tryz.f11 = some (c_spec_MarkText, [.t 4], 28) := by kernel_rfl
def c_impl_MarkText : C := .seq (.reg [⟨some 3, none, .box 31 4 (.t 1)⟩, ⟨some 4, none, .mov (.c (.string ⟨⟨[]⟩⟩))⟩]) (.seq (.reg [⟨some 6, none, .ld true 4 (.t 3)⟩, ⟨some 7, none, .call 41 [.t 6]⟩, ⟨some 5, none, .mov (.t 7)⟩]) (.seq (.seq (.reg [⟨some 8, none, .mov (.t 0)⟩, ⟨some 9, none, .call 42 [.t 8, .c (.int .i64 0), .c (.int .i64 1000000000)]⟩, ⟨some 10, none, .un .not (.t 9)⟩, ⟨some 11, none, .mov (.t 10)⟩, ⟨some 12, some (11, false), .mov (.t 5)⟩, ⟨some 13, some (11, false), .bin .eql 9 (.t 12) (.c (.string ⟨⟨[]⟩⟩))⟩, ⟨some 14, none, .pick (.t 11) (.c (.bool true)) (.t 13)⟩, ⟨some 15, none, .mov (.t 14)⟩, ⟨some 16, some (15, false), .mov (.t 5)⟩, ⟨some 17, some (15, false), .len true (.t 16)⟩, ⟨some 18, some (15, false), .bin .add 3 (.t 17) (.c (.int .i64 8))⟩, ⟨some 19, some (15, false), .bin .gtr 3 (.t 18) (.c (.int .i64 60000))⟩, ⟨some 20, none, .pick (.t 15) (.c (.bool true)) (.t 19)⟩]) (.cond (.t 20) (.seq (.reg [⟨some 4, none, .mov (.c (.string ⟨⟨[]⟩⟩))⟩]) .ret) .skip)) (.seq (.reg [⟨some 21, none, .mov (.t 0)⟩, ⟨some 22, none, .call 43 [.t 21]⟩, ⟨some 23, none, .mov (.t 5)⟩, ⟨some 24, none, .call 44 [.t 23]⟩, ⟨some 25, none, .call 43 [.t 24]⟩, ⟨some 26, none, .bin .add 9 (.t 22) (.t 25)⟩, ⟨some 27, none, .mov (.t 5)⟩, ⟨some 28, none, .bin .add 9 (.t 26) (.t 27)⟩, ⟨some 4, none, .mov (.t 28)⟩]) .ret)))
theorem code_impl_MarkText : fnC Tryz.prog Tryz.f13 = some (c_impl_MarkText, [.t 4], 29) := by kernel_rfl
theorem p_spec_MarkText (q : Int) (y : Yd) (ht : totYd y ≤ 2000000) : Pure Tryz.prog 11 [.c (.val (.int .i64 q)), .agg (encYd y)] (.c (.val (.string (markS q y)))) := by
  refine pure_fn Tryz.func11 code_spec_MarkText (by simp) ?_
  unfold c_spec_MarkText
  simp -implicitDefEqProofs only [go_sem, encYd]
  intro b3
  refine run_call (p_spec_YardText y ht) (by simp -implicitDefEqProofs only [go_sem, encYd]) fun η => ?_
  simp -implicitDefEqProofs only [go_sem, encYd]
  have hle := yardS_le y
  have hm : markS q y = if (0 ≤ q ∧ q ≤ 1000000000) ∧ (yardS y).size ≠ 0 ∧ (yardS y).size ≤ 59992 then fourS q ++ fourS (sumS (yardS y)) ++ yardS y else ⟨⟨[]⟩⟩ := rfl
  generalize yardS y = T at *
  have h5 := fourS_le q
  have h7 := fourS_le (sumS T)
  have m1 : (fourS q).size + (fourS (sumS T)).size ≤ maxLen := by unfold maxLen; omega
  have m2 : (fourS q).size + (fourS (sumS T)).size + T.size ≤ maxLen := by unfold maxLen; omega
  refine run_call (p_l16Num q) (by simp -implicitDefEqProofs only [go_sem]) fun η => ?_
  simp -implicitDefEqProofs only [go_sem]
  cases h1 : numB q
  · have hb : markS q y = ⟨⟨[]⟩⟩ := by
      rw [hm, if_neg]
      rintro ⟨h, _⟩
      simp [numB, h] at h1
    simp -implicitDefEqProofs only [go_sem, str0, h1, hb]
  have h1' : 0 ≤ q ∧ q ≤ 1000000000 := by simpa [numB] using h1
  by_cases h0 : T.size = 0
  · have hb : markS q y = ⟨⟨[]⟩⟩ := by rw [hm, if_neg (by omega)]
    simp -implicitDefEqProofs only [go_sem, str0, h1, h0, hb]
  have h6 : ¬ (59992 : Int) < T.size := by omega
  have hb : markS q y = fourS q ++ fourS (sumS T) ++ T := by rw [hm, if_pos ⟨h1', h0, by omega⟩]
  simp -implicitDefEqProofs only [go_sem, str0, h1, h0, h6]
  refine run_call (p_spec_FourOf q) (by simp -implicitDefEqProofs only [go_sem]) fun η => ?_
  simp -implicitDefEqProofs only [go_sem]
  refine run_call (p_spec_SumOf T (by omega)) (by simp -implicitDefEqProofs only [go_sem]) fun η => ?_
  simp -implicitDefEqProofs only [go_sem]
  refine run_call (p_spec_FourOf (sumS T)) (by simp -implicitDefEqProofs only [go_sem]) fun η => ?_
  simp -implicitDefEqProofs only [go_sem]
  simp -implicitDefEqProofs only [go_sem, m1, m2, hb]
theorem p_impl_MarkText (q : Int) (y : Yd) (ht : totYd y ≤ 2000000) : Pure Tryz.prog 13 [.c (.val (.int .i64 q)), .agg (encYd y)] (.c (.val (.string (markS q y)))) := by
  refine pure_fn Tryz.func13 code_impl_MarkText (by simp) ?_
  unfold c_impl_MarkText
  simp -implicitDefEqProofs only [go_sem, encYd]
  intro b3
  refine run_call (p_impl_YardText y ht) (by simp -implicitDefEqProofs only [go_sem, encYd]) fun η => ?_
  simp -implicitDefEqProofs only [go_sem, encYd]
  have hle := yardS_le y
  have hm : markS q y = if (0 ≤ q ∧ q ≤ 1000000000) ∧ (yardS y).size ≠ 0 ∧ (yardS y).size ≤ 59992 then fourS q ++ fourS (sumS (yardS y)) ++ yardS y else ⟨⟨[]⟩⟩ := rfl
  generalize yardS y = T at *
  have h5 := fourS_le q
  have h7 := fourS_le (sumS T)
  have m1 : (fourS q).size + (fourS (sumS T)).size ≤ maxLen := by unfold maxLen; omega
  have m2 : (fourS q).size + (fourS (sumS T)).size + T.size ≤ maxLen := by unfold maxLen; omega
  refine run_call (p_impl_within q 0 1000000000) (by simp -implicitDefEqProofs only [go_sem]) fun η => ?_
  simp -implicitDefEqProofs only [go_sem]
  cases h1 : decide (0 ≤ q ∧ q ≤ 1000000000)
  · have hb : markS q y = ⟨⟨[]⟩⟩ := by rw [hm, if_neg (fun h => of_decide_eq_false h1 h.1)]
    simp -implicitDefEqProofs only [go_sem, str0, h1, hb]
  have h1' := of_decide_eq_true h1
  by_cases h0 : T.size = 0
  · have hb : markS q y = ⟨⟨[]⟩⟩ := by rw [hm, if_neg (by omega)]
    simp -implicitDefEqProofs only [go_sem, str0, h1, h0, hb]
  have hw : IntKind.i64.wrap ((T.size : Int) + 8) = ((T.size + 8 : Nat) : Int) := wrap64 (by omega) (by omega)
  have h6 : ¬ (60000 : Int) < ((T.size + 8 : Nat) : Int) := by omega
  have hb : markS q y = fourS q ++ fourS (sumS T) ++ T := by rw [hm, if_pos ⟨h1', h0, by omega⟩]
  simp -implicitDefEqProofs only [go_sem, str0, h1, h0, hw, h6]
  refine run_call (p_impl_FourOf q) (by simp -implicitDefEqProofs only [go_sem]) fun η => ?_
  simp -implicitDefEqProofs only [go_sem]
  refine run_call (p_impl_SumOf T (by omega)) (by simp -implicitDefEqProofs only [go_sem]) fun η => ?_
  simp -implicitDefEqProofs only [go_sem]
  refine run_call (p_impl_FourOf (sumS T)) (by simp -implicitDefEqProofs only [go_sem]) fun η => ?_
  simp -implicitDefEqProofs only [go_sem]
  simp -implicitDefEqProofs only [go_sem, m1, m2, hb]
end Go.Proofs.YtbplebgnkhmemaaGreat
