/- Texts for laws: DatE. -/
import Derived.Test.YtmnpailnelmpiaaGreatQDatO
import Derived.Test.YtmnpailnelmpiaaGreatQYardB
set_option linter.unusedSimpArgs false
set_option linter.unusedVariables false
set_option maxRecDepth 100000
namespace Go.Proofs.YtmnpailnelmpiaaGreat
open Go.RowKit Go.Sort
def c_impl_EngineOk : C := .seq (.reg [⟨some 1, none, .box 43 10 (.t 0)⟩, ⟨some 2, none, .mov (.c (.bool false))⟩]) (.seq (.seq (.reg [⟨some 5, none, .fa 0 (.t 1)⟩, ⟨some 6, none, .ld true 4 (.t 5)⟩, ⟨some 7, none, .call 59 [.t 6]⟩, ⟨some 8, none, .un .not (.t 7)⟩, ⟨some 9, none, .mov (.t 8)⟩, ⟨some 10, some (9, false), .fa 4 (.t 1)⟩, ⟨some 11, some (9, false), .ld true 1 (.t 10)⟩, ⟨some 12, some (9, false), .call 77 [.t 11]⟩, ⟨some 13, some (9, false), .un .not (.t 12)⟩, ⟨some 14, none, .pick (.t 9) (.c (.bool true)) (.t 13)⟩, ⟨some 15, none, .mov (.t 14)⟩, ⟨some 16, some (15, false), .fa 5 (.t 1)⟩, ⟨some 17, some (15, false), .ld false 1 (.t 16)⟩, ⟨some 18, some (15, false), .call 78 [.t 17, .c (.int .i64 1), .c (.int .i64 999999999)]⟩, ⟨some 19, some (15, false), .un .not (.t 18)⟩, ⟨some 20, none, .pick (.t 15) (.c (.bool true)) (.t 19)⟩, ⟨some 21, none, .mov (.t 20)⟩, ⟨some 22, some (21, false), .fa 6 (.t 1)⟩, ⟨some 23, some (21, false), .ld false 1 (.t 22)⟩, ⟨some 24, some (21, false), .call 78 [.t 23, .c (.int .i64 0), .c (.int .i64 999999999)]⟩, ⟨some 25, some (21, false), .un .not (.t 24)⟩, ⟨some 26, none, .pick (.t 21) (.c (.bool true)) (.t 25)⟩, ⟨some 27, none, .mov (.t 26)⟩, ⟨some 28, some (27, false), .fa 7 (.t 1)⟩, ⟨some 29, some (27, false), .ld false 1 (.t 28)⟩, ⟨some 30, some (27, false), .len false (.t 29)⟩, ⟨some 31, some (27, false), .bin .gtr 3 (.t 30) (.c (.int .i64 60))⟩, ⟨some 32, none, .pick (.t 27) (.c (.bool true)) (.t 31)⟩, ⟨some 33, none, .mov (.t 32)⟩, ⟨some 34, some (33, false), .fa 8 (.t 1)⟩, ⟨some 35, some (33, false), .ld false 1 (.t 34)⟩, ⟨some 36, some (33, false), .call 78 [.t 35, .c (.int .i64 1), .c (.int .i64 3)]⟩, ⟨some 37, some (33, false), .un .not (.t 36)⟩, ⟨some 38, none, .pick (.t 33) (.c (.bool true)) (.t 37)⟩]) (.cond (.t 38) (.seq (.reg [⟨some 2, none, .mov (.c (.bool false))⟩]) .ret) .skip)) (.seq (.seq (.reg [⟨some 39, none, .fa 7 (.t 1)⟩, ⟨some 40, none, .ld false 1 (.t 39)⟩, ⟨some 41, none, .len false (.t 40)⟩, ⟨some 42, none, .mov (.c (.int .i64 0))⟩]) (.blk 0 (.loop (.seq (.reg [⟨some 43, none, .bin .lss 3 (.t 42) (.t 41)⟩]) (.seq (.cond (.t 43) .skip (.exit 0)) (.seq (.blk 1 (.seq (.reg [⟨some 44, none, .mov (.t 42)⟩, ⟨some 45, none, .ia 5 (.t 40) (.t 42)⟩, ⟨some 46, none, .ld true 5 (.t 45)⟩, ⟨some 4, none, .alloc 126 [.int .i64 0, .int .i64 0, .int .i64 0, .int .i64 0, .int .i64 0]⟩, ⟨some 3, none, .mov (.t 44)⟩, ⟨none, none, .st 5 [none, none, none, none, none] (.t 4) (.t 46)⟩]) (.seq (.dreg (T.pure 0 ⟨some 47, none, .fa 0 (.t 4)⟩ (T.pure 1 ⟨some 48, none, .ld false 1 (.t 47)⟩ (T.pure 2 ⟨some 49, none, .fa 6 (.t 1)⟩ (T.pure 3 ⟨some 50, none, .ld false 1 (.t 49)⟩ (T.alt ⟨some 51, none, .call 78 [.t 48, .c (.int .i64 1), .t 50]⟩ [] (T.pure 5 ⟨some 52, none, .un .not (.t 51)⟩ (T.pure 6 ⟨some 53, none, .mov (.t 52)⟩ (T.pure 7 ⟨some 54, some (53, false), .mov (.t 3)⟩ (T.pure 8 ⟨some 55, some (53, false), .bin .gtr 3 (.t 54) (.c (.int .i64 0))⟩ (T.pure 9 ⟨some 56, some (53, false), .mov (.t 55)⟩ (T.pure 10 ⟨some 57, some (56, true), .fa 7 (.t 1)⟩ (T.pure 11 ⟨some 58, some (56, true), .ld false 1 (.t 57)⟩ (T.pure 12 ⟨some 59, some (56, true), .mov (.t 3)⟩ (T.pure 13 ⟨some 60, some (56, true), .bin .sub 3 (.t 59) (.c (.int .i64 1))⟩ (T.pure 14 ⟨some 61, some (56, true), .ia 5 (.t 58) (.t 60)⟩ (T.pure 15 ⟨some 62, some (56, true), .fa 0 (.t 61)⟩ (T.pure 16 ⟨some 63, some (56, true), .ld false 1 (.t 62)⟩ (T.pure 17 ⟨some 64, some (56, true), .fa 0 (.t 4)⟩ (T.pure 18 ⟨some 65, some (56, true), .ld false 1 (.t 64)⟩ (T.pure 19 ⟨some 66, some (56, true), .bin .geq 3 (.t 63) (.t 65)⟩ (T.pure 20 ⟨some 67, some (53, false), .pick (.t 56) (.t 66) (.c (.bool false))⟩ (T.pure 21 ⟨some 68, none, .pick (.t 53) (.c (.bool true)) (.t 67)⟩ T.done))))))))))))))))) T.stop)))))) (.cond (.t 68) (.seq (.reg [⟨some 2, none, .mov (.c (.bool false))⟩]) .ret) .skip)))) (.reg [⟨some 69, none, .bin .add 3 (.t 42) (.c (.int .i64 1))⟩, ⟨some 42, none, .mov (.t 69)⟩]))))))) (.seq (.reg [⟨some 2, none, .mov (.c (.bool true))⟩]) .ret)))
theorem code_impl_EngineOk : fnC Tryz.prog Tryz.f14 = some (c_impl_EngineOk, [.t 2], 70) := by kernel_rfl
def c_spec_EngineOk : C := .seq (.reg [⟨some 1, none, .box 43 10 (.t 0)⟩, ⟨some 2, none, .mov (.c (.bool false))⟩]) (.seq (.seq (.reg [⟨some 4, none, .fa 0 (.t 1)⟩, ⟨some 5, none, .ld true 4 (.t 4)⟩, ⟨some 6, none, .call 72 [.t 5]⟩, ⟨some 7, none, .un .not (.t 6)⟩, ⟨some 8, none, .mov (.t 7)⟩, ⟨some 9, some (8, false), .fa 4 (.t 1)⟩, ⟨some 10, some (8, false), .ld true 1 (.t 9)⟩, ⟨some 11, some (8, false), .call 73 [.t 10]⟩, ⟨some 12, some (8, false), .un .not (.t 11)⟩, ⟨some 13, none, .pick (.t 8) (.c (.bool true)) (.t 12)⟩, ⟨some 14, none, .mov (.t 13)⟩, ⟨some 15, some (14, false), .fa 5 (.t 1)⟩, ⟨some 16, some (14, false), .ld false 1 (.t 15)⟩, ⟨some 17, some (14, false), .call 74 [.t 16, .c (.int .i64 1), .c (.int .i64 999999999)]⟩, ⟨some 18, some (14, false), .un .not (.t 17)⟩, ⟨some 19, none, .pick (.t 14) (.c (.bool true)) (.t 18)⟩, ⟨some 20, none, .mov (.t 19)⟩, ⟨some 21, some (20, false), .fa 6 (.t 1)⟩, ⟨some 22, some (20, false), .ld false 1 (.t 21)⟩, ⟨some 23, some (20, false), .call 74 [.t 22, .c (.int .i64 0), .c (.int .i64 999999999)]⟩, ⟨some 24, some (20, false), .un .not (.t 23)⟩, ⟨some 25, none, .pick (.t 20) (.c (.bool true)) (.t 24)⟩, ⟨some 26, none, .mov (.t 25)⟩, ⟨some 27, some (26, false), .fa 7 (.t 1)⟩, ⟨some 28, some (26, false), .ld false 1 (.t 27)⟩, ⟨some 29, some (26, false), .len false (.t 28)⟩, ⟨some 30, some (26, false), .bin .gtr 3 (.t 29) (.c (.int .i64 60))⟩, ⟨some 31, none, .pick (.t 26) (.c (.bool true)) (.t 30)⟩, ⟨some 32, none, .mov (.t 31)⟩, ⟨some 33, some (32, false), .fa 8 (.t 1)⟩, ⟨some 34, some (32, false), .ld false 1 (.t 33)⟩, ⟨some 35, some (32, false), .call 74 [.t 34, .c (.int .i64 1), .c (.int .i64 3)]⟩, ⟨some 36, some (32, false), .un .not (.t 35)⟩, ⟨some 37, none, .pick (.t 32) (.c (.bool true)) (.t 36)⟩]) (.cond (.t 37) (.seq (.reg [⟨some 2, none, .mov (.c (.bool false))⟩]) .ret) .skip)) (.seq (.seq (.reg [⟨some 3, none, .mov (.c (.int .i64 0))⟩]) (.blk 0 (.loop (.seq (.seq (.reg [⟨some 38, none, .mov (.t 3)⟩, ⟨some 39, none, .fa 7 (.t 1)⟩, ⟨some 40, none, .ld false 1 (.t 39)⟩, ⟨some 41, none, .len false (.t 40)⟩, ⟨some 42, none, .bin .lss 3 (.t 38) (.t 41)⟩]) (.cond (.t 42) .skip (.exit 0))) (.seq (.blk 1 (.seq (.dreg (T.pure 0 ⟨some 45, none, .fa 7 (.t 1)⟩ (T.pure 1 ⟨some 46, none, .ld false 1 (.t 45)⟩ (T.pure 2 ⟨some 47, none, .mov (.t 3)⟩ (T.pure 3 ⟨some 48, none, .ia 5 (.t 46) (.t 47)⟩ (T.pure 4 ⟨some 49, none, .fa 0 (.t 48)⟩ (T.pure 5 ⟨some 50, none, .ld false 1 (.t 49)⟩ (T.pure 6 ⟨some 51, none, .fa 6 (.t 1)⟩ (T.pure 7 ⟨some 52, none, .ld false 1 (.t 51)⟩ (T.alt ⟨some 53, none, .call 74 [.t 50, .c (.int .i64 1), .t 52]⟩ [] (T.pure 9 ⟨some 54, none, .un .not (.t 53)⟩ (T.pure 10 ⟨some 55, none, .mov (.t 54)⟩ (T.pure 11 ⟨some 56, some (55, false), .mov (.t 3)⟩ (T.pure 12 ⟨some 57, some (55, false), .bin .gtr 3 (.t 56) (.c (.int .i64 0))⟩ (T.pure 13 ⟨some 58, some (55, false), .mov (.t 57)⟩ (T.pure 14 ⟨some 59, some (58, true), .fa 7 (.t 1)⟩ (T.pure 15 ⟨some 60, some (58, true), .ld false 1 (.t 59)⟩ (T.pure 16 ⟨some 61, some (58, true), .mov (.t 3)⟩ (T.pure 17 ⟨some 62, some (58, true), .bin .sub 3 (.t 61) (.c (.int .i64 1))⟩ (T.pure 18 ⟨some 63, some (58, true), .ia 5 (.t 60) (.t 62)⟩ (T.pure 19 ⟨some 64, some (58, true), .fa 0 (.t 63)⟩ (T.pure 20 ⟨some 65, some (58, true), .ld false 1 (.t 64)⟩ (T.pure 21 ⟨some 66, some (58, true), .fa 7 (.t 1)⟩ (T.pure 22 ⟨some 67, some (58, true), .ld false 1 (.t 66)⟩ (T.pure 23 ⟨some 68, some (58, true), .mov (.t 3)⟩ (T.pure 24 ⟨some 69, some (58, true), .ia 5 (.t 67) (.t 68)⟩ (T.pure 25 ⟨some 70, some (58, true), .fa 0 (.t 69)⟩ (T.pure 26 ⟨some 71, some (58, true), .ld false 1 (.t 70)⟩ (T.pure 27 ⟨some 72, some (58, true), .bin .geq 3 (.t 65) (.t 71)⟩ (T.pure 28 ⟨some 73, some (55, false), .pick (.t 58) (.t 72) (.c (.bool false))⟩ (T.pure 29 ⟨some 74, none, .pick (.t 55) (.c (.bool true)) (.t 73)⟩ T.done))))))))))))))))))))) T.stop)))))))))) (.cond (.t 74) (.seq (.reg [⟨some 2, none, .mov (.c (.bool false))⟩]) .ret) .skip))) (.reg [⟨some 43, none, .mov (.t 3)⟩, ⟨some 44, none, .bin .add 3 (.t 43) (.c (.int .i64 1))⟩, ⟨some 3, none, .mov (.t 44)⟩])))))) (.seq (.reg [⟨some 2, none, .mov (.c (.bool true))⟩]) .ret)))
theorem code_spec_EngineOk : fnC Tryz.prog Tryz.f12 = some (c_spec_EngineOk, [.t 2], 75) := by kernel_rfl
def waitOk (x : Eg) (k : Nat) (w : Wt) : Bool := decide (1 ≤ w.call ∧ w.call ≤ x.calls) && (match k with | 0 => true | j + 1 => match x.waits[j]? with | some v => !decide (v.call ≥ w.call) | none => true)
noncomputable def egB (x : Eg) : Bool := yardOkB x.yard && diskB x.disk && decide (1 ≤ x.next ∧ x.next ≤ 999999999) && decide (0 ≤ x.calls ∧ x.calls ≤ 999999999) && !decide ((x.waits.length : Int) > 60) && decide (1 ≤ x.state ∧ x.state ≤ 3) && allI (waitOk x) x.waits
set_option maxHeartbeats 8000000 in
theorem p_impl_EngineOk (x : Eg) (hy : totYd x.yard ≤ 2000000) (hd : x.disk.length ≤ 2000000) : Pure Tryz.prog 14 [.agg (encEg x)] (.c (.val (.bool (egB x)))) := by
  refine pure_fn Tryz.func14 code_impl_EngineOk (by simp) ?_
  unfold c_impl_EngineOk
  simp -implicitDefEqProofs only [go_sem, encEg]
  intro b1
  refine run_call (p_impl_YardOk x.yard hy) (by simp -implicitDefEqProofs only [go_sem, encEg, encYd, Nat.add_zero, Bool.not_true, Bool.not_false]) fun η1 => ?_
  simp -implicitDefEqProofs only [go_sem, encEg, encYd, Nat.add_zero, Bool.not_true, Bool.not_false]
  cases h1 : yardOkB x.yard
  · have hE : egB x = false := by simp [egB, h1]
    simp -implicitDefEqProofs only [go_sem, encEg, encYd, Nat.add_zero, Bool.not_true, Bool.not_false, h1, hE]
  simp -implicitDefEqProofs only [go_sem, encEg, encYd, Nat.add_zero, Bool.not_true, Bool.not_false, h1]
  refine run_call (p_impl_DiskOk x.disk (by omega)) (by simp -implicitDefEqProofs only [go_sem, encEg, encYd, Nat.add_zero, Bool.not_true, Bool.not_false, h1]) fun η2 => ?_
  simp -implicitDefEqProofs only [go_sem, encEg, encYd, Nat.add_zero, Bool.not_true, Bool.not_false, h1]
  cases h2 : diskB x.disk
  · have hE : egB x = false := by simp [egB, h2]
    simp -implicitDefEqProofs only [go_sem, encEg, encYd, Nat.add_zero, Bool.not_true, Bool.not_false, h1, h2, hE]
  simp -implicitDefEqProofs only [go_sem, encEg, encYd, Nat.add_zero, Bool.not_true, Bool.not_false, h1, h2]
  refine run_call (p_impl_within x.next 1 999999999) (by simp -implicitDefEqProofs only [go_sem, encEg, encYd, Nat.add_zero, Bool.not_true, Bool.not_false, h1, h2]) fun η3 => ?_
  simp -implicitDefEqProofs only [go_sem, encEg, encYd, Nat.add_zero, Bool.not_true, Bool.not_false, h1, h2]
  cases h3 : decide (1 ≤ x.next ∧ x.next ≤ 999999999)
  · have hE : egB x = false := by simp only [egB, h3, Bool.and_false, Bool.false_and]
    simp -implicitDefEqProofs only [go_sem, encEg, encYd, Nat.add_zero, Bool.not_true, Bool.not_false, h1, h2, h3, hE]
  simp -implicitDefEqProofs only [go_sem, encEg, encYd, Nat.add_zero, Bool.not_true, Bool.not_false, h1, h2, h3]
  refine run_call (p_impl_within x.calls 0 999999999) (by simp -implicitDefEqProofs only [go_sem, encEg, encYd, Nat.add_zero, Bool.not_true, Bool.not_false, h1, h2, h3]) fun η4 => ?_
  simp -implicitDefEqProofs only [go_sem, encEg, encYd, Nat.add_zero, Bool.not_true, Bool.not_false, h1, h2, h3]
  cases h4 : decide (0 ≤ x.calls ∧ x.calls ≤ 999999999)
  · have hE : egB x = false := by simp only [egB, h4, Bool.and_false, Bool.false_and]
    simp -implicitDefEqProofs only [go_sem, encEg, encYd, Nat.add_zero, Bool.not_true, Bool.not_false, h1, h2, h3, h4, hE]
  by_cases h5 : (x.waits.length : Int) > 60
  · have hE : egB x = false := by simp [egB, h5]
    simp -implicitDefEqProofs only [go_sem, encEg, encYd, Nat.add_zero, Bool.not_true, Bool.not_false, h1, h2, h3, h4, h5, hE]
  simp -implicitDefEqProofs only [go_sem, encEg, encYd, Nat.add_zero, Bool.not_true, Bool.not_false, h1, h2, h3, h4, h5]
  refine run_call (p_impl_within x.state 1 3) (by simp -implicitDefEqProofs only [go_sem, encEg, encYd, Nat.add_zero, Bool.not_true, Bool.not_false, h1, h2, h3, h4, h5]) fun η5 => ?_
  simp -implicitDefEqProofs only [go_sem, encEg, encYd, Nat.add_zero, Bool.not_true, Bool.not_false, h1, h2, h3, h4, h5]
  cases h6 : decide (1 ≤ x.state ∧ x.state ≤ 3)
  · have hE : egB x = false := by simp only [egB, h6, Bool.and_false, Bool.false_and]
    simp -implicitDefEqProofs only [go_sem, encEg, encYd, Nat.add_zero, Bool.not_true, Bool.not_false, h6, hE]
  simp -implicitDefEqProofs only [go_sem, encEg, encYd, Nat.add_zero, Bool.not_true, Bool.not_false, h6]
  refine wp_loopW (fun i : Nat => St.of [(1, Bx 100 b1), (40, Ro (encWts x.waits)), (41, Ni x.waits.length), (42, Ni i)] [(100, Bi b1 _ (encEg x))]) (fun i => i ≤ x.waits.length ∧ ∀ k y, k < i → x.waits[k]? = some y → waitOk x k y = true) (fun i => x.waits.length - i) 0 (⟨Nat.zero_le _, fun k y h => absurd h (Nat.not_lt_zero _)⟩) (wk_of [some 100] (by simp -implicitDefEqProofs only [go_sem, encEg] <;> and_intros <;> first | rfl | assumption)) ?_
  rintro k ⟨hk, hko⟩
  by_cases hlt : k < x.waits.length
  · have hlt' : (k : Int) < x.waits.length := by omega
    have h0k : (k : Int) ≥ 0 := by omega
    obtain ⟨w, hx⟩ := get_some hlt
    have hw : IntKind.i64.wrap ((k : Int) + 1) = ((k + 1 : Nat) : Int) := wrap64 (by omega) (by omega)
    have hno : waitOk x k w = false → egB x = false := fun h => by simp [egB, allI_no hx h]
    simp -implicitDefEqProofs only [go_sem, encEg, encYd, Nat.add_zero, Bool.not_true, Bool.not_false, hlt, hlt', h0k, elem_encWts hx, encWt]
    intro b4
    refine run_call (p_impl_within w.call 1 x.calls) (by simp -implicitDefEqProofs only [go_sem, encEg, encYd, Nat.add_zero, Bool.not_true, Bool.not_false, hlt, hlt', h0k, elem_encWts hx, encWt]) fun ηw => ?_
    simp -implicitDefEqProofs only [go_sem, encEg, encYd, Nat.add_zero, Bool.not_true, Bool.not_false, hlt, hlt', h0k, elem_encWts hx, encWt]
    cases h7 : decide (1 ≤ w.call ∧ w.call ≤ x.calls)
    · have hE := hno (by simp only [waitOk, h7, Bool.false_and])
      simp -implicitDefEqProofs only [go_sem, encEg, encYd, Nat.add_zero, Bool.not_true, Bool.not_false, h7, hE]
    cases k with
    | zero =>
      have hg : ¬ ((0 : Int) > 0) := by omega
      have hf : waitOk x 0 w = true := by simp only [waitOk, h7, Bool.and_true]
      simp -implicitDefEqProofs only [go_sem, encEg, encYd, Nat.add_zero, Bool.not_true, Bool.not_false, h7, Int.natCast_zero, hg, hw]
      exact ⟨0 + 1, ⟨hlt, allI_next hko hx hf⟩, (wk_of [some 100] (by simp -implicitDefEqProofs only [go_sem, encEg] <;> and_intros <;> first | rfl | assumption)), by (try dsimp only); omega⟩
    | succ j =>
      have hg : ((j + 1 : Nat) : Int) > 0 := by omega
      have hwj : IntKind.i64.wrap (((j + 1 : Nat) : Int) - 1) = (j : Int) := by rw [wrap64 (by omega) (by omega)]; omega
      have hltj : j < x.waits.length := by omega
      have h0j : (j : Int) ≥ 0 := by omega
      have hltj' : (j : Int) < x.waits.length := by omega
      obtain ⟨v, hv⟩ := get_some hltj
      by_cases h8 : v.call ≥ w.call
      · have hE := hno (by simp [waitOk, hv, h8])
        simp -implicitDefEqProofs only [go_sem, encEg, encYd, Nat.add_zero, Bool.not_true, Bool.not_false, h7, hg, hwj, hltj, hltj', h0j, elem_encWts hv, elem_encWts hx, encWt, h8, hlt, hlt', h0k, hE]
      · have hf : waitOk x (j + 1) w = true := by simp only [waitOk, h7, hv, h8, decide_false, Bool.not_false, Bool.and_true]
        simp -implicitDefEqProofs only [go_sem, encEg, encYd, Nat.add_zero, Bool.not_true, Bool.not_false, h7, hg, hwj, hltj, hltj', h0j, elem_encWts hv, elem_encWts hx, encWt, h8, hlt, hlt', h0k, hw]
        exact ⟨j + 1 + 1, ⟨hlt, allI_next hko hx hf⟩, (wk_of [some 100] (by simp -implicitDefEqProofs only [go_sem, encEg] <;> and_intros <;> first | rfl | assumption)), by (try dsimp only); omega⟩
  · have hlt' : ¬ (k : Int) < x.waits.length := by omega
    have hE : egB x = true := by
      rw [egB, allI_yes (fun j y hj hy => hko j y (by omega) hy)]; simp only [h1, h2, h3, h4, h5, h6, decide_false, Bool.not_false, Bool.and_true]
    simp -implicitDefEqProofs only [go_sem, encEg, encYd, Nat.add_zero, Bool.not_true, Bool.not_false, hlt', hE]
set_option maxHeartbeats 8000000 in
theorem p_spec_EngineOk (x : Eg) (hy : totYd x.yard ≤ 2000000) (hd : x.disk.length ≤ 2000000) : Pure Tryz.prog 12 [.agg (encEg x)] (.c (.val (.bool (egB x)))) := by
  refine pure_fn Tryz.func12 code_spec_EngineOk (by simp) ?_
  unfold c_spec_EngineOk
  simp -implicitDefEqProofs only [go_sem, encEg]
  intro b1
  refine run_call (p_spec_YardOk x.yard hy) (by simp -implicitDefEqProofs only [go_sem, encEg, encYd, Nat.add_zero, Bool.not_true, Bool.not_false]) fun η1 => ?_
  simp -implicitDefEqProofs only [go_sem, encEg, encYd, Nat.add_zero, Bool.not_true, Bool.not_false]
  cases h1 : yardOkB x.yard
  · have hE : egB x = false := by simp [egB, h1]
    simp -implicitDefEqProofs only [go_sem, encEg, encYd, Nat.add_zero, Bool.not_true, Bool.not_false, h1, hE]
  simp -implicitDefEqProofs only [go_sem, encEg, encYd, Nat.add_zero, Bool.not_true, Bool.not_false, h1]
  refine run_call (p_spec_DiskOk x.disk (by omega)) (by simp -implicitDefEqProofs only [go_sem, encEg, encYd, Nat.add_zero, Bool.not_true, Bool.not_false, h1]) fun η2 => ?_
  simp -implicitDefEqProofs only [go_sem, encEg, encYd, Nat.add_zero, Bool.not_true, Bool.not_false, h1]
  cases h2 : diskB x.disk
  · have hE : egB x = false := by simp [egB, h2]
    simp -implicitDefEqProofs only [go_sem, encEg, encYd, Nat.add_zero, Bool.not_true, Bool.not_false, h1, h2, hE]
  simp -implicitDefEqProofs only [go_sem, encEg, encYd, Nat.add_zero, Bool.not_true, Bool.not_false, h1, h2]
  refine run_call (p_spec_l01In x.next 1 999999999) (by simp -implicitDefEqProofs only [go_sem, encEg, encYd, Nat.add_zero, Bool.not_true, Bool.not_false, h1, h2]) fun η3 => ?_
  simp -implicitDefEqProofs only [go_sem, encEg, encYd, Nat.add_zero, Bool.not_true, Bool.not_false, h1, h2]
  cases h3 : decide (1 ≤ x.next ∧ x.next ≤ 999999999)
  · have hE : egB x = false := by simp only [egB, h3, Bool.and_false, Bool.false_and]
    simp -implicitDefEqProofs only [go_sem, encEg, encYd, Nat.add_zero, Bool.not_true, Bool.not_false, h1, h2, h3, hE]
  simp -implicitDefEqProofs only [go_sem, encEg, encYd, Nat.add_zero, Bool.not_true, Bool.not_false, h1, h2, h3]
  refine run_call (p_spec_l01In x.calls 0 999999999) (by simp -implicitDefEqProofs only [go_sem, encEg, encYd, Nat.add_zero, Bool.not_true, Bool.not_false, h1, h2, h3]) fun η4 => ?_
  simp -implicitDefEqProofs only [go_sem, encEg, encYd, Nat.add_zero, Bool.not_true, Bool.not_false, h1, h2, h3]
  cases h4 : decide (0 ≤ x.calls ∧ x.calls ≤ 999999999)
  · have hE : egB x = false := by simp only [egB, h4, Bool.and_false, Bool.false_and]
    simp -implicitDefEqProofs only [go_sem, encEg, encYd, Nat.add_zero, Bool.not_true, Bool.not_false, h1, h2, h3, h4, hE]
  by_cases h5 : (x.waits.length : Int) > 60
  · have hE : egB x = false := by simp [egB, h5]
    simp -implicitDefEqProofs only [go_sem, encEg, encYd, Nat.add_zero, Bool.not_true, Bool.not_false, h1, h2, h3, h4, h5, hE]
  simp -implicitDefEqProofs only [go_sem, encEg, encYd, Nat.add_zero, Bool.not_true, Bool.not_false, h1, h2, h3, h4, h5]
  refine run_call (p_spec_l01In x.state 1 3) (by simp -implicitDefEqProofs only [go_sem, encEg, encYd, Nat.add_zero, Bool.not_true, Bool.not_false, h1, h2, h3, h4, h5]) fun η5 => ?_
  simp -implicitDefEqProofs only [go_sem, encEg, encYd, Nat.add_zero, Bool.not_true, Bool.not_false, h1, h2, h3, h4, h5]
  cases h6 : decide (1 ≤ x.state ∧ x.state ≤ 3)
  · have hE : egB x = false := by simp only [egB, h6, Bool.and_false, Bool.false_and]
    simp -implicitDefEqProofs only [go_sem, encEg, encYd, Nat.add_zero, Bool.not_true, Bool.not_false, h6, hE]
  simp -implicitDefEqProofs only [go_sem, encEg, encYd, Nat.add_zero, Bool.not_true, Bool.not_false, h6]
  refine wp_loopW (fun i : Nat => St.of [(1, Bx 100 b1), (3, Ni i)] [(100, Bi b1 _ (encEg x))]) (fun i => i ≤ x.waits.length ∧ ∀ k y, k < i → x.waits[k]? = some y → waitOk x k y = true) (fun i => x.waits.length - i) 0 (⟨Nat.zero_le _, fun k y h => absurd h (Nat.not_lt_zero _)⟩) (wk_of [some 100] (by simp -implicitDefEqProofs only [go_sem, encEg] <;> and_intros <;> first | rfl | assumption)) ?_
  rintro k ⟨hk, hko⟩
  by_cases hlt : k < x.waits.length
  · have hlt' : (k : Int) < x.waits.length := by omega
    have h0k : (k : Int) ≥ 0 := by omega
    obtain ⟨w, hx⟩ := get_some hlt
    have hw : IntKind.i64.wrap ((k : Int) + 1) = ((k + 1 : Nat) : Int) := wrap64 (by omega) (by omega)
    have hno : waitOk x k w = false → egB x = false := fun h => by simp [egB, allI_no hx h]
    simp -implicitDefEqProofs only [go_sem, encEg, encYd, Nat.add_zero, Bool.not_true, Bool.not_false, hlt, hlt', h0k, elem_encWts hx, encWt]
    refine run_call (p_spec_l01In w.call 1 x.calls) (by simp -implicitDefEqProofs only [go_sem, encEg, encYd, Nat.add_zero, Bool.not_true, Bool.not_false, hlt, hlt', h0k, elem_encWts hx, encWt]) fun ηw => ?_
    simp -implicitDefEqProofs only [go_sem, encEg, encYd, Nat.add_zero, Bool.not_true, Bool.not_false, hlt, hlt', h0k, elem_encWts hx, encWt]
    cases h7 : decide (1 ≤ w.call ∧ w.call ≤ x.calls)
    · have hE := hno (by simp only [waitOk, h7, Bool.false_and])
      simp -implicitDefEqProofs only [go_sem, encEg, encYd, Nat.add_zero, Bool.not_true, Bool.not_false, h7, hE]
    cases k with
    | zero =>
      have hg : ¬ ((0 : Int) > 0) := by omega
      have hf : waitOk x 0 w = true := by simp only [waitOk, h7, Bool.and_true]
      simp -implicitDefEqProofs only [go_sem, encEg, encYd, Nat.add_zero, Bool.not_true, Bool.not_false, h7, Int.natCast_zero, hg, hw]
      exact ⟨0 + 1, ⟨hlt, allI_next hko hx hf⟩, (wk_of [some 100] (by simp -implicitDefEqProofs only [go_sem, encEg] <;> and_intros <;> first | rfl | assumption)), by (try dsimp only); omega⟩
    | succ j =>
      have hg : ((j + 1 : Nat) : Int) > 0 := by omega
      have hwj : IntKind.i64.wrap (((j + 1 : Nat) : Int) - 1) = (j : Int) := by rw [wrap64 (by omega) (by omega)]; omega
      have hltj : j < x.waits.length := by omega
      have h0j : (j : Int) ≥ 0 := by omega
      have hltj' : (j : Int) < x.waits.length := by omega
      obtain ⟨v, hv⟩ := get_some hltj
      by_cases h8 : v.call ≥ w.call
      · have hE := hno (by simp [waitOk, hv, h8])
        simp -implicitDefEqProofs only [go_sem, encEg, encYd, Nat.add_zero, Bool.not_true, Bool.not_false, h7, hg, hwj, hltj, hltj', h0j, elem_encWts hv, elem_encWts hx, encWt, h8, hlt, hlt', h0k, hE]
      · have hf : waitOk x (j + 1) w = true := by simp only [waitOk, h7, hv, h8, decide_false, Bool.not_false, Bool.and_true]
        simp -implicitDefEqProofs only [go_sem, encEg, encYd, Nat.add_zero, Bool.not_true, Bool.not_false, h7, hg, hwj, hltj, hltj', h0j, elem_encWts hv, elem_encWts hx, encWt, h8, hlt, hlt', h0k, hw]
        exact ⟨j + 1 + 1, ⟨hlt, allI_next hko hx hf⟩, (wk_of [some 100] (by simp -implicitDefEqProofs only [go_sem, encEg] <;> and_intros <;> first | rfl | assumption)), by (try dsimp only); omega⟩
  · have hlt' : ¬ (k : Int) < x.waits.length := by omega
    have hE : egB x = true := by
      rw [egB, allI_yes (fun j y hj hy => hko j y (by omega) hy)]; simp only [h1, h2, h3, h4, h5, h6, decide_false, Bool.not_false, Bool.and_true]
    simp -implicitDefEqProofs only [go_sem, encEg, encYd, Nat.add_zero, Bool.not_true, Bool.not_false, hlt', hE]
end Go.Proofs.YtmnpailnelmpiaaGreat
