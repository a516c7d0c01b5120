/- Texts for laws: Vict. -/
import Derived.Test.YtnhdcbhcocgjhaaGreatQE7
import Derived.Test.YtnhdcbhcocgjhaaGreatProg
set_option linter.unusedSimpArgs false
set_option linter.unusedVariables false
set_option maxRecDepth 100000
namespace Go.Proofs.YtnhdcbhcocgjhaaGreat
open Go.RowKit Go.Sort
def c_spec_Brought : C := .seq (.reg [⟨some 6, none, .mov (.c (.int .i64 0))⟩]) (.seq (.seq (.reg [⟨some 7, none, .mov (.t 2)⟩, ⟨some 8, none, .mov (.t 1)⟩, ⟨some 9, none, .bin .lss 3 (.t 7) (.t 8)⟩, ⟨some 10, none, .mov (.t 9)⟩, ⟨some 11, some (10, false), .mov (.t 0)⟩, ⟨some 12, some (10, false), .mov (.t 1)⟩, ⟨some 13, some (10, false), .bin .lss 3 (.t 11) (.t 12)⟩, ⟨some 14, none, .pick (.t 10) (.c (.bool true)) (.t 13)⟩]) (.cond (.t 14) (.seq (.reg [⟨some 15, none, .mov (.t 1)⟩, ⟨some 6, none, .mov (.t 15)⟩]) .ret) .skip)) (.seq (.seq (.reg [⟨some 16, none, .mov (.t 0)⟩, ⟨some 17, none, .mov (.t 2)⟩, ⟨some 18, none, .bin .gtr 3 (.t 16) (.t 17)⟩]) (.cond (.t 18) (.seq (.reg [⟨some 19, none, .mov (.t 2)⟩, ⟨some 6, none, .mov (.t 19)⟩]) .ret) .skip)) (.seq (.reg [⟨some 20, none, .mov (.t 0)⟩, ⟨some 6, none, .mov (.t 20)⟩]) .ret)))
theorem code_spec_Brought : fnC Tryz.prog Tryz.f142 = some (c_spec_Brought, [.t 6], 21) := by kernel_rfl
def c_impl_Brought : C := .seq (.reg [⟨some 6, none, .mov (.c (.int .i64 0))⟩]) (.seq (.seq (.reg [⟨some 7, none, .mov (.t 2)⟩, ⟨some 8, none, .mov (.t 1)⟩, ⟨some 9, none, .bin .lss 3 (.t 7) (.t 8)⟩, ⟨some 10, none, .mov (.t 9)⟩, ⟨some 11, some (10, false), .mov (.t 0)⟩, ⟨some 12, some (10, false), .mov (.t 1)⟩, ⟨some 13, some (10, false), .bin .lss 3 (.t 11) (.t 12)⟩, ⟨some 14, none, .pick (.t 10) (.c (.bool true)) (.t 13)⟩]) (.cond (.t 14) (.seq (.reg [⟨some 15, none, .mov (.t 1)⟩, ⟨some 6, none, .mov (.t 15)⟩]) .ret) .skip)) (.seq (.reg [⟨some 16, none, .mov (.t 0)⟩, ⟨some 17, none, .mov (.t 2)⟩, ⟨some 18, none, .mm false (.t 16) (.t 17)⟩, ⟨some 6, none, .mov (.t 18)⟩]) .ret))
theorem code_impl_Brought : fnC Tryz.prog Tryz.f146 = some (c_impl_Brought, [.t 6], 19) := by kernel_rfl
def c_spec_VictimsOf : C := .seq (.reg [⟨some 4, none, .mov (.c (.slice none 0 0))⟩]) (.seq (.reg [⟨some 8, none, .mov (.t 0)⟩, ⟨some 9, none, .call 142 [.t 8, .c (.int .i64 0), .c (.int .i64 3)]⟩, ⟨some 0, none, .mov (.t 9)⟩]) (.seq (.seq (.reg [⟨some 10, none, .mov (.t 1)⟩, ⟨some 11, none, .bin .lss 3 (.t 10) (.c (.int .i64 0))⟩]) (.cond (.t 11) (.reg [⟨some 1, none, .mov (.c (.int .i64 0))⟩]) .skip)) (.seq (.reg [⟨some 12, none, .bsl 3 1 0 [] []⟩, ⟨some 5, none, .mov (.t 12)⟩]) (.seq (.seq (.reg [⟨some 6, none, .mov (.c (.int .i64 1))⟩]) (.blk 0 (.loop (.seq (.seq (.reg [⟨some 13, none, .mov (.t 6)⟩, ⟨some 14, none, .bin .lss 3 (.t 13) (.c (.int .i64 4))⟩]) (.cond (.t 14) .skip (.exit 0))) (.seq (.blk 1 (.reg [⟨some 17, none, .mov (.t 5)⟩, ⟨some 18, none, .mov (.t 0)⟩, ⟨some 19, none, .mov (.t 6)⟩, ⟨some 20, none, .bin .add 3 (.t 18) (.t 19)⟩, ⟨some 21, none, .bin .rem 3 (.t 20) (.c (.int .i64 4))⟩, ⟨some 22, none, .bsl 3 1 1 [none] [(0, 1, .t 21)]⟩, ⟨some 23, none, .app 3 1 8 (.t 17) (.t 22)⟩, ⟨some 5, none, .mov (.t 23)⟩])) (.reg [⟨some 15, none, .mov (.t 6)⟩, ⟨some 16, none, .bin .add 3 (.t 15) (.c (.int .i64 1))⟩, ⟨some 6, none, .mov (.t 16)⟩])))))) (.seq (.reg [⟨some 24, none, .mov (.t 1)⟩, ⟨some 25, none, .mov (.t 5)⟩, ⟨some 26, none, .len false (.t 25)⟩, ⟨some 27, none, .bin .rem 3 (.t 24) (.t 26)⟩, ⟨some 7, none, .mov (.t 27)⟩]) (.seq (.dreg (T.pure 1 ⟨some 29, none, .mov (.t 5)⟩ (T.pure 2 ⟨some 30, none, .mov (.t 7)⟩ (T.pure 3 ⟨some 31, none, .sl 1 (.t 29) (some (.t 30)) none⟩ (T.pure 5 ⟨some 33, none, .mov (.t 5)⟩ (T.pure 6 ⟨some 34, none, .mov (.t 7)⟩ (T.pure 7 ⟨some 35, none, .sl 1 (.t 33) none (some (.t 34))⟩ (T.alt ⟨some 28, none, .bsl 3 1 0 [] []⟩ [7, 6, 5, 3, 2, 1] (T.alt ⟨some 32, none, .app 3 1 8 (.t 28) (.t 31)⟩ [7, 6, 5] (T.alt ⟨some 36, none, .app 3 1 8 (.t 32) (.t 35)⟩ [] (T.pure 9 ⟨some 4, none, .mov (.t 36)⟩ T.done) T.stop) T.stop) T.stop)))))))) .ret))))))
theorem code_spec_VictimsOf : fnC Tryz.prog Tryz.f74 = some (c_spec_VictimsOf, [.t 4], 37) := by kernel_rfl
def c_impl_VictimsOf : C := .seq (.reg [⟨some 4, none, .mov (.c (.slice none 0 0))⟩]) (.seq (.reg [⟨some 7, none, .mov (.t 0)⟩, ⟨some 8, none, .call 146 [.t 7, .c (.int .i64 0), .c (.int .i64 3)]⟩, ⟨some 0, none, .mov (.t 8)⟩]) (.seq (.reg [⟨some 5, none, .mov (.c (.slice none 0 0))⟩]) (.seq (.seq (.reg [⟨some 6, none, .mov (.c (.int .i64 0))⟩]) (.blk 0 (.loop (.seq (.seq (.reg [⟨some 9, none, .mov (.t 6)⟩, ⟨some 10, none, .bin .lss 3 (.t 9) (.c (.int .i64 3))⟩]) (.cond (.t 10) .skip (.exit 0))) (.seq (.blk 1 (.reg [⟨some 13, none, .mov (.t 5)⟩, ⟨some 14, none, .mov (.t 0)⟩, ⟨some 15, none, .bin .add 3 (.t 14) (.c (.int .i64 1))⟩, ⟨some 16, none, .mov (.t 1)⟩, ⟨some 17, none, .mm true (.t 16) (.c (.int .i64 0))⟩, ⟨some 18, none, .bin .rem 3 (.t 17) (.c (.int .i64 3))⟩, ⟨some 19, none, .mov (.t 6)⟩, ⟨some 20, none, .bin .add 3 (.t 18) (.t 19)⟩, ⟨some 21, none, .bin .rem 3 (.t 20) (.c (.int .i64 3))⟩, ⟨some 22, none, .bin .add 3 (.t 15) (.t 21)⟩, ⟨some 23, none, .bin .rem 3 (.t 22) (.c (.int .i64 4))⟩, ⟨some 24, none, .bsl 3 1 1 [none] [(0, 1, .t 23)]⟩, ⟨some 25, none, .app 3 1 8 (.t 13) (.t 24)⟩, ⟨some 5, none, .mov (.t 25)⟩])) (.reg [⟨some 11, none, .mov (.t 6)⟩, ⟨some 12, none, .bin .add 3 (.t 11) (.c (.int .i64 1))⟩, ⟨some 6, none, .mov (.t 12)⟩])))))) (.seq (.reg [⟨some 26, none, .mov (.t 5)⟩, ⟨some 4, none, .mov (.t 26)⟩]) .ret))))
theorem code_impl_VictimsOf : fnC Tryz.prog Tryz.f81 = some (c_impl_VictimsOf, [.t 4], 27) := by kernel_rfl
def brI (n a b : Int) : Int := if b < a ∨ n < a then a else if n > b then b else n
theorem p_spec_Brought (n a b : Int) : Pure Tryz.prog 142 [.c (.val (.int .i64 n)), .c (.val (.int .i64 a)), .c (.val (.int .i64 b))] (.c (.val (.int .i64 (brI n a b)))) := by
  refine pure_fn Tryz.func142 code_spec_Brought (by simp) ?_
  unfold c_spec_Brought
  by_cases h1 : b < a
  · simp -implicitDefEqProofs only [go_sem, h1]
    simp [brI, h1]
  · by_cases h2 : n < a
    · simp -implicitDefEqProofs only [go_sem, h1, h2]
      simp [brI, h1, h2]
    · by_cases h3 : b < n
      · simp -implicitDefEqProofs only [go_sem, h1, h2, h3]
        simp [brI, h1, h2, h3]
      · simp -implicitDefEqProofs only [go_sem, h1, h2, h3]
        simp [brI, h1, h2, h3]
theorem p_impl_Brought (n a b : Int) : Pure Tryz.prog 146 [.c (.val (.int .i64 n)), .c (.val (.int .i64 a)), .c (.val (.int .i64 b))] (.c (.val (.int .i64 (brI n a b)))) := by
  refine pure_fn Tryz.func146 code_impl_Brought (by simp) ?_
  unfold c_impl_Brought
  by_cases h1 : b < a
  · simp -implicitDefEqProofs only [go_sem, h1]
    simp [brI, h1]
  · by_cases h2 : n < a
    · simp -implicitDefEqProofs only [go_sem, h1, h2]
      simp [brI, h1, h2]
    · simp -implicitDefEqProofs only [go_sem, h1, h2]
      simp only [brI, h1, h2, or_self, if_false]
/-- Where they may be taken from, in order. -/
def victL (home draw : Int) : List Int :=
  let h := brI home 0 3
  let k := (if draw < 0 then 0 else draw).tmod 3
  [(h + 1 + k.tmod 3).tmod 4, (h + 1 + (k + 1).tmod 3).tmod 4, (h + 1 + (k + 2).tmod 3).tmod 4]
theorem brI_03 (n : Int) : brI n 0 3 = 0 ∨ brI n 0 3 = 1 ∨ brI n 0 3 = 2 ∨ brI n 0 3 = 3 := by
  unfold brI
  split
  · omega
  · split <;> omega
theorem tmod3 {n : Int} (h : 0 ≤ n) : n.tmod 3 = 0 ∨ n.tmod 3 = 1 ∨ n.tmod 3 = 2 := by
  rw [Int.tmod_eq_emod_of_nonneg h]; omega
theorem victL_ (home draw h d : Int) (hh : brI home 0 3 = h) (hd : (if draw < 0 then 0 else draw) = d) (hk : 0 ≤ h ∧ h ≤ 3) : (d.tmod 3 = 0 → victL home draw = [(h + 1).tmod 4, (h + 2).tmod 4, (h + 3).tmod 4]) ∧ (d.tmod 3 = 1 → victL home draw = [(h + 2).tmod 4, (h + 3).tmod 4, (h + 1).tmod 4]) ∧ (d.tmod 3 = 2 → victL home draw = [(h + 3).tmod 4, (h + 1).tmod 4, (h + 2).tmod 4]) := by
  have e1 : h + 1 + 1 = h + 2 := by omega
  have e2 : h + 1 + 2 = h + 3 := by omega
  have e0 : h + 1 + 0 = h + 1 := by omega
  refine ⟨fun h3 => ?_, fun h3 => ?_, fun h3 => ?_⟩ <;> simp [victL, hh, hd, h3, e0, e1, e2]
theorem brI_in (n : Int) : 0 ≤ brI n 0 3 ∧ brI n 0 3 ≤ 3 := by have := brI_03 n; omega
set_option maxHeartbeats 2000000 in
theorem p_spec_VictimsOf (home draw : Int) : Pure Tryz.prog 74 [.c (.val (.int .i64 home)), .c (.val (.int .i64 draw))] (.c (encInts (victL home draw))) := by
  refine pure_fn Tryz.func74 code_spec_VictimsOf (by simp) ?_
  unfold c_spec_VictimsOf
  simp -implicitDefEqProofs only [go_sem]
  refine run_call (p_spec_Brought home 0 3) (by simp -implicitDefEqProofs only [go_sem]) fun η => ?_
  obtain ⟨d, hd, hdk⟩ : ∃ d : Int, (if draw < 0 then 0 else draw) = d ∧ 0 ≤ d := ⟨_, rfl, by split <;> omega⟩
  have hk := brI_in home
  have hvl := victL_ home draw _ d rfl hd hk
  have h3 := tmod3 hdk
  generalize brI home 0 3 = h at *
  have w1 : IntKind.i64.wrap (h + 1) = h + 1 := wrapL _ (by omega) (by omega)
  have w2 : IntKind.i64.wrap (h + 2) = h + 2 := wrapL _ (by omega) (by omega)
  have w3 : IntKind.i64.wrap (h + 3) = h + 3 := wrapL _ (by omega) (by omega)
  obtain ⟨v0, v1, v2⟩ := hvl
  by_cases hneg : draw < 0
  · rw [if_pos hneg] at hd
    subst hd
    rw [v0 (by decide)]
    simp -implicitDefEqProofs only [go_sem, hneg]
    intro η1
    refine wp_unroll 3 ?_
    simp -implicitDefEqProofs only [go_sem, wrapL, w1, w2, w3, D.len, maxLen]
    intros
    rfl
  · rw [if_neg hneg] at hd
    subst hd
    rcases h3 with h3 | h3 | h3
    · rw [v0 h3]
      simp -implicitDefEqProofs only [go_sem, hneg]
      intro η1
      refine wp_unroll 3 ?_
      simp -implicitDefEqProofs only [go_sem, wrapL, w1, w2, w3, D.len, maxLen, h3]
      intros
      rfl
    · rw [v1 h3]
      simp -implicitDefEqProofs only [go_sem, hneg]
      intro η1
      refine wp_unroll 3 ?_
      simp -implicitDefEqProofs only [go_sem, wrapL, w1, w2, w3, D.len, maxLen, h3]
      intros
      rfl
    · rw [v2 h3]
      simp -implicitDefEqProofs only [go_sem, hneg]
      intro η1
      refine wp_unroll 3 ?_
      simp -implicitDefEqProofs only [go_sem, wrapL, w1, w2, w3, D.len, maxLen, h3]
      intros
      rfl
set_option maxHeartbeats 2000000 in
theorem p_impl_VictimsOf (home draw : Int) : Pure Tryz.prog 81 [.c (.val (.int .i64 home)), .c (.val (.int .i64 draw))] (.c (encInts (victL home draw))) := by
  refine pure_fn Tryz.func81 code_impl_VictimsOf (by simp) ?_
  unfold c_impl_VictimsOf
  simp -implicitDefEqProofs only [go_sem]
  refine run_call (p_impl_Brought home 0 3) (by simp -implicitDefEqProofs only [go_sem]) fun η => ?_
  obtain ⟨d, hd, hdk⟩ : ∃ d : Int, (if draw < 0 then 0 else draw) = d ∧ 0 ≤ d := ⟨_, rfl, by split <;> omega⟩
  have hk := brI_in home
  have hvl := victL_ home draw _ d rfl hd hk
  have h3 := tmod3 hdk
  generalize brI home 0 3 = h at *
  have w1 : IntKind.i64.wrap (h + 1) = h + 1 := wrapL _ (by omega) (by omega)
  have w0 : IntKind.i64.wrap (h + 1 + 0) = h + 1 := by rw [wrapL _ (by omega) (by omega)]; omega
  have w2 : IntKind.i64.wrap (h + 1 + 1) = h + 2 := by rw [wrapL _ (by omega) (by omega)]; omega
  have w3 : IntKind.i64.wrap (h + 1 + 2) = h + 3 := by rw [wrapL _ (by omega) (by omega)]; omega
  obtain ⟨v0, v1, v2⟩ := hvl
  rcases h3 with h3 | h3 | h3
  · rw [v0 h3]
    simp -implicitDefEqProofs only [go_sem]
    refine wp_unroll 3 ?_
    simp -implicitDefEqProofs only [go_sem, wrapL, w0, w1, w2, w3, D.len, maxLen, hd, h3]
    intros
    rfl
  · rw [v1 h3]
    simp -implicitDefEqProofs only [go_sem]
    refine wp_unroll 3 ?_
    simp -implicitDefEqProofs only [go_sem, wrapL, w0, w1, w2, w3, D.len, maxLen, hd, h3]
    intros
    rfl
  · rw [v2 h3]
    simp -implicitDefEqProofs only [go_sem]
    refine wp_unroll 3 ?_
    simp -implicitDefEqProofs only [go_sem, wrapL, w0, w1, w2, w3, D.len, maxLen, hd, h3]
    intros
    rfl
end Go.Proofs.YtnhdcbhcocgjhaaGreat
