/- Texts for the law FnExactRestart. -/
import Derived.Test.YtnhdcbhcocgjhaaGreatQRestartE
import Derived.Test.YtnhdcbhcocgjhaaGreatProg
import Derived.Shelf.Spec.SlicesInsertGrow
import Derived.Lib.Overlaps
set_option linter.unusedSimpArgs false
set_option linter.unusedVariables false
set_option maxRecDepth 100000
namespace Go.Proofs.YtnhdcbhcocgjhaaGreat
open Go.RowKit Go.Sort
def c_spec_Ahead : C := .seq (.reg [⟨some 2, none, .box 108 4 (.t 0)⟩, ⟨some 3, none, .box 108 4 (.t 1)⟩, ⟨some 4, none, .mov (.c (.bool false))⟩]) (.seq (.reg [⟨some 5, none, .fa 0 (.t 2)⟩, ⟨some 6, none, .ld false 1 (.t 5)⟩, ⟨some 7, none, .fa 0 (.t 3)⟩, ⟨some 8, none, .ld false 1 (.t 7)⟩, ⟨some 9, none, .bin .gtr 3 (.t 6) (.t 8)⟩, ⟨some 10, none, .mov (.t 9)⟩, ⟨some 11, some (10, false), .fa 0 (.t 2)⟩, ⟨some 12, some (10, false), .ld false 1 (.t 11)⟩, ⟨some 13, some (10, false), .fa 0 (.t 3)⟩, ⟨some 14, some (10, false), .ld false 1 (.t 13)⟩, ⟨some 15, some (10, false), .bin .eql 3 (.t 12) (.t 14)⟩, ⟨some 16, some (10, false), .mov (.t 15)⟩, ⟨some 17, some (16, true), .fa 1 (.t 2)⟩, ⟨some 18, some (16, true), .ld false 1 (.t 17)⟩, ⟨some 19, some (16, true), .fa 1 (.t 3)⟩, ⟨some 20, some (16, true), .ld false 1 (.t 19)⟩, ⟨some 21, some (16, true), .bin .lss 3 (.t 18) (.t 20)⟩, ⟨some 22, some (10, false), .pick (.t 16) (.t 21) (.c (.bool false))⟩, ⟨some 23, none, .pick (.t 10) (.c (.bool true)) (.t 22)⟩, ⟨some 4, none, .mov (.t 23)⟩]) .ret)
theorem code_spec_Ahead : fnC Tryz.prog Tryz.f181 = some (c_spec_Ahead, [.t 4], 24) := by kernel_rfl
def c_impl_Ahead : C := .seq (.reg [⟨some 2, none, .box 108 4 (.t 0)⟩, ⟨some 3, none, .box 108 4 (.t 1)⟩, ⟨some 4, none, .mov (.c (.bool false))⟩]) (.seq (.reg [⟨some 5, none, .fa 0 (.t 2)⟩, ⟨some 6, none, .ld false 1 (.t 5)⟩, ⟨some 7, none, .fa 0 (.t 3)⟩, ⟨some 8, none, .ld false 1 (.t 7)⟩, ⟨some 9, none, .bin .gtr 3 (.t 6) (.t 8)⟩, ⟨some 10, none, .mov (.t 9)⟩, ⟨some 11, some (10, false), .fa 0 (.t 2)⟩, ⟨some 12, some (10, false), .ld false 1 (.t 11)⟩, ⟨some 13, some (10, false), .fa 0 (.t 3)⟩, ⟨some 14, some (10, false), .ld false 1 (.t 13)⟩, ⟨some 15, some (10, false), .bin .eql 3 (.t 12) (.t 14)⟩, ⟨some 16, some (10, false), .mov (.t 15)⟩, ⟨some 17, some (16, true), .fa 1 (.t 2)⟩, ⟨some 18, some (16, true), .ld false 1 (.t 17)⟩, ⟨some 19, some (16, true), .fa 1 (.t 3)⟩, ⟨some 20, some (16, true), .ld false 1 (.t 19)⟩, ⟨some 21, some (16, true), .bin .lss 3 (.t 18) (.t 20)⟩, ⟨some 22, some (10, false), .pick (.t 16) (.t 21) (.c (.bool false))⟩, ⟨some 23, none, .pick (.t 10) (.c (.bool true)) (.t 22)⟩, ⟨some 4, none, .mov (.t 23)⟩]) .ret)
theorem code_impl_Ahead : fnC Tryz.prog Tryz.f179 = some (c_impl_Ahead, [.t 4], 24) := by kernel_rfl
def c_spec_ShelfOk : C := .seq (.reg [⟨some 2, none, .mov (.c (.bool false))⟩]) (.seq (.seq (.reg [⟨some 4, none, .mov (.t 0)⟩, ⟨some 5, none, .len false (.t 4)⟩, ⟨some 6, none, .bin .gtr 3 (.t 5) (.c (.int .i64 80))⟩]) (.cond (.t 6) (.seq (.reg [⟨some 2, none, .mov (.c (.bool false))⟩]) .ret) .skip)) (.seq (.seq (.reg [⟨some 3, none, .mov (.c (.int .i64 1))⟩]) (.blk 0 (.loop (.seq (.seq (.reg [⟨some 7, none, .mov (.t 3)⟩, ⟨some 8, none, .mov (.t 0)⟩, ⟨some 9, none, .len false (.t 8)⟩, ⟨some 10, none, .bin .lss 3 (.t 7) (.t 9)⟩]) (.cond (.t 10) .skip (.exit 0))) (.seq (.blk 1 (.seq (.dreg (T.pure 0 ⟨some 13, none, .mov (.t 0)⟩ (T.pure 1 ⟨some 14, none, .mov (.t 3)⟩ (T.pure 2 ⟨some 15, none, .bin .sub 3 (.t 14) (.c (.int .i64 1))⟩ (T.pure 3 ⟨some 16, none, .ia 4 (.t 13) (.t 15)⟩ (T.pure 4 ⟨some 17, none, .ld true 4 (.t 16)⟩ (T.pure 5 ⟨some 18, none, .mov (.t 0)⟩ (T.pure 6 ⟨some 19, none, .mov (.t 3)⟩ (T.pure 7 ⟨some 20, none, .ia 4 (.t 18) (.t 19)⟩ (T.pure 8 ⟨some 21, none, .ld true 4 (.t 20)⟩ (T.alt ⟨some 22, none, .call 181 [.t 17, .t 21]⟩ [] (T.pure 10 ⟨some 23, none, .un .not (.t 22)⟩ T.done) T.stop))))))))))) (.cond (.t 23) (.seq (.reg [⟨some 2, none, .mov (.c (.bool false))⟩]) .ret) .skip))) (.reg [⟨some 11, none, .mov (.t 3)⟩, ⟨some 12, none, .bin .add 3 (.t 11) (.c (.int .i64 1))⟩, ⟨some 3, none, .mov (.t 12)⟩])))))) (.seq (.reg [⟨some 2, none, .mov (.c (.bool true))⟩]) .ret)))
theorem code_spec_ShelfOk : fnC Tryz.prog Tryz.f176 = some (c_spec_ShelfOk, [.t 2], 24) := by kernel_rfl
def c_impl_ShelfOk : C := .seq (.reg [⟨some 2, none, .mov (.c (.bool false))⟩]) (.seq (.seq (.reg [⟨some 3, none, .mov (.c (.int .i64 1))⟩]) (.blk 0 (.loop (.seq (.seq (.reg [⟨some 4, none, .mov (.t 3)⟩, ⟨some 5, none, .mov (.t 0)⟩, ⟨some 6, none, .len false (.t 5)⟩, ⟨some 7, none, .bin .lss 3 (.t 4) (.t 6)⟩]) (.cond (.t 7) .skip (.exit 0))) (.seq (.blk 1 (.seq (.dreg (T.pure 0 ⟨some 10, none, .mov (.t 0)⟩ (T.pure 1 ⟨some 11, none, .mov (.t 3)⟩ (T.pure 2 ⟨some 12, none, .bin .sub 3 (.t 11) (.c (.int .i64 1))⟩ (T.pure 3 ⟨some 13, none, .ia 4 (.t 10) (.t 12)⟩ (T.pure 4 ⟨some 14, none, .ld true 4 (.t 13)⟩ (T.pure 5 ⟨some 15, none, .mov (.t 0)⟩ (T.pure 6 ⟨some 16, none, .mov (.t 3)⟩ (T.pure 7 ⟨some 17, none, .ia 4 (.t 15) (.t 16)⟩ (T.pure 8 ⟨some 18, none, .ld true 4 (.t 17)⟩ (T.alt ⟨some 19, none, .call 179 [.t 14, .t 18]⟩ [] (T.pure 10 ⟨some 20, none, .un .not (.t 19)⟩ T.done) T.stop))))))))))) (.cond (.t 20) (.seq (.reg [⟨some 2, none, .mov (.c (.bool false))⟩]) .ret) .skip))) (.reg [⟨some 8, none, .mov (.t 3)⟩, ⟨some 9, none, .bin .add 3 (.t 8) (.c (.int .i64 1))⟩, ⟨some 3, none, .mov (.t 9)⟩])))))) (.seq (.reg [⟨some 21, none, .mov (.t 0)⟩, ⟨some 22, none, .len false (.t 21)⟩, ⟨some 23, none, .bin .leq 3 (.t 22) (.c (.int .i64 80))⟩, ⟨some 2, none, .mov (.t 23)⟩]) .ret))
theorem code_impl_ShelfOk : fnC Tryz.prog Tryz.f136 = some (c_impl_ShelfOk, [.t 2], 24) := by kernel_rfl
def c_slices_Index_int_int_ : C := .seq (.reg [⟨some 4, none, .mov (.c (.int .i64 0))⟩]) (.seq (.seq (.reg [⟨some 6, none, .mov (.t 0)⟩, ⟨some 7, none, .len false (.t 6)⟩, ⟨some 8, none, .mov (.c (.int .i64 0))⟩]) (.blk 0 (.loop (.seq (.reg [⟨some 9, none, .bin .lss 3 (.t 8) (.t 7)⟩]) (.seq (.cond (.t 9) .skip (.exit 0)) (.seq (.blk 1 (.seq (.reg [⟨some 10, none, .mov (.t 8)⟩, ⟨some 5, none, .mov (.t 10)⟩]) (.seq (.reg [⟨some 11, none, .mov (.t 1)⟩, ⟨some 12, none, .mov (.t 0)⟩, ⟨some 13, none, .mov (.t 5)⟩, ⟨some 14, none, .ia 1 (.t 12) (.t 13)⟩, ⟨some 15, none, .ld false 1 (.t 14)⟩, ⟨some 16, none, .bin .eql 3 (.t 11) (.t 15)⟩]) (.cond (.t 16) (.seq (.reg [⟨some 17, none, .mov (.t 5)⟩, ⟨some 4, none, .mov (.t 17)⟩]) .ret) .skip)))) (.reg [⟨some 18, none, .bin .add 3 (.t 8) (.c (.int .i64 1))⟩, ⟨some 8, none, .mov (.t 18)⟩]))))))) (.seq (.reg [⟨some 4, none, .mov (.c (.int .i64 (-1)))⟩]) .ret))
theorem code_slices_Index_int_int_ : fnC Tryz.prog Tryz.f169 = some (c_slices_Index_int_int_, [.t 4], 19) := by kernel_rfl
def c_slices_Contains_int_int_ : C := .seq (.reg [⟨some 4, none, .mov (.c (.bool false))⟩]) (.seq (.reg [⟨some 5, none, .mov (.t 0)⟩, ⟨some 6, none, .mov (.t 1)⟩, ⟨some 7, none, .call 169 [.t 5, .t 6]⟩, ⟨some 8, none, .bin .geq 3 (.t 7) (.c (.int .i64 0))⟩, ⟨some 4, none, .mov (.t 8)⟩]) .ret)
theorem code_slices_Contains_int_int_ : fnC Tryz.prog Tryz.f116 = some (c_slices_Contains_int_int_, [.t 4], 9) := by kernel_rfl
theorem p_spec_Ahead (x y : En) : Pure Tryz.prog 181 [.agg (encEn x), .agg (encEn y)] (.c (.val (.bool (aheadB x y)))) := by
  refine pure_fn Tryz.func181 code_spec_Ahead (by simp) ?_
  unfold c_spec_Ahead
  simp -implicitDefEqProofs only [go_sem, encEn]
  intro b b2
  by_cases h1 : x.prio > y.prio
  · have hb : aheadB x y = true := by simp [aheadB, h1]
    simp -implicitDefEqProofs only [go_sem, encEn, h1, hb]
  · cases h2 : x.prio == y.prio
    · have hb : aheadB x y = false := by
        have : ¬ x.prio = y.prio := by simpa using h2
        simp only [aheadB, decide_eq_false_iff_not]; omega
      simp -implicitDefEqProofs only [go_sem, encEn, h1, h2, hb]
    · have hb : aheadB x y = decide (x.seq < y.seq) := by
        have : x.prio = y.prio := by simpa using h2
        simp only [aheadB, this, Int.lt_irrefl, gt_iff_lt, false_or, true_and]
      simp -implicitDefEqProofs only [go_sem, encEn, h1, h2, hb]
theorem p_impl_Ahead (x y : En) : Pure Tryz.prog 179 [.agg (encEn x), .agg (encEn y)] (.c (.val (.bool (aheadB x y)))) := by
  refine pure_fn Tryz.func179 code_impl_Ahead (by simp) ?_
  unfold c_impl_Ahead
  simp -implicitDefEqProofs only [go_sem, encEn]
  intro b b2
  by_cases h1 : x.prio > y.prio
  · have hb : aheadB x y = true := by simp [aheadB, h1]
    simp -implicitDefEqProofs only [go_sem, encEn, h1, hb]
  · cases h2 : x.prio == y.prio
    · have hb : aheadB x y = false := by
        have : ¬ x.prio = y.prio := by simpa using h2
        simp only [aheadB, decide_eq_false_iff_not]; omega
      simp -implicitDefEqProofs only [go_sem, encEn, h1, h2, hb]
    · have hb : aheadB x y = decide (x.seq < y.seq) := by
        have : x.prio = y.prio := by simpa using h2
        simp only [aheadB, this, Int.lt_irrefl, gt_iff_lt, false_or, true_and]
      simp -implicitDefEqProofs only [go_sem, encEn, h1, h2, hb]
set_option maxHeartbeats 4000000 in
theorem p_spec_ShelfOk (l : List En) (hl : l.length ≤ 4000000) : Pure Tryz.prog 176 [.c (encEns l)] (.c (.val (.bool (shelfB l)))) := by
  refine pure_fn Tryz.func176 code_spec_ShelfOk (by simp) ?_
  unfold c_spec_ShelfOk
  simp -implicitDefEqProofs only [go_sem]
  by_cases h80 : 80 < l.length
  · have h80' : (l.length : Int) > 80 := by omega
    have hb : shelfB l = false := shelf_no fun h => by have := h.most; omega
    simp -implicitDefEqProofs only [go_sem, h80', hb]
  have h80' : ¬ (l.length : Int) > 80 := by omega
  simp -implicitDefEqProofs only [go_sem, h80']
  refine wp_loopW (fun i : Nat => St.of [(0, Ro (encEns l)), (3, Ni i)] []) (fun i => 1 ≤ i ∧ (i ≤ l.length ∨ i = 1) ∧ ∀ (k : Nat) (a b : En), k + 1 < i → l[k]? = some a → l[k + 1]? = some b → aheadB a b = true) (fun i => l.length - i) 1 (⟨by omega, .inr rfl, fun k a b h => by omega⟩) (wk_of [] (by simp -implicitDefEqProofs only [go_sem] <;> and_intros <;> first | rfl | assumption)) ?_
  rintro i ⟨hi1, hi2, hio⟩
  by_cases hlt : i < l.length
  · have hlt' : (i : Int) < l.length := by omega
    obtain ⟨j, rfl⟩ : ∃ j, i = j + 1 := ⟨i - 1, by omega⟩
    obtain ⟨x, hx⟩ := get_some (show j < l.length by omega)
    obtain ⟨y, hy⟩ := get_some hlt
    have hjl : j < l.length := by omega
    have hw : IntKind.i64.wrap (((j + 1 : Nat) : Int) + 1) = ((j + 1 + 1 : Nat) : Int) := wrap64 (by omega) (by omega)
    have hw1 : IntKind.i64.wrap (((j + 1 : Nat) : Int) - 1) = (j : Int) := by rw [wrap64 (by omega) (by omega)]; omega
    simp -implicitDefEqProofs only [go_sem, hlt', hlt, hjl, hw1, elem_encEns hx, elem_encEns hy, encEn]
    refine run_call (p_spec_Ahead x y) (by simp -implicitDefEqProofs only [go_sem, encEn]) fun η => ?_
    simp -implicitDefEqProofs only [go_sem, encEn]
    cases ha : aheadB x y
    · have hb : shelfB l = false := shelf_no fun h => by have := h.ahead j x y hx hy; rw [ha] at this; cases this
      simp -implicitDefEqProofs only [go_sem, ha, hb]
    · simp -implicitDefEqProofs only [go_sem, ha, hw]
      exact ⟨j + 1 + 1, ⟨by omega, .inl (by omega), fun k a b hk ha' hb' => by rcases Nat.lt_or_ge (k + 1) (j + 1) with h' | h'; exact hio k a b h' ha' hb'; obtain rfl : k = j := (by omega); rw [hx] at ha'; rw [hy] at hb'; cases ha'; cases hb'; exact ha⟩, (wk_of [] (by simp -implicitDefEqProofs only [go_sem] <;> and_intros <;> first | rfl | assumption)), by (try dsimp only); omega⟩
  have hlt' : ¬ (i : Int) < l.length := by omega
  have hb : shelfB l = true := shelf_yes ⟨by omega, fun k a b ha hb => hio k a b (by have := (List.getElem?_eq_some_iff.1 hb).1; omega) ha hb⟩
  simp -implicitDefEqProofs only [go_sem, hlt', hb]
set_option maxHeartbeats 4000000 in
theorem p_impl_ShelfOk (l : List En) (hl : l.length ≤ 4000000) : Pure Tryz.prog 136 [.c (encEns l)] (.c (.val (.bool (shelfB l)))) := by
  refine pure_fn Tryz.func136 code_impl_ShelfOk (by simp) ?_
  unfold c_impl_ShelfOk
  simp -implicitDefEqProofs only [go_sem]
  refine wp_loopW (fun i : Nat => St.of [(0, Ro (encEns l)), (3, Ni i)] []) (fun i => 1 ≤ i ∧ (i ≤ l.length ∨ i = 1) ∧ ∀ (k : Nat) (a b : En), k + 1 < i → l[k]? = some a → l[k + 1]? = some b → aheadB a b = true) (fun i => l.length - i) 1 (⟨by omega, .inr rfl, fun k a b h => by omega⟩) (wk_of [] (by simp -implicitDefEqProofs only [go_sem] <;> and_intros <;> first | rfl | assumption)) ?_
  rintro i ⟨hi1, hi2, hio⟩
  by_cases hlt : i < l.length
  · have hlt' : (i : Int) < l.length := by omega
    obtain ⟨j, rfl⟩ : ∃ j, i = j + 1 := ⟨i - 1, by omega⟩
    obtain ⟨x, hx⟩ := get_some (show j < l.length by omega)
    obtain ⟨y, hy⟩ := get_some hlt
    have hjl : j < l.length := by omega
    have hw : IntKind.i64.wrap (((j + 1 : Nat) : Int) + 1) = ((j + 1 + 1 : Nat) : Int) := wrap64 (by omega) (by omega)
    have hw1 : IntKind.i64.wrap (((j + 1 : Nat) : Int) - 1) = (j : Int) := by rw [wrap64 (by omega) (by omega)]; omega
    simp -implicitDefEqProofs only [go_sem, hlt', hlt, hjl, hw1, elem_encEns hx, elem_encEns hy, encEn]
    refine run_call (p_impl_Ahead x y) (by simp -implicitDefEqProofs only [go_sem, encEn]) fun η => ?_
    simp -implicitDefEqProofs only [go_sem, encEn]
    cases ha : aheadB x y
    · have hb : shelfB l = false := shelf_no fun h => by have := h.ahead j x y hx hy; rw [ha] at this; cases this
      simp -implicitDefEqProofs only [go_sem, ha, hb]
    · simp -implicitDefEqProofs only [go_sem, ha, hw]
      exact ⟨j + 1 + 1, ⟨by omega, .inl (by omega), fun k a b hk ha' hb' => by rcases Nat.lt_or_ge (k + 1) (j + 1) with h' | h'; exact hio k a b h' ha' hb'; obtain rfl : k = j := (by omega); rw [hx] at ha'; rw [hy] at hb'; cases ha'; cases hb'; exact ha⟩, (wk_of [] (by simp -implicitDefEqProofs only [go_sem] <;> and_intros <;> first | rfl | assumption)), by (try dsimp only); omega⟩
  have hlt' : ¬ (i : Int) < l.length := by omega
  by_cases h80 : l.length ≤ 80
  · have h80' : (l.length : Int) ≤ 80 := by omega
    have hb : shelfB l = true := shelf_yes ⟨h80, fun k a b ha hb => hio k a b (by have := (List.getElem?_eq_some_iff.1 hb).1; omega) ha hb⟩
    simp -implicitDefEqProofs only [go_sem, hlt', h80', hb]
  · have h80' : ¬ (l.length : Int) ≤ 80 := by omega
    have hb : shelfB l = false := shelf_no fun h => h80 h.most
    simp -implicitDefEqProofs only [go_sem, hlt', h80', hb]
set_option maxHeartbeats 4000000 in
theorem p_IndexI (l : List Int) (e : Int) (hl : l.length ≤ 4000000) : Pure Tryz.prog 169 [.c (encInts l), .c (.val (.int .i64 e))] (.c (.val (.int .i64 (findI (fun x => e == x) l)))) := by
  refine pure_fn Tryz.func169 code_slices_Index_int_int_ (by simp) ?_
  unfold c_slices_Index_int_int_
  simp -implicitDefEqProofs only [go_sem]
  refine wp_loopW (fun i : Nat => St.of [(0, Ro (encInts l)), (1, Ni e), (7, Ni l.length), (8, Ni i)] []) (fun i => i ≤ l.length ∧ ∀ y ∈ l.take i, (fun x => e == x) y = false) (fun i => l.length - i) 0 (by (try dsimp only); first | omega | (simp; done) | (and_intros <;> first | omega | simp)) (wk_of [] (by simp -implicitDefEqProofs only [go_sem] <;> and_intros <;> first | rfl | assumption)) ?_
  rintro k ⟨hk, hko⟩
  by_cases hlt : k < l.length
  · have hlt' : (k : Int) < l.length := by omega
    obtain ⟨x, hx⟩ := get_some hlt
    have hw : IntKind.i64.wrap ((k : Int) + 1) = ((k + 1 : Nat) : Int) := wrap64 (by omega) (by omega)
    cases heq : e == x
    · simp -implicitDefEqProofs only [go_sem, hlt, hlt', elem_encInts hx, heq, hw]
      exact ⟨k + 1, ⟨hlt, take_no hx heq hko⟩, (wk_of [] (by simp -implicitDefEqProofs only [go_sem] <;> and_intros <;> first | rfl | assumption)), by (try dsimp only); omega⟩
    · simp -implicitDefEqProofs only [go_sem, hlt, hlt', elem_encInts hx, heq, findI_hit hx heq hko]
  · have hlt' : ¬ (k : Int) < l.length := by omega
    rw [List.take_of_length_le (by omega)] at hko
    simp -implicitDefEqProofs only [go_sem, hlt', findI_none hko]
set_option maxHeartbeats 4000000 in
theorem p_ContainsI (l : List Int) (e : Int) (hl : l.length ≤ 4000000) : Pure Tryz.prog 116 [.c (encInts l), .c (.val (.int .i64 e))] (.c (.val (.bool (decide (e ∈ l))))) := by
  refine pure_fn Tryz.func116 code_slices_Contains_int_int_ (by simp) ?_
  unfold c_slices_Contains_int_int_
  simp -implicitDefEqProofs only [go_sem]
  refine run_call (p_IndexI l e hl) (by simp -implicitDefEqProofs only [go_sem]) fun η => ?_
  simp -implicitDefEqProofs only [go_sem]
  rcases findI_cases (fun x => e == x) l with ⟨h1, h2⟩ | ⟨k, x, h1, h2, h3, -⟩
  · have hm : decide (e ∈ l) = false := decide_eq_false fun h => by have := h2 e h; simp at this
    rw [h1, hm]
    simp -implicitDefEqProofs only [go_sem]
  · have hm : decide (e ∈ l) = true := decide_eq_true (by have h4 : e = x := by simpa using h3
                                                          exact h4 ▸ List.mem_of_getElem? h2)
    have hk : (k : Int) ≥ 0 := by omega
    rw [h1, hm]
    simp -implicitDefEqProofs only [go_sem, hk]
end Go.Proofs.YtnhdcbhcocgjhaaGreat
set_option linter.unusedSimpArgs false
set_option linter.unusedVariables false
set_option maxRecDepth 100000
namespace Go.Proofs.YtnhdcbhcocgjhaaGreat
open Go.RowKit Go.Sort
def c_spec_l10Run : C := .seq (.reg [⟨some 3, none, .box 30 4 (.t 0)⟩, ⟨some 4, none, .box 80 8 (.t 1)⟩, ⟨some 6, none, .mov (.c (.bool false))⟩]) (.seq (.seq (.reg [⟨some 7, none, .mov (.c (.int .i64 0))⟩]) (.blk 0 (.loop (.seq (.seq (.reg [⟨some 10, none, .mov (.t 7)⟩, ⟨some 11, none, .fa 7 (.t 4)⟩, ⟨some 12, none, .ld false 1 (.t 11)⟩, ⟨some 13, none, .len false (.t 12)⟩, ⟨some 14, none, .bin .lss 3 (.t 10) (.t 13)⟩]) (.cond (.t 14) .skip (.exit 0))) (.seq (.blk 1 (.seq (.reg [⟨some 8, none, .mov (.c (.int .i64 0))⟩]) (.seq (.seq (.reg [⟨some 9, none, .mov (.c (.int .i64 0))⟩]) (.blk 2 (.loop (.seq (.seq (.reg [⟨some 17, none, .mov (.t 9)⟩, ⟨some 18, none, .mov (.t 2)⟩, ⟨some 19, none, .len false (.t 18)⟩, ⟨some 20, none, .bin .lss 3 (.t 17) (.t 19)⟩]) (.cond (.t 20) .skip (.exit 2))) (.seq (.blk 3 (.seq (.dreg (T.pure 0 ⟨some 23, none, .mov (.t 2)⟩ (T.pure 1 ⟨some 24, none, .mov (.t 9)⟩ (T.pure 2 ⟨some 25, none, .ia 4 (.t 23) (.t 24)⟩ (T.pure 3 ⟨some 26, none, .fa 2 (.t 25)⟩ (T.pure 4 ⟨some 27, none, .ld false 1 (.t 26)⟩ (T.pure 5 ⟨some 28, none, .fa 0 (.t 4)⟩ (T.pure 6 ⟨some 29, none, .ld false 1 (.t 28)⟩ (T.pure 7 ⟨some 30, none, .bin .eql 3 (.t 27) (.t 29)⟩ (T.pure 8 ⟨some 31, none, .mov (.t 30)⟩ (T.pure 9 ⟨some 32, some (31, true), .mov (.t 2)⟩ (T.pure 10 ⟨some 33, some (31, true), .mov (.t 9)⟩ (T.pure 11 ⟨some 34, some (31, true), .ia 4 (.t 32) (.t 33)⟩ (T.pure 12 ⟨some 35, some (31, true), .fa 3 (.t 34)⟩ (T.pure 13 ⟨some 36, some (31, true), .ld false 1 (.t 35)⟩ (T.pure 14 ⟨some 37, some (31, true), .mov (.t 7)⟩ (T.pure 15 ⟨some 38, some (31, true), .bin .eql 3 (.t 36) (.t 37)⟩ (T.pure 16 ⟨some 39, none, .pick (.t 31) (.t 38) (.c (.bool false))⟩ T.done)))))))))))))))))) (.cond (.t 39) (.seq (.reg [⟨some 40, none, .mov (.t 8)⟩, ⟨some 41, none, .bin .add 3 (.t 40) (.c (.int .i64 1))⟩, ⟨some 8, none, .mov (.t 41)⟩]) (.seq (.dreg (T.pure 0 ⟨some 42, none, .fa 7 (.t 4)⟩ (T.pure 1 ⟨some 43, none, .ld false 1 (.t 42)⟩ (T.pure 2 ⟨some 44, none, .mov (.t 7)⟩ (T.pure 3 ⟨some 45, none, .ia 4 (.t 43) (.t 44)⟩ (T.pure 4 ⟨some 46, none, .fa 0 (.t 45)⟩ (T.pure 5 ⟨some 47, none, .ld false 1 (.t 46)⟩ (T.pure 6 ⟨some 48, none, .bin .eql 3 (.t 47) (.c (.int .i64 2))⟩ (T.pure 7 ⟨some 49, none, .mov (.t 48)⟩ (T.pure 8 ⟨some 50, some (49, true), .mov (.t 2)⟩ (T.pure 9 ⟨some 51, some (49, true), .mov (.t 9)⟩ (T.pure 10 ⟨some 52, some (49, true), .ia 4 (.t 50) (.t 51)⟩ (T.pure 11 ⟨some 53, some (49, true), .fa 0 (.t 52)⟩ (T.pure 12 ⟨some 54, some (49, true), .ld false 1 (.t 53)⟩ (T.pure 13 ⟨some 55, some (49, true), .fa 1 (.t 4)⟩ (T.pure 14 ⟨some 56, some (49, true), .fa 0 (.t 55)⟩ (T.pure 15 ⟨some 57, some (49, true), .ld false 1 (.t 56)⟩ (T.pure 16 ⟨some 58, some (49, true), .bin .neq 3 (.t 54) (.t 57)⟩ (T.pure 17 ⟨some 59, none, .pick (.t 49) (.t 58) (.c (.bool false))⟩ T.done))))))))))))))))))) (.cond (.t 59) (.seq (.reg [⟨some 6, none, .mov (.c (.bool false))⟩]) .ret) .skip))) .skip))) (.reg [⟨some 21, none, .mov (.t 9)⟩, ⟨some 22, none, .bin .add 3 (.t 21) (.c (.int .i64 1))⟩, ⟨some 9, none, .mov (.t 22)⟩])))))) (.seq (.dreg (T.pure 0 ⟨some 60, none, .fa 7 (.t 4)⟩ (T.pure 1 ⟨some 61, none, .ld false 1 (.t 60)⟩ (T.pure 2 ⟨some 62, none, .mov (.t 7)⟩ (T.pure 3 ⟨some 63, none, .ia 4 (.t 61) (.t 62)⟩ (T.pure 4 ⟨some 64, none, .fa 0 (.t 63)⟩ (T.pure 5 ⟨some 65, none, .ld false 1 (.t 64)⟩ (T.pure 6 ⟨some 66, none, .bin .eql 3 (.t 65) (.c (.int .i64 2))⟩ (T.pure 7 ⟨some 67, none, .mov (.t 66)⟩ (T.pure 8 ⟨some 68, some (67, true), .mov (.t 8)⟩ (T.pure 9 ⟨some 69, some (67, true), .bin .neq 3 (.t 68) (.c (.int .i64 1))⟩ (T.pure 10 ⟨some 70, none, .pick (.t 67) (.t 69) (.c (.bool false))⟩ (T.pure 11 ⟨some 71, none, .mov (.t 70)⟩ (T.pure 12 ⟨some 72, some (71, false), .fa 7 (.t 4)⟩ (T.pure 13 ⟨some 73, some (71, false), .ld false 1 (.t 72)⟩ (T.pure 14 ⟨some 74, some (71, false), .mov (.t 7)⟩ (T.pure 15 ⟨some 75, some (71, false), .ia 4 (.t 73) (.t 74)⟩ (T.pure 16 ⟨some 76, some (71, false), .fa 0 (.t 75)⟩ (T.pure 17 ⟨some 77, some (71, false), .ld false 1 (.t 76)⟩ (T.pure 18 ⟨some 78, some (71, false), .bin .eql 3 (.t 77) (.c (.int .i64 3))⟩ (T.pure 19 ⟨some 79, some (71, false), .mov (.t 78)⟩ (T.pure 20 ⟨some 80, some (79, true), .fa 7 (.t 4)⟩ (T.pure 21 ⟨some 81, some (79, true), .ld false 1 (.t 80)⟩ (T.pure 22 ⟨some 82, some (79, true), .mov (.t 7)⟩ (T.pure 23 ⟨some 83, some (79, true), .ia 4 (.t 81) (.t 82)⟩ (T.pure 24 ⟨some 84, some (79, true), .fa 3 (.t 83)⟩ (T.pure 25 ⟨some 85, some (79, true), .ld false 1 (.t 84)⟩ (T.pure 26 ⟨some 86, some (79, true), .fa 0 (.t 3)⟩ (T.pure 27 ⟨some 87, some (79, true), .ld false 1 (.t 86)⟩ (T.pure 28 ⟨some 88, some (79, true), .bin .add 3 (.t 87) (.c (.int .i64 1))⟩ (T.pure 29 ⟨some 89, some (79, true), .fa 0 (.t 3)⟩ (T.pure 30 ⟨some 90, some (79, true), .ld false 1 (.t 89)⟩ (T.pure 31 ⟨some 91, some (79, true), .fa 1 (.t 4)⟩ (T.pure 32 ⟨some 92, some (79, true), .fa 2 (.t 91)⟩ (T.pure 33 ⟨some 93, some (79, true), .ld false 1 (.t 92)⟩ (T.pure 34 ⟨some 94, some (79, true), .bin .add 3 (.t 90) (.t 93)⟩ (T.alt ⟨some 95, some (79, true), .call 72 [.t 85, .t 88, .t 94]⟩ [] (T.pure 36 ⟨some 96, some (79, true), .un .not (.t 95)⟩ (T.pure 37 ⟨some 97, some (71, false), .pick (.t 79) (.t 96) (.c (.bool false))⟩ (T.pure 38 ⟨some 98, none, .pick (.t 71) (.c (.bool true)) (.t 97)⟩ T.done))) T.stop))))))))))))))))))))))))))))))))))))) (.cond (.t 98) (.seq (.reg [⟨some 6, none, .mov (.c (.bool false))⟩]) .ret) .skip))))) (.reg [⟨some 15, none, .mov (.t 7)⟩, ⟨some 16, none, .bin .add 3 (.t 15) (.c (.int .i64 1))⟩, ⟨some 7, none, .mov (.t 16)⟩])))))) (.seq (.reg [⟨some 6, none, .mov (.c (.bool true))⟩]) .ret))
theorem code_spec_l10Run : fnC Tryz.prog Tryz.f134 = some (c_spec_l10Run, [.t 6], 99) := by kernel_rfl
def c_impl_runsOk : C := .seq (.reg [⟨some 3, none, .box 30 4 (.t 0)⟩, ⟨some 4, none, .box 80 8 (.t 1)⟩, ⟨some 6, none, .mov (.c (.bool false))⟩]) (.seq (.seq (.reg [⟨some 12, none, .fa 7 (.t 4)⟩, ⟨some 13, none, .ld false 1 (.t 12)⟩, ⟨some 14, none, .len false (.t 13)⟩, ⟨some 15, none, .mov (.c (.int .i64 0))⟩]) (.blk 0 (.loop (.seq (.reg [⟨some 16, none, .bin .lss 3 (.t 15) (.t 14)⟩]) (.seq (.cond (.t 16) .skip (.exit 0)) (.seq (.blk 1 (.seq (.reg [⟨some 17, none, .mov (.t 15)⟩, ⟨some 18, none, .ia 4 (.t 13) (.t 15)⟩, ⟨some 19, none, .ld true 4 (.t 18)⟩, ⟨some 8, none, .alloc 98 [.int .i64 0, .int .i64 0, .int .i64 0, .int .i64 0]⟩, ⟨some 7, none, .mov (.t 17)⟩, ⟨none, none, .st 4 [none, none, none, none] (.t 8) (.t 19)⟩]) (.seq (.reg [⟨some 9, none, .mov (.c (.int .i64 0))⟩]) (.seq (.seq (.reg [⟨some 20, none, .mov (.t 2)⟩, ⟨some 21, none, .len false (.t 20)⟩, ⟨some 22, none, .mov (.c (.int .i64 0))⟩]) (.blk 2 (.loop (.seq (.reg [⟨some 23, none, .bin .lss 3 (.t 22) (.t 21)⟩]) (.seq (.cond (.t 23) .skip (.exit 2)) (.seq (.blk 3 (.seq (.reg [⟨some 24, none, .ia 4 (.t 20) (.t 22)⟩, ⟨some 25, none, .ld true 4 (.t 24)⟩, ⟨some 11, none, .alloc 108 [.int .i64 0, .int .i64 0, .int .i64 0, .int .i64 0]⟩, ⟨none, none, .st 4 [none, none, none, none] (.t 11) (.t 25)⟩]) (.seq (.reg [⟨some 26, none, .fa 2 (.t 11)⟩, ⟨some 27, none, .ld false 1 (.t 26)⟩, ⟨some 28, none, .fa 0 (.t 4)⟩, ⟨some 29, none, .ld false 1 (.t 28)⟩, ⟨some 30, none, .bin .eql 3 (.t 27) (.t 29)⟩, ⟨some 31, none, .mov (.t 30)⟩, ⟨some 32, some (31, true), .fa 3 (.t 11)⟩, ⟨some 33, some (31, true), .ld false 1 (.t 32)⟩, ⟨some 34, some (31, true), .mov (.t 7)⟩, ⟨some 35, some (31, true), .bin .eql 3 (.t 33) (.t 34)⟩, ⟨some 36, none, .pick (.t 31) (.t 35) (.c (.bool false))⟩]) (.cond (.t 36) (.seq (.seq (.reg [⟨some 37, none, .fa 0 (.t 8)⟩, ⟨some 38, none, .ld false 1 (.t 37)⟩, ⟨some 39, none, .bin .eql 3 (.t 38) (.c (.int .i64 2))⟩, ⟨some 40, none, .mov (.t 39)⟩, ⟨some 41, some (40, true), .fa 0 (.t 11)⟩, ⟨some 42, some (40, true), .ld false 1 (.t 41)⟩, ⟨some 43, some (40, true), .fa 1 (.t 4)⟩, ⟨some 44, some (40, true), .fa 0 (.t 43)⟩, ⟨some 45, some (40, true), .ld false 1 (.t 44)⟩, ⟨some 46, some (40, true), .bin .neq 3 (.t 42) (.t 45)⟩, ⟨some 47, none, .pick (.t 40) (.t 46) (.c (.bool false))⟩]) (.cond (.t 47) (.seq (.reg [⟨some 6, none, .mov (.c (.bool false))⟩]) .ret) .skip)) (.reg [⟨some 48, none, .mov (.t 9)⟩, ⟨some 49, none, .bin .add 3 (.t 48) (.c (.int .i64 1))⟩, ⟨some 9, none, .mov (.t 49)⟩])) .skip)))) (.reg [⟨some 50, none, .bin .add 3 (.t 22) (.c (.int .i64 1))⟩, ⟨some 22, none, .mov (.t 50)⟩]))))))) (.seq (.reg [⟨some 51, none, .fa 0 (.t 8)⟩, ⟨some 52, none, .ld false 1 (.t 51)⟩, ⟨some 53, none, .bin .eql 3 (.t 52) (.c (.int .i64 2))⟩, ⟨some 54, none, .mov (.t 53)⟩, ⟨some 55, some (54, true), .mov (.t 9)⟩, ⟨some 56, some (54, true), .bin .neq 3 (.t 55) (.c (.int .i64 1))⟩, ⟨some 57, none, .pick (.t 54) (.t 56) (.c (.bool false))⟩, ⟨some 58, none, .mov (.t 57)⟩, ⟨some 59, some (58, false), .fa 0 (.t 8)⟩, ⟨some 60, some (58, false), .ld false 1 (.t 59)⟩, ⟨some 61, some (58, false), .bin .eql 3 (.t 60) (.c (.int .i64 3))⟩, ⟨some 62, some (58, false), .mov (.t 61)⟩, ⟨some 63, some (62, true), .fa 3 (.t 8)⟩, ⟨some 64, some (62, true), .ld false 1 (.t 63)⟩, ⟨some 65, some (62, true), .fa 0 (.t 3)⟩, ⟨some 66, some (62, true), .ld false 1 (.t 65)⟩, ⟨some 67, some (62, true), .bin .add 3 (.t 66) (.c (.int .i64 1))⟩, ⟨some 68, some (62, true), .fa 0 (.t 3)⟩, ⟨some 69, some (62, true), .ld false 1 (.t 68)⟩, ⟨some 70, some (62, true), .fa 1 (.t 4)⟩, ⟨some 71, some (62, true), .fa 2 (.t 70)⟩, ⟨some 72, some (62, true), .ld false 1 (.t 71)⟩, ⟨some 73, some (62, true), .bin .add 3 (.t 69) (.t 72)⟩, ⟨some 74, some (62, true), .call 79 [.t 64, .t 67, .t 73]⟩, ⟨some 75, some (62, true), .un .not (.t 74)⟩, ⟨some 76, some (58, false), .pick (.t 62) (.t 75) (.c (.bool false))⟩, ⟨some 77, none, .pick (.t 58) (.c (.bool true)) (.t 76)⟩]) (.cond (.t 77) (.seq (.reg [⟨some 6, none, .mov (.c (.bool false))⟩]) .ret) .skip)))))) (.reg [⟨some 78, none, .bin .add 3 (.t 15) (.c (.int .i64 1))⟩, ⟨some 15, none, .mov (.t 78)⟩]))))))) (.seq (.reg [⟨some 6, none, .mov (.c (.bool true))⟩]) .ret))
theorem code_impl_runsOk : fnC Tryz.prog Tryz.f139 = some (c_impl_runsOk, [.t 6], 79) := by kernel_rfl
set_option maxHeartbeats 16000000 in
theorem p_spec_l10Run (y : Yd) (r : Rn) (l : List En) (hl : l.length ≤ 4000000) (ht : r.tasks.length ≤ 4000000) (hy : 0 ≤ y.now ∧ y.now ≤ 999999980) (hwt : 1 ≤ r.plan.wait ∧ r.plan.wait ≤ 20) : Pure Tryz.prog 134 [.agg (encYd y), .agg (encRn r), .c (encEns l)] (.c (.val (.bool (runInB y r l)))) := by
  refine pure_fn Tryz.func134 code_spec_l10Run (by simp) ?_
  unfold c_spec_l10Run
  have hwn : IntKind.i64.wrap (y.now + 1) = y.now + 1 := wrap64 (by omega) (by omega)
  have hww : IntKind.i64.wrap (y.now + r.plan.wait) = y.now + r.plan.wait := wrap64 (by omega) (by omega)
  simp -implicitDefEqProofs only [go_sem, encYd, encRn, encPl, encTk, encEn]
  intro b3 b4
  refine wp_loopW (fun i : Nat => St.of [(2, Ro (encEns l)), (3, Bx 300 b3), (4, Bx 400 b4), (7, Ni i)] [(300, Bi b3 _ (encYd y)), (400, Bi b4 _ (encRn r))]) (fun i => i ≤ r.tasks.length ∧ ∀ (t : Nat) (x : Tk), t < i → r.tasks[t]? = some x → taskIn y r l t x) (fun i => r.tasks.length - i) 0 (by (try dsimp only); first | omega | (simp; done) | (and_intros <;> first | omega | simp)) (wk_of [some 300, some 400] (by simp -implicitDefEqProofs only [go_sem, encYd, encRn, encPl, encTk, encEn] <;> and_intros <;> first | rfl | assumption)) ?_
  rintro k ⟨hk, hko⟩
  by_cases hlt : k < r.tasks.length
  · have hlt' : (k : Int) < r.tasks.length := by omega
    have h0k : (k : Int) ≥ 0 := by omega
    obtain ⟨x, hx⟩ := get_some hlt
    have hw : IntKind.i64.wrap ((k : Int) + 1) = ((k + 1 : Nat) : Int) := wrap64 (by omega) (by omega)
    simp -implicitDefEqProofs only [go_sem, encYd, encRn, encPl, encTk, encEn, hlt']
    refine wp_loopW (fun i : Nat => St.of [(2, Ro (encEns l)), (3, Bx 300 b3), (4, Bx 400 b4), (7, Ni k), (8, Ni (cntE r.id k (l.take i))), (9, Ni i)] [(300, Bi b3 _ (encYd y)), (400, Bi b4 _ (encRn r))]) (fun i => i ≤ l.length ∧ (x.state = 2 → ∀ e ∈ l.take i, e.run = r.id → e.task = k → e.prio = r.plan.prio)) (fun i => l.length - i) 0 (by (try dsimp only); first | omega | (simp; done) | (and_intros <;> first | omega | simp)) (wk_of [some 300, some 400] (by simp -implicitDefEqProofs only [go_sem, encYd, encRn, encPl, encTk, encEn, List.take_zero, cntE, List.filter_nil, List.length_nil] <;> and_intros <;> first | rfl | assumption)) ?_
    rintro j ⟨hj, hjo⟩
    by_cases hjl : j < l.length
    · as_aux_lemma =>
        have hjl' : (j : Int) < l.length := by omega
        obtain ⟨e, he⟩ := get_some hjl
        have hwj : IntKind.i64.wrap ((j : Int) + 1) = ((j + 1 : Nat) : Int) := wrap64 (by omega) (by omega)
        have hcl := cntE_le (l.take j) r.id k
        rw [List.length_take] at hcl
        have hwc : IntKind.i64.wrap ((cntE r.id k (l.take j) : Int) + 1) = ((cntE r.id k (l.take j) + 1 : Nat) : Int) := wrap64 (by omega) (by omega)
        have hnx : ¬ (e.run = r.id ∧ e.task = k) → (x.state = 2 → ∀ e ∈ l.take (j + 1), e.run = r.id → e.task = k → e.prio = r.plan.prio) := fun hno h2 e2 he2 h3 h4 => by
          rw [List.take_add_one, he] at he2
          rcases List.mem_append.1 he2 with he2 | he2
          · exact hjo h2 e2 he2 h3 h4
          · simp at he2; subst he2; exact absurd ⟨h3, h4⟩ hno
        simp -implicitDefEqProofs only [go_sem, encYd, encRn, encPl, encTk, encEn, hjl, hjl', elem_encEns he]
        cases hr : e.run == r.id
        · have hs := cntE_no (id := r.id) (t := k) he (fun h => by have := h.1; simp [this] at hr)
          simp -implicitDefEqProofs only [go_sem, encYd, encRn, encPl, encTk, encEn, hjl, hjl', elem_encEns he, hr, hwj]
          exact ⟨j + 1, ⟨hjl, hnx (fun h => by have := h.1; simp [this] at hr)⟩, (wk_of [some 300, some 400] (by simp -implicitDefEqProofs only [go_sem, encYd, encRn, encPl, encTk, encEn, hs] <;> and_intros <;> first | rfl | assumption)), by (try dsimp only); omega⟩
        have hr' : e.run = r.id := by simpa using hr
        cases htk : e.task == (k : Int)
        · have hs := cntE_no (id := r.id) (t := k) he (fun h => by have := h.2; simp [this] at htk)
          simp -implicitDefEqProofs only [go_sem, encYd, encRn, encPl, encTk, encEn, hjl, hjl', elem_encEns he, hr, htk, hwj]
          exact ⟨j + 1, ⟨hjl, hnx (fun h => by have := h.2; simp [this] at htk)⟩, (wk_of [some 300, some 400] (by simp -implicitDefEqProofs only [go_sem, encYd, encRn, encPl, encTk, encEn, hs] <;> and_intros <;> first | rfl | assumption)), by (try dsimp only); omega⟩
        have htk' : e.task = k := by simpa using htk
        have hs := cntE_yes he hr' htk'
        simp -implicitDefEqProofs only [go_sem, encYd, encRn, encPl, encTk, encEn, hjl, hjl', elem_encEns he, hr, htk, hwc, hlt, hlt', h0k, elem_encTks hx]
        cases h2 : x.state == 2
        · simp -implicitDefEqProofs only [go_sem, encYd, encRn, encPl, encTk, encEn, hjl, hjl', elem_encEns he, h2, hwj, hwc]
          exact ⟨j + 1, ⟨hjl, fun h => by simp [h] at h2⟩, (wk_of [some 300, some 400] (by simp -implicitDefEqProofs only [go_sem, encYd, encRn, encPl, encTk, encEn, hs] <;> and_intros <;> first | rfl | assumption)), by (try dsimp only); omega⟩
        have h2' : x.state = 2 := by simpa using h2
        cases hp : e.prio != r.plan.prio
        · have hp' : e.prio = r.plan.prio := by simpa using hp
          simp -implicitDefEqProofs only [go_sem, encYd, encRn, encPl, encTk, encEn, hjl, hjl', elem_encEns he, h2, hp, hwj, hwc]
          exact ⟨j + 1, ⟨hjl, fun _ e2 he2 h3 h4 => by rw [List.take_add_one, he] at he2; rcases List.mem_append.1 he2 with he2 | he2; exact hjo h2' e2 he2 h3 h4; simp at he2; subst he2; exact hp'⟩, (wk_of [some 300, some 400] (by simp -implicitDefEqProofs only [go_sem, encYd, encRn, encPl, encTk, encEn, hs] <;> and_intros <;> first | rfl | assumption)), by (try dsimp only); omega⟩
        · have hb : runInB y r l = false := runIn_no fun h => by
            have := ((h k x hx).1 h2').1 e (List.mem_of_getElem? he) hr' htk'
            simp [this] at hp
          simp -implicitDefEqProofs only [go_sem, encYd, encRn, encPl, encTk, encEn, hjl, hjl', elem_encEns he, h2, hp, hb]
    as_aux_lemma =>
      have hjl' : ¬ (j : Int) < l.length := by omega
      rw [List.take_of_length_le (by omega)] at hjo
      rw [List.take_of_length_le (by omega)]
      have hnx2 : taskIn y r l k x → ∀ (t : Nat) (z : Tk), t < k + 1 → r.tasks[t]? = some z → taskIn y r l t z := fun h t z ht hz => by
        rcases Nat.lt_or_ge t k with h' | h'
        · exact hko t z h' hz
        · obtain rfl : t = k := by omega
          rw [hx] at hz; cases hz; exact h
      cases h2 : x.state == 2
      rotate_left
      · have h2' : x.state = 2 := by simpa using h2
        have h3 : (x.state == 3) = false := by simp [h2']
        cases hc : ((cntE r.id k l : Nat) : Int) != 1
        · as_aux_lemma =>
            have hc' : cntE r.id k l = 1 := by have : ((cntE r.id k l : Nat) : Int) = 1 := by simpa only [bne_eq_false_iff_eq] using hc
                                               omega
            simp -implicitDefEqProofs only [go_sem, encYd, encRn, encPl, encTk, encEn, hjl', hlt, hlt', h0k, elem_encTks hx, h2, hc, h3, hw]
            exact ⟨k + 1, ⟨hlt, hnx2 ⟨fun _ => ⟨hjo h2', hc'⟩, fun h => by omega⟩⟩, (wk_of [some 300, some 400] (by simp -implicitDefEqProofs only [go_sem, encYd, encRn, encPl, encTk, encEn] <;> and_intros <;> first | rfl | assumption)), by (try dsimp only); omega⟩
        · as_aux_lemma =>
            have hb : runInB y r l = false := runIn_no fun h => by
              have := ((h k x hx).1 h2').2
              rw [this] at hc
              cases hc
            simp -implicitDefEqProofs only [go_sem, encYd, encRn, encPl, encTk, encEn, hjl', hlt, hlt', h0k, elem_encTks hx, h2, hc, hb]
      · have h2' : ¬ x.state = 2 := by simpa using h2
        cases h3 : x.state == 3
        · as_aux_lemma =>
            have h3' : ¬ x.state = 3 := by simpa using h3
            simp -implicitDefEqProofs only [go_sem, encYd, encRn, encPl, encTk, encEn, hjl', hlt, hlt', h0k, elem_encTks hx, h2, h3, hw]
            exact ⟨k + 1, ⟨hlt, hnx2 ⟨fun h => absurd h h2', fun h => absurd h h3'⟩⟩, (wk_of [some 300, some 400] (by simp -implicitDefEqProofs only [go_sem, encYd, encRn, encPl, encTk, encEn] <;> and_intros <;> first | rfl | assumption)), by (try dsimp only); omega⟩
        · have h3' : x.state = 3 := by simpa using h3
          as_aux_lemma =>
            simp -implicitDefEqProofs only [go_sem, encYd, encRn, encPl, encTk, encEn, hjl', hlt, hlt', h0k, elem_encTks hx, h2, h3, hwn, hww]
            refine run_call (p_spec_l01In x.til (y.now + 1) (y.now + r.plan.wait)) (by simp -implicitDefEqProofs only [go_sem, encYd, encRn, encPl, encTk, encEn, hwn, hww]) fun η => ?_
            simp -implicitDefEqProofs only [go_sem, encYd, encRn, encPl, encTk, encEn, hwn, hww]
            cases ht : decide (y.now + 1 ≤ x.til ∧ x.til ≤ y.now + r.plan.wait)
            · have hb : runInB y r l = false := runIn_no fun h => by
                have := (h k x hx).2 h3'
                simp [this] at ht
              simp -implicitDefEqProofs only [go_sem, encYd, encRn, encPl, encTk, encEn, ht, hb]
            · have ht' : y.now + 1 ≤ x.til ∧ x.til ≤ y.now + r.plan.wait := of_decide_eq_true ht
              simp -implicitDefEqProofs only [go_sem, encYd, encRn, encPl, encTk, encEn, ht, hw]
              exact ⟨k + 1, ⟨hlt, hnx2 ⟨fun h => absurd h h2', fun _ => ht'⟩⟩, (wk_of [some 300, some 400] (by simp -implicitDefEqProofs only [go_sem, encYd, encRn, encPl, encTk, encEn] <;> and_intros <;> first | rfl | assumption)), by (try dsimp only); omega⟩
  have hlt' : ¬ (k : Int) < r.tasks.length := by omega
  have hb : runInB y r l = true := runIn_yes fun t x hx => hko t x (by have := (List.getElem?_eq_some_iff.1 hx).1; omega) hx
  simp -implicitDefEqProofs only [go_sem, encYd, encRn, encPl, encTk, encEn, hlt', hb]
set_option maxHeartbeats 16000000 in
theorem p_impl_runsOk (y : Yd) (r : Rn) (l : List En) (hl : l.length ≤ 4000000) (ht : r.tasks.length ≤ 4000000) (hy : 0 ≤ y.now ∧ y.now ≤ 999999980) (hwt : 1 ≤ r.plan.wait ∧ r.plan.wait ≤ 20) : Pure Tryz.prog 139 [.agg (encYd y), .agg (encRn r), .c (encEns l)] (.c (.val (.bool (runInB y r l)))) := by
  refine pure_fn Tryz.func139 code_impl_runsOk (by simp) ?_
  unfold c_impl_runsOk
  have hwn : IntKind.i64.wrap (y.now + 1) = y.now + 1 := wrap64 (by omega) (by omega)
  have hww : IntKind.i64.wrap (y.now + r.plan.wait) = y.now + r.plan.wait := wrap64 (by omega) (by omega)
  simp -implicitDefEqProofs only [go_sem, encYd, encRn, encPl, encTk, encEn]
  intro b3 b4
  refine wp_loopW (fun i : Nat => St.of [(2, Ro (encEns l)), (3, Bx 300 b3), (4, Bx 400 b4), (13, Ro (encTks r.tasks)), (14, Ni r.tasks.length), (15, Ni i)] [(300, Bi b3 _ (encYd y)), (400, Bi b4 _ (encRn r))]) (fun i => i ≤ r.tasks.length ∧ ∀ (t : Nat) (x : Tk), t < i → r.tasks[t]? = some x → taskIn y r l t x) (fun i => r.tasks.length - i) 0 (by (try dsimp only); first | omega | (simp; done) | (and_intros <;> first | omega | simp)) (wk_of [some 300, some 400] (by simp -implicitDefEqProofs only [go_sem, encYd, encRn, encPl, encTk, encEn] <;> and_intros <;> first | rfl | assumption)) ?_
  rintro k ⟨hk, hko⟩
  by_cases hlt : k < r.tasks.length
  · have hlt' : (k : Int) < r.tasks.length := by omega
    have h0k : (k : Int) ≥ 0 := by omega
    obtain ⟨x, hx⟩ := get_some hlt
    have hw : IntKind.i64.wrap ((k : Int) + 1) = ((k + 1 : Nat) : Int) := wrap64 (by omega) (by omega)
    simp -implicitDefEqProofs only [go_sem, encYd, encRn, encPl, encTk, encEn, hlt, hlt', elem_encTks hx]
    intro b8
    refine wp_loopW (fun i : Nat => St.of [(2, Ro (encEns l)), (3, Bx 300 b3), (4, Bx 400 b4), (7, Ni k), (8, Bx 800 b8), (9, Ni (cntE r.id k (l.take i))), (13, Ro (encTks r.tasks)), (14, Ni r.tasks.length), (15, Ni k), (20, Ro (encEns l)), (21, Ni l.length), (22, Ni i)] [(300, Bi b3 _ (encYd y)), (400, Bi b4 _ (encRn r)), (800, Bi b8 _ (encTk x))]) (fun i => i ≤ l.length ∧ (x.state = 2 → ∀ e ∈ l.take i, e.run = r.id → e.task = k → e.prio = r.plan.prio)) (fun i => l.length - i) 0 (by (try dsimp only); first | omega | (simp; done) | (and_intros <;> first | omega | simp)) (wk_of [some 300, some 400, some 800] (by simp -implicitDefEqProofs only [go_sem, encYd, encRn, encPl, encTk, encEn, List.take_zero, cntE, List.filter_nil, List.length_nil] <;> and_intros <;> first | rfl | assumption)) ?_
    rintro j ⟨hj, hjo⟩
    by_cases hjl : j < l.length
    · as_aux_lemma =>
        have hjl' : (j : Int) < l.length := by omega
        obtain ⟨e, he⟩ := get_some hjl
        have hwj : IntKind.i64.wrap ((j : Int) + 1) = ((j + 1 : Nat) : Int) := wrap64 (by omega) (by omega)
        have hcl := cntE_le (l.take j) r.id k
        rw [List.length_take] at hcl
        have hwc : IntKind.i64.wrap ((cntE r.id k (l.take j) : Int) + 1) = ((cntE r.id k (l.take j) + 1 : Nat) : Int) := wrap64 (by omega) (by omega)
        have hnx : ¬ (e.run = r.id ∧ e.task = k) → (x.state = 2 → ∀ e ∈ l.take (j + 1), e.run = r.id → e.task = k → e.prio = r.plan.prio) := fun hno h2 e2 he2 h3 h4 => by
          rw [List.take_add_one, he] at he2
          rcases List.mem_append.1 he2 with he2 | he2
          · exact hjo h2 e2 he2 h3 h4
          · simp at he2; subst he2; exact absurd ⟨h3, h4⟩ hno
        simp -implicitDefEqProofs only [go_sem, encYd, encRn, encPl, encTk, encEn, hjl, hjl', elem_encEns he]
        intro b11
        cases hr : e.run == r.id
        · have hs := cntE_no (id := r.id) (t := k) he (fun h => by have := h.1; simp [this] at hr)
          simp -implicitDefEqProofs only [go_sem, encYd, encRn, encPl, encTk, encEn, hjl, hjl', elem_encEns he, hr, hwj]
          exact ⟨j + 1, ⟨hjl, hnx (fun h => by have := h.1; simp [this] at hr)⟩, (wk_of [some 300, some 400, some 800] (by simp -implicitDefEqProofs only [go_sem, encYd, encRn, encPl, encTk, encEn, hs] <;> and_intros <;> first | rfl | assumption)), by (try dsimp only); omega⟩
        have hr' : e.run = r.id := by simpa using hr
        cases htk : e.task == (k : Int)
        · have hs := cntE_no (id := r.id) (t := k) he (fun h => by have := h.2; simp [this] at htk)
          simp -implicitDefEqProofs only [go_sem, encYd, encRn, encPl, encTk, encEn, hjl, hjl', elem_encEns he, hr, htk, hwj]
          exact ⟨j + 1, ⟨hjl, hnx (fun h => by have := h.2; simp [this] at htk)⟩, (wk_of [some 300, some 400, some 800] (by simp -implicitDefEqProofs only [go_sem, encYd, encRn, encPl, encTk, encEn, hs] <;> and_intros <;> first | rfl | assumption)), by (try dsimp only); omega⟩
        have htk' : e.task = k := by simpa using htk
        have hs := cntE_yes he hr' htk'
        simp -implicitDefEqProofs only [go_sem, encYd, encRn, encPl, encTk, encEn, hjl, hjl', elem_encEns he, hr, htk, hwc, hlt, hlt', h0k]
        cases h2 : x.state == 2
        · simp -implicitDefEqProofs only [go_sem, encYd, encRn, encPl, encTk, encEn, hjl, hjl', elem_encEns he, h2, hwj, hwc]
          exact ⟨j + 1, ⟨hjl, fun h => by simp [h] at h2⟩, (wk_of [some 300, some 400, some 800] (by simp -implicitDefEqProofs only [go_sem, encYd, encRn, encPl, encTk, encEn, hs] <;> and_intros <;> first | rfl | assumption)), by (try dsimp only); omega⟩
        have h2' : x.state = 2 := by simpa using h2
        cases hp : e.prio != r.plan.prio
        · have hp' : e.prio = r.plan.prio := by simpa using hp
          simp -implicitDefEqProofs only [go_sem, encYd, encRn, encPl, encTk, encEn, hjl, hjl', elem_encEns he, h2, hp, hwj, hwc]
          exact ⟨j + 1, ⟨hjl, fun _ e2 he2 h3 h4 => by rw [List.take_add_one, he] at he2; rcases List.mem_append.1 he2 with he2 | he2; exact hjo h2' e2 he2 h3 h4; simp at he2; subst he2; exact hp'⟩, (wk_of [some 300, some 400, some 800] (by simp -implicitDefEqProofs only [go_sem, encYd, encRn, encPl, encTk, encEn, hs] <;> and_intros <;> first | rfl | assumption)), by (try dsimp only); omega⟩
        · have hb : runInB y r l = false := runIn_no fun h => by
            have := ((h k x hx).1 h2').1 e (List.mem_of_getElem? he) hr' htk'
            simp [this] at hp
          simp -implicitDefEqProofs only [go_sem, encYd, encRn, encPl, encTk, encEn, hjl, hjl', elem_encEns he, h2, hp, hb]
    as_aux_lemma =>
      have hjl' : ¬ (j : Int) < l.length := by omega
      rw [List.take_of_length_le (by omega)] at hjo
      rw [List.take_of_length_le (by omega)]
      have hnx2 : taskIn y r l k x → ∀ (t : Nat) (z : Tk), t < k + 1 → r.tasks[t]? = some z → taskIn y r l t z := fun h t z ht hz => by
        rcases Nat.lt_or_ge t k with h' | h'
        · exact hko t z h' hz
        · obtain rfl : t = k := by omega
          rw [hx] at hz; cases hz; exact h
      simp -implicitDefEqProofs only [go_sem, encYd, encRn, encPl, encTk, encEn, hjl', hlt, hlt', h0k]
      cases h2 : x.state == 2
      rotate_left
      · have h2' : x.state = 2 := by simpa using h2
        have h3 : (x.state == 3) = false := by simp [h2']
        cases hc : ((cntE r.id k l : Nat) : Int) != 1
        · have hc' : cntE r.id k l = 1 := by have : ((cntE r.id k l : Nat) : Int) = 1 := by simpa only [bne_eq_false_iff_eq] using hc
                                             omega
          simp -implicitDefEqProofs only [go_sem, encYd, encRn, encPl, encTk, encEn, h2, hc, h3, hw, hlt, hlt', h0k]
          exact ⟨k + 1, ⟨hlt, hnx2 ⟨fun _ => ⟨hjo h2', hc'⟩, fun h => by omega⟩⟩, (wk_of [some 300, some 400] (by simp -implicitDefEqProofs only [go_sem, encYd, encRn, encPl, encTk, encEn] <;> and_intros <;> first | rfl | assumption)), by (try dsimp only); omega⟩
        · have hb : runInB y r l = false := runIn_no fun h => by
            have := ((h k x hx).1 h2').2
            rw [this] at hc
            cases hc
          simp -implicitDefEqProofs only [go_sem, encYd, encRn, encPl, encTk, encEn, h2, hc, hb]
      · have h2' : ¬ x.state = 2 := by simpa using h2
        cases h3 : x.state == 3
        · have h3' : ¬ x.state = 3 := by simpa using h3
          simp -implicitDefEqProofs only [go_sem, encYd, encRn, encPl, encTk, encEn, h2, h3, hw, hlt, hlt', h0k]
          exact ⟨k + 1, ⟨hlt, hnx2 ⟨fun h => absurd h h2', fun h => absurd h h3'⟩⟩, (wk_of [some 300, some 400] (by simp -implicitDefEqProofs only [go_sem, encYd, encRn, encPl, encTk, encEn] <;> and_intros <;> first | rfl | assumption)), by (try dsimp only); omega⟩
        · have h3' : x.state = 3 := by simpa using h3
          simp -implicitDefEqProofs only [go_sem, encYd, encRn, encPl, encTk, encEn, h2, h3, hwn, hww, hlt, hlt', h0k]
          refine run_call (p_impl_within x.til (y.now + 1) (y.now + r.plan.wait)) (by simp -implicitDefEqProofs only [go_sem, encYd, encRn, encPl, encTk, encEn, hwn, hww]) fun η => ?_
          simp -implicitDefEqProofs only [go_sem, encYd, encRn, encPl, encTk, encEn, hwn, hww]
          cases ht : decide (y.now + 1 ≤ x.til ∧ x.til ≤ y.now + r.plan.wait)
          · have hb : runInB y r l = false := runIn_no fun h => by
              have := (h k x hx).2 h3'
              simp [this] at ht
            simp -implicitDefEqProofs only [go_sem, encYd, encRn, encPl, encTk, encEn, ht, hb]
          · have ht' : y.now + 1 ≤ x.til ∧ x.til ≤ y.now + r.plan.wait := of_decide_eq_true ht
            simp -implicitDefEqProofs only [go_sem, encYd, encRn, encPl, encTk, encEn, ht, hw]
            exact ⟨k + 1, ⟨hlt, hnx2 ⟨fun h => absurd h h2', fun _ => ht'⟩⟩, (wk_of [some 300, some 400] (by simp -implicitDefEqProofs only [go_sem, encYd, encRn, encPl, encTk, encEn] <;> and_intros <;> first | rfl | assumption)), by (try dsimp only); omega⟩
  have hlt' : ¬ (k : Int) < r.tasks.length := by omega
  have hb : runInB y r l = true := runIn_yes fun t x hx => hko t x (by have := (List.getElem?_eq_some_iff.1 hx).1; omega) hx
  simp -implicitDefEqProofs only [go_sem, encYd, encRn, encPl, encTk, encEn, hlt', hb]
end Go.Proofs.YtnhdcbhcocgjhaaGreat
set_option linter.unusedSimpArgs false
set_option linter.unusedVariables false
set_option maxRecDepth 100000
namespace Go.Proofs.YtnhdcbhcocgjhaaGreat
open Go.RowKit Go.Sort
def c_spec_l10Shelves : C := .seq (.reg [⟨some 1, none, .box 30 4 (.t 0)⟩, ⟨some 2, none, .mov (.c (.bool false))⟩]) (.seq (.seq (.reg [⟨some 7, none, .fa 2 (.t 1)⟩, ⟨some 8, none, .ld false 1 (.t 7)⟩, ⟨some 9, none, .len false (.t 8)⟩, ⟨some 10, none, .bin .neq 3 (.t 9) (.c (.int .i64 4))⟩]) (.cond (.t 10) (.seq (.reg [⟨some 2, none, .mov (.c (.bool false))⟩]) .ret) .skip)) (.seq (.seq (.reg [⟨some 3, none, .mov (.c (.int .i64 0))⟩]) (.blk 0 (.loop (.seq (.seq (.reg [⟨some 11, none, .mov (.t 3)⟩, ⟨some 12, none, .fa 2 (.t 1)⟩, ⟨some 13, none, .ld false 1 (.t 12)⟩, ⟨some 14, none, .len false (.t 13)⟩, ⟨some 15, none, .bin .lss 3 (.t 11) (.t 14)⟩]) (.cond (.t 15) .skip (.exit 0))) (.seq (.blk 1 (.seq (.reg [⟨some 18, none, .fa 2 (.t 1)⟩, ⟨some 19, none, .ld false 1 (.t 18)⟩, ⟨some 20, none, .mov (.t 3)⟩, ⟨some 21, none, .ia 1 (.t 19) (.t 20)⟩, ⟨some 22, none, .ld false 1 (.t 21)⟩, ⟨some 23, none, .call 176 [.t 22]⟩, ⟨some 24, none, .un .not (.t 23)⟩]) (.cond (.t 24) (.seq (.reg [⟨some 2, none, .mov (.c (.bool false))⟩]) .ret) .skip))) (.reg [⟨some 16, none, .mov (.t 3)⟩, ⟨some 17, none, .bin .add 3 (.t 16) (.c (.int .i64 1))⟩, ⟨some 3, none, .mov (.t 17)⟩])))))) (.seq (.reg [⟨some 25, none, .ld true 4 (.t 1)⟩, ⟨some 26, none, .call 133 [.t 25]⟩, ⟨some 4, none, .mov (.t 26)⟩]) (.seq (.seq (.reg [⟨some 5, none, .mov (.c (.int .i64 0))⟩]) (.blk 2 (.loop (.seq (.seq (.reg [⟨some 27, none, .mov (.t 5)⟩, ⟨some 28, none, .mov (.t 4)⟩, ⟨some 29, none, .len false (.t 28)⟩, ⟨some 30, none, .bin .lss 3 (.t 27) (.t 29)⟩]) (.cond (.t 30) .skip (.exit 2))) (.seq (.blk 3 (.seq (.seq (.dreg (T.pure 0 ⟨some 33, none, .mov (.t 4)⟩ (T.pure 1 ⟨some 34, none, .mov (.t 5)⟩ (T.pure 2 ⟨some 35, none, .ia 4 (.t 33) (.t 34)⟩ (T.pure 3 ⟨some 36, none, .fa 1 (.t 35)⟩ (T.pure 4 ⟨some 37, none, .ld false 1 (.t 36)⟩ (T.pure 5 ⟨some 38, none, .fa 1 (.t 1)⟩ (T.pure 6 ⟨some 39, none, .ld false 1 (.t 38)⟩ (T.pure 7 ⟨some 40, none, .bin .sub 3 (.t 39) (.c (.int .i64 1))⟩ (T.alt ⟨some 41, none, .call 72 [.t 37, .c (.int .i64 1), .t 40]⟩ [] (T.pure 9 ⟨some 42, none, .un .not (.t 41)⟩ T.done) T.stop)))))))))) (.cond (.t 42) (.seq (.reg [⟨some 2, none, .mov (.c (.bool false))⟩]) .ret) .skip)) (.seq (.reg [⟨some 6, none, .mov (.c (.int .i64 0))⟩]) (.blk 4 (.loop (.seq (.seq (.reg [⟨some 43, none, .mov (.t 6)⟩, ⟨some 44, none, .mov (.t 5)⟩, ⟨some 45, none, .bin .lss 3 (.t 43) (.t 44)⟩]) (.cond (.t 45) .skip (.exit 4))) (.seq (.blk 5 (.seq (.dreg (T.pure 0 ⟨some 48, none, .mov (.t 4)⟩ (T.pure 1 ⟨some 49, none, .mov (.t 6)⟩ (T.pure 2 ⟨some 50, none, .ia 4 (.t 48) (.t 49)⟩ (T.pure 3 ⟨some 51, none, .fa 1 (.t 50)⟩ (T.pure 4 ⟨some 52, none, .ld false 1 (.t 51)⟩ (T.pure 5 ⟨some 53, none, .mov (.t 4)⟩ (T.pure 6 ⟨some 54, none, .mov (.t 5)⟩ (T.pure 7 ⟨some 55, none, .ia 4 (.t 53) (.t 54)⟩ (T.pure 8 ⟨some 56, none, .fa 1 (.t 55)⟩ (T.pure 9 ⟨some 57, none, .ld false 1 (.t 56)⟩ (T.pure 10 ⟨some 58, none, .bin .eql 3 (.t 52) (.t 57)⟩ T.done)))))))))))) (.cond (.t 58) (.seq (.reg [⟨some 2, none, .mov (.c (.bool false))⟩]) .ret) .skip))) (.reg [⟨some 46, none, .mov (.t 6)⟩, ⟨some 47, none, .bin .add 3 (.t 46) (.c (.int .i64 1))⟩, ⟨some 6, none, .mov (.t 47)⟩])))))))) (.reg [⟨some 31, none, .mov (.t 5)⟩, ⟨some 32, none, .bin .add 3 (.t 31) (.c (.int .i64 1))⟩, ⟨some 5, none, .mov (.t 32)⟩])))))) (.seq (.reg [⟨some 2, none, .mov (.c (.bool true))⟩]) .ret)))))
theorem code_spec_l10Shelves : fnC Tryz.prog Tryz.f131 = some (c_spec_l10Shelves, [.t 2], 59) := by kernel_rfl
def c_spec_YardOk : C := .seq (.reg [⟨some 1, none, .box 30 4 (.t 0)⟩, ⟨some 2, none, .mov (.c (.bool false))⟩]) (.seq (.seq (.reg [⟨some 6, none, .fa 0 (.t 1)⟩, ⟨some 7, none, .ld false 1 (.t 6)⟩, ⟨some 8, none, .call 72 [.t 7, .c (.int .i64 0), .c (.int .i64 999999980)]⟩, ⟨some 9, none, .un .not (.t 8)⟩, ⟨some 10, none, .mov (.t 9)⟩, ⟨some 11, some (10, false), .fa 1 (.t 1)⟩, ⟨some 12, some (10, false), .ld false 1 (.t 11)⟩, ⟨some 13, some (10, false), .call 72 [.t 12, .c (.int .i64 1), .c (.int .i64 1000000000)]⟩, ⟨some 14, some (10, false), .un .not (.t 13)⟩, ⟨some 15, none, .pick (.t 10) (.c (.bool true)) (.t 14)⟩, ⟨some 16, none, .mov (.t 15)⟩, ⟨some 17, some (16, false), .fa 3 (.t 1)⟩, ⟨some 18, some (16, false), .ld false 1 (.t 17)⟩, ⟨some 19, some (16, false), .len false (.t 18)⟩, ⟨some 20, some (16, false), .bin .gtr 3 (.t 19) (.c (.int .i64 8))⟩, ⟨some 21, none, .pick (.t 16) (.c (.bool true)) (.t 20)⟩, ⟨some 22, none, .mov (.t 21)⟩, ⟨some 23, some (22, false), .ld true 4 (.t 1)⟩, ⟨some 24, some (22, false), .call 131 [.t 23]⟩, ⟨some 25, some (22, false), .un .not (.t 24)⟩, ⟨some 26, none, .pick (.t 22) (.c (.bool true)) (.t 25)⟩]) (.cond (.t 26) (.seq (.reg [⟨some 2, none, .mov (.c (.bool false))⟩]) .ret) .skip)) (.seq (.seq (.reg [⟨some 3, none, .mov (.c (.int .i64 0))⟩]) (.blk 0 (.loop (.seq (.seq (.reg [⟨some 27, none, .mov (.t 3)⟩, ⟨some 28, none, .fa 3 (.t 1)⟩, ⟨some 29, none, .ld false 1 (.t 28)⟩, ⟨some 30, none, .len false (.t 29)⟩, ⟨some 31, none, .bin .lss 3 (.t 27) (.t 30)⟩]) (.cond (.t 31) .skip (.exit 0))) (.seq (.blk 1 (.seq (.dreg (T.pure 0 ⟨some 34, none, .fa 3 (.t 1)⟩ (T.pure 1 ⟨some 35, none, .ld false 1 (.t 34)⟩ (T.pure 2 ⟨some 36, none, .mov (.t 3)⟩ (T.pure 3 ⟨some 37, none, .ia 8 (.t 35) (.t 36)⟩ (T.pure 4 ⟨some 38, none, .ld true 8 (.t 37)⟩ (T.alt ⟨some 39, none, .call 132 [.t 38]⟩ [] (T.pure 6 ⟨some 40, none, .un .not (.t 39)⟩ (T.pure 7 ⟨some 41, none, .mov (.t 40)⟩ (T.pure 8 ⟨some 42, some (41, false), .ld true 4 (.t 1)⟩ (T.pure 9 ⟨some 43, some (41, false), .fa 3 (.t 1)⟩ (T.pure 10 ⟨some 44, some (41, false), .ld false 1 (.t 43)⟩ (T.pure 11 ⟨some 45, some (41, false), .mov (.t 3)⟩ (T.pure 12 ⟨some 46, some (41, false), .ia 8 (.t 44) (.t 45)⟩ (T.pure 13 ⟨some 47, some (41, false), .fa 0 (.t 46)⟩ (T.pure 14 ⟨some 48, some (41, false), .ld false 1 (.t 47)⟩ (T.pure 16 ⟨some 50, some (41, false), .mov (.t 3)⟩ (T.alt ⟨some 49, some (41, false), .call 45 [.t 42, .t 48]⟩ [16] (T.pure 17 ⟨some 51, some (41, false), .bin .neq 3 (.t 49) (.t 50)⟩ (T.pure 18 ⟨some 52, none, .pick (.t 41) (.c (.bool true)) (.t 51)⟩ T.done)) T.stop))))))))))) T.stop))))))) (.cond (.t 52) (.seq (.reg [⟨some 2, none, .mov (.c (.bool false))⟩]) .ret) .skip))) (.reg [⟨some 32, none, .mov (.t 3)⟩, ⟨some 33, none, .bin .add 3 (.t 32) (.c (.int .i64 1))⟩, ⟨some 3, none, .mov (.t 33)⟩])))))) (.seq (.reg [⟨some 53, none, .ld true 4 (.t 1)⟩, ⟨some 54, none, .call 133 [.t 53]⟩, ⟨some 4, none, .mov (.t 54)⟩]) (.seq (.seq (.reg [⟨some 5, none, .mov (.c (.int .i64 0))⟩]) (.blk 2 (.loop (.seq (.seq (.reg [⟨some 55, none, .mov (.t 5)⟩, ⟨some 56, none, .fa 3 (.t 1)⟩, ⟨some 57, none, .ld false 1 (.t 56)⟩, ⟨some 58, none, .len false (.t 57)⟩, ⟨some 59, none, .bin .lss 3 (.t 55) (.t 58)⟩]) (.cond (.t 59) .skip (.exit 2))) (.seq (.blk 3 (.seq (.dreg (T.pure 0 ⟨some 62, none, .ld true 4 (.t 1)⟩ (T.pure 1 ⟨some 63, none, .fa 3 (.t 1)⟩ (T.pure 2 ⟨some 64, none, .ld false 1 (.t 63)⟩ (T.pure 3 ⟨some 65, none, .mov (.t 5)⟩ (T.pure 4 ⟨some 66, none, .ia 8 (.t 64) (.t 65)⟩ (T.pure 5 ⟨some 67, none, .ld true 8 (.t 66)⟩ (T.pure 6 ⟨some 68, none, .mov (.t 4)⟩ (T.alt ⟨some 69, none, .call 134 [.t 62, .t 67, .t 68]⟩ [] (T.pure 8 ⟨some 70, none, .un .not (.t 69)⟩ T.done) T.stop))))))))) (.cond (.t 70) (.seq (.reg [⟨some 2, none, .mov (.c (.bool false))⟩]) .ret) .skip))) (.reg [⟨some 60, none, .mov (.t 5)⟩, ⟨some 61, none, .bin .add 3 (.t 60) (.c (.int .i64 1))⟩, ⟨some 5, none, .mov (.t 61)⟩])))))) (.seq (.reg [⟨some 71, none, .ld true 4 (.t 1)⟩, ⟨some 72, none, .call 135 [.t 71]⟩, ⟨some 73, none, .bin .leq 3 (.t 72) (.c (.int .i64 40))⟩, ⟨some 2, none, .mov (.t 73)⟩]) .ret)))))
theorem code_spec_YardOk : fnC Tryz.prog Tryz.f65 = some (c_spec_YardOk, [.t 2], 74) := by kernel_rfl
def c_impl_YardOk : C := .seq (.reg [⟨some 1, none, .box 30 4 (.t 0)⟩, ⟨some 2, none, .mov (.c (.bool false))⟩]) (.seq (.seq (.reg [⟨some 11, none, .fa 0 (.t 1)⟩, ⟨some 12, none, .ld false 1 (.t 11)⟩, ⟨some 13, none, .call 79 [.t 12, .c (.int .i64 0), .c (.int .i64 999999980)]⟩, ⟨some 14, none, .un .not (.t 13)⟩, ⟨some 15, none, .mov (.t 14)⟩, ⟨some 16, some (15, false), .fa 1 (.t 1)⟩, ⟨some 17, some (15, false), .ld false 1 (.t 16)⟩, ⟨some 18, some (15, false), .call 79 [.t 17, .c (.int .i64 1), .c (.int .i64 1000000000)]⟩, ⟨some 19, some (15, false), .un .not (.t 18)⟩, ⟨some 20, none, .pick (.t 15) (.c (.bool true)) (.t 19)⟩, ⟨some 21, none, .mov (.t 20)⟩, ⟨some 22, some (21, false), .fa 2 (.t 1)⟩, ⟨some 23, some (21, false), .ld false 1 (.t 22)⟩, ⟨some 24, some (21, false), .len false (.t 23)⟩, ⟨some 25, some (21, false), .bin .neq 3 (.t 24) (.c (.int .i64 4))⟩, ⟨some 26, none, .pick (.t 21) (.c (.bool true)) (.t 25)⟩, ⟨some 27, none, .mov (.t 26)⟩, ⟨some 28, some (27, false), .fa 3 (.t 1)⟩, ⟨some 29, some (27, false), .ld false 1 (.t 28)⟩, ⟨some 30, some (27, false), .len false (.t 29)⟩, ⟨some 31, some (27, false), .bin .gtr 3 (.t 30) (.c (.int .i64 8))⟩, ⟨some 32, none, .pick (.t 27) (.c (.bool true)) (.t 31)⟩]) (.cond (.t 32) (.seq (.reg [⟨some 2, none, .mov (.c (.bool false))⟩]) .ret) .skip)) (.seq (.seq (.reg [⟨some 33, none, .fa 2 (.t 1)⟩, ⟨some 34, none, .ld false 1 (.t 33)⟩, ⟨some 35, none, .len false (.t 34)⟩, ⟨some 36, none, .mov (.c (.int .i64 0))⟩]) (.blk 0 (.loop (.seq (.reg [⟨some 37, none, .bin .lss 3 (.t 36) (.t 35)⟩]) (.seq (.cond (.t 37) .skip (.exit 0)) (.seq (.blk 1 (.seq (.reg [⟨some 38, none, .ia 1 (.t 34) (.t 36)⟩, ⟨some 39, none, .ld false 1 (.t 38)⟩, ⟨some 4, none, .mov (.t 39)⟩]) (.seq (.reg [⟨some 40, none, .mov (.t 4)⟩, ⟨some 41, none, .call 136 [.t 40]⟩, ⟨some 42, none, .un .not (.t 41)⟩]) (.cond (.t 42) (.seq (.reg [⟨some 2, none, .mov (.c (.bool false))⟩]) .ret) .skip)))) (.reg [⟨some 43, none, .bin .add 3 (.t 36) (.c (.int .i64 1))⟩, ⟨some 36, none, .mov (.t 43)⟩]))))))) (.seq (.reg [⟨some 44, none, .ld true 4 (.t 1)⟩, ⟨some 45, none, .call 137 [.t 44]⟩, ⟨some 5, none, .mov (.t 45)⟩]) (.seq (.reg [⟨some 6, none, .mov (.c (.slice none 0 0))⟩]) (.seq (.seq (.reg [⟨some 46, none, .mov (.t 5)⟩, ⟨some 47, none, .len false (.t 46)⟩, ⟨some 48, none, .mov (.c (.int .i64 0))⟩]) (.blk 2 (.loop (.seq (.reg [⟨some 49, none, .bin .lss 3 (.t 48) (.t 47)⟩]) (.seq (.cond (.t 49) .skip (.exit 2)) (.seq (.blk 3 (.seq (.reg [⟨some 50, none, .ia 4 (.t 46) (.t 48)⟩, ⟨some 51, none, .ld true 4 (.t 50)⟩, ⟨some 8, none, .alloc 108 [.int .i64 0, .int .i64 0, .int .i64 0, .int .i64 0]⟩, ⟨none, none, .st 4 [none, none, none, none] (.t 8) (.t 51)⟩]) (.seq (.seq (.reg [⟨some 52, none, .fa 1 (.t 8)⟩, ⟨some 53, none, .ld false 1 (.t 52)⟩, ⟨some 54, none, .fa 1 (.t 1)⟩, ⟨some 55, none, .ld false 1 (.t 54)⟩, ⟨some 56, none, .bin .sub 3 (.t 55) (.c (.int .i64 1))⟩, ⟨some 57, none, .call 79 [.t 53, .c (.int .i64 1), .t 56]⟩, ⟨some 58, none, .un .not (.t 57)⟩, ⟨some 59, none, .mov (.t 58)⟩, ⟨some 60, some (59, false), .mov (.t 6)⟩, ⟨some 61, some (59, false), .fa 1 (.t 8)⟩, ⟨some 62, some (59, false), .ld false 1 (.t 61)⟩, ⟨some 63, some (59, false), .call 116 [.t 60, .t 62]⟩, ⟨some 64, none, .pick (.t 59) (.c (.bool true)) (.t 63)⟩]) (.cond (.t 64) (.seq (.reg [⟨some 2, none, .mov (.c (.bool false))⟩]) .ret) .skip)) (.reg [⟨some 65, none, .mov (.t 6)⟩, ⟨some 66, none, .fa 1 (.t 8)⟩, ⟨some 67, none, .ld false 1 (.t 66)⟩, ⟨some 68, none, .bsl 3 1 1 [none] [(0, 1, .t 67)]⟩, ⟨some 69, none, .app 3 1 8 (.t 65) (.t 68)⟩, ⟨some 6, none, .mov (.t 69)⟩])))) (.reg [⟨some 70, none, .bin .add 3 (.t 48) (.c (.int .i64 1))⟩, ⟨some 48, none, .mov (.t 70)⟩]))))))) (.seq (.seq (.reg [⟨some 71, none, .fa 3 (.t 1)⟩, ⟨some 72, none, .ld false 1 (.t 71)⟩, ⟨some 73, none, .len false (.t 72)⟩, ⟨some 74, none, .mov (.c (.int .i64 0))⟩]) (.blk 4 (.loop (.seq (.reg [⟨some 75, none, .bin .lss 3 (.t 74) (.t 73)⟩]) (.seq (.cond (.t 75) .skip (.exit 4)) (.seq (.blk 5 (.seq (.reg [⟨some 76, none, .mov (.t 74)⟩, ⟨some 77, none, .ia 8 (.t 72) (.t 74)⟩, ⟨some 78, none, .ld true 8 (.t 77)⟩, ⟨some 10, none, .alloc 80 [.int .i64 0, .int .i64 0, .int .i64 0, .int .i64 0, .int .i64 0, .slice none 0 0, .int .i64 0, .slice none 0 0]⟩, ⟨some 9, none, .mov (.t 76)⟩, ⟨none, none, .st 8 [none, none, none, none, none, some (2, 182), none, some (4, 98)] (.t 10) (.t 78)⟩]) (.seq (.reg [⟨some 79, none, .ld true 8 (.t 10)⟩, ⟨some 80, none, .call 138 [.t 79]⟩, ⟨some 81, none, .un .not (.t 80)⟩, ⟨some 82, none, .mov (.t 81)⟩, ⟨some 83, some (82, false), .ld true 4 (.t 1)⟩, ⟨some 84, some (82, false), .fa 0 (.t 10)⟩, ⟨some 85, some (82, false), .ld false 1 (.t 84)⟩, ⟨some 86, some (82, false), .call 53 [.t 83, .t 85]⟩, ⟨some 87, some (82, false), .mov (.t 9)⟩, ⟨some 88, some (82, false), .bin .neq 3 (.t 86) (.t 87)⟩, ⟨some 89, none, .pick (.t 82) (.c (.bool true)) (.t 88)⟩, ⟨some 90, none, .mov (.t 89)⟩, ⟨some 91, some (90, false), .ld true 4 (.t 1)⟩, ⟨some 92, some (90, false), .ld true 8 (.t 10)⟩, ⟨some 93, some (90, false), .mov (.t 5)⟩, ⟨some 94, some (90, false), .call 139 [.t 91, .t 92, .t 93]⟩, ⟨some 95, some (90, false), .un .not (.t 94)⟩, ⟨some 96, none, .pick (.t 90) (.c (.bool true)) (.t 95)⟩]) (.cond (.t 96) (.seq (.reg [⟨some 2, none, .mov (.c (.bool false))⟩]) .ret) .skip)))) (.reg [⟨some 97, none, .bin .add 3 (.t 74) (.c (.int .i64 1))⟩, ⟨some 74, none, .mov (.t 97)⟩]))))))) (.seq (.reg [⟨some 98, none, .ld true 4 (.t 1)⟩, ⟨some 99, none, .call 140 [.t 98]⟩, ⟨some 100, none, .bin .leq 3 (.t 99) (.c (.int .i64 40))⟩, ⟨some 2, none, .mov (.t 100)⟩]) .ret)))))))
theorem code_impl_YardOk : fnC Tryz.prog Tryz.f67 = some (c_impl_YardOk, [.t 2], 101) := by kernel_rfl
theorem p_spec_RunAt (y : Yd) (id : Int) : Pure Tryz.prog 45 [.agg (encYd y), .c (.val (.int .i64 id))] (.c (.val (.int .i64 (runAt y id)))) := pure2 ⟨_, Tryz.func45, by kernel_rfl, by kernel_rfl⟩ fun w a b ⟨S, ha⟩ hb => by rw [view_val hb]; exact sRunAt_c y id a S w false ha
theorem p_impl_RunAt (y : Yd) (id : Int) : Pure Tryz.prog 53 [.agg (encYd y), .c (.val (.int .i64 id))] (.c (.val (.int .i64 (runAt y id)))) := pure2 ⟨_, Tryz.func53, by kernel_rfl, by kernel_rfl⟩ fun w a b ⟨S, ha⟩ hb => by rw [view_val hb]; exact iRunAt_c y id a S w false ha
theorem p_spec_SlotsOf (y : Yd) (ht : totYd y ≤ 2000000) : Pure Tryz.prog 135 [.agg (encYd y)] (.c (.val (.int .i64 (slotsOf y)))) := pure1 ⟨_, Tryz.func135, by kernel_rfl, by kernel_rfl⟩ fun w a ⟨S, ha⟩ => sSlotsOf_c y a S w false ha ht
theorem p_impl_SlotsOf (y : Yd) (ht : totYd y ≤ 2000000) : Pure Tryz.prog 140 [.agg (encYd y)] (.c (.val (.int .i64 (slotsOf y)))) := pure1 ⟨_, Tryz.func140, by kernel_rfl, by kernel_rfl⟩ fun w a ⟨S, ha⟩ => iSlotsOf_c y a S w false ha ht
structure ShelvesP (y : Yd) : Prop where
  four : y.shelf.length = 4
  shelves : ∀ l ∈ y.shelf, ShelfP l
  seqs : SeqP y.seq y.shelf.flatten
open Classical in
noncomputable def shelvesB (y : Yd) : Bool := decide (ShelvesP y)
theorem shelves_yes {y : Yd} (h : ShelvesP y) : shelvesB y = true := by simp [shelvesB, h]
theorem shelves_no {y : Yd} (h : ¬ ShelvesP y) : shelvesB y = false := by simp [shelvesB, h]
theorem shelves_iff {y : Yd} : shelvesB y = true ↔ ShelvesP y := by simp [shelvesB]
theorem shelf1_le {y : Yd} (ht : totYd y ≤ 2000000) {l : List En} (h : l ∈ y.shelf) : l.length ≤ 4000000 := by
  obtain ⟨k, hk, rfl⟩ := List.getElem_of_mem h
  have h1 := flat_take (List.getElem?_eq_getElem hk)
  have h2 := flat_take_le y.shelf (k + 1)
  have h3 := shelf_flat ht
  rw [h1, List.length_append] at h2
  omega
set_option maxHeartbeats 8000000 in
theorem p_spec_l10Shelves (y : Yd) (ht : totYd y ≤ 2000000) (hq : 1 ≤ y.seq ∧ y.seq ≤ 1000000000) : Pure Tryz.prog 131 [.agg (encYd y)] (.c (.val (.bool (shelvesB y)))) := by
  refine pure_fn Tryz.func131 code_spec_l10Shelves (by simp) ?_
  unfold c_spec_l10Shelves
  have hsf := shelf_flat ht
  have hws : IntKind.i64.wrap (y.seq - 1) = y.seq - 1 := wrap64 (by omega) (by omega)
  simp -implicitDefEqProofs only [go_sem, encYd]
  intro b
  cases h4 : (y.shelf.length : Int) != 4
  rotate_left
  · have hb : shelvesB y = false := shelves_no fun h => by have := h.four; rw [this] at h4; cases h4
    simp -implicitDefEqProofs only [go_sem, encYd, h4, hb]
  have h4' : y.shelf.length = 4 := by have : (y.shelf.length : Int) = 4 := by simpa only [bne_eq_false_iff_eq] using h4
                                      omega
  simp -implicitDefEqProofs only [go_sem, encYd, h4]
  refine wp_loopW (fun i : Nat => St.of [(1, Bx 100 b), (3, Ni i)] [(100, Bi b _ (encYd y))]) (fun i => i ≤ y.shelf.length ∧ ∀ l ∈ y.shelf.take i, ShelfP l) (fun i => y.shelf.length - i) 0 (by (try dsimp only); first | omega | (simp; done) | (and_intros <;> first | omega | simp)) (wk_of [some 100] (by simp -implicitDefEqProofs only [go_sem, encYd] <;> and_intros <;> first | rfl | assumption)) ?_
  rintro k ⟨hk, hko⟩
  by_cases hlt : k < y.shelf.length
  · have hlt' : (k : Int) < y.shelf.length := by omega
    obtain ⟨l, hl⟩ := get_some hlt
    have hlm := List.mem_of_getElem? hl
    have hw : IntKind.i64.wrap ((k : Int) + 1) = ((k + 1 : Nat) : Int) := wrap64 (by omega) (by omega)
    simp -implicitDefEqProofs only [go_sem, encYd, hlt, hlt', elem_encSh hl]
    refine run_call (p_spec_ShelfOk l (shelf1_le ht hlm)) (by simp -implicitDefEqProofs only [go_sem, encYd]) fun η => ?_
    simp -implicitDefEqProofs only [go_sem, encYd]
    cases hs : shelfB l
    · have hb : shelvesB y = false := shelves_no fun h => by have := shelf_yes (h.shelves l hlm); rw [hs] at this; cases this
      simp -implicitDefEqProofs only [go_sem, encYd, hs, hb]
    · simp -implicitDefEqProofs only [go_sem, encYd, hs, hw]
      exact ⟨k + 1, ⟨hlt, fun l2 h2 => by rw [List.take_add_one, hl] at h2; rcases List.mem_append.1 h2 with h2 | h2; exact hko l2 h2; simp at h2; subst h2; exact shelf_iff.1 hs⟩, (wk_of [some 100] (by simp -implicitDefEqProofs only [go_sem, encYd] <;> and_intros <;> first | rfl | assumption)), by (try dsimp only); omega⟩
  have hlt' : ¬ (k : Int) < y.shelf.length := by omega
  rw [List.take_of_length_le (by omega)] at hko
  simp -implicitDefEqProofs only [go_sem, encYd, hlt']
  refine run_call (p_spec_l10Entries y ht) (by simp -implicitDefEqProofs only [go_sem, encYd]) fun ηe => ?_
  simp -implicitDefEqProofs only [go_sem, encYd]
  generalize hF : y.shelf.flatten = F at *
  refine wp_loopW (fun i : Nat => St.of [(1, Bx 100 b), (4, Hd 4 (ηe 0)), (5, Ni i)] [(100, Bi b _ (encYd y)), (4, .loose (encEns F) (ηe 0))]) (fun i => i ≤ F.length ∧ (∀ e ∈ F.take i, 1 ≤ e.seq ∧ e.seq ≤ y.seq - 1) ∧ ((F.take i).map (·.seq)).Nodup) (fun i => F.length - i) 0 (by (try dsimp only); first | omega | (simp; done) | (and_intros <;> first | omega | simp)) (wk_of [some 100, some 2600] (by simp -implicitDefEqProofs only [go_sem, encYd] <;> and_intros <;> first | rfl | assumption)) ?_
  rintro j ⟨hj, hjo, hjd⟩
  by_cases hjl : j < F.length
  · have hjl' : (j : Int) < F.length := by omega
    have h0j : (j : Int) ≥ 0 := by omega
    obtain ⟨e, he⟩ := get_some hjl
    have hw : IntKind.i64.wrap ((j : Int) + 1) = ((j + 1 : Nat) : Int) := wrap64 (by omega) (by omega)
    simp -implicitDefEqProofs only [go_sem, encYd, hjl, hjl', h0j, at_en1 he, in_en1 he, hws]
    refine run_call (p_spec_l01In e.seq 1 (y.seq - 1)) (by simp -implicitDefEqProofs only [go_sem, encYd]) fun η => ?_
    simp -implicitDefEqProofs only [go_sem, encYd]
    cases hr : decide (1 ≤ e.seq ∧ e.seq ≤ y.seq - 1)
    · have hb : shelvesB y = false := shelves_no fun h => by
        have := h.seqs.range e (by rw [hF]; exact List.mem_of_getElem? he)
        simp [this] at hr
      simp -implicitDefEqProofs only [go_sem, encYd, hr, hb]
    have hr' : 1 ≤ e.seq ∧ e.seq ≤ y.seq - 1 := of_decide_eq_true hr
    simp -implicitDefEqProofs only [go_sem, encYd, hr]
    refine wp_loopW (fun i : Nat => St.of [(1, Bx 100 b), (4, Hd 4 (ηe 0)), (5, Ni j), (6, Ni i)] [(100, Bi b _ (encYd y)), (4, .loose (encEns F) (ηe 0))]) (fun i => i ≤ j ∧ ∀ e2 ∈ F.take i, e2.seq ≠ e.seq) (fun i => j - i) 0 (by (try dsimp only); first | omega | (simp; done) | (and_intros <;> first | omega | simp)) (wk_of [some 100, some 4] (by simp -implicitDefEqProofs only [go_sem, encYd] <;> and_intros <;> first | rfl | assumption)) ?_
    rintro m ⟨hm, hmo⟩
    by_cases hml : m < j
    · have hml' : (m : Int) < j := by omega
      have h0m : (m : Int) ≥ 0 := by omega
      have hml2 : m < F.length := by omega
      obtain ⟨e2, he2⟩ := get_some hml2
      have hwm : IntKind.i64.wrap ((m : Int) + 1) = ((m + 1 : Nat) : Int) := wrap64 (by omega) (by omega)
      cases hse : e2.seq == e.seq
      · have hse' : ¬ e2.seq = e.seq := by simpa using hse
        simp -implicitDefEqProofs only [go_sem, encYd, hml', hml2, h0m, hjl, h0j, at_en1 he, in_en1 he, at_en1 he2, in_en1 he2, hse, hwm]
        exact ⟨m + 1, ⟨hml, fun e3 h3 => by rw [List.take_add_one, he2] at h3; rcases List.mem_append.1 h3 with h3 | h3; exact hmo e3 h3; simp at h3; subst h3; exact hse'⟩, (wk_of [some 100, some 4] (by simp -implicitDefEqProofs only [go_sem, encYd] <;> and_intros <;> first | rfl | assumption)), by (try dsimp only); omega⟩
      · have hse' : e2.seq = e.seq := by simpa using hse
        have hb : shelvesB y = false := shelves_no fun h => seq_dup he hml he2 hse' (by rw [← hF]; exact h.seqs.apart)
        simp -implicitDefEqProofs only [go_sem, encYd, hml', hml2, h0m, hjl, h0j, at_en1 he, in_en1 he, at_en1 he2, in_en1 he2, hse, hb]
    · have hml' : ¬ (m : Int) < j := by omega
      obtain rfl : m = j := by omega
      simp -implicitDefEqProofs only [go_sem, encYd, hml', hw]
      exact ⟨m + 1, ⟨hjl, fun e2 h2 => by rw [List.take_add_one, he] at h2; rcases List.mem_append.1 h2 with h2 | h2; exact hjo e2 h2; simp at h2; subst h2; exact hr', seq_new he hjd hmo⟩, (wk_of [some 100, some 4] (by simp -implicitDefEqProofs only [go_sem, encYd] <;> and_intros <;> first | rfl | assumption)), by (try dsimp only); omega⟩
  have hjl' : ¬ (j : Int) < F.length := by omega
  rw [List.take_of_length_le (by omega)] at hjo hjd
  have hb : shelvesB y = true := shelves_yes ⟨h4', hko, by rw [hF]; exact ⟨hjo, hjd⟩⟩
  simp -implicitDefEqProofs only [go_sem, hjl', hb]
set_option maxHeartbeats 8000000 in
theorem p_spec_YardOk (y : Yd) (ht : totYd y ≤ 2000000) : Pure Tryz.prog 65 [.agg (encYd y)] (.c (.val (.bool (yardOkB y)))) := by
  refine pure_fn Tryz.func65 code_spec_YardOk (by simp) ?_
  unfold c_spec_YardOk
  have hsf := shelf_flat ht
  have hrl := runs_le ht
  simp -implicitDefEqProofs only [go_sem, encYd]
  intro b
  refine run_call (p_spec_l01In y.now 0 999999980) (by simp -implicitDefEqProofs only [go_sem, encYd]) fun η => ?_
  simp -implicitDefEqProofs only [go_sem, encYd]
  cases h1 : decide (0 ≤ y.now ∧ y.now ≤ 999999980)
  · have hb : yardOkB y = false := yard_no fun h => by have := h.now; simp [this] at h1
    simp -implicitDefEqProofs only [go_sem, encYd, h1, hb]
  have hnow := of_decide_eq_true h1
  simp -implicitDefEqProofs only [go_sem, encYd, h1]
  refine run_call (p_spec_l01In y.seq 1 1000000000) (by simp -implicitDefEqProofs only [go_sem, encYd]) fun η => ?_
  simp -implicitDefEqProofs only [go_sem, encYd]
  cases h2 : decide (1 ≤ y.seq ∧ y.seq ≤ 1000000000)
  · have hb : yardOkB y = false := yard_no fun h => by have := h.seq; simp [this] at h2
    simp -implicitDefEqProofs only [go_sem, encYd, h2, hb]
  have hseq := of_decide_eq_true h2
  by_cases h8 : 8 < y.runs.length
  · have h8' : (y.runs.length : Int) > 8 := by omega
    have hb : yardOkB y = false := yard_no fun h => by have := h.eight; omega
    simp -implicitDefEqProofs only [go_sem, encYd, h2, h8', hb]
  have h8' : ¬ (y.runs.length : Int) > 8 := by omega
  simp -implicitDefEqProofs only [go_sem, encYd, h2, h8']
  refine run_call (p_spec_l10Shelves y ht hseq) (by simp -implicitDefEqProofs only [go_sem, encYd]) fun η => ?_
  simp -implicitDefEqProofs only [go_sem, encYd]
  cases hsh : shelvesB y
  · have hb : yardOkB y = false := yard_no fun h => by have := shelves_yes ⟨h.four, h.shelves, h.seqs⟩; rw [hsh] at this; cases this
    simp -implicitDefEqProofs only [go_sem, encYd, hsh, hb]
  have hshP := shelves_iff.1 hsh
  simp -implicitDefEqProofs only [go_sem, encYd, hsh]
  refine wp_loopW (fun i : Nat => St.of [(1, Bx 100 b), (3, Ni i)] [(100, Bi b _ (encYd y))]) (fun i => i ≤ y.runs.length ∧ ∀ (k : Nat) (r : Rn), k < i → y.runs[k]? = some r → RunOkP r ∧ runAt y r.id = k) (fun i => y.runs.length - i) 0 (by (try dsimp only); first | omega | (simp; done) | (and_intros <;> first | omega | simp)) (wk_of [some 100] (by simp -implicitDefEqProofs only [go_sem, encYd] <;> and_intros <;> first | rfl | assumption)) ?_
  rintro k ⟨hk, hko⟩
  by_cases hlt : k < y.runs.length
  · have hlt' : (k : Int) < y.runs.length := by omega
    obtain ⟨r, hr⟩ := get_some hlt
    have hw : IntKind.i64.wrap ((k : Int) + 1) = ((k + 1 : Nat) : Int) := wrap64 (by omega) (by omega)
    simp -implicitDefEqProofs only [go_sem, encYd, hlt, hlt', elem_encRns hr, encRn, encPl]
    refine run_call (p_spec_RunOk r) (by simp -implicitDefEqProofs only [go_sem, encYd, encRn, encPl]) fun η => ?_
    simp -implicitDefEqProofs only [go_sem, encYd, encRn, encPl]
    cases hs : runOkB r
    · have hb : yardOkB y = false := yard_no fun h => by have := runOk_iff.2 (h.right r (List.mem_of_getElem? hr)); rw [hs] at this; cases this
      simp -implicitDefEqProofs only [go_sem, encYd, hs, hb]
    simp -implicitDefEqProofs only [go_sem, encYd, hs, hlt, hlt', elem_encRns hr, encRn, encPl]
    refine run_call (p_spec_RunAt y r.id) (by simp -implicitDefEqProofs only [go_sem, encYd]) fun η => ?_
    simp -implicitDefEqProofs only [go_sem, encYd]
    cases hat : runAt y r.id != (k : Int)
    · have hat' : runAt y r.id = k := by simpa using hat
      simp -implicitDefEqProofs only [go_sem, encYd, hat, hw]
      exact ⟨k + 1, ⟨hlt, fun k2 r2 h2 hr2 => by rcases Nat.lt_or_ge k2 k with h' | h'; exact hko k2 r2 h' hr2; obtain rfl : k2 = k := (by omega); rw [hr] at hr2; cases hr2; exact ⟨runOk_iff.1 hs, hat'⟩⟩, (wk_of [some 100] (by simp -implicitDefEqProofs only [go_sem, encYd] <;> and_intros <;> first | rfl | assumption)), by (try dsimp only); omega⟩
    · have hb : yardOkB y = false := yard_no fun h => by have := h.place k r hr; simp [this] at hat
      simp -implicitDefEqProofs only [go_sem, encYd, hat, hb]
  have hlt' : ¬ (k : Int) < y.runs.length := by omega
  have hall : ∀ (k : Nat) (r : Rn), y.runs[k]? = some r → RunOkP r ∧ runAt y r.id = k := fun k r h => hko k r (by have := (List.getElem?_eq_some_iff.1 h).1; omega) h
  simp -implicitDefEqProofs only [go_sem, encYd, hlt']
  refine run_call (p_spec_l10Entries y ht) (by simp -implicitDefEqProofs only [go_sem, encYd]) fun ηe => ?_
  simp -implicitDefEqProofs only [go_sem, encYd]
  generalize hF : y.shelf.flatten = F at *
  refine wp_loopW (fun i : Nat => St.of [(1, Bx 100 b), (4, Hd 4 (ηe 0)), (5, Ni i)] [(100, Bi b _ (encYd y)), (4, .loose (encEns F) (ηe 0))]) (fun i => i ≤ y.runs.length ∧ ∀ (k : Nat) (r : Rn), k < i → y.runs[k]? = some r → RunIn y r F) (fun i => y.runs.length - i) 0 (by (try dsimp only); first | omega | (simp; done) | (and_intros <;> first | omega | simp)) (wk_of [some 100, some 5400] (by simp -implicitDefEqProofs only [go_sem, encYd] <;> and_intros <;> first | rfl | assumption)) ?_
  rintro j ⟨hj, hjo⟩
  by_cases hjl : j < y.runs.length
  · have hjl' : (j : Int) < y.runs.length := by omega
    obtain ⟨r, hr⟩ := get_some hjl
    have hw : IntKind.i64.wrap ((j : Int) + 1) = ((j + 1 : Nat) : Int) := wrap64 (by omega) (by omega)
    have hrP := (hall j r hr).1
    obtain ⟨n, hn, hn1, h12, h30, hes, hnd, -, -, hwt⟩ := pf_0 hrP.plan
    have hlen := hrP.len
    simp -implicitDefEqProofs only [go_sem, encYd, hjl, hjl', elem_encRns hr, encRn, encPl]
    refine run_call (p_spec_l10Run y r F (by omega) (by omega) hnow hwt) (by simp -implicitDefEqProofs only [go_sem, encYd, encRn, encPl]) fun η => ?_
    simp -implicitDefEqProofs only [go_sem, encYd, encRn, encPl]
    cases hs : runInB y r F
    · have hb : yardOkB y = false := yard_no fun h => by have := runIn_yes (h.runs r (List.mem_of_getElem? hr)); rw [hF, hs] at this; cases this
      simp -implicitDefEqProofs only [go_sem, encYd, hs, hb]
    · simp -implicitDefEqProofs only [go_sem, encYd, hs, hw]
      exact ⟨j + 1, ⟨hjl, fun k2 r2 h2 hr2 => by rcases Nat.lt_or_ge k2 j with h' | h'; exact hjo k2 r2 h' hr2; obtain rfl : k2 = j := (by omega); rw [hr] at hr2; cases hr2; exact runIn_iff.1 hs⟩, (wk_of [some 100, some 4] (by simp -implicitDefEqProofs only [go_sem, encYd] <;> and_intros <;> first | rfl | assumption)), by (try dsimp only); omega⟩
  have hjl' : ¬ (j : Int) < y.runs.length := by omega
  simp -implicitDefEqProofs only [go_sem, encYd, hjl']
  refine run_call (p_spec_SlotsOf y ht) (by simp -implicitDefEqProofs only [go_sem, encYd]) fun η => ?_
  simp -implicitDefEqProofs only [go_sem, encYd]
  have hb : yardOkB y = decide (slotsOf y ≤ 40) := by
    by_cases h40 : slotsOf y ≤ 40
    · rw [yard_yes ⟨hnow, hseq, hshP.four, by omega, hshP.shelves, hshP.seqs, fun r hr => by obtain ⟨k, hk, rfl⟩ := List.getElem_of_mem hr; exact (hall k _ (List.getElem?_eq_getElem hk)).1, fun k r hr => (hall k r hr).2, fun r hr => by obtain ⟨k, hk, rfl⟩ := List.getElem_of_mem hr; rw [hF]; exact hjo k _ (by omega) (List.getElem?_eq_getElem hk), h40⟩]
      simp [h40]
    · rw [yard_no fun h => h40 h.slots]; simp [h40]
  simp -implicitDefEqProofs only [go_sem, hb]
end Go.Proofs.YtnhdcbhcocgjhaaGreat
set_option linter.unusedSimpArgs false
set_option linter.unusedVariables false
set_option maxRecDepth 100000
namespace Go.Proofs.YtnhdcbhcocgjhaaGreat
open Go.RowKit Go.Sort
set_option maxHeartbeats 8000000 in
theorem p_impl_YardOk (y : Yd) (ht : totYd y ≤ 2000000) : Pure Tryz.prog 67 [.agg (encYd y)] (.c (.val (.bool (yardOkB y)))) := by
  refine pure_fn Tryz.func67 code_impl_YardOk (by simp) ?_
  unfold c_impl_YardOk
  have hsf := shelf_flat ht
  have hrl := runs_le ht
  simp -implicitDefEqProofs only [go_sem, encYd]
  intro b
  refine run_call (p_impl_within y.now 0 999999980) (by simp -implicitDefEqProofs only [go_sem, encYd]) fun η => ?_
  simp -implicitDefEqProofs only [go_sem, encYd]
  cases h1 : decide (0 ≤ y.now ∧ y.now ≤ 999999980)
  · have hb : yardOkB y = false := yard_no fun h => by have := h.now; simp [this] at h1
    simp -implicitDefEqProofs only [go_sem, encYd, h1, hb]
  have hnow := of_decide_eq_true h1
  simp -implicitDefEqProofs only [go_sem, encYd, h1]
  refine run_call (p_impl_within y.seq 1 1000000000) (by simp -implicitDefEqProofs only [go_sem, encYd]) fun η => ?_
  simp -implicitDefEqProofs only [go_sem, encYd]
  cases h2 : decide (1 ≤ y.seq ∧ y.seq ≤ 1000000000)
  · have hb : yardOkB y = false := yard_no fun h => by have := h.seq; simp [this] at h2
    simp -implicitDefEqProofs only [go_sem, encYd, h2, hb]
  have hseq := of_decide_eq_true h2
  have hws : IntKind.i64.wrap (y.seq - 1) = y.seq - 1 := wrap64 (by omega) (by omega)
  cases h4 : (y.shelf.length : Int) != 4
  rotate_left
  · have hb : yardOkB y = false := yard_no fun h => by have := h.four; rw [this] at h4; cases h4
    simp -implicitDefEqProofs only [go_sem, encYd, h2, h4, hb]
  have h4' : y.shelf.length = 4 := by have : (y.shelf.length : Int) = 4 := by simpa only [bne_eq_false_iff_eq] using h4
                                      omega
  by_cases h8 : 8 < y.runs.length
  · have h8' : (y.runs.length : Int) > 8 := by omega
    have hb : yardOkB y = false := yard_no fun h => by have := h.eight; omega
    simp -implicitDefEqProofs only [go_sem, encYd, h2, h4, h8', hb]
  have h8' : ¬ (y.runs.length : Int) > 8 := by omega
  simp -implicitDefEqProofs only [go_sem, encYd, h2, h4, h8']
  refine wp_loopW (fun i : Nat => St.of [(1, Bx 100 b), (34, Ro (encSh y.shelf)), (35, Ni y.shelf.length), (36, Ni i)] [(100, Bi b _ (encYd y))]) (fun i => i ≤ y.shelf.length ∧ ∀ l ∈ y.shelf.take i, ShelfP l) (fun i => y.shelf.length - i) 0 (by (try dsimp only); first | omega | (simp; done) | (and_intros <;> first | omega | simp)) (wk_of [some 100] (by simp -implicitDefEqProofs only [go_sem, encYd] <;> and_intros <;> first | rfl | assumption)) ?_
  rintro k ⟨hk, hko⟩
  by_cases hlt : k < y.shelf.length
  · have hlt' : (k : Int) < y.shelf.length := by omega
    obtain ⟨l, hl⟩ := get_some hlt
    have hlm := List.mem_of_getElem? hl
    have hw : IntKind.i64.wrap ((k : Int) + 1) = ((k + 1 : Nat) : Int) := wrap64 (by omega) (by omega)
    simp -implicitDefEqProofs only [go_sem, encYd, hlt, hlt', elem_encSh hl]
    refine run_call (p_impl_ShelfOk l (shelf1_le ht hlm)) (by simp -implicitDefEqProofs only [go_sem, encYd]) fun η => ?_
    simp -implicitDefEqProofs only [go_sem, encYd]
    cases hs : shelfB l
    · have hb : yardOkB y = false := yard_no fun h => by have := shelf_yes (h.shelves l hlm); rw [hs] at this; cases this
      simp -implicitDefEqProofs only [go_sem, encYd, hs, hb]
    · simp -implicitDefEqProofs only [go_sem, encYd, hs, hw]
      exact ⟨k + 1, ⟨hlt, fun l2 h2 => by rw [List.take_add_one, hl] at h2; rcases List.mem_append.1 h2 with h2 | h2; exact hko l2 h2; simp at h2; subst h2; exact shelf_iff.1 hs⟩, (wk_of [some 100] (by simp -implicitDefEqProofs only [go_sem, encYd] <;> and_intros <;> first | rfl | assumption)), by (try dsimp only); omega⟩
  have hlt' : ¬ (k : Int) < y.shelf.length := by omega
  rw [List.take_of_length_le (by omega)] at hko
  simp -implicitDefEqProofs only [go_sem, encYd, hlt']
  refine run_call (p_impl_allEntries y ht) (by simp -implicitDefEqProofs only [go_sem, encYd]) fun ηe => ?_
  simp -implicitDefEqProofs only [go_sem, encYd]
  generalize hF : y.shelf.flatten = F at *
  refine wp_loopW (fun i : Nat × Heads => St.of [(1, Bx 100 b), (5, Hd 5 (ηe 0)), (6, Hd 6 i.2), (46, Hd 5 (ηe 0)), (47, Ni F.length), (48, Ni i.1)] [(100, Bi b _ (encYd y)), (5, .loose (encEns F) (ηe 0)), (6, .loose (encInts ((F.take i.1).map (·.seq))) i.2)]) (fun i => i.1 ≤ F.length ∧ (∀ e ∈ F.take i.1, 1 ≤ e.seq ∧ e.seq ≤ y.seq - 1) ∧ ((F.take i.1).map (·.seq)).Nodup) (fun i => F.length - i.1) (0, nilH) (by (try dsimp only); first | omega | (simp; done) | (and_intros <;> first | omega | simp)) (wk_of [some 100, some 4500, none] (by simp -implicitDefEqProofs only [go_sem, encYd] <;> and_intros <;> first | rfl | assumption)) ?_
  rintro ⟨j, η6⟩ ⟨hj, hjo, hjd⟩
  dsimp only at hj hjo hjd
  by_cases hjl : j < F.length
  · have hjl' : (j : Int) < F.length := by omega
    have h0j : (j : Int) ≥ 0 := by omega
    obtain ⟨e, he⟩ := get_some hjl
    have hw : IntKind.i64.wrap ((j : Int) + 1) = ((j + 1 : Nat) : Int) := wrap64 (by omega) (by omega)
    have hml : ((F.take j).map (·.seq)).length ≤ 2000000 := by rw [List.length_map, List.length_take]; omega
    have hmt : (F.take (j + 1)).map (·.seq) = (F.take j).map (·.seq) ++ [e.seq] := by rw [List.take_add_one, he]; simp
    generalize hM : (F.take j).map (·.seq) = M at *
    have hm1 : M.length + 1 ≤ maxLen := by unfold maxLen; omega
    have hm2 : (M.length + 1) * 8 ≤ 140737488355328 := by omega
    simp -implicitDefEqProofs only [go_sem, encYd, hjl, hjl', h0j, at_en he, in_en he, encEn]
    intro b8
    simp -implicitDefEqProofs only [go_sem, encYd, encEn, hws]
    refine run_call (p_impl_within e.seq 1 (y.seq - 1)) (by simp -implicitDefEqProofs only [go_sem, encYd, encEn, hws]) fun η => ?_
    simp -implicitDefEqProofs only [go_sem, encYd, encEn, hws]
    cases hr : decide (1 ≤ e.seq ∧ e.seq ≤ y.seq - 1)
    · have hb : yardOkB y = false := yard_no fun h => by
        have := h.seqs.range e (by rw [hF]; exact List.mem_of_getElem? he)
        simp [this] at hr
      simp -implicitDefEqProofs only [go_sem, encYd, hr, hb]
    have hr' : 1 ≤ e.seq ∧ e.seq ≤ y.seq - 1 := of_decide_eq_true hr
    simp -implicitDefEqProofs only [go_sem, encYd, encEn, hr]
    refine run_call (p_ContainsI M e.seq (by omega)) (by simp -implicitDefEqProofs only [go_sem, encYd, encEn]) fun η => ?_
    simp -implicitDefEqProofs only [go_sem, encYd, encEn]
    by_cases hin : e.seq ∈ M
    · have hb : yardOkB y = false := yard_no fun h => by
        rw [← hM] at hin
        obtain ⟨e2, h3, h4⟩ := List.mem_map.1 hin
        obtain ⟨m, hm, rfl⟩ := List.getElem_of_mem h3
        have hm' : m < j := by rw [List.length_take] at hm; omega
        rw [List.getElem_take] at h4
        exact seq_dup he hm' (List.getElem?_eq_getElem (by omega)) h4 (by rw [← hF]; exact h.seqs.apart)
      simp -implicitDefEqProofs only [go_sem, encYd, encEn, hin, hb]
    · simp -implicitDefEqProofs only [go_sem, encYd, encEn, hin, hm1, hm2, ints_snoc1, hw]
      intro η7 η8
      exact ⟨(j + 1, η8), ⟨hjl, fun e2 h2 => by rw [List.take_add_one, he] at h2; rcases List.mem_append.1 h2 with h2 | h2; exact hjo e2 h2; simp at h2; subst h2; exact hr', seq_new he (by rw [hM]; exact hjd) (fun e2 h2 h3 => hin (by rw [← hM]; exact List.mem_map.2 ⟨e2, h2, h3⟩))⟩, (wk_of [some 100, some 5, some 6900] (by simp -implicitDefEqProofs only [go_sem, encYd, hmt] <;> and_intros <;> first | rfl | assumption)), by (try dsimp only); omega⟩
  have hjl' : ¬ (j : Int) < F.length := by omega
  rw [List.take_of_length_le (by omega)] at hjo hjd
  simp -implicitDefEqProofs only [go_sem, encYd, hjl']
  refine wp_loopW (fun i : Nat => St.of [(1, Bx 100 b), (5, Hd 5 (ηe 0)), (72, Ro (encRns y.runs)), (73, Ni y.runs.length), (74, Ni i)] [(100, Bi b _ (encYd y)), (5, .loose (encEns F) (ηe 0))]) (fun i => i ≤ y.runs.length ∧ ∀ (k : Nat) (r : Rn), k < i → y.runs[k]? = some r → RunOkP r ∧ runAt y r.id = k ∧ RunIn y r F) (fun i => y.runs.length - i) 0 (by (try dsimp only); first | omega | (simp; done) | (and_intros <;> first | omega | simp)) (wk_of [some 100, some 5] (by simp -implicitDefEqProofs only [go_sem, encYd] <;> and_intros <;> first | rfl | assumption)) ?_
  rintro m ⟨hm, hmo⟩
  by_cases hml : m < y.runs.length
  · have hml' : (m : Int) < y.runs.length := by omega
    obtain ⟨r, hr⟩ := get_some hml
    have hw : IntKind.i64.wrap ((m : Int) + 1) = ((m + 1 : Nat) : Int) := wrap64 (by omega) (by omega)
    have hre : r.plan.edges.length ≤ 4000000 := by
      have h5 := tsum_succ (tot := totRn) hr
      have h6 := tsum_le totRn y.runs (m + 1)
      have h7 : tsum totRn y.runs ≤ 2000000 := by simp only [totYd, totRns] at ht; omega
      have h8 : r.plan.edges.length ≤ totRn r := by simp only [totRn, totPl]; omega
      omega
    simp -implicitDefEqProofs only [go_sem, encYd, hml, hml', elem_encRns hr, encRn, encPl]
    intro b10
    refine run_call (p_impl_RunOk r hre) (by simp -implicitDefEqProofs only [go_sem, encYd, encRn, encPl]) fun η => ?_
    simp -implicitDefEqProofs only [go_sem, encYd, encRn, encPl]
    cases hs : runOkB r
    · have hb : yardOkB y = false := yard_no fun h => by have := runOk_iff.2 (h.right r (List.mem_of_getElem? hr)); rw [hs] at this; cases this
      simp -implicitDefEqProofs only [go_sem, encYd, hs, hb]
    have hrP := runOk_iff.1 hs
    obtain ⟨n, hn, hn1, h12, h30, hes, hnd, -, -, hwt⟩ := pf_0 hrP.plan
    have hlen := hrP.len
    simp -implicitDefEqProofs only [go_sem, encYd, hs, encRn, encPl]
    refine run_call (p_impl_RunAt y r.id) (by simp -implicitDefEqProofs only [go_sem, encYd, encRn, encPl]) fun η => ?_
    simp -implicitDefEqProofs only [go_sem, encYd, encRn, encPl]
    cases hat : runAt y r.id != (m : Int)
    rotate_left
    · have hb : yardOkB y = false := yard_no fun h => by have := h.place m r hr; simp [this] at hat
      simp -implicitDefEqProofs only [go_sem, encYd, hat, hb]
    have hat' : runAt y r.id = m := by simpa using hat
    simp -implicitDefEqProofs only [go_sem, encYd, hat, encRn, encPl]
    refine run_call (p_impl_runsOk y r F (by omega) (by omega) hnow hwt) (by simp -implicitDefEqProofs only [go_sem, encYd, encRn, encPl]) fun η => ?_
    simp -implicitDefEqProofs only [go_sem, encYd, encRn, encPl]
    cases hri : runInB y r F
    · have hb : yardOkB y = false := yard_no fun h => by have := runIn_yes (h.runs r (List.mem_of_getElem? hr)); rw [hF, hri] at this; cases this
      simp -implicitDefEqProofs only [go_sem, encYd, hri, hb]
    · simp -implicitDefEqProofs only [go_sem, encYd, hri, hw]
      exact ⟨m + 1, ⟨hml, fun k2 r2 h2 hr2 => by rcases Nat.lt_or_ge k2 m with h' | h'; exact hmo k2 r2 h' hr2; obtain rfl : k2 = m := (by omega); rw [hr] at hr2; cases hr2; exact ⟨hrP, hat', runIn_iff.1 hri⟩⟩, (wk_of [some 100, some 5] (by simp -implicitDefEqProofs only [go_sem, encYd] <;> and_intros <;> first | rfl | assumption)), by (try dsimp only); omega⟩
  have hml' : ¬ (m : Int) < y.runs.length := by omega
  have hall : ∀ (k : Nat) (r : Rn), y.runs[k]? = some r → RunOkP r ∧ runAt y r.id = k ∧ RunIn y r F := fun k r h => hmo k r (by have := (List.getElem?_eq_some_iff.1 h).1; omega) h
  simp -implicitDefEqProofs only [go_sem, encYd, hml']
  refine run_call (p_impl_SlotsOf y ht) (by simp -implicitDefEqProofs only [go_sem, encYd]) fun η => ?_
  simp -implicitDefEqProofs only [go_sem, encYd]
  have hb : yardOkB y = decide (slotsOf y ≤ 40) := by
    by_cases h40 : slotsOf y ≤ 40
    · rw [yard_yes ⟨hnow, hseq, h4', by omega, hko, by rw [hF]; exact ⟨hjo, hjd⟩, fun r hr => by obtain ⟨k, hk, rfl⟩ := List.getElem_of_mem hr; exact (hall k _ (List.getElem?_eq_getElem hk)).1, fun k r hr => (hall k r hr).2.1, fun r hr => by obtain ⟨k, hk, rfl⟩ := List.getElem_of_mem hr; rw [hF]; exact (hall k _ (List.getElem?_eq_getElem hk)).2.2, h40⟩]
      simp [h40]
    · rw [yard_no fun h => h40 h.slots]; simp [h40]
  simp -implicitDefEqProofs only [go_sem, hb]
end Go.Proofs.YtnhdcbhcocgjhaaGreat
set_option linter.unusedSimpArgs false
set_option linter.unusedVariables false
set_option maxRecDepth 100000
namespace Go.Proofs.YtnhdcbhcocgjhaaGreat
open Go.RowKit Go.Sort
theorem rns_get {l : List Rn} {k j : Nat} {r : Rn} (h : l[k]? = some r) (hj : j < 8) : (l.flatMap encRn)[k * 8 + j]? = (encRn r)[j]? := by
  rw [split_flat (enc := encRn) h, List.getElem?_append_right (by rw [take_len (enc := encRn) (size := 8) (fun _ => rfl) h]; omega), take_len (enc := encRn) (size := 8) (fun _ => rfl) h, Nat.add_sub_cancel_left, List.getElem?_append_left (by exact hj)]
theorem get_rns5 {l : List Rn} {k : Nat} {r : Rn} (h : l[k]? = some r) : D.get [k * 8 + 5] (encRns l) = some (encEds r.plan.edges) := by
  have := rns_get (j := 5) h (by decide)
  simp [encRns, D.get, this, encRn, encPl, get_nil]
theorem get_rns7 {l : List Rn} {k : Nat} {r : Rn} (h : l[k]? = some r) : D.get [k * 8 + 7] (encRns l) = some (encTks r.tasks) := by
  have := rns_get (j := 7) h (by decide)
  simp [encRns, D.get, this, encRn, encPl, get_nil]
theorem get_rns5' {l : List Rn} {k : Nat} {r : Rn} (h : l[k]? = some r) : D.get [k * 8 + 1 + 1 + 1 + 1 + 1] (encRns l) = some (encEds r.plan.edges) := get_rns5 h
theorem get_rns7' {l : List Rn} {k : Nat} {r : Rn} (h : l[k]? = some r) : D.get [k * 8 + 1 + 1 + 1 + 1 + 1 + 1 + 1] (encRns l) = some (encTks r.tasks) := get_rns7 h
theorem at_rn {l : List Rn} {k : Nat} {x : Rn} (hx : l[k]? = some x) : ((l.flatMap encRn).drop (k * 8)).take 8 = encRn x := at1_flat (enc := encRn) (size := 8) (fun _ => rfl) hx (j := 0) (n := 8) (by decide)
theorem in_rn {l : List Rn} {k : Nat} {x : Rn} (hx : l[k]? = some x) : k * 8 + 8 ≤ (l.flatMap encRn).length := in1_flat (enc := encRn) (size := 8) (fun _ => rfl) hx (j := 0) (n := 8) (by decide)
end Go.Proofs.YtnhdcbhcocgjhaaGreat
set_option linter.unusedSimpArgs false
set_option linter.unusedVariables false
set_option maxRecDepth 100000
namespace Go.Proofs.YtnhdcbhcocgjhaaGreat
open Go.RowKit Go.Sort
end Go.Proofs.YtnhdcbhcocgjhaaGreat
set_option linter.unusedSimpArgs false
set_option linter.unusedVariables false
namespace Go.Proofs.YtnhdcbhcocgjhaaGreat
open Go.RowKit Go.Sort Go.Lib
theorem run_copy_k {P : Program} (w : World) (dT sT ty elem : TypeId) (k b o dLen dCap : Nat) (a : Addr) (sLen sCap : Nat) (cs : List Value)
    (hu : P.underlying dT = some (.slice elem)) (hs : (P.info? elem).map (·.size) = some k) (hn : cs.length = Nat.min sLen dLen * k)
    (hsrc : ∀ j v, cs[j]? = some v → w.cell? (a.add j) = some v) (hc : ∀ j, j < cs.length → (w.cell? ⟨b, o + j, none⟩).isSome = true) (hf : ∀ j, j < cs.length → w.frozen? ⟨b, o + j, none⟩ = false) (h1 : ∀ v ∈ cs, v.oneCell' = true) :
    (Builtin.copy_ #[dT, sT] ty #[.slice (some ⟨b, o, none⟩) dLen dCap, .slice (some a) sLen sCap]).run P w = .ok (goInt (Nat.min sLen dLen)) (w.setCells b o cs) := by
  have hl := run_loadCells_list (P := P) w a cs hsrc
  have hst := run_storeCells_cells (P := P) b o cs 0 w (by simpa using hc) (by simpa using hf) h1
  cases hq : P.info? elem with
  | none => simp [hq] at hs
  | some i =>
    have hi : i.size = k := by simpa [hq] using hs
    simp [Builtin.copy_, run_underlying hu, Builtin.lenOf, Builtin.firstCells, sizeOf, typeInfo, hq, hi, ← hn, hl, hst]
abbrev fIns : FuncId := 183
abbrev tEs : TypeId := 103
set_option maxHeartbeats 4000000 in
set_option maxRecDepth 100000 in
/-- There is room, i < len(s): in place. -/
theorem ins_shift (b n c i vb vc : Nat) (cs vs : List Value) (w : World) (hi : i < n) (hroom : n + 1 ≤ c) (hc63 : c ≤ 9223372036854775807) (hvb : vb ≠ b)
    (hcl : cs.length = n * 4) (hvl : vs.length = 4)
    (hcs : ∀ j v, cs[j]? = some v → w.cell? ⟨b, j, none⟩ = some v) (hsp : ∀ j, j < (n + 1) * 4 → (w.cell? ⟨b, j, none⟩).isSome = true) (hfz : ∀ j, j < (n + 1) * 4 → w.frozen? ⟨b, j, none⟩ = false)
    (hvs : ∀ j v, vs[j]? = some v → w.cell? ⟨vb, j, none⟩ = some v) (h1c : ∀ v ∈ cs, v.oneCell' = true) (h1v : ∀ v ∈ vs, v.oneCell' = true)
    (tA tB : TypeId) (kA kB : Nat) (hsa : w.shape? vb = some (tA, kA)) (hsb : w.shape? b = some (tB, kB)) (hkB : kB ≠ 0) (hfa : w.frozen? ⟨vb, 0, none⟩ = false) (hfe : w.frozen? ⟨vb, kA, none⟩ = false) :
    Calls Tryz.prog fIns #[.slice (some ⟨b, 0, none⟩) n c, .int .i64 i, .slice (some ⟨vb, 0, none⟩) 1 vc] w fun e w' =>
      e = .returned (.slice (some ⟨b, 0, none⟩) (n + 1) c) ∧ w' = (w.drew.setCells b ((i + 1) * 4) (cs.drop (i * 4))).setCells b (i * 4) vs := by
  have hz1 : ¬ ((1 : Int) = 0) := by omega
  have hz2 : ¬ ((i : Int) = (n : Int)) := by omega
  have hov : ∀ lb cb, (callFunc 210 #[.slice (some ⟨vb, 0, none⟩) 1 vc, .slice (some ⟨b, (i + 1) * 4, none⟩) lb cb]).run Tryz.prog w = .ok (.value (.bool false)) w := fun lb cb => by
    rw [run_callFunc_extern Tryz.func210 (by kernel_rfl) (by kernel_rfl) (by kernel_rfl) (e := Extern.SlicesOverlaps.overlaps #[tEs, tEs] #[4]) (by kernel_rfl),
      Lib.run_overlaps_apart w tEs 4 tEn slEn.1 4 Tryz.sizeOf108 ⟨vb, 0, none⟩ ⟨b, (i + 1) * 4, none⟩ 1 vc lb cb hvb tA tB kA kB hsa hsb hkB hfa hfe]
    rfl
  have hu : Tryz.prog.underlying tEs = some (.slice tEn) := slEn.1
  have mixed : Tryz.prog.follows .mixedOrders = true := by kernel_rfl
  have t105 := Tryz.underlying103
  have a105 := Tryz.isAgg103
  have z105 := Tryz.sizeOf103
  have u3 := Tryz.underlying3
  have a3 := Tryz.isAgg3
  have z3 := Tryz.sizeOf3
  have u4 := Tryz.underlying4
  have z107 := Tryz.sizeOf108
  have hdl : (cs.drop (i * 4)).length = (n - i) * 4 := by rw [List.length_drop, hcl]; omega
  have hw1 : IntKind.i64.wrap ((i : Int) + 1) = (i : Int) + 1 := by rw [IntKind.wrap_i64]; omega
  have hwn : IntKind.i64.wrap ((n : Int) + 1) = (n : Int) + 1 := by rw [IntKind.wrap_i64]; omega
  have hb1 : (0 : Int) ≤ (i : Int) + 1 := by omega
  have hb0 : (0 : Int) ≤ (n : Int) + 1 := by omega
  have hin : i ≤ n := by omega
  have htn : ((i : Int) + 1).toNat = i + 1 := by omega
  have htn2 : ((n : Int) + 1).toNat = n + 1 := by omega
  have hb2 : ¬ (c = i + 1) := by omega
  have hb3 : (i : Int) ≤ (n : Int) + 1 := by omega
  have hb4 : ¬ (c = i) := by omega
  have hgt : ¬ ((n : Int) + 1 > (c : Int)) := by omega
  have hcp1 : ∀ ty dc sc, (Builtin.copy_ #[tEs, tEs] ty #[.slice (some ⟨b, (i + 1) * 4, none⟩) (n - i) dc, .slice (some ⟨b, i * 4, none⟩) (n + 1 - i) sc]).run Tryz.prog w.drew = .ok (goInt (Nat.min (n + 1 - i) (n - i))) (w.drew.setCells b ((i + 1) * 4) (cs.drop (i * 4))) := fun ty dc sc =>
    run_copy_k w.drew _ _ ty tEn 4 b ((i + 1) * 4) (n - i) dc ⟨b, i * 4, none⟩ (n + 1 - i) sc (cs.drop (i * 4)) hu szEn (by rw [hdl]; congr 1; simp only [Nat.min_def]; split <;> omega)
      (fun j v hj => by rw [Addr.add_lit]; exact hcs (i * 4 + j) v (by rwa [List.getElem?_drop] at hj))
      (fun j hj => hsp _ (by omega)) (fun j hj => hfz _ (by omega)) (fun v hv => h1c v (List.mem_of_mem_drop hv))
  obtain ⟨W1, hW1⟩ : ∃ W1, W1 = w.drew.setCells b ((i + 1) * 4) (cs.drop (i * 4)) := ⟨_, rfl⟩
  have hsp1 : ∀ k, k < (n + 1) * 4 → (W1.cell? ⟨b, k, none⟩).isSome = true := fun k hk => by
    rw [hW1]
    exact isSome_setCells b (cs.drop (i * 4)) ((i + 1) * 4) w.drew (fun j hj => hsp _ (by omega)) k (hsp k hk)
  have hcp2 : ∀ (W : World), (∀ x, W.cell? x = W1.cell? x) → (∀ x, W.frozen? x = W1.frozen? x) → ∀ ty dc, (Builtin.copy_ #[tEs, tEs] ty #[.slice (some ⟨b, i * 4, none⟩) (n + 1 - i) dc, .slice (some ⟨vb, 0, none⟩) 1 vc]).run Tryz.prog W = .ok (goInt (Nat.min 1 (n + 1 - i))) (W.setCells b (i * 4) vs) := fun W hWc hWf ty dc =>
    run_copy_k W _ _ ty tEn 4 b (i * 4) (n + 1 - i) dc ⟨vb, 0, none⟩ 1 vc vs hu szEn (by rw [hvl]; simp only [Nat.min_def]; split <;> omega)
      (fun j v hj => by
        rw [Addr.add_lit, Nat.zero_add, hWc, hW1, World.cell?_setCells_out b _ _ _ _ (fun h _ => absurd h hvb)]
        exact hvs j v hj)
      (fun j hj => by rw [hWc]; exact hsp1 _ (by omega)) (fun j hj => by rw [hWf, hW1, World.frozen?_setCells]; exact hfz _ (by omega)) h1v
  rw [← hW1] at hcp1
  go_enter Tryz.func183, Tryz.ntmps183
  go_wp2_with (simp only [hov])
  go_region_law_o (refine step_copy_runI rfl _ _ tEs tEs rfl _ _ (by simp [Act.eval, Act.put]) (by simp [Act.eval, Act.put]) (hcp1 _ _ _) ?_)
  go_wp2_with (at_builtin; refine wpList_copy_runI _ rfl _ _ tEs tEs rfl _ _ rfl rfl (hcp2 _ (fun _ => rfl) (fun _ => rfl) _ _) ?_)
  go_ret
  first | exact ⟨rfl, rfl⟩ | exact ⟨rfl, by rw [hW1]⟩
set_option maxHeartbeats 4000000 in
set_option maxRecDepth 100000 in
/-- No room, i < len(s): a new row. -/
theorem ins_grow (b n c i vb vc : Nat) (cs vs : List Value) (w : World) (hi : i < n) (hnc : n ≤ c) (hroom : c < n + 1) (hbig : (n + 1) * 32 ≤ 140737488355328)
    (hcl : cs.length = n * 4) (hvl : vs.length = 4)
    (hcs : ∀ j v, cs[j]? = some v → w.cell? ⟨b, j, none⟩ = some v) (hvs : ∀ j v, vs[j]? = some v → w.cell? ⟨vb, j, none⟩ = some v) (h1c : ∀ v ∈ cs, v.oneCell' = true) (h1v : ∀ v ∈ vs, v.oneCell' = true) :
    Calls Tryz.prog fIns #[.slice (some ⟨b, 0, none⟩) n c, .int .i64 i, .slice (some ⟨vb, 0, none⟩) 1 vc] w fun e w' => ∃ (G : Nat) (ROW : Array Value), n + 1 ≤ G ∧ G ≤ maxLen ∧ ROW.size = G * 4 ∧ (∀ j, j < i * 4 → ROW[j]? = cs[j]?) ∧
      e = .returned (.slice (some ⟨w.heap.size, 0, none⟩) (n + 1) G) ∧
      w' = (((w.alloc (.cells ROW tEn)).drew.setCells w.heap.size (i * 4) vs).drew).setCells w.heap.size ((i + 1) * 4) (cs.drop (i * 4)) := by
  have hu : Tryz.prog.underlying tEs = some (.slice tEn) := slEn.1
  have mixed : Tryz.prog.follows .mixedOrders = true := by kernel_rfl
  have t105 := Tryz.underlying103
  have a105 := Tryz.isAgg103
  have z105 := Tryz.sizeOf103
  have u3 := Tryz.underlying3
  have a3 := Tryz.isAgg3
  have z3 := Tryz.sizeOf3
  have u4 := Tryz.underlying4
  have z107 := Tryz.sizeOf108
  obtain ⟨i0, zv, hi0, hz0, hzc, hzs, hzb⟩ := slEn.info
  have hz1 : ¬ ((1 : Int) = 0) := by omega
  have hz2 : ¬ ((i : Int) = (n : Int)) := by omega
  have hz3 : (c : Int) < (n : Int) + 1 := by omega
  have hbw : b < w.heap.size := block_lt_of_cell (hcs 0 _ (List.getElem?_eq_getElem (by omega)))
  have hvw : vb < w.heap.size := block_lt_of_cell (hvs 0 _ (List.getElem?_eq_getElem (by omega)))
  have hkk : (n : Int) + 1 - (i : Int) = ((n + 1 - i : Nat) : Int) := by omega
  have hik : i + (n + 1 - i) = n + 1 := by omega
  have hold : (Builtin.firstCells i0.size i (.slice (some ⟨b, 0, none⟩) i c)).run Tryz.prog w.drew = .ok (cs.take (i * 4)).toArray w.drew := by
    rw [hzs]
    exact run_firstCells_some (w := w.drew) 4 i ⟨b, 0, none⟩ i c (cs.take (i * 4)) (by rw [List.length_take]; omega) (fun j v hj => by
      rw [Addr.add_lit, Nat.zero_add]
      rw [List.getElem?_take] at hj
      split at hj
      · exact hcs j v hj
      · cases hj)
  have hrz : ∀ ty, (Builtin.append_ #[tEs, 3] ty #[.slice (some ⟨b, 0, none⟩) i c, .int .i64 ((n : Int) + 1 - (i : Int))]).run Tryz.prog w =
      .ok (.slice (some ⟨w.heap.size, 0, none⟩) (n + 1) (grownCap w (n + 1) c tEn)) (w.drew.alloc (.cells ((cs.take (i * 4)).toArray ++ Builtin.zeroCells zv.cells (n + 1 - i) ++ Builtin.zeroCells zv.cells (grownCap w (n + 1) c tEn - (n + 1))) tEn)) := fun ty => by
    have h := Lib.run_append_grow_zeros w tEs 3 ty tEn i0 _ .i64 .i64 hu u3 hi0 hz0 (some ⟨b, 0, none⟩) i c (cs.take (i * 4)) hold (n + 1 - i) (by omega) (by omega) (by omega) (by omega) (by rw [hzb]; omega) (by rw [hzb, hik]; exact growslice_fits hroom hbig)
    rw [hik] at h
    rw [hkk]
    exact h
  obtain ⟨G, hG⟩ : ∃ G, G = grownCap w (n + 1) c tEn := ⟨_, rfl⟩
  obtain ⟨ROW, hROW⟩ : ∃ ROW : Array Value, ROW = (cs.take (i * 4)).toArray ++ Builtin.zeroCells zv.cells (n + 1 - i) ++ Builtin.zeroCells zv.cells (G - (n + 1)) := ⟨_, rfl⟩
  rw [← hG] at hrz
  rw [← hROW] at hrz
  have hzl : zv.cells.size = 4 := by rw [hzc]; rfl
  have hGn : n + 1 ≤ G := by rw [hG]; exact grownCap_ge w _ _ _
  have hGm : G ≤ maxLen := by rw [hG]; exact grownCap_le_maxLen w (n + 1) c tEn (by unfold maxLen; omega)
  have hRs : ROW.size = G * 4 := by
    rw [hROW]
    simp [Builtin.zeroCells, hzl]
    omega
  have hRt : ∀ j, j < i * 4 → ROW[j]? = cs[j]? := fun j hj => by
    rw [hROW, Array.append_assoc, Array.getElem?_append_left (by simp; omega)]
    simp [List.getElem?_take, hj]
  have hRl : (n + 1) * 4 ≤ ROW.size := by rw [hRs]; omega
  obtain ⟨W1, hW1⟩ : ∃ W1, W1 = w.drew.alloc (.cells ROW tEn) := ⟨_, rfl⟩
  rw [← hW1] at hrz
  have hN : ∀ j, j < (n + 1) * 4 → (W1.cell? ⟨w.heap.size, j, none⟩).isSome = true := fun j hj => by
    rw [hW1, World.cell?_alloc_at (w := w.drew) ROW _ w.heap.size j rfl, Array.getElem?_eq_getElem (by omega)]; rfl
  have hNf : ∀ j, W1.frozen? ⟨w.heap.size, j, none⟩ = false := fun j => by rw [hW1]; exact World.frozen?_alloc_at (w := w.drew) ROW _ w.heap.size j rfl
  have hOb : ∀ j v, w.cell? ⟨b, j, none⟩ = some v → W1.cell? ⟨b, j, none⟩ = some v := fun j v h => by rw [hW1, World.cell?_alloc_past (w := w.drew) _ b j hbw]; exact h
  have hOv : ∀ j v, w.cell? ⟨vb, j, none⟩ = some v → W1.cell? ⟨vb, j, none⟩ = some v := fun j v h => by rw [hW1, World.cell?_alloc_past (w := w.drew) _ vb j hvw]; exact h
  have hcpA : ∀ (W : World), (∀ x, W.cell? x = W1.cell? x) → (∀ x, W.frozen? x = W1.frozen? x) → ∀ ty dc, (Builtin.copy_ #[tEs, tEs] ty #[.slice (some ⟨w.heap.size, i * 4, none⟩) (n + 1 - i) dc, .slice (some ⟨vb, 0, none⟩) 1 vc]).run Tryz.prog W = .ok (goInt (Nat.min 1 (n + 1 - i))) (W.setCells w.heap.size (i * 4) vs) := fun W hWc hWf ty dc =>
    run_copy_k W _ _ ty tEn 4 w.heap.size (i * 4) (n + 1 - i) dc ⟨vb, 0, none⟩ 1 vc vs hu szEn (by rw [hvl]; simp only [Nat.min_def]; split <;> omega)
      (fun j v hj => by rw [Addr.add_lit, Nat.zero_add, hWc]; exact hOv _ v (hvs j v hj))
      (fun j hj => by rw [hWc]; exact hN _ (by omega)) (fun j hj => by rw [hWf]; exact hNf _) h1v
  have hG63 : G ≤ 9223372036854775807 := by
    unfold maxLen at hGm
    omega
  have hGi : ¬ (G = i) := by omega
  have hGim : ¬ (G = i + 1) := by omega
  have hci : ¬ (c = i) := by omega
  have hbN : b ≠ w.heap.size := by omega
  have hdl : (cs.drop (i * 4)).length = (n - i) * 4 := by rw [List.length_drop, hcl]; omega
  have hcpB : ∀ (W : World), (∀ x, W.cell? x = (W1.setCells w.heap.size (i * 4) vs).cell? x) → (∀ x, W.frozen? x = (W1.setCells w.heap.size (i * 4) vs).frozen? x) → ∀ ty dc sc, (Builtin.copy_ #[tEs, tEs] ty #[.slice (some ⟨w.heap.size, (i + 1) * 4, none⟩) (n - i) dc, .slice (some ⟨b, i * 4, none⟩) (n - i) sc]).run Tryz.prog W = .ok (goInt (Nat.min (n - i) (n - i))) (W.setCells w.heap.size ((i + 1) * 4) (cs.drop (i * 4))) := fun W hWc hWf ty dc sc =>
    run_copy_k W _ _ ty tEn 4 w.heap.size ((i + 1) * 4) (n - i) dc ⟨b, i * 4, none⟩ (n - i) sc (cs.drop (i * 4)) hu szEn (by rw [hdl]; congr 1; simp only [Nat.min_def]; split <;> omega)
      (fun j v hj => by
        rw [Addr.add_lit, hWc, World.cell?_setCells_out _ _ _ _ _ (fun h _ => absurd h hbN)]
        exact hOb _ v (hcs (i * 4 + j) v (by rwa [List.getElem?_drop] at hj)))
      (fun j hj => by rw [hWc]; exact isSome_setCells w.heap.size vs (i * 4) W1 (fun t ht => hN _ (by omega)) _ (hN _ (by omega)))
      (fun j hj => by rw [hWf, World.frozen?_setCells]; exact hNf _) (fun v hv => h1c v (List.mem_of_mem_drop hv))
  subst hW1
  have hE1 : ∀ x, ((w.alloc (.cells ROW tEn)).drew).cell? x = (w.drew.alloc (.cells ROW tEn)).cell? x := fun x => rfl
  have hE2 : ∀ x, ((w.alloc (.cells ROW tEn)).drew).frozen? x = (w.drew.alloc (.cells ROW tEn)).frozen? x := fun x => rfl
  have hF1 : ∀ x, (((w.alloc (.cells ROW tEn)).drew.setCells w.heap.size (i * 4) vs).drew).cell? x = ((w.drew.alloc (.cells ROW tEn)).setCells w.heap.size (i * 4) vs).cell? x := fun x => rfl
  have hF2 : ∀ x, (((w.alloc (.cells ROW tEn)).drew.setCells w.heap.size (i * 4) vs).drew).frozen? x = ((w.drew.alloc (.cells ROW tEn)).setCells w.heap.size (i * 4) vs).frozen? x := fun x => rfl
  have hw1 : IntKind.i64.wrap ((i : Int) + 1) = (i : Int) + 1 := by rw [IntKind.wrap_i64]; omega
  have hwn : IntKind.i64.wrap ((n : Int) + 1) = (n : Int) + 1 := by rw [IntKind.wrap_i64]; omega
  have hwk : IntKind.i64.wrap ((n : Int) + 1 - (i : Int)) = (n : Int) + 1 - (i : Int) := by rw [IntKind.wrap_i64]; omega
  have hb1 : (0 : Int) ≤ (i : Int) + 1 := by omega
  have hin : i ≤ n := by omega
  have htn : ((i : Int) + 1).toNat = i + 1 := by omega
  have hb3 : (i : Int) ≤ (n : Int) := by omega
  clear hkk hik hold hROW hG hRl
  go_enter Tryz.func183, Tryz.ntmps183
  go_wp2_with (first
    | (at_builtin; refine Lib.wpList_append_run _ rfl _ _ _ _ rfl _ _ rfl rfl _ _ (hrz _) ?_)
    | (at_builtin; refine wpList_copy_runI _ rfl _ _ tEs tEs rfl _ _ rfl rfl (hcpA _ hE1 hE2 _ _) ?_)
    | (at_builtin; refine wpList_copy_runI _ rfl _ _ tEs tEs rfl _ _ rfl rfl (hcpB _ (fun _ => rfl) (fun _ => rfl) _ _ _) ?_))
  go_region_law_o (refine step_copy_runI rfl _ _ tEs tEs rfl (.slice (some ⟨w.heap.size, (i + 1) * 4, none⟩) (n - i) (G - (i + 1))) (.slice (some ⟨b, i * 4, none⟩) (n - i) (c - i)) (by simp [Act.eval, Act.put]) (by simp [Act.eval, Act.put]) (hcpB _ hF1 hF2 3 (G - (i + 1)) (c - i)) ?_)
  go_wp2
  go_ret
  exact ⟨G, ROW, hGn, hGm, hRs, hRt, rfl, rfl⟩
set_option maxHeartbeats 4000000 in
set_option maxRecDepth 100000 in
/-- At the end: an append. -/
theorem ins_end (A : Option Addr) (n c vb vc : Nat) (w : World) (v' : Value) (w' : World) (hnc : n ≤ c) (hc63 : c ≤ 9223372036854775807) (hA : A = none → c = 0) (hA2 : ∀ a, A = some a → ∃ b, a = ⟨b, 0, none⟩)
    (hrun : (Builtin.append_ #[tEs, tEs] tEs #[.slice A n c, .slice (some ⟨vb, 0, none⟩) 1 vc]).run Tryz.prog w = .ok v' w') :
    Calls Tryz.prog fIns #[.slice A n c, .int .i64 n, .slice (some ⟨vb, 0, none⟩) 1 vc] w fun e w1 => e = .returned v' ∧ w1 = w' := by
  have mixed : Tryz.prog.follows .mixedOrders = true := by kernel_rfl
  have t105 := Tryz.underlying103
  have a105 := Tryz.isAgg103
  have z105 := Tryz.sizeOf103
  have u3 := Tryz.underlying3
  have a3 := Tryz.isAgg3
  have z3 := Tryz.sizeOf3
  have u4 := Tryz.underlying4
  have z107 := Tryz.sizeOf108
  have hz1 : ¬ ((1 : Int) = 0) := by omega
  go_enter Tryz.func183, Tryz.ntmps183
  cases A with
  | none =>
    have h0 := hA rfl
    subst h0
    obtain rfl : n = 0 := by omega
    go_wp2_with (at_builtin; refine Lib.wpList_append_run _ rfl _ _ _ _ rfl _ _ rfl rfl _ _ hrun ?_)
    go_ret
    exact ⟨rfl, rfl⟩
  | some a =>
    obtain ⟨b, rfl⟩ := hA2 a rfl
    go_wp2_with (at_builtin; refine Lib.wpList_append_run _ rfl _ _ _ _ rfl _ _ rfl rfl _ _ hrun ?_)
    all_goals (go_ret; exact ⟨rfl, rfl⟩)
def insL (l : List En) (i : Nat) (e : En) : List En := l.take i ++ e :: l.drop i
def valsEn (l : List En) : List Value := l.flatMap fun e => [.int .i64 e.prio, .int .i64 e.seq, .int .i64 e.run, .int .i64 e.task]
theorem valsEn_len (l : List En) : (valsEn l).length = l.length * 4 := by
  induction l with
  | nil => rfl
  | cons a l ih => simp only [valsEn, List.flatMap_cons, List.length_append] at ih ⊢; simp [ih]; omega
theorem vals_inv {w : World} {own : Bool} : ∀ {l : List En} {vs : List Value} {S : List Nat}, RepL w own (l.flatMap encEn) vs S → vs = valsEn l ∧ S = []
  | [], _, _, h => by obtain ⟨rfl, rfl⟩ := h; exact ⟨rfl, rfl⟩
  | e :: l, vs, S, h => by
    rw [List.flatMap_cons] at h
    obtain ⟨v1, v2, S1, S2, rfl, rfl, h1, h2⟩ := RepL.append_inv _ h
    obtain ⟨rfl, rfl⟩ := en_cells h1
    obtain ⟨rfl, rfl⟩ := vals_inv h2
    exact ⟨rfl, rfl⟩
theorem vals_mk (w : World) (own : Bool) : ∀ (l : List En), RepL w own (l.flatMap encEn) (valsEn l) []
  | [] => ⟨rfl, rfl⟩
  | e :: l => by
    have := RepL.append_ _ (en_mk w own e) (vals_mk w own l)
    simpa [valsEn] using this
theorem valsEn_one (l : List En) : ∀ v ∈ valsEn l, v.oneCell' = true := by
  intro v hv
  obtain ⟨e, _, h⟩ := List.mem_flatMap.1 hv
  simp at h
  rcases h with rfl | rfl | rfl | rfl <;> rfl
theorem valsEn_take (l : List En) (i : Nat) (hi : i ≤ l.length) : (valsEn l).take (i * 4) = valsEn (l.take i) ∧ (valsEn l).drop (i * 4) = valsEn (l.drop i) := by
  have e1 : valsEn l = valsEn (l.take i) ++ valsEn (l.drop i) := by rw [valsEn, valsEn, valsEn, ← List.flatMap_append, List.take_append_drop]
  have h1 : (valsEn (l.take i)).length = i * 4 := by rw [valsEn_len, List.length_take, Nat.min_eq_left hi]
  rw [e1]
  exact ⟨List.take_left' h1, List.drop_left' h1⟩
theorem valsEn_ins (l : List En) (i : Nat) (e : En) : valsEn (insL l i e) = valsEn (l.take i) ++ (valsEn [e] ++ valsEn (l.drop i)) := by
  simp [insL, valsEn]
theorem shape_of {w : World} {b : Nat} {cur : Array Value} {ty : TypeId} (h : w.heap[b]? = some (.cells cur ty (0, 0))) : w.shape? b = some (ty, cur.size) ∧ ∀ j, w.frozen? ⟨b, j, none⟩ = false := by
  refine ⟨by simp [World.shape?, h], fun j => by simp [World.frozen?, h]⟩
theorem cell_of {w : World} {b : Nat} {cur : Array Value} {ty : TypeId} (h : w.heap[b]? = some (.cells cur ty (0, 0))) (j : Nat) : w.cell? ⟨b, j, none⟩ = cur[j]? := by simp [World.cell?, h]
theorem take_get {α : Type} {us cs : List α} {k : Nat} (h : us.take k = cs) {j : Nat} {v : α} (hj : cs[j]? = some v) : us[j]? = some v := by
  rw [← h, List.getElem?_take] at hj
  split at hj
  · exact hj
  · cases hj
theorem row_mk {w : World} {b n cap : Nat} {us : List Value} {l : List En} (hb : w.heap[b]? = some (.cells us.toArray tEn (0, 0))) (hn : n = l.length) (hc : n ≤ cap) (hm : cap ≤ maxLen) (hs : us.length = cap * 4) (ht : us.take (n * 4) = valsEn l) : Rep w true (encEns l) (.slice (some ⟨b, 0, none⟩) n cap) [b] := by
  subst hn
  exact ⟨valsEn l, [b], [], ⟨l.length, ⟨valsEn_len l, .inr ⟨b, cap, us.toArray, rfl, Nat.zero_le _, hb, hc, hm, by simpa using hs, by simpa using ht⟩⟩, rfl⟩, vals_mk _ _ _, by simp⟩
set_option maxHeartbeats 4000000 in
theorem ins_rep (l : List En) (i : Nat) (e : En) (hi : i ≤ l.length) (hl : l.length ≤ 4000000) {B : Nat} {w : World} {x x2 : Value} {S1 S2 : List Nat} (r1 : Rep w true (encEns l) x S1) (r2 : Rep w true (encEns [e]) x2 S2) (hF : Fresh B (S1 ++ S2)) (hB : B ≤ w.heap.size) :
    Calls Tryz.prog fIns #[x, .int .i64 i, x2] w fun en w' => ∃ v S, en = .returned v ∧ Rep w' true (encEns (insL l i e)) v S ∧ Fresh B S ∧ Only S1 w w' ∧ ∀ s ∈ S, s ∈ S1 ∨ w.heap.size ≤ s := by
  have r1' := r1
  obtain ⟨vs1, T1, o1, h1, rfl⟩ := Rep.own (enc := encEn) enc4 (by decide) r1
  obtain ⟨rfl, rfl⟩ := vals_inv h1
  obtain ⟨vs2, T2, o2, h2, rfl⟩ := Rep.own (enc := encEn) enc4 (by decide) r2
  obtain ⟨rfl, rfl⟩ := vals_inv h2
  rcases o2.2 with ⟨_, hz⟩ | ⟨vb, vc, cv, rfl, _, hbv, hv1, hv2, hv3, hv4⟩
  · simp at hz
  simp only [List.length_cons, List.length_nil, Nat.zero_add] at hv4 ⊢ hv1
  have hvs : ∀ j v, (valsEn [e])[j]? = some v → w.cell? ⟨vb, j, none⟩ = some v := fun j v hj => by
    rw [cell_of hbv, ← Array.getElem?_toList]; exact take_get hv4 hj
  rcases Nat.lt_or_ge i l.length with hlt | hge
  · rcases o1.2 with ⟨_, hz⟩ | ⟨b, c, cu, rfl, _, hbc, hc1, hc2, hc3, hc4⟩
    · omega
    have hcs : ∀ j v, (valsEn l)[j]? = some v → w.cell? ⟨b, j, none⟩ = some v := fun j v hj => by
      rw [cell_of hbc, ← Array.getElem?_toList]; exact take_get hc4 hj
    have hbB : B ≤ b := hF.2 b (by simp [blk])
    have hne : vb ≠ b := fun h => by subst h; have := hF.1; simp [blk] at this
    obtain ⟨t1, t2⟩ := valsEn_take l i hi
    have hfin := valsEn_ins l i e
    have hlen : (insL l i e).length = l.length + 1 := by simp [insL]; omega
    have hl4 := valsEn_len l
    have hd4 : (valsEn (l.drop i)).length = (l.length - i) * 4 := by rw [valsEn_len, List.length_drop]
    have ht4 : (valsEn (l.take i)).length = i * 4 := by rw [valsEn_len, List.length_take, Nat.min_eq_left hi]
    have he4 : (valsEn [e]).length = 4 := rfl
    by_cases hroom : l.length + 1 ≤ c
    · obtain ⟨sv1, sv2⟩ := shape_of hbv
      obtain ⟨sb1, sb2⟩ := shape_of hbc
      have hcul : cu.toList.length = c * 4 := by simpa using hc3
      refine (ins_shift b l.length c i vb vc (valsEn l) (valsEn [e]) w hlt hroom (by unfold maxLen at hc2; omega) hne (valsEn_len l) rfl hcs (fun j hj => by rw [cell_of hbc, Array.getElem?_eq_getElem (by omega)]; rfl) (fun j _ => sb2 j) hvs (valsEn_one l) (valsEn_one [e]) _ _ _ _ sv1 sb1 (by omega) (sv2 0) (sv2 _)).mono ?_
      rintro en w' ⟨rfl, rfl⟩
      have hcu : w.drew.heap[b]? = some (.cells cu.toList.toArray tEn (0, 0)) := by rw [Array.toArray_toList]; exact hbc
      obtain ⟨q1, q2⟩ := heap_setCells ((valsEn l).drop (i * 4)) w.drew b ((i + 1) * 4) cu.toList tEn hcu
      obtain ⟨q3, q4⟩ := heap_setCells (valsEn [e]) _ b (i * 4) _ tEn q1
      have s1 := setCells_rest ((valsEn l).drop (i * 4)) w.drew b ((i + 1) * 4)
      have s2 := setCells_rest (valsEn [e]) (w.drew.setCells b ((i + 1) * 4) ((valsEn l).drop (i * 4))) b (i * 4)
      refine ⟨_, [b], rfl, row_mk q3 hlen.symm hroom hc2 ?_ ?_, Fresh.one _ _ hbB, ⟨by rw [s2.1, s1.1]; rfl, by rw [s2.2.1, s1.2.1]; rfl, by rw [s2.2.2.1, s1.2.2.1]; rfl, by rw [s2.2.2.2, s1.2.2.2]; exact Nat.le_refl _, fun k hk hkn => ?_⟩, fun s hs => .inl (by simpa [blk] using hs)⟩
      · rw [t2, setAt_eq _ _ _ (by rw [setAt_eq _ _ _ (by omega)]; simp only [List.length_append, List.length_take, List.length_drop]; omega), setAt_eq _ _ _ (by omega)]
        simp only [List.length_append, List.length_take, List.length_drop]; omega
      · rw [t2, setAt_eq (valsEn (l.drop i)) cu.toList _ (by omega)]
        have p1 : cu.toList.take ((i + 1) * 4) = cu.toList.take (i * 4) ++ (cu.toList.drop (i * 4)).take 4 := by
          rw [show (i + 1) * 4 = i * 4 + 4 by omega, List.take_add]
        have p2 : cu.toList.take (i * 4) = valsEn (l.take i) := by
          rw [← t1, ← hc4, List.take_take, Nat.min_eq_left (by omega)]
        have p3 : ((cu.toList.drop (i * 4)).take 4).length = 4 := by rw [List.length_take, List.length_drop]; omega
        rw [p1, p2]
        generalize (cu.toList.drop (i * 4)).take 4 = X at p3
        generalize cu.toList.drop ((i + 1) * 4 + (valsEn (l.drop i)).length) = Y
        have hX0 : setAt X 0 (valsEn [e]) = valsEn [e] := by
          rw [setAt_eq _ _ _ (by omega), List.take_zero, List.nil_append, List.drop_eq_nil_of_le (by omega), List.append_nil]
        have hA : valsEn (l.take i) ++ X ++ valsEn (l.drop i) ++ Y = valsEn (l.take i) ++ (X ++ (valsEn (l.drop i) ++ Y)) := by simp only [List.append_assoc]
        rw [hA, setAt_app (j := 0) (by omega) (by omega), hX0, hfin]
        have hB2 : valsEn (l.take i) ++ (valsEn [e] ++ (valsEn (l.drop i) ++ Y)) = (valsEn (l.take i) ++ (valsEn [e] ++ valsEn (l.drop i))) ++ Y := by simp only [List.append_assoc]
        rw [hB2]
        exact List.take_left' (by simp only [List.length_append]; omega)
      · rw [q4 k (by simpa [blk] using hkn), q2 k (by simpa [blk] using hkn)]; rfl
    · refine (ins_grow b l.length c i vb vc (valsEn l) (valsEn [e]) w hlt hc1 (by omega) (by omega) (valsEn_len l) rfl hcs hvs (valsEn_one l) (valsEn_one [e])).mono ?_
      rintro en w' ⟨G, ROW, g1, g2, g3, g4, rfl, rfl⟩
      have hrl : ROW.toList.length = G * 4 := by simpa using g3
      have hnew : ((w.alloc (.cells ROW tEn)).drew).heap[w.heap.size]? = some (.cells ROW.toList.toArray tEn (0, 0)) := by
        rw [Array.toArray_toList]; exact heap_alloc_new w (.cells ROW tEn)
      obtain ⟨q1, q2⟩ := heap_setCells (valsEn [e]) ((w.alloc (.cells ROW tEn)).drew) w.heap.size (i * 4) ROW.toList tEn hnew
      obtain ⟨q3, q4⟩ := heap_setCells ((valsEn l).drop (i * 4)) (((w.alloc (.cells ROW tEn)).drew.setCells w.heap.size (i * 4) (valsEn [e])).drew) w.heap.size ((i + 1) * 4) _ tEn q1
      have s1 := setCells_rest (valsEn [e]) ((w.alloc (.cells ROW tEn)).drew) w.heap.size (i * 4)
      have s2 := setCells_rest ((valsEn l).drop (i * 4)) (((w.alloc (.cells ROW tEn)).drew.setCells w.heap.size (i * 4) (valsEn [e])).drew) w.heap.size ((i + 1) * 4)
      have hal : Below w.heap.size w (w.alloc (.cells ROW tEn)) := (Below.refl _ _).alloc (by simp) _
      refine ⟨_, [w.heap.size], rfl, row_mk q3 hlen.symm g1 g2 ?_ ?_, Fresh.one _ _ hB, ⟨by rw [s2.1]; exact s1.1.trans hal.os, by rw [s2.2.1]; exact s1.2.1.trans hal.tape, by rw [s2.2.2.1]; exact s1.2.2.1.trans hal.output, ?_, fun k hk hkn => ?_⟩, fun s hs => .inr (by simp at hs; omega)⟩
      · rw [t2, setAt_eq _ _ _ (by rw [setAt_eq _ _ _ (by omega)]; simp only [List.length_append, List.length_take, List.length_drop]; omega), setAt_eq _ _ _ (by omega)]
        simp only [List.length_append, List.length_take, List.length_drop]; omega
      · rw [t2, setAt_eq (valsEn [e]) ROW.toList _ (by omega)]
        have p2 : ROW.toList.take (i * 4) = valsEn (l.take i) := by
          rw [← t1]
          apply List.ext_getElem?
          intro j
          rw [List.getElem?_take, List.getElem?_take]
          split
          · rename_i hj; rw [Array.getElem?_toList]; exact g4 j hj
          · rfl
        rw [p2]
        generalize hY : ROW.toList.drop (i * 4 + (valsEn [e]).length) = Y
        have hYl : Y.length = G * 4 - (i * 4 + 4) := by rw [← hY, List.length_drop, hrl, he4]
        have hA : (valsEn (l.take i) ++ valsEn [e] ++ Y).take ((i + 1) * 4) = valsEn (l.take i) ++ valsEn [e] := List.take_left' (by rw [List.length_append, ht4, he4]; omega)
        rw [setAt_eq _ _ _ (by simp only [List.length_append]; omega), hA, hfin, ← List.append_assoc (valsEn (l.take i)) (valsEn [e])]
        exact List.take_left' (by simp only [List.length_append]; omega)
      · have h5 := hal.size
        have h6 : (w.alloc (.cells ROW tEn)).drew.heap.size = (w.alloc (.cells ROW tEn)).heap.size := rfl
        rw [s2.2.2.2]
        show _ ≤ ((w.alloc (.cells ROW tEn)).drew.setCells w.heap.size (i * 4) (valsEn [e])).heap.size
        rw [s1.2.2.2, h6]; exact h5
      · rw [q4 k (by omega)]
        show ((w.alloc (.cells ROW tEn)).drew.setCells w.heap.size (i * 4) (valsEn [e])).heap[k]? = _
        rw [q2 k (by omega)]
        exact hal.block k hk
  · obtain rfl : i = l.length := by omega
    obtain ⟨i0, zv, hi0, hz0, hzc, hzs, hzb⟩ := slEn.info
    have hzo : zeroOf Tryz.prog tEn = some [.int .i64 0, .int .i64 0, .int .i64 0, .int .i64 0] := by kernel_rfl
    have hrep : Rep w true (.sl i0.size tEn (l.flatMap encEn)) x (blk x ++ []) := by rw [hzs]; exact r1'
    obtain ⟨v', w', S', k1, k2, k3, k4, k5⟩ := append_run (P := Tryz.prog) (B := B) (ty := tEs) (t := tEs) (ys := [e].flatMap encEn) (c := vc) (m := 1) slEn.1 hi0 hzo (by omega) hrep (vals_mk w true [e]) (by rw [hzs]; rfl) (A := some ⟨vb, 0, none⟩) (fun h => by cases h) (fun ad had j u hj => by
      cases had
      rw [Addr.add_lit, Nat.zero_add]; exact hvs j u hj) (valsEn_one [e]) (by simpa using hF.left) hB (by rw [hzs, len_flat enc4, len_flat enc4]; simp [maxLen]; omega) (by rw [hzs, hzb, len_flat enc4, len_flat enc4]; simp; omega)
    have hend : insL l l.length e = l ++ [e] := by simp [insL]
    rw [hzs, ← List.flatMap_append] at k2
    have key : ∀ (A : Option Addr) (n c : Nat), x = .slice A n c → n = l.length → n ≤ c → c ≤ maxLen → (A = none → c = 0) → (∀ a, A = some a → ∃ b, a = ⟨b, 0, none⟩) → Calls Tryz.prog fIns #[x, .int .i64 l.length, .slice (some ⟨vb, 0, none⟩) 1 vc] w fun e w1 => e = .returned v' ∧ w1 = w' := fun A n c hx hn hnc hcm hA hA2 => by
      subst hx; subst hn
      exact ins_end A l.length c vb vc w v' w' hnc (by unfold maxLen at hcm; omega) hA hA2 k1
    have hC : Calls Tryz.prog fIns #[x, .int .i64 l.length, .slice (some ⟨vb, 0, none⟩) 1 vc] w fun e w1 => e = .returned v' ∧ w1 = w' := by
      rcases o1.2 with ⟨rfl, h0⟩ | ⟨b, c, cu, rfl, _, hbc, hc1, hc2, hc3, hc4⟩
      · exact key none 0 0 rfl h0.symm (Nat.le_refl _) (Nat.zero_le _) (fun _ => rfl) (fun a h => by cases h)
      · exact key _ _ c rfl rfl hc1 hc2 (fun h => by cases h) (fun a h => by cases h; exact ⟨_, rfl⟩)
    refine hC.mono ?_
    rintro en w1 ⟨rfl, rfl⟩
    refine ⟨v', S', rfl, by rw [hend]; exact k2, k3, k4, fun s hs => ?_⟩
    rcases k5 s hs with h | h | h
    · exact .inl h
    · simp at h
    · exact .inr h
/-- The contract: given entries of one's own, and one more, moved away. -/
theorem t_Insert (l : List En) (i : Nat) (e : En) (hi : i ≤ l.length) (hl : l.length ≤ 4000000) {o : Nat → Ob} {g g2 : Nat} {η η2 : Heads} (ho : o g = .loose (encEns l) η) (ho2 : o g2 = .loose (encEns [e]) η2) (hne : g2 ≠ g) :
    Turns Tryz.prog fIns [.c (.h g 0 [] (η [])), .c (.v (.int .i64 i)), .c (.h g2 0 [] (η2 []))] o (fun rt o' => rt = .c (encEns (insL l i e)) ∧ o' = fun k => if k = g2 then .none else if k = g then .none else o k) :=
  ⟨⟨_, Tryz.func183, by kernel_rfl, by kernel_rfl⟩, fun B w F xs hR hxs => by
    obtain ⟨x, xs1, rfl, ⟨rfl, _⟩, _, xs2, rfl, rfl, x2, xs3, rfl, ⟨rfl, _⟩, rfl⟩ := hxs
    have h1 := hR.ob g
    have h2 := hR.ob g2
    simp only at h1 h2
    rw [ho] at h1
    rw [ho2] at h2
    obtain ⟨_, u1, r1, e1⟩ := h1
    obtain ⟨_, u2, r2, e2⟩ := h2
    have q1 : η [] = u1 := e1 []
    have q2 : η2 [] = u2 := e2 []
    rw [q1, q2]
    have hB : B ≤ w.heap.size := Nat.le_trans hR.hB hR.below.size
    have hF1 := hR.fr g
    have hF2 := hR.fr g2
    have hlt : ∀ k, ∀ b ∈ F k, b < w.heap.size := fun k b hb => (hR.ob k).lt b hb
    have hF : Fresh B (F g ++ F g2) := ⟨List.nodup_append.2 ⟨hF1.1, hF2.1, fun a ha b hb hab => hR.dj g g2 (Ne.symm hne) a ha (hab ▸ hb)⟩, fun b hb => by
      rcases List.mem_append.1 hb with hb | hb
      · exact hF1.2 b hb
      · exact hF2.2 b hb⟩
    refine (ins_rep l i e hi hl r1 r2 hF hB).mono ?_
    rintro en w' ⟨v, S, rfl, hrep, hfr, honly, hS⟩
    have t1 := (hR.setO (g := g) (ob := .none) (S := []) rfl (Fresh.nil _) (by simp)).setO (g := g2) (ob := .none) (S := []) rfl (Fresh.nil _) (by simp)
    have t2 := t1.world' (honly.below (fun s hs => hF1.2 s hs) hB) fun k b hb => by
      split at hb
      · simp at hb
      · split at hb
        · simp at hb
        · rename_i hk
          exact honly.block b (hlt k b hb) fun h => hR.dj k g hk b hb h
    refine ⟨v, .c (encEns (insL l i e)), _, S, _, rfl, t2, hrep, hfr, fun k b hb => ?_, rfl, rfl⟩
    split
    · simp
    · split
      · simp
      · rename_i hk
        intro hb'
        rcases hS b hb with h | h
        · exact hR.dj k g hk b hb' h
        · have := hlt k b hb'; omega⟩
end Go.Proofs.YtnhdcbhcocgjhaaGreat
set_option linter.unusedSimpArgs false
set_option linter.unusedVariables false
set_option maxRecDepth 100000
namespace Go.Proofs.YtnhdcbhcocgjhaaGreat
open Go.RowKit Go.Sort
def c_slices_IndexFunc_impl_Entry_impl_Entry_ : C := .seq (.reg [⟨some 4, none, .mov (.c (.int .i64 0))⟩]) (.seq (.seq (.reg [⟨some 6, none, .mov (.t 0)⟩, ⟨some 7, none, .len false (.t 6)⟩, ⟨some 8, none, .mov (.c (.int .i64 0))⟩]) (.blk 0 (.loop (.seq (.reg [⟨some 9, none, .bin .lss 3 (.t 8) (.t 7)⟩]) (.seq (.cond (.t 9) .skip (.exit 0)) (.seq (.blk 1 (.seq (.reg [⟨some 10, none, .mov (.t 8)⟩, ⟨some 5, none, .mov (.t 10)⟩]) (.seq (.reg [⟨some 11, none, .mov (.t 1)⟩, ⟨some 12, none, .mov (.t 0)⟩, ⟨some 13, none, .mov (.t 5)⟩, ⟨some 14, none, .ia 4 (.t 12) (.t 13)⟩, ⟨some 15, none, .ld true 4 (.t 14)⟩, ⟨some 16, none, .callv (.t 11) [.t 15]⟩]) (.cond (.t 16) (.seq (.reg [⟨some 17, none, .mov (.t 5)⟩, ⟨some 4, none, .mov (.t 17)⟩]) .ret) .skip)))) (.reg [⟨some 18, none, .bin .add 3 (.t 8) (.c (.int .i64 1))⟩, ⟨some 8, none, .mov (.t 18)⟩]))))))) (.seq (.reg [⟨some 4, none, .mov (.c (.int .i64 (-1)))⟩]) .ret))
theorem code_slices_IndexFunc_impl_Entry_impl_Entry_ : fnC Tryz.prog Tryz.f148 = some (c_slices_IndexFunc_impl_Entry_impl_Entry_, [.t 4], 19) := by kernel_rfl
set_option maxHeartbeats 4000000 in
theorem p_IndexFuncEn (l : List En) (f : Nat) (cd : List D) (p : En → Bool) (hf : ∀ x, Pure Tryz.prog f [.agg (encEn x), .ptr cd] (.c (.val (.bool (p x))))) (hl : l.length ≤ 4000000) : Pure Tryz.prog 148 [.c (encEns l), .fn f [cd]] (.c (.val (.int .i64 (findI p l)))) := by
  refine pure_fn Tryz.func148 code_slices_IndexFunc_impl_Entry_impl_Entry_ (by simp) ?_
  unfold c_slices_IndexFunc_impl_Entry_impl_Entry_
  simp -implicitDefEqProofs only [go_sem]
  refine wp_loopW (fun i : Nat => St.of [(0, Ro (encEns l)), (1, .fn f [.rp cd]), (7, Ni l.length), (8, Ni i)] []) (fun i => i ≤ l.length ∧ ∀ y ∈ l.take i, p y = false) (fun i => l.length - i) 0 (by (try dsimp only); first | omega | (simp; done) | (and_intros <;> first | omega | simp)) (wk_of [] (by simp -implicitDefEqProofs only [go_sem] <;> and_intros <;> first | rfl | assumption)) ?_
  rintro k ⟨hk, hko⟩
  by_cases hlt : k < l.length
  · have hlt' : (k : Int) < l.length := by omega
    have h0k : (k : Int) ≥ 0 := by omega
    obtain ⟨x, hx⟩ := get_some hlt
    have hw : IntKind.i64.wrap ((k : Int) + 1) = ((k + 1 : Nat) : Int) := wrap64 (by omega) (by omega)
    simp -implicitDefEqProofs only [go_sem, hlt, hlt', h0k, elem_encEns hx, encEn]
    refine run_callv (by simp -implicitDefEqProofs only [go_sem]; rfl) (hf x) (by simp -implicitDefEqProofs only [go_sem, encEn]) fun η => ?_
    cases hp : p x
    · simp -implicitDefEqProofs only [go_sem, hp, hw]
      exact ⟨k + 1, ⟨hlt, take_no hx hp hko⟩, (wk_of [] (by simp -implicitDefEqProofs only [go_sem] <;> and_intros <;> first | rfl | assumption)), by (try dsimp only); omega⟩
    · simp -implicitDefEqProofs only [go_sem, hp, findI_hit hx hp hko]
  · have hlt' : ¬ (k : Int) < l.length := by omega
    rw [List.take_of_length_le (by omega)] at hko
    simp -implicitDefEqProofs only [go_sem, hlt', findI_none hko]
theorem sh_map (sh : List (List En)) : (sh.flatMap fun es => [encEns es]) = sh.map encEns := by induction sh <;> simp_all
theorem set_same {α : Type} {l : List α} {k : Nat} {x : α} (h : l[k]? = some x) : l.set k x = l := by
  apply List.ext_getElem?
  intro j
  by_cases e : k = j
  · subst e; rw [List.getElem?_set_self (List.getElem?_eq_some_iff.1 h).1, h]
  · rw [List.getElem?_set_ne e]
end Go.Proofs.YtnhdcbhcocgjhaaGreat
set_option linter.unusedSimpArgs false
set_option linter.unusedVariables false
set_option maxRecDepth 100000
namespace Go.Proofs.YtnhdcbhcocgjhaaGreat
open Go.RowKit Go.Sort
def putK (l : List En) (e : En) : Nat := if findI (fun x => !aheadB x e) l < 0 then l.length else (findI (fun x => !aheadB x e) l).toNat
def putL (l : List En) (e : En) : List En := insL l (putK l e) e
theorem putK_at {l : List En} {e x : En} {k : Nat} (h : l[k]? = some x) (hx : aheadB x e = false) (hn : ∀ y ∈ l.take k, (fun x => !aheadB x e) y = false) : putK l e = k := by
  have h1 := findI_hit (f := fun x => !aheadB x e) h (by simp [hx]) hn
  rw [putK, h1, if_neg (by omega)]; exact Int.toNat_natCast k
theorem putK_end {l : List En} {e : En} (hn : ∀ y ∈ l, (fun x => !aheadB x e) y = false) : putK l e = l.length := by
  rw [putK, findI_none hn]; rfl
theorem putK_le (l : List En) (e : En) : putK l e ≤ l.length := by
  rcases findI_cases (fun x => !aheadB x e) l with ⟨_, h2⟩ | ⟨k, x, h1, h2, h3, h4⟩
  · rw [putK_end h2]; exact Nat.le_refl _
  · rw [putK, h1, if_neg (by omega), Int.toNat_natCast]; exact Nat.le_of_lt (List.getElem?_eq_some_iff.1 h2).1
theorem putL_len (l : List En) (e : En) : (putL l e).length = l.length + 1 := by
  have := putK_le l e
  simp [putL, insL]; omega
theorem ens_1 (e : En) : D.sl 4 tEn [.val (.int .i64 e.prio), .val (.int .i64 e.seq), .val (.int .i64 e.run), .val (.int .i64 e.task)] = encEns [e] := rfl
theorem ens_sn (l : List En) (e : En) : l.flatMap encEn ++ [.val (.int .i64 e.prio), .val (.int .i64 e.seq), .val (.int .i64 e.run), .val (.int .i64 e.task)] = (l ++ [e]).flatMap encEn := by simp [encEn]
theorem ens_fl (l m : List En) : l.flatMap encEn ++ m.flatMap encEn = (l ++ m).flatMap encEn := List.flatMap_append.symm
def c_spec_PutEntry : C := .seq (.reg [⟨some 3, none, .box 108 4 (.t 1)⟩, ⟨some 4, none, .mov (.c (.slice none 0 0))⟩]) (.seq (.reg [⟨some 5, none, .mov (.c (.int .i64 0))⟩]) (.seq (.blk 0 (.loop (.seq (.seq (.dreg (T.pure 0 ⟨some 7, none, .mov (.t 5)⟩ (T.pure 1 ⟨some 8, none, .mov (.t 0)⟩ (T.pure 2 ⟨some 9, none, .len false (.t 8)⟩ (T.pure 3 ⟨some 10, none, .bin .lss 3 (.t 7) (.t 9)⟩ (T.pure 4 ⟨some 11, none, .mov (.t 10)⟩ (T.pure 5 ⟨some 12, some (11, true), .mov (.t 0)⟩ (T.pure 6 ⟨some 13, some (11, true), .mov (.t 5)⟩ (T.pure 7 ⟨some 14, some (11, true), .ia 4 (.t 12) (.t 13)⟩ (T.pure 8 ⟨some 15, some (11, true), .ld true 4 (.t 14)⟩ (T.pure 9 ⟨some 16, some (11, true), .ld true 4 (.t 3)⟩ (T.alt ⟨some 17, some (11, true), .call 181 [.t 15, .t 16]⟩ [] (T.pure 11 ⟨some 18, none, .pick (.t 11) (.t 17) (.c (.bool false))⟩ T.done) T.stop)))))))))))) (.cond (.t 18) .skip (.exit 0))) (.blk 1 (.reg [⟨some 19, none, .mov (.t 5)⟩, ⟨some 20, none, .bin .add 3 (.t 19) (.c (.int .i64 1))⟩, ⟨some 5, none, .mov (.t 20)⟩]))))) (.seq (.reg [⟨some 21, none, .bsl 108 4 0 [] []⟩, ⟨some 22, none, .mov (.t 0)⟩, ⟨some 23, none, .mov (.t 5)⟩, ⟨some 24, none, .sl 4 (.t 22) none (some (.t 23))⟩, ⟨some 25, none, .app 108 4 32 (.t 21) (.t 24)⟩, ⟨some 6, none, .mov (.t 25)⟩]) (.seq (.reg [⟨some 26, none, .mov (.t 6)⟩, ⟨some 27, none, .ld true 4 (.t 3)⟩, ⟨some 28, none, .bsl 108 4 1 [none, none, none, none] [(0, 4, .t 27)]⟩, ⟨some 29, none, .app 108 4 32 (.t 26) (.t 28)⟩, ⟨some 6, none, .mov (.t 29)⟩]) (.seq (.reg [⟨some 30, none, .mov (.t 6)⟩, ⟨some 31, none, .mov (.t 0)⟩, ⟨some 32, none, .mov (.t 5)⟩, ⟨some 33, none, .sl 4 (.t 31) (some (.t 32)) none⟩, ⟨some 34, none, .app 108 4 32 (.t 30) (.t 33)⟩, ⟨some 4, none, .mov (.t 34)⟩]) .ret)))))
theorem code_spec_PutEntry : fnC Tryz.prog Tryz.f143 = some (c_spec_PutEntry, [.t 4], 35) := by kernel_rfl
def c_impl_PutEntry : C := .seq (.reg [⟨some 3, none, .box 108 4 (.t 1)⟩, ⟨some 4, none, .mov (.c (.slice none 0 0))⟩]) (.seq (.reg [⟨some 6, none, .mov (.t 0)⟩, ⟨some 7, none, .mkf 182 [.t 3]⟩, ⟨some 8, none, .call 148 [.t 6, .t 7]⟩, ⟨some 5, none, .mov (.t 8)⟩]) (.seq (.seq (.reg [⟨some 9, none, .mov (.t 5)⟩, ⟨some 10, none, .bin .lss 3 (.t 9) (.c (.int .i64 0))⟩]) (.cond (.t 10) (.reg [⟨some 11, none, .mov (.t 0)⟩, ⟨some 12, none, .len false (.t 11)⟩, ⟨some 5, none, .mov (.t 12)⟩]) .skip)) (.seq (.dreg (T.pure 0 ⟨some 13, none, .mov (.t 0)⟩ (T.pure 2 ⟨some 15, none, .mov (.t 5)⟩ (T.pure 3 ⟨some 16, none, .ld true 4 (.t 3)⟩ (T.alt ⟨some 14, none, .call 113 [.t 13]⟩ [3, 2] (T.alt ⟨some 17, none, .bsl 108 4 1 [none, none, none, none] [(0, 4, .t 16)]⟩ [2, 0] (T.alt ⟨some 18, none, .call 183 [.t 14, .t 15, .t 17]⟩ [] (T.pure 6 ⟨some 4, none, .mov (.t 18)⟩ T.done) T.stop) T.stop) (T.alt ⟨some 17, none, .bsl 108 4 1 [none, none, none, none] [(0, 4, .t 16)]⟩ [2, 0] (T.alt ⟨some 14, none, .call 113 [.t 13]⟩ [3, 2] (T.alt ⟨some 18, none, .call 183 [.t 14, .t 15, .t 17]⟩ [] (T.pure 6 ⟨some 4, none, .mov (.t 18)⟩ T.done) T.stop) T.stop) T.stop)))))) .ret)))
theorem code_impl_PutEntry : fnC Tryz.prog Tryz.f147 = some (c_impl_PutEntry, [.t 4], 19) := by kernel_rfl
def c_impl_PutEntry_1 : C := .seq (.reg [⟨some 2, none, .box 108 4 (.t 0)⟩, ⟨some 3, none, .mov (.c (.bool false))⟩]) (.seq (.reg [⟨some 4, none, .ld true 4 (.t 2)⟩, ⟨some 5, none, .ld true 4 (.t 1)⟩, ⟨some 6, none, .call 179 [.t 4, .t 5]⟩, ⟨some 7, none, .un .not (.t 6)⟩, ⟨some 3, none, .mov (.t 7)⟩]) .ret)
theorem code_impl_PutEntry_1 : fnC Tryz.prog Tryz.f182 = some (c_impl_PutEntry_1, [.t 3], 8) := by kernel_rfl
set_option maxHeartbeats 4000000 in
theorem p_spec_PutEntry (l : List En) (e : En) (hl : l.length ≤ 4000000) : Pure Tryz.prog 143 [.c (encEns l), .agg (encEn e)] (.c (encEns (putL l e))) := by
  refine pure_fn Tryz.func143 code_spec_PutEntry (by simp) ?_
  unfold c_spec_PutEntry
  simp -implicitDefEqProofs only [go_sem, encEn]
  intro b3
  refine wp_loopW (fun i : Nat => St.of [(0, Ro (encEns l)), (3, Bx 300 b3), (5, Ni i)] [(300, Bi b3 _ (encEn e))]) (fun i => i ≤ l.length ∧ ∀ y ∈ l.take i, (fun x => !aheadB x e) y = false) (fun i => l.length - i) 0 (by (try dsimp only); first | omega | (simp; done) | (and_intros <;> first | omega | simp)) (wk_of [some 300] (by simp -implicitDefEqProofs only [go_sem, encEn] <;> and_intros <;> first | rfl | assumption)) ?_
  rintro k ⟨hk, hko⟩
  have h0k : (k : Int) ≥ 0 := by omega
  have hkl := hk
  have htd : (l.drop k).take (l.length - k) = l.drop k := List.take_of_length_le (by rw [List.length_drop]; omega)
  obtain ⟨A, hA⟩ : ∃ A, l.take k ++ [e] = A := ⟨_, rfl⟩
  have hAl : A.length = k + 1 := by rw [← hA, List.length_append, List.length_take, Nat.min_eq_left hk]; rfl
  have hM : ∀ (hp : putK l e = k), encEns (putL l e) = encEns (A ++ l.drop k) := fun hp => by rw [putL, hp, insL, ← hA]; simp
  have l1 : (l.take k).length ≤ 4000000 := by rw [List.length_take]; omega
  have l2 : (l.drop k).length ≤ 4000000 := by rw [List.length_drop]; omega
  have m1 : (l.take k).length ≤ maxLen := by unfold maxLen; omega
  have m2 : (l.take k).length * 32 ≤ 140737488355328 := by omega
  have m3 : (l.take k).length + 1 ≤ maxLen := by unfold maxLen; omega
  have m4 : ((l.take k).length + 1) * 32 ≤ 140737488355328 := by omega
  have m5 : A.length + (l.drop k).length ≤ maxLen := by unfold maxLen; omega
  have m6 : (A.length + (l.drop k).length) * 32 ≤ 140737488355328 := by omega
  by_cases hlt : k < l.length
  · have hlt' : (k : Int) < l.length := by omega
    obtain ⟨x, hx⟩ := get_some hlt
    have hw : IntKind.i64.wrap ((k : Int) + 1) = ((k + 1 : Nat) : Int) := wrap64 (by omega) (by omega)
    simp -implicitDefEqProofs only [go_sem, encEn, hlt, hlt', h0k, elem_encEns hx]
    refine run_call (p_spec_Ahead x e) (by simp -implicitDefEqProofs only [go_sem, encEn]) fun η => ?_
    simp -implicitDefEqProofs only [go_sem, encEn]
    cases ha : aheadB x e
    · rw [hM (putK_at hx ha hko)]
      simp -implicitDefEqProofs only [go_sem, encEn, ha, hk, h0k, Nat.le_refl, htd, m1, m2, m3, m4, ens_sn, hA, m5, m6, ens_fl, fold_encEns']
    · simp -implicitDefEqProofs only [go_sem, encEn, ha, hw]
      exact ⟨k + 1, ⟨hlt, take_no hx (by simp [ha]) hko⟩, (wk_of [some 300] (by simp -implicitDefEqProofs only [go_sem, encEn] <;> and_intros <;> first | rfl | assumption)), by (try dsimp only); omega⟩
  have hlt' : ¬ (k : Int) < l.length := by omega
  have hko' : ∀ y ∈ l, (fun x => !aheadB x e) y = false := by rw [List.take_of_length_le (by omega)] at hko; exact hko
  rw [hM (by rw [putK_end hko']; omega)]
  simp -implicitDefEqProofs only [go_sem, encEn, hlt', hk, h0k, Nat.le_refl, htd, m1, m2, m3, m4, ens_sn, hA, m5, m6, ens_fl, fold_encEns']
theorem p_PutC (x e : En) : Pure Tryz.prog 182 [.agg (encEn x), .ptr (encEn e)] (.c (.val (.bool (!aheadB x e)))) := by
  refine pure_fn Tryz.func182 code_impl_PutEntry_1 (by simp) ?_
  unfold c_impl_PutEntry_1
  simp -implicitDefEqProofs only [go_sem, encEn]
  intro b2
  refine run_call (p_impl_Ahead x e) (by simp -implicitDefEqProofs only [go_sem, encEn]) fun η => ?_
  simp -implicitDefEqProofs only [go_sem, encEn]
set_option maxHeartbeats 4000000 in
theorem p_impl_PutEntry (l : List En) (e : En) (hl : l.length ≤ 4000000) : Pure Tryz.prog 147 [.c (encEns l), .agg (encEn e)] (.c (encEns (putL l e))) := by
  refine pure_fn Tryz.func147 code_impl_PutEntry (by simp) ?_
  unfold c_impl_PutEntry
  simp -implicitDefEqProofs only [go_sem, encEn]
  intro b3
  refine run_call (p_IndexFuncEn l _ (encEn e) (fun x => !aheadB x e) (fun x => p_PutC x e) hl) (by simp -implicitDefEqProofs only [go_sem, encEn]) fun η => ?_
  have hkl := putK_le l e
  have hfin : ∀ (n : Nat), putK l e = n → putL l e = insL l n e := fun n h => by rw [putL, h]
  by_cases hneg : findI (fun x => !aheadB x e) l < 0
  · have hp : putK l e = l.length := by rw [putK, if_pos hneg]
    rw [hfin _ hp]
    simp -implicitDefEqProofs only [go_sem, encEn, hneg]
    refine ⟨?_, ?_⟩
    · refine run_call (p_impl_copyEntries l hl) (by simp -implicitDefEqProofs only [go_sem, encEn, ens_1]) fun ηa => ?_
      simp -implicitDefEqProofs only [go_sem, encEn, ens_1]
      intro η17
      refine run_turn (R := fun rt _ => rt = .c (encEns (insL l l.length e))) (by simp -implicitDefEqProofs only [go_sem]; exact (t_Insert l l.length e (by omega) hl (by simp -implicitDefEqProofs only [go_sem]) (by simp -implicitDefEqProofs only [go_sem]) (by decide)).mono fun rt o' h => h.1) fun rt o' hR η => ?_
      subst hR
      simp -implicitDefEqProofs only [go_sem]
    · simp -implicitDefEqProofs only [go_sem, encEn, ens_1]
      intro η17
      refine run_call (p_impl_copyEntries l hl) (by simp -implicitDefEqProofs only [go_sem, encEn, ens_1]) fun ηa => ?_
      simp -implicitDefEqProofs only [go_sem, encEn, ens_1]
      refine run_turn (R := fun rt _ => rt = .c (encEns (insL l l.length e))) (by simp -implicitDefEqProofs only [go_sem]; exact (t_Insert l l.length e (by omega) hl (by simp -implicitDefEqProofs only [go_sem]) (by simp -implicitDefEqProofs only [go_sem]) (by decide)).mono fun rt o' h => h.1) fun rt o' hR η => ?_
      subst hR
      simp -implicitDefEqProofs only [go_sem]
  · have hn : findI (fun x => !aheadB x e) l = ((putK l e : Nat) : Int) := by rw [putK, if_neg hneg]; omega
    rw [hfin _ rfl]
    generalize putK l e = n at *
    have hn0 : ¬ (n : Int) < 0 := by omega
    rw [hn]
    simp -implicitDefEqProofs only [go_sem, encEn, hn0]
    refine ⟨?_, ?_⟩
    · refine run_call (p_impl_copyEntries l hl) (by simp -implicitDefEqProofs only [go_sem, encEn, ens_1]) fun ηa => ?_
      simp -implicitDefEqProofs only [go_sem, encEn, ens_1]
      intro η17
      refine run_turn (R := fun rt _ => rt = .c (encEns (insL l n e))) (by simp -implicitDefEqProofs only [go_sem]; exact (t_Insert l n e (by omega) hl (by simp -implicitDefEqProofs only [go_sem]) (by simp -implicitDefEqProofs only [go_sem]) (by decide)).mono fun rt o' h => h.1) fun rt o' hR η => ?_
      subst hR
      simp -implicitDefEqProofs only [go_sem]
    · simp -implicitDefEqProofs only [go_sem, encEn, ens_1]
      intro η17
      refine run_call (p_impl_copyEntries l hl) (by simp -implicitDefEqProofs only [go_sem, encEn, ens_1]) fun ηa => ?_
      simp -implicitDefEqProofs only [go_sem, encEn, ens_1]
      refine run_turn (R := fun rt _ => rt = .c (encEns (insL l n e))) (by simp -implicitDefEqProofs only [go_sem]; exact (t_Insert l n e (by omega) hl (by simp -implicitDefEqProofs only [go_sem]) (by simp -implicitDefEqProofs only [go_sem]) (by decide)).mono fun rt o' h => h.1) fun rt o' hR η => ?_
      subst hR
      simp -implicitDefEqProofs only [go_sem]
end Go.Proofs.YtnhdcbhcocgjhaaGreat
namespace Go.Proofs.YtnhdcbhcocgjhaaGreat
open Go.RowKit Go.Sort Go.BigFrame

end Go.Proofs.YtnhdcbhcocgjhaaGreat
set_option linter.unusedSimpArgs false
set_option linter.unusedVariables false
namespace Go.Proofs.YtnhdcbhcocgjhaaGreat
open Go.RowKit Go.Sort
section
variable {P : Program} {β : Nat} {s : St} {K : St → Prop} {Q : Ex → St → Prop}
theorem wp_gk {a : C} (h : WkK s (wpC P β a Q)) : wpC P β (.gh a) Q s := h
theorem WkK.of {K : St → Prop} (h : K s) : WkK s K := fun _ _ _ _ _ F hr => ⟨s, F, hr, h⟩
theorem WkK.wk {s' : St} (h : Wk s s') (hk : WkK s' K) : WkK s K := fun B N w0 w a F hr => let ⟨F', h1, _⟩ := h B N w0 w a F hr; hk B N w0 w a F' h1
theorem slice_one {u : Value} (h : ∃ A n c, u = .slice A n c) : u.oneCell' = true := by obtain ⟨_, _, _, rfl⟩ := h; rfl
theorem isSl_form {w : World} {own : Bool} {d : D} {u : Value} {S : List Nat} (hd : d.isSl = true) (h : Rep w own d u S) : ∃ A n c, u = .slice A n c := by
  cases d with
  | val _ => cases hd
  | sl _ _ _ => exact rep_form h
/-- An own slice becomes an object of its own; its header stays. -/
theorem wk_cut0 (g c g2 : Nat) {d : D} {η : Heads} (ho : (s.o g).own c = some (d, η)) (h2 : s.o g2 = .none) (hne : g2 ≠ g) (hk : (η []).oneCell' = true → WkK ((s.rm g c).setO g2 (.loose d η)) K) : WkK s K := by
  intro B N w0 w a F h
  obtain ⟨u, S, F', j1, j2, j3, j4, j5, j6, j7, j8⟩ := h.rm ho
  have e : η [] = u := by rw [j3, hdr_nil j1]
  exact hk (e ▸ slice_one (isSl_form j1 j2)) _ _ _ _ _ _ (j5.setO (g := g2) (ob := .loose d η) (S := S) ⟨j1, u, j2, j3⟩ j4 (fun g' _ b hb => j6 g' b hb))
theorem cRel_put {B : Nat} {w : World} {d : D} {η : Heads} {u : Value} {S2 : List Nat} (hd : d.isSl = true) (hr : Rep w true d u S2) (hh : ∀ p, η p = hdr w p d u) : ∀ {c : Nat} {l : List Cell} {us : List Value} {S : List Nat}, CRel B w l us S → l[c]? = some (.a (.v u)) →
    ∃ S', CRel B w (l.set c (.own d η)) us S' ∧ S'.Perm (S ++ S2)
  | _, [], _, _, _, h => by simp at h
  | 0, .a x :: l, _, S, ⟨v, us', rfl, h1, h2⟩, h => by
    simp at h; subst h
    have : v = u := h1
    subst this
    exact ⟨S2 ++ S, ⟨v, us', S2, S, rfl, rfl, hd, hr, hh, h2⟩, List.perm_append_comm⟩
  | 0, .own e ε :: l, _, _, _, h => by simp at h
  | c + 1, .a x :: l, _, S, ⟨v, us', rfl, h1, h2⟩, h => by
    simp at h
    obtain ⟨S', a1, a2⟩ := cRel_put hd hr hh h2 h
    exact ⟨S', ⟨v, us', rfl, h1, a1⟩, a2⟩
  | c + 1, .own e ε :: l, _, _, ⟨v, us', T1, T2, rfl, rfl, h1, h2, h3, h4⟩, h => by
    simp at h
    obtain ⟨S', a1, a2⟩ := cRel_put hd hr hh h4 h
    exact ⟨T1 ++ S', ⟨v, us', T1, S', rfl, rfl, h1, h2, h3, a1⟩, by rw [List.append_assoc]; exact List.Perm.append_left _ a2⟩
/-- A loose slice goes into a box, where its header lies. -/
theorem wk_graft0 (g c g2 : Nat) {b ty : Nat} {cs : List Cell} {d : D} {η : Heads} (hb : s.o g = .box b ty cs) (hc : cs[c]? = some (.a (.v (η [])))) (h2 : s.o g2 = .loose d η) (hk : WkK ((s.setO g2 .none).setO g (.box b ty (cs.set c (.own d η)))) K) : WkK s K := by
  intro B N w0 w a F h
  have hne : g2 ≠ g := fun e => by rw [e, hb] at h2; cases h2
  have h3 := h.ob g2
  rw [h2] at h3
  obtain ⟨k1, u, k2, k3⟩ := h3
  have e : η [] = u := by rw [k3, hdr_nil k1]
  rw [e] at hc
  have h4 := h.ob g
  rw [hb] at h4
  obtain ⟨us, S1, q1, q2, q3⟩ := h4
  obtain ⟨S', q4, q5⟩ := cRel_put k1 k2 k3 q2 hc
  have t1 := h.setO (g := g2) (ob := .none) (S := []) rfl (Fresh.nil _) (by simp)
  have hp : (b :: S').Perm (F g ++ F g2) := by rw [q3]; exact q5.cons b
  have hnd : (F g ++ F g2).Nodup := List.nodup_append.2 ⟨(h.fr g).1, (h.fr g2).1, fun x hx y hy e => h.dj g g2 (fun e => hne e.symm) x hx (e ▸ hy)⟩
  refine hk _ _ _ _ _ _ (t1.setO (g := g) (ob := .box b ty (cs.set c (.own d η))) (S := b :: S') ⟨us, S', q1, q4, rfl⟩ ⟨hp.nodup_iff.2 hnd, fun x hx => ?_⟩ (fun g' hg' x hx => ?_))
  · rcases List.mem_append.1 (hp.mem_iff.1 hx) with hx | hx
    · exact (h.fr g).2 x hx
    · exact (h.fr g2).2 x hx
  · split
    · simp
    · rename_i hg2
      intro hh
      rcases List.mem_append.1 (hp.mem_iff.1 hx) with hx | hx
      · exact h.dj g' g hg' x hh hx
      · exact h.dj g' g2 hg2 x hh hx
/-- The k-th cell of a slice, when it holds a slice: a new datum that stands for the same. -/
theorem cutN_rel {B : Nat} {w : World} {ob : Ob} {S : List Nat} {c k sz tyo : Nat} {ds0 : List D} {e : D} {η : Heads} (h : ORel B w ob S) (ho : ob.own c = some (.sl sz tyo ds0, η)) (hk : ds0[k]? = some e) :
    ∃ v Sk, Rep w true e v Sk ∧ (e.isSl = true → η [k] = v) ∧ (∀ x, e = .val x → v = x) ∧ (∀ b ∈ Sk, b ∈ S) ∧ (S.Nodup → Sk.Nodup) ∧ ∀ e' Sk', Rep w true e' v Sk' → ∃ η' S', ORel B w (ob.putOwn c (.sl sz tyo (ds0.set k e')) η') S' ∧ η' [] = η [] ∧ ∃ R, S.Perm (R ++ Sk) ∧ S'.Perm (R ++ Sk') := by
  obtain ⟨u, SA, Sd, SC, e1, a1, a2, a3, a4⟩ := oRel_split h ho
  obtain ⟨vs, T, S', hrow, hrl, rfl⟩ := a2
  obtain ⟨v, SA', Sk, SC', b1, rfl, b3, b4⟩ := repL_split hrl hk
  have hperm : ∀ X : List Nat, (SA ++ (T ++ (SA' ++ X ++ SC')) ++ SC).Perm ((SA ++ (T ++ (SA' ++ [] ++ SC')) ++ SC) ++ X) := fun X => by
    have e1 : SA ++ (T ++ (SA' ++ X ++ SC')) ++ SC = (SA ++ (T ++ SA')) ++ (X ++ (SC' ++ SC)) := by simp
    have e2 : (SA ++ (T ++ (SA' ++ [] ++ SC')) ++ SC) ++ X = (SA ++ (T ++ SA')) ++ ((SC' ++ SC) ++ X) := by simp
    rw [e1, e2]
    exact List.Perm.append_left _ List.perm_append_comm
  refine ⟨v, Sk, b3, fun hs => ?_, fun x hx => ?_, fun b hb => by rw [e1]; simp [hb], fun hnd => ?_, fun e' Sk' hr => ?_⟩
  · rw [a3]
    rcases own_cells hrow with ⟨_, rfl⟩ | ⟨gg, nn, cc, rfl, _, _, hcell, _⟩
    · simp at b1
    · simp only [hdr, hk, Nat.zero_add, hcell k v b1, Option.getD_some]
      exact hdr_nil hs
  · subst hx; exact b3.1
  · rw [e1] at hnd
    exact (List.nodup_append.1 ((hperm Sk).nodup_iff.1 hnd)).2.1
  · have hrep : Rep w true (.sl sz tyo (ds0.set k e')) u (T ++ (SA' ++ Sk' ++ SC')) := ⟨vs, T, _, hrow, b4 _ _ hr, rfl⟩
    refine ⟨fun p => hdr w p (.sl sz tyo (ds0.set k e')) u, _, a4 _ _ _ rfl hrep (fun _ => rfl), by rw [a3]; rfl, _, by rw [e1]; exact hperm Sk, hperm Sk'⟩
/-- The slice in the k-th cell of an own slice becomes an object of its own; its header stays. -/
theorem wk_cutN (g c k g2 : Nat) {sz tyo size ty : Nat} {ds0 cs : List D} {η : Heads} (ho : (s.o g).own c = some (.sl sz tyo ds0, η)) (hk : ds0[k]? = some (.sl size ty cs)) (h2 : s.o g2 = .none) (hne : g2 ≠ g)
    (hK : ∀ η2 η', η' [] = η [] → η2 [] = η [k] → (η [k]).oneCell' = true → WkK ((s.setO g ((s.o g).putOwn c (.sl sz tyo (ds0.set k (.val (η [k])))) η')).setO g2 (.loose (.sl size ty cs) η2)) K) : WkK s K := by
  intro B N w0 w a F h
  obtain ⟨v, Sk, a1, a2, _, a4, a5, a6⟩ := cutN_rel (h.ob g) ho hk
  have hv := a2 rfl
  obtain ⟨η', S', b1, b2, R, b3, b4⟩ := a6 (.val v) [] ⟨rfl, rfl⟩
  rw [List.append_nil] at b4
  have hnd := b3.nodup_iff.1 (h.fr g).1
  have hsub : ∀ b ∈ S', b ∈ F g := fun b hb => b3.mem_iff.2 (List.mem_append.2 (.inl (b4.mem_iff.1 hb)))
  have t1 := h.setO (g := g) b1 ⟨b4.nodup_iff.2 (List.nodup_append.1 hnd).1, fun b hb => (h.fr g).2 b (hsub b hb)⟩ (fun g' hg' b hb hh => h.dj g' g hg' b hh (hsub b hb))
  have t2 := t1.setO (g := g2) (ob := .loose (.sl size ty cs) (fun p => hdr w p (.sl size ty cs) v)) (S := Sk) ⟨rfl, v, a1, fun _ => rfl⟩ ⟨(List.nodup_append.1 hnd).2.1, fun b hb => (h.fr g).2 b (a4 b hb)⟩ (fun g' _ b hb => by
    split
    · exact fun hh => (List.nodup_append.1 hnd).2.2 b (b4.mem_iff.1 hh) b hb rfl
    · rename_i hgg
      exact fun hh => h.dj g' g hgg b hh (a4 b hb))
  have := hK (fun p => hdr w p (.sl size ty cs) v) η' b2 (by rw [hv]; rfl) (by rw [hv]; exact slice_one (rep_form a1))
  rw [hv] at this
  exact this _ _ _ _ _ _ t2
/-- A loose slice goes into a cell of an own slice, where its header lies. -/
theorem wk_graftN (g c k g2 : Nat) {sz tyo size ty : Nat} {ds0 cs : List D} {e : D} {η η2 : Heads} (ho : (s.o g).own c = some (.sl sz tyo ds0, η)) (hk : ds0[k]? = some e) (he : e = .val (η2 []) ∨ e = nilD (some (size, ty)) (η2 [])) (h2 : s.o g2 = .loose (.sl size ty cs) η2) (hne : g2 ≠ g)
    (hK : ∀ η', η' [] = η [] → WkK ((s.setO g2 .none).setO g ((s.o g).putOwn c (.sl sz tyo (ds0.set k (.sl size ty cs))) η')) K) : WkK s K := by
  intro B N w0 w a F h
  have h3 := h.ob g2
  rw [h2] at h3
  obtain ⟨_, u, k2, k3⟩ := h3
  have eu : η2 [] = u := by rw [k3]; rfl
  rw [eu] at he
  obtain ⟨v, Sk, a1, a2, a3, a4, a5, a6⟩ := cutN_rel (h.ob g) ho hk
  have hX : ∃ X, Rep w true (.sl size ty cs) v X ∧ (X = F g2 ∨ X = Sk) := by
    by_cases hn : u = .slice none 0 0 ∧ e = nilD (some (size, ty)) u
    · obtain ⟨hu, he'⟩ := hn
      subst hu
      have hcs : cs = [] := by
        obtain ⟨vs, T, S', hrow, hrl, _⟩ := k2
        rcases own_cells hrow with ⟨_, rfl⟩ | ⟨gg, nn, c2, e2, _⟩
        · exact List.eq_nil_of_length_eq_zero (RepL.length _ hrl).symm
        · cases e2
      subst hcs
      subst he'
      exact ⟨Sk, a1, .inr rfl⟩
    · refine ⟨F g2, ?_, .inl rfl⟩
      have hvu : v = u := by
        rcases he with he | he
        · exact a3 u he
        · refine a3 _ ?_
          by_cases hn' : u = .slice none 0 0
          · exact absurd ⟨hn', he⟩ hn
          · rw [he]
            obtain ⟨A, n, cc, rfl⟩ := rep_form k2
            unfold nilD
            split
            · rename_i e1; exact absurd e1 hn'
            · rfl
      exact hvu ▸ k2
  obtain ⟨X, hX1, hX2⟩ := hX
  obtain ⟨η', S', b1, b2, R, b3, b4⟩ := a6 (.sl size ty cs) X hX1
  have t1 := h.setO (g := g2) (ob := .none) (S := []) rfl (Fresh.nil _) (by simp)
  have hnd := b3.nodup_iff.1 (h.fr g).1
  have hR : ∀ b ∈ R, b ∈ F g := fun b hb => b3.mem_iff.2 (List.mem_append.2 (.inl hb))
  have hX3 : ∀ b ∈ X, b ∈ F g ∨ b ∈ F g2 := fun b hb => by
    rcases hX2 with rfl | rfl
    · exact .inr hb
    · exact .inl (a4 b hb)
  have hnd2 : (R ++ X).Nodup := by
    rcases hX2 with rfl | rfl
    · exact List.nodup_append.2 ⟨(List.nodup_append.1 hnd).1, (h.fr g2).1, fun x hx y hy e => h.dj g g2 (fun e => hne e.symm) x (hR x hx) (e ▸ hy)⟩
    · exact hnd
  refine hK η' b2 _ _ _ _ _ _ (t1.setO (g := g) (ob := (s.o g).putOwn c (.sl sz tyo (ds0.set k (.sl size ty cs))) η') b1 ⟨b4.nodup_iff.2 hnd2, fun x hx => ?_⟩ (fun g' hg' x hx => ?_))
  · rcases List.mem_append.1 (b4.mem_iff.1 hx) with hx | hx
    · exact (h.fr g).2 x (hR x hx)
    · rcases hX3 x hx with hx | hx
      · exact (h.fr g).2 x hx
      · exact (h.fr g2).2 x hx
  · split
    · simp
    · rename_i hg2
      intro hh
      rcases List.mem_append.1 (b4.mem_iff.1 hx) with hx | hx
      · exact h.dj g' g hg' x hh (hR x hx)
      · rcases hX3 x hx with hx | hx
        · exact h.dj g' g hg' x hh hx
        · exact h.dj g' g2 hg2 x hh hx
end
end Go.Proofs.YtnhdcbhcocgjhaaGreat
set_option linter.unusedSimpArgs false
set_option linter.unusedVariables false
set_option maxRecDepth 100000
namespace Go.Proofs.YtnhdcbhcocgjhaaGreat
open Go.RowKit Go.Sort
theorem xorI_b {a b : Int} (ha : 0 ≤ a ∧ a < 4294967296) (hb : 0 ≤ b ∧ b < 4294967296) : 0 ≤ xorI a b ∧ xorI a b < 4294967296 := by
  obtain ⟨a, rfl⟩ := Int.eq_ofNat_of_zero_le ha.1
  obtain ⟨b, rfl⟩ := Int.eq_ofNat_of_zero_le hb.1
  have h1 : a ^^^ b < 2 ^ 32 := Nat.xor_lt_two_pow (by omega) (by omega)
  have h2 : (BitVec.ofInt 64 (a : Int) ^^^ BitVec.ofInt 64 (b : Int)).toNat = a ^^^ b := by
    rw [BitVec.toNat_xor, BitVec.ofInt_natCast, BitVec.ofInt_natCast, BitVec.toNat_ofNat, BitVec.toNat_ofNat, Nat.mod_eq_of_lt (by omega), Nat.mod_eq_of_lt (by omega)]
  rw [xorI, h2, wrap64 (by omega) (by omega)]
  omega
theorem sumBit_b {c : Int} (h : 0 ≤ c ∧ c < 4294967296) : 0 ≤ sumBit c ∧ sumBit c < 4294967296 := by
  have h2 : c.tdiv 2 = c / 2 := Int.tdiv_eq_ediv_of_nonneg h.1
  have h3 : IntKind.i64.wrap (c.tdiv 2) = c / 2 := by rw [h2]; exact wrap64 (by omega) (by omega)
  rw [sumBit, h3]
  split
  · exact xorI_b (by omega) (by omega)
  · omega
theorem iterB_b {c : Int} (h : 0 ≤ c ∧ c < 4294967296) : ∀ n, 0 ≤ iterB n c ∧ iterB n c < 4294967296
  | 0 => h
  | n + 1 => sumBit_b (iterB_b h n)
theorem sumB_b {c : Int} (h : 0 ≤ c ∧ c < 4294967296) (b : UInt8) : 0 ≤ sumB c b ∧ sumB c b < 4294967296 := by
  have := b.toNat_lt
  refine iterB_b (xorI_b h ?_) 8
  rw [wrap64 (by omega) (by omega)]
  omega
theorem sumS_b (b : ByteArray) : 0 ≤ sumS b ∧ sumS b < 4294967296 := by
  refine xorI_b ?_ (by omega)
  have : ∀ (l : List UInt8) (c : Int), 0 ≤ c ∧ c < 4294967296 → 0 ≤ l.foldl sumB c ∧ l.foldl sumB c < 4294967296 := by
    intro l
    induction l with
    | nil => exact fun c h => h
    | cons x l ih => exact fun c h => ih _ (sumB_b h x)
  exact this _ _ (by omega)
def shN (id : Int) : Nat := (shelfI id).toNat
theorem shN_ (id : Int) : shelfI id = (shN id : Int) ∧ shN id < 4 := by
  have h := sumS_b (varS id)
  have h1 : 0 ≤ shelfI id ∧ shelfI id < 4 := by
    unfold shelfI
    split
    · omega
    · rw [Int.tmod_eq_emod_of_nonneg h.1]; omega
  unfold shN
  omega
def layL (prio id : Int) (ids : List Int) (s : List En × Int) : List En × Int := ids.foldl (fun s t => (putL s.1 ⟨prio, s.2, id, t⟩, s.2 + 1)) s
theorem layL_snoc (prio id : Int) (ids : List Int) (t : Int) (s : List En × Int) : layL prio id (ids ++ [t]) s = (putL (layL prio id ids s).1 ⟨prio, (layL prio id ids s).2, id, t⟩, (layL prio id ids s).2 + 1) := by simp [layL]
theorem layL_nil (prio id : Int) (s : List En × Int) : layL prio id [] s = s := rfl
theorem layL_seq (prio id : Int) : ∀ (ids : List Int) (s : List En × Int), (layL prio id ids s).2 = s.2 + ids.length
  | [], s => by simp [layL]
  | t :: ids, s => by
    have := layL_seq prio id ids (putL s.1 ⟨prio, s.2, id, t⟩, s.2 + 1)
    simp only [layL, List.foldl_cons, List.length_cons] at this ⊢
    rw [this]; omega
theorem layL_len (prio id : Int) : ∀ (ids : List Int) (s : List En × Int), (layL prio id ids s).1.length = s.1.length + ids.length
  | [], s => by simp [layL]
  | t :: ids, s => by
    have := layL_len prio id ids (putL s.1 ⟨prio, s.2, id, t⟩, s.2 + 1)
    simp only [layL, List.foldl_cons, List.length_cons] at this ⊢
    rw [this, putL_len]; omega
/-- Stands ready, and did not. -/
def newB (was ts : List Tk) (k : Nat) : Bool := (stT ts k == 2) && !(decide (k < was.length) && (stT was k == 2))
def newL (was ts : List Tk) (k : Nat) : List Int := ((List.range k).filter (newB was ts)).map fun (j : Nat) => (j : Int)
theorem newL_0 (was ts : List Tk) : newL was ts 0 = [] := rfl
theorem newL_s (was ts : List Tk) (k : Nat) : newL was ts (k + 1) = newL was ts k ++ (if newB was ts k then [(k : Int)] else []) := by
  cases h : newB was ts k <;> simp [newL, List.range_succ, h]
theorem newL_len (was ts : List Tk) (k : Nat) : (newL was ts k).length ≤ k := by
  simp only [newL, List.length_map]
  exact Nat.le_trans (List.length_filter_le _ _) (by simp)
/-- A yard in which the tasks ids of r are laid on the run's shelf. -/
def layY (y : Yd) (r : Rn) (ids : List Int) : Yd :=
  let p := layL r.plan.prio r.id ids ((y.shelf[shN r.id]?).getD default, y.seq)
  ⟨y.now, p.2, y.shelf.set (shN r.id) p.1, y.runs⟩
abbrev rnH (r : Rn) (x5 x7 : Value) : List D := [.val (.int .i64 r.id), .val (.int .i64 r.plan.prio), .val (.int .i64 r.plan.most), .val (.int .i64 r.plan.wait), .val (.int .i64 r.plan.tasks), nilD (some (2, tEd)) x5, .val (.int .i64 r.state), nilD (some (4, tTk)) x7]
abbrev RnBoxH (b ty : Nat) (r : Rn) (x5 x7 : Value) : Ob := .box b ty [.a (.v (.int .i64 r.id)), .a (.v (.int .i64 r.plan.prio)), .a (.v (.int .i64 r.plan.most)), .a (.v (.int .i64 r.plan.wait)), .a (.v (.int .i64 r.plan.tasks)), .a (.v x5), .a (.v (.int .i64 r.state)), .a (.v x7)]
abbrev YdBoxD (b ty : Nat) (now seq : Int) (sh : List (List En)) (e1 : Heads) (d : D) (e2 : Heads) : Ob := .box b ty [.a (.v (.int .i64 now)), .a (.v (.int .i64 seq)), .own (encSh sh) e1, .own d e2]
theorem put_sh1 {sh : List (List En)} {n : Nat} (l : List En) : D.put [] n [encEns l] (encSh sh) = encSh (sh.set n l) := by
  simp only [encSh, D.put, setAt, sh_map, List.map_set]
theorem mem_flat_le {α : Type} {l : List α} : ∀ {L : List (List α)}, l ∈ L → l.length ≤ L.flatten.length
  | [], h => by simp at h
  | x :: L, h => by
    rcases List.mem_cons.1 h with rfl | h
    · simp
    · have := mem_flat_le h
      simp only [List.flatten_cons, List.length_append]; omega
theorem shelf2_le {y : Yd} (ht : totYd y ≤ 2000000) {l : List En} (h : l ∈ y.shelf) : l.length ≤ 2000000 := Nat.le_trans (mem_flat_le h) (shelf_flat ht)
theorem rns_len (l : List Rn) : (l.flatMap encRn).length = l.length * 8 := len_flat (enc := encRn) (fun _ => rfl) l
end Go.Proofs.YtnhdcbhcocgjhaaGreat
set_option linter.unusedSimpArgs false
set_option linter.unusedVariables false
set_option maxRecDepth 100000
namespace Go.Proofs.YtnhdcbhcocgjhaaGreat
open Go.RowKit Go.Sort
def c_spec_l10Lay : C := .seq (.reg [⟨some 3, none, .box 30 4 (.t 0)⟩, ⟨some 4, none, .box 80 8 (.t 1)⟩, ⟨some 5, none, .box 80 8 (.t 2)⟩, ⟨some 6, none, .alloc 30 [.int .i64 0, .int .i64 0, .slice none 0 0, .slice none 0 0]⟩]) (.seq (.reg [⟨some 9, none, .fa 0 (.t 5)⟩, ⟨some 10, none, .ld false 1 (.t 9)⟩, ⟨some 11, none, .call 164 [.t 10]⟩, ⟨some 7, none, .mov (.t 11)⟩]) (.seq (.seq (.reg [⟨some 8, none, .mov (.c (.int .i64 0))⟩]) (.blk 0 (.loop (.seq (.seq (.reg [⟨some 12, none, .mov (.t 8)⟩, ⟨some 13, none, .fa 7 (.t 5)⟩, ⟨some 14, none, .ld false 1 (.t 13)⟩, ⟨some 15, none, .len false (.t 14)⟩, ⟨some 16, none, .bin .lss 3 (.t 12) (.t 15)⟩]) (.cond (.t 16) .skip (.exit 0))) (.seq (.blk 1 (.seq (.seq (.reg [⟨some 19, none, .fa 7 (.t 5)⟩, ⟨some 20, none, .ld false 1 (.t 19)⟩, ⟨some 21, none, .mov (.t 8)⟩, ⟨some 22, none, .ia 4 (.t 20) (.t 21)⟩, ⟨some 23, none, .fa 0 (.t 22)⟩, ⟨some 24, none, .ld false 1 (.t 23)⟩, ⟨some 25, none, .bin .neq 3 (.t 24) (.c (.int .i64 2))⟩, ⟨some 26, none, .mov (.t 25)⟩, ⟨some 27, some (26, false), .mov (.t 8)⟩, ⟨some 28, some (26, false), .fa 7 (.t 4)⟩, ⟨some 29, some (26, false), .ld false 1 (.t 28)⟩, ⟨some 30, some (26, false), .len false (.t 29)⟩, ⟨some 31, some (26, false), .bin .lss 3 (.t 27) (.t 30)⟩, ⟨some 32, some (26, false), .mov (.t 31)⟩, ⟨some 33, some (32, true), .fa 7 (.t 4)⟩, ⟨some 34, some (32, true), .ld false 1 (.t 33)⟩, ⟨some 35, some (32, true), .mov (.t 8)⟩, ⟨some 36, some (32, true), .ia 4 (.t 34) (.t 35)⟩, ⟨some 37, some (32, true), .fa 0 (.t 36)⟩, ⟨some 38, some (32, true), .ld false 1 (.t 37)⟩, ⟨some 39, some (32, true), .bin .eql 3 (.t 38) (.c (.int .i64 2))⟩, ⟨some 40, some (26, false), .pick (.t 32) (.t 39) (.c (.bool false))⟩, ⟨some 41, none, .pick (.t 26) (.c (.bool true)) (.t 40)⟩]) (.cond (.t 41) (.exit 1) .skip)) (.seq (.dreg (T.pure 0 ⟨some 42, none, .fa 2 (.t 3)⟩ (T.pure 1 ⟨some 43, none, .ld false 1 (.t 42)⟩ (T.pure 2 ⟨some 44, none, .mov (.t 7)⟩ (T.pure 3 ⟨some 45, none, .fa 2 (.t 3)⟩ (T.pure 4 ⟨some 46, none, .ld false 1 (.t 45)⟩ (T.pure 5 ⟨some 47, none, .mov (.t 7)⟩ (T.pure 6 ⟨some 48, none, .ia 1 (.t 46) (.t 47)⟩ (T.pure 7 ⟨some 49, none, .ld false 1 (.t 48)⟩ (T.pure 8 ⟨some 50, none, .fa 1 (.t 5)⟩ (T.pure 9 ⟨some 51, none, .fa 0 (.t 50)⟩ (T.pure 10 ⟨some 52, none, .ld false 1 (.t 51)⟩ (T.pure 11 ⟨some 53, none, .fa 1 (.t 3)⟩ (T.pure 12 ⟨some 54, none, .ld false 1 (.t 53)⟩ (T.pure 13 ⟨some 55, none, .fa 0 (.t 5)⟩ (T.pure 14 ⟨some 56, none, .ld false 1 (.t 55)⟩ (T.pure 15 ⟨some 57, none, .mov (.t 8)⟩ (T.pure 16 ⟨some 58, none, .bld [.int .i64 0, .int .i64 0, .int .i64 0, .int .i64 0] [(0, 1, .t 52), (1, 1, .t 54), (2, 1, .t 56), (3, 1, .t 57)]⟩ (T.alt ⟨some 59, none, .call 143 [.t 49, .t 58]⟩ [2, 1, 0] (T.pure 18 ⟨some 60, none, .ia 1 (.t 43) (.t 44)⟩ (T.alt ⟨none, none, .st 1 [some (4, 108)] (.t 60) (.t 59)⟩ [] T.done T.stop)) T.stop))))))))))))))))))) (.reg [⟨some 61, none, .fa 1 (.t 3)⟩, ⟨some 62, none, .ld false 1 (.t 61)⟩, ⟨some 63, none, .bin .add 3 (.t 62) (.c (.int .i64 1))⟩, ⟨some 64, none, .fa 1 (.t 3)⟩, ⟨none, none, .st 1 [none] (.t 64) (.t 63)⟩])))) (.reg [⟨some 17, none, .mov (.t 8)⟩, ⟨some 18, none, .bin .add 3 (.t 17) (.c (.int .i64 1))⟩, ⟨some 8, none, .mov (.t 18)⟩])))))) (.seq (.reg [⟨some 65, none, .ld true 4 (.t 3)⟩, ⟨none, none, .st 4 [none, none, some (1, 103), some (8, 80)] (.t 6) (.t 65)⟩]) .ret)))
theorem code_spec_l10Lay : fnC Tryz.prog Tryz.f107 = some (c_spec_l10Lay, [.cell 6 true 4], 66) := by kernel_rfl
end Go.Proofs.YtnhdcbhcocgjhaaGreat
set_option linter.unusedSimpArgs false
set_option linter.unusedVariables false
set_option maxRecDepth 100000
namespace Go.Proofs.YtnhdcbhcocgjhaaGreat
open Go.RowKit Go.Sort
def c_impl_stock : C := .seq (.reg [⟨some 4, none, .box 80 8 (.t 1)⟩]) (.seq (.reg [⟨some 9, none, .fa 0 (.t 4)⟩, ⟨some 10, none, .ld false 1 (.t 9)⟩, ⟨some 11, none, .call 170 [.t 10]⟩, ⟨some 6, none, .mov (.t 11)⟩]) (.seq (.reg [⟨some 12, none, .mov (.t 2)⟩, ⟨some 13, none, .len false (.t 12)⟩, ⟨some 14, none, .mov (.c (.int .i64 0))⟩]) (.blk 0 (.loop (.seq (.reg [⟨some 15, none, .bin .lss 3 (.t 14) (.t 13)⟩]) (.seq (.cond (.t 15) .skip (.exit 0)) (.seq (.blk 1 (.seq (.reg [⟨some 16, none, .ia 1 (.t 12) (.t 14)⟩, ⟨some 17, none, .ld false 1 (.t 16)⟩, ⟨some 8, none, .mov (.t 17)⟩]) (.seq (.dreg (T.pure 0 ⟨some 18, none, .mov (.t 0)⟩ (T.pure 1 ⟨some 19, none, .fa 0 (.t 18)⟩ (T.pure 2 ⟨some 20, none, .fa 2 (.t 19)⟩ (T.pure 3 ⟨some 21, none, .ld false 1 (.t 20)⟩ (T.pure 4 ⟨some 22, none, .mov (.t 6)⟩ (T.pure 5 ⟨some 23, none, .mov (.t 0)⟩ (T.pure 6 ⟨some 24, none, .fa 0 (.t 23)⟩ (T.pure 7 ⟨some 25, none, .fa 2 (.t 24)⟩ (T.pure 8 ⟨some 26, none, .ld false 1 (.t 25)⟩ (T.pure 9 ⟨some 27, none, .mov (.t 6)⟩ (T.pure 10 ⟨some 28, none, .ia 1 (.t 26) (.t 27)⟩ (T.pure 11 ⟨some 29, none, .ld false 1 (.t 28)⟩ (T.pure 12 ⟨some 30, none, .fa 1 (.t 4)⟩ (T.pure 13 ⟨some 31, none, .fa 0 (.t 30)⟩ (T.pure 14 ⟨some 32, none, .ld false 1 (.t 31)⟩ (T.pure 15 ⟨some 33, none, .mov (.t 0)⟩ (T.pure 16 ⟨some 34, none, .fa 0 (.t 33)⟩ (T.pure 17 ⟨some 35, none, .fa 1 (.t 34)⟩ (T.pure 18 ⟨some 36, none, .ld false 1 (.t 35)⟩ (T.pure 19 ⟨some 37, none, .fa 0 (.t 4)⟩ (T.pure 20 ⟨some 38, none, .ld false 1 (.t 37)⟩ (T.pure 21 ⟨some 39, none, .mov (.t 8)⟩ (T.pure 22 ⟨some 40, none, .bld [.int .i64 0, .int .i64 0, .int .i64 0, .int .i64 0] [(0, 1, .t 32), (1, 1, .t 36), (2, 1, .t 38), (3, 1, .t 39)]⟩ (T.alt ⟨some 41, none, .call 147 [.t 29, .t 40]⟩ [4, 3, 2, 1, 0] (T.pure 24 ⟨some 42, none, .ia 1 (.t 21) (.t 22)⟩ (T.alt ⟨none, none, .st 1 [some (4, 108)] (.t 42) (.t 41)⟩ [] T.done T.stop)) T.stop))))))))))))))))))))))))) (.reg [⟨some 43, none, .mov (.t 0)⟩, ⟨some 44, none, .fa 0 (.t 43)⟩, ⟨some 45, none, .fa 1 (.t 44)⟩, ⟨some 46, none, .ld false 1 (.t 45)⟩, ⟨some 47, none, .bin .add 3 (.t 46) (.c (.int .i64 1))⟩, ⟨some 48, none, .fa 0 (.t 43)⟩, ⟨some 49, none, .fa 1 (.t 48)⟩, ⟨none, none, .st 1 [none] (.t 49) (.t 47)⟩])))) (.reg [⟨some 50, none, .bin .add 3 (.t 14) (.c (.int .i64 1))⟩, ⟨some 14, none, .mov (.t 50)⟩]))))))))
theorem code_impl_stock : fnC Tryz.prog Tryz.f117 = some (c_impl_stock, [], 51) := by kernel_rfl
theorem tsum_set_eq {α : Type} {f : α → Nat} (v : α) : ∀ {l : List α} {k : Nat} {x : α}, l[k]? = some x → tsum f (l.set k v) + f x = tsum f l + f v
  | [], _, _, h => by simp at h
  | y :: l, 0, x, h => by
    simp at h; subst h
    simp only [tsum, List.set_cons_zero, List.map_cons, List.sum_cons]; omega
  | y :: l, k + 1, x, h => by
    have := tsum_set_eq (f := f) v (l := l) (k := k) (by simpa using h)
    simp only [tsum, List.set_cons_succ, List.map_cons, List.sum_cons] at this ⊢
    omega
theorem tot_lay {y : Yd} {r : Rn} {ids : List Int} : totYd (layY y r ids) ≤ totYd y + ids.length := by
  have h4 : ∀ l : List En, totEnS l = l.length := fun _ => rfl
  cases h : y.shelf[shN r.id]? with
  | none =>
    have : y.shelf.set (shN r.id) (layL r.plan.prio r.id ids ((y.shelf[shN r.id]?).getD default, y.seq)).1 = y.shelf := List.set_eq_of_length_le (List.getElem?_eq_none_iff.1 h)
    simp only [totYd, totSh, layY, this]; omega
  | some l =>
    have h1 := layL_len r.plan.prio r.id ids ((y.shelf[shN r.id]?).getD default, y.seq)
    have h2 := tsum_set_eq (f := totEnS) (layL r.plan.prio r.id ids ((y.shelf[shN r.id]?).getD default, y.seq)).1 h
    simp only [totYd, totSh, layY, List.length_set] at *
    rw [h4, h4] at h2
    rw [h, Option.getD_some] at *
    omega
end Go.Proofs.YtnhdcbhcocgjhaaGreat
namespace Go.Proofs.YtnhdcbhcocgjhaaGreat
open Go.RowKit Go.Sort Go.BigFrame

set_option maxHeartbeats 2000000 in
theorem iHolds_c (y : Yd) (id task tri : Int) (a : Value) (S : List Nat) (w : World) (own : Bool) (ha : AggRep w own (encYd y) a S) :
    Calls Tryz.prog 69 #[a, .int .i64 id, .int .i64 task, .int .i64 tri] w fun e1 w' => e1 = .returned (.bool (holds y id task tri)) ∧ Below w.heap.size w w' := by
  obtain ⟨_, rfl, ha⟩ := ha
  obtain ⟨sv, rv, S1, S2, rfl, ah0, ah1, rfl⟩ := yd_cells ha
  clear ha
  rcases taskAt_cases y id task with ⟨hr, ht⟩ | ⟨k, r, hr, hx, ⟨hno, ht⟩ | ⟨j, t, hj, htx, ht⟩⟩
  · have HR := Lib.hid hr
    have HF : Hid (holds y id task tri = false) := by unfold holds; rw [ht]; rfl
    clear hr ht
    go_enter Tryz.func69, Tryz.ntmps69
    go_wp2_with (go_at_call 53; refine (ci (iRunAt_c y id _ _ _ own ⟨_, rfl, yd_mk (upA ah0 _) (upA ah1 _)⟩) HR.out).mono ?_; rintro e1 w1 ⟨rfl, hb1⟩; obtain ⟨hc1, hf1⟩ := bcell hb1)
    go_ret
    exact ⟨ret_bool (by rw [HF.out]), bl_dn ((Below.refl _ _).alloc (by simp) _) hb1⟩
  all_goals
    have HR := Lib.hid hr
    obtain ⟨A, c, rfl, hc1, hc2, hca⟩ := Rep.open_ (size := 8) (enc := encRn) (fun _ => rfl) (by decide) ah1
    have hk : k < y.runs.length := (List.getElem?_eq_some_iff.1 hx).1
    unfold maxLen at hc2
    have hl1 : y.runs.length ≤ 9223372036854775807 := by omega
    obtain ⟨b1, o1, vk1, T1, rfl, -, hr1, -, -, hbl, hx1⟩ := hca k r hx
    clear hca
    obtain ⟨v0, v1, U0, U1, rfl, -, hts, -⟩ := rn_cells hr1
    have p7 := hx1 7 _ rfl
    clear hx1 hr1
    obtain ⟨B, d, rfl, hd1, hd2, hdb⟩ := Rep.open_ (size := 4) (enc := encTk) (fun _ => rfl) (by decide) hts
    unfold maxLen at hd2
    have hl2 : r.tasks.length ≤ 9223372036854775807 := by omega
    have hk0 : decide ((k : Int) ≥ 0) = true := by simp
    have hk1 : decide ((k : Int) < 0) = false := by simp
    clear hr hx
  · clear hdb
    have HF : Hid (holds y id task tri = false) := by unfold holds; rw [ht]; rfl
    have HW : Hid (inb task 0 ((r.tasks.length : Int) - 1) = false) := inb_false hno
    clear ht hno
    go_enter Tryz.func69, Tryz.ntmps69
    go_wp2_with fail
    refine (ci (iRunAt_c y id _ _ _ own ⟨_, rfl, yd_mk (upA ah0 _) (upA ah1 _)⟩) HR.out).mono ?_
    rintro e1 w1 ⟨rfl, hb1⟩
    obtain ⟨hc1, hf1⟩ := bcell hb1
    have hBw : Below w.heap.size w w1 := bl_dn ((Below.refl _ _).alloc (by simp) _) hb1
    have p7' := cell_to hBw p7
    have q3 : w1.cell? ⟨w.heap.size, 3, none⟩ = some (.slice (some ⟨b1, o1, none⟩) y.runs.length c) := (hc1 _ _ (by simp)).trans (by simp [go_sem])
    go_wp2_with (go_at_call 79; refine (cb (iwithin_c _ _ _ _) HW.out).mono ?_; rintro e2 w2 ⟨rfl, hb2⟩; obtain ⟨hc2, hf2⟩ := bcell hb2)
    go_ret
    exact ⟨ret_bool (by rw [HF.out]), bl_dn hBw hb2⟩
  · obtain ⟨b2, o2, vk2, T2, rfl, -, hr2, -, -, hbl2, hx2⟩ := hdb j t htx
    clear hdb
    obtain ⟨rfl, rfl⟩ := tk_cells hr2
    have p0 : w.cell? ⟨b2, o2 + j * 4, none⟩ = some (.int .i64 t.state) := hx2 0 _ rfl
    have p1 := hx2 1 _ rfl
    have p2 := hx2 2 _ rfl
    have p3 := hx2 3 _ rfl
    have hjl : j < r.tasks.length := (List.getElem?_eq_some_iff.1 htx).1
    clear hx2 hr2 htx
    subst hj
    have HW : Hid (inb (j : Int) 0 ((r.tasks.length : Int) - 1) = true) := inb_true (by omega)
    by_cases hst : t.state = 3
    · have hs : (t.state == 3) = true := by simpa using hst
      by_cases htr : t.tri = tri
      all_goals
        first | (have hs2 : (t.tri == tri) = true := by simpa using htr) | (have hs2 : (t.tri == tri) = false := by simpa using htr)
        have HF := Lib.hid (show holds y id j tri = (t.tri == tri) by unfold holds; rw [ht]; simp [hs])
        clear ht hst htr
        go_enter Tryz.func69, Tryz.ntmps69
        go_wp2_with fail
        refine (ci (iRunAt_c y id _ _ _ own ⟨_, rfl, yd_mk (upA ah0 _) (upA ah1 _)⟩) HR.out).mono ?_
        rintro e1 w1 ⟨rfl, hb1⟩
        obtain ⟨hc1, hf1⟩ := bcell hb1
        have hBw : Below w.heap.size w w1 := bl_dn ((Below.refl _ _).alloc (by simp) _) hb1
        have p7' := cell_to hBw p7
        have q3 : w1.cell? ⟨w.heap.size, 3, none⟩ = some (.slice (some ⟨b1, o1, none⟩) y.runs.length c) := (hc1 _ _ (by simp)).trans (by simp [go_sem])
        go_wp2_with fail
        refine (cb (iwithin_c _ _ _ _) HW.out).mono ?_
        rintro e2 w2 ⟨rfl, hb2⟩
        obtain ⟨hc2, hf2⟩ := bcell hb2
        replace p7' := cell_to hb2 p7'
        replace q3 := cell_to hb2 q3
        have p0' := cell_to hb2 (cell_to hBw p0)
        have p1' := cell_to hb2 (cell_to hBw p1)
        have p2' := cell_to hb2 (cell_to hBw p2)
        have p3' := cell_to hb2 (cell_to hBw p3)
        go_wp2
        go_ret
        exact ⟨ret_bool (by rw [HF.out, hs2]), by repeat (first | (with_reducible exact bl_dn hBw hb2) | ((with_reducible refine Below.alloc ?_ ?_ _); rotate_left; focus (exact (bl_dn hBw hb2).size)))⟩
    · have hs : (t.state == 3) = false := by simpa using hst
      have HF := Lib.hid (show holds y id j tri = false by unfold holds; rw [ht]; simp [hs])
      clear ht hst
      go_enter Tryz.func69, Tryz.ntmps69
      go_wp2_with fail
      refine (ci (iRunAt_c y id _ _ _ own ⟨_, rfl, yd_mk (upA ah0 _) (upA ah1 _)⟩) HR.out).mono ?_
      rintro e1 w1 ⟨rfl, hb1⟩
      obtain ⟨hc1, hf1⟩ := bcell hb1
      have hBw : Below w.heap.size w w1 := bl_dn ((Below.refl _ _).alloc (by simp) _) hb1
      have p7' := cell_to hBw p7
      have q3 : w1.cell? ⟨w.heap.size, 3, none⟩ = some (.slice (some ⟨b1, o1, none⟩) y.runs.length c) := (hc1 _ _ (by simp)).trans (by simp [go_sem])
      go_wp2_with fail
      refine (cb (iwithin_c _ _ _ _) HW.out).mono ?_
      rintro e2 w2 ⟨rfl, hb2⟩
      obtain ⟨hc2, hf2⟩ := bcell hb2
      replace p7' := cell_to hb2 p7'
      replace q3 := cell_to hb2 q3
      have p0' := cell_to hb2 (cell_to hBw p0)
      have p1' := cell_to hb2 (cell_to hBw p1)
      have p2' := cell_to hb2 (cell_to hBw p2)
      have p3' := cell_to hb2 (cell_to hBw p3)
      go_wp2
      go_ret
      exact ⟨ret_bool (by rw [HF.out]), by repeat (first | (with_reducible exact bl_dn hBw hb2) | ((with_reducible refine Below.alloc ?_ ?_ _); rotate_left; focus (exact (bl_dn hBw hb2).size)))⟩

set_option maxHeartbeats 2000000 in
theorem sHolds_c (y : Yd) (id task tri : Int) (a : Value) (S : List Nat) (w : World) (own : Bool) (ha : AggRep w own (encYd y) a S) :
    Calls Tryz.prog 106 #[a, .int .i64 id, .int .i64 task, .int .i64 tri] w fun e1 w' => e1 = .returned (.bool (holds y id task tri)) ∧ Below w.heap.size w w' := by
  obtain ⟨_, rfl, ha⟩ := ha
  obtain ⟨sv, rv, S1, S2, rfl, ah0, ah1, rfl⟩ := yd_cells ha
  clear ha
  rcases taskAt_cases y id task with ⟨hr, ht⟩ | ⟨k, r, hr, hx, ⟨hno, ht⟩ | ⟨j, t, hj, htx, ht⟩⟩
  · have HR := Lib.hid hr
    have HF : Hid (holds y id task tri = false) := by unfold holds; rw [ht]; rfl
    clear hr ht
    go_enter Tryz.func106, Tryz.ntmps106
    go_wp2_with (go_at_call 45; refine (ci (sRunAt_c y id _ _ _ own ⟨_, rfl, yd_mk (upA ah0 _) (upA ah1 _)⟩) HR.out).mono ?_; rintro e1 w1 ⟨rfl, hb1⟩; obtain ⟨hc1, hf1⟩ := bcell hb1)
    go_ret
    exact ⟨ret_bool (by rw [HF.out]), bl_dn ((Below.refl _ _).alloc (by simp) _) hb1⟩
  all_goals
    have HR := Lib.hid hr
    obtain ⟨A, c, rfl, hc1, hc2, hca⟩ := Rep.open_ (size := 8) (enc := encRn) (fun _ => rfl) (by decide) ah1
    have hk : k < y.runs.length := (List.getElem?_eq_some_iff.1 hx).1
    unfold maxLen at hc2
    have hl1 : y.runs.length ≤ 9223372036854775807 := by omega
    obtain ⟨b1, o1, vk1, T1, rfl, -, hr1, -, -, hbl, hx1⟩ := hca k r hx
    clear hca
    obtain ⟨v0, v1, U0, U1, rfl, -, hts, -⟩ := rn_cells hr1
    have p7 := hx1 7 _ rfl
    clear hx1 hr1
    obtain ⟨B, d, rfl, hd1, hd2, hdb⟩ := Rep.open_ (size := 4) (enc := encTk) (fun _ => rfl) (by decide) hts
    unfold maxLen at hd2
    have hl2 : r.tasks.length ≤ 9223372036854775807 := by omega
    have hk0 : decide ((k : Int) ≥ 0) = true := by simp
    have hk1 : decide ((k : Int) < 0) = false := by simp
    clear hr hx
  · clear hdb
    have HF : Hid (holds y id task tri = false) := by unfold holds; rw [ht]; rfl
    have HW : Hid (inb task 0 ((r.tasks.length : Int) - 1) = false) := inb_false hno
    clear ht hno
    go_enter Tryz.func106, Tryz.ntmps106
    go_wp2_with fail
    refine (ci (sRunAt_c y id _ _ _ own ⟨_, rfl, yd_mk (upA ah0 _) (upA ah1 _)⟩) HR.out).mono ?_
    rintro e1 w1 ⟨rfl, hb1⟩
    obtain ⟨hc1, hf1⟩ := bcell hb1
    have hBw : Below w.heap.size w w1 := bl_dn ((Below.refl _ _).alloc (by simp) _) hb1
    have p7' := cell_to hBw p7
    have q3 : w1.cell? ⟨w.heap.size, 3, none⟩ = some (.slice (some ⟨b1, o1, none⟩) y.runs.length c) := (hc1 _ _ (by simp)).trans (by simp [go_sem])
    go_wp2_with (go_at_call 72; refine (cb (sl01In_c _ _ _ _) HW.out).mono ?_; rintro e2 w2 ⟨rfl, hb2⟩; obtain ⟨hc2, hf2⟩ := bcell hb2)
    go_ret
    exact ⟨ret_bool (by rw [HF.out]), bl_dn hBw hb2⟩
  · obtain ⟨b2, o2, vk2, T2, rfl, -, hr2, -, -, hbl2, hx2⟩ := hdb j t htx
    clear hdb
    obtain ⟨rfl, rfl⟩ := tk_cells hr2
    have p0 : w.cell? ⟨b2, o2 + j * 4, none⟩ = some (.int .i64 t.state) := hx2 0 _ rfl
    have p1 := hx2 1 _ rfl
    have p2 := hx2 2 _ rfl
    have p3 := hx2 3 _ rfl
    have hjl : j < r.tasks.length := (List.getElem?_eq_some_iff.1 htx).1
    clear hx2 hr2 htx
    subst hj
    have HW : Hid (inb (j : Int) 0 ((r.tasks.length : Int) - 1) = true) := inb_true (by omega)
    by_cases hst : t.state = 3
    · have hs : (t.state == 3) = true := by simpa using hst
      by_cases htr : t.tri = tri
      all_goals
        first | (have hs2 : (t.tri == tri) = true := by simpa using htr) | (have hs2 : (t.tri == tri) = false := by simpa using htr)
        have HF := Lib.hid (show holds y id j tri = (t.tri == tri) by unfold holds; rw [ht]; simp [hs])
        clear ht hst htr
        go_enter Tryz.func106, Tryz.ntmps106
        go_wp2_with fail
        refine (ci (sRunAt_c y id _ _ _ own ⟨_, rfl, yd_mk (upA ah0 _) (upA ah1 _)⟩) HR.out).mono ?_
        rintro e1 w1 ⟨rfl, hb1⟩
        obtain ⟨hc1, hf1⟩ := bcell hb1
        have hBw : Below w.heap.size w w1 := bl_dn ((Below.refl _ _).alloc (by simp) _) hb1
        have p7' := cell_to hBw p7
        have q3 : w1.cell? ⟨w.heap.size, 3, none⟩ = some (.slice (some ⟨b1, o1, none⟩) y.runs.length c) := (hc1 _ _ (by simp)).trans (by simp [go_sem])
        go_wp2_with fail
        refine (cb (sl01In_c _ _ _ _) HW.out).mono ?_
        rintro e2 w2 ⟨rfl, hb2⟩
        obtain ⟨hc2, hf2⟩ := bcell hb2
        replace p7' := cell_to hb2 p7'
        replace q3 := cell_to hb2 q3
        have p0' := cell_to hb2 (cell_to hBw p0)
        have p1' := cell_to hb2 (cell_to hBw p1)
        have p2' := cell_to hb2 (cell_to hBw p2)
        have p3' := cell_to hb2 (cell_to hBw p3)
        go_wp2
        go_ret
        exact ⟨ret_bool (by rw [HF.out, hs2]), by repeat (first | (with_reducible exact bl_dn hBw hb2) | ((with_reducible refine Below.alloc ?_ ?_ _); rotate_left; focus (exact (bl_dn hBw hb2).size)))⟩
    · have hs : (t.state == 3) = false := by simpa using hst
      have HF := Lib.hid (show holds y id j tri = false by unfold holds; rw [ht]; simp [hs])
      clear ht hst
      go_enter Tryz.func106, Tryz.ntmps106
      go_wp2_with fail
      refine (ci (sRunAt_c y id _ _ _ own ⟨_, rfl, yd_mk (upA ah0 _) (upA ah1 _)⟩) HR.out).mono ?_
      rintro e1 w1 ⟨rfl, hb1⟩
      obtain ⟨hc1, hf1⟩ := bcell hb1
      have hBw : Below w.heap.size w w1 := bl_dn ((Below.refl _ _).alloc (by simp) _) hb1
      have p7' := cell_to hBw p7
      have q3 : w1.cell? ⟨w.heap.size, 3, none⟩ = some (.slice (some ⟨b1, o1, none⟩) y.runs.length c) := (hc1 _ _ (by simp)).trans (by simp [go_sem])
      go_wp2_with fail
      refine (cb (sl01In_c _ _ _ _) HW.out).mono ?_
      rintro e2 w2 ⟨rfl, hb2⟩
      obtain ⟨hc2, hf2⟩ := bcell hb2
      replace p7' := cell_to hb2 p7'
      replace q3 := cell_to hb2 q3
      have p0' := cell_to hb2 (cell_to hBw p0)
      have p1' := cell_to hb2 (cell_to hBw p1)
      have p2' := cell_to hb2 (cell_to hBw p2)
      have p3' := cell_to hb2 (cell_to hBw p3)
      go_wp2
      go_ret
      exact ⟨ret_bool (by rw [HF.out]), by repeat (first | (with_reducible exact bl_dn hBw hb2) | ((with_reducible refine Below.alloc ?_ ?_ _); rotate_left; focus (exact (bl_dn hBw hb2).size)))⟩

end Go.Proofs.YtnhdcbhcocgjhaaGreat
set_option linter.unusedSimpArgs false
set_option linter.unusedVariables false
set_option maxRecDepth 100000
namespace Go.Proofs.YtnhdcbhcocgjhaaGreat
open Go.RowKit Go.Sort
section
variable {P : Program} {f : FuncId}
theorem pure4 {v1 v2 v3 v4 : View} {u : Value} (hn : Named P f) (h : ∀ w a b c d, ViewRel w v1 a → ViewRel w v2 b → ViewRel w v3 c → ViewRel w v4 d → Calls P f #[a, b, c, d] w fun e w' => e = .returned u ∧ Below w.heap.size w w') : Pure P f [v1, v2, v3, v4] (.c (.val u)) := by
  refine ⟨hn, fun w xs hv => ?_⟩
  obtain ⟨a, _, rfl, h1, b, _, rfl, h2, c, _, rfl, h3, d, _, rfl, h4, h5⟩ := hv
  rw [show _ = _ from h5]
  exact (h w a b c d h1 h2 h3 h4).mono fun e w' ⟨he, hb⟩ => ⟨u, [], he, ⟨rfl, rfl⟩, Fresh.nil _, hb⟩
end
theorem p_spec_Holds (y : Yd) (id task tri : Int) : Pure Tryz.prog 106 [.agg (encYd y), .c (.val (.int .i64 id)), .c (.val (.int .i64 task)), .c (.val (.int .i64 tri))] (.c (.val (.bool (holds y id task tri)))) :=
  pure4 ⟨_, Tryz.func106, by kernel_rfl, by kernel_rfl⟩ fun w a b c d ⟨S, ha⟩ hb hc hd => by rw [view_val hb, view_val hc, view_val hd]; exact sHolds_c y id task tri a S w false ha
theorem p_impl_Holds (y : Yd) (id task tri : Int) : Pure Tryz.prog 69 [.agg (encYd y), .c (.val (.int .i64 id)), .c (.val (.int .i64 task)), .c (.val (.int .i64 tri))] (.c (.val (.bool (holds y id task tri)))) :=
  pure4 ⟨_, Tryz.func69, by kernel_rfl, by kernel_rfl⟩ fun w a b c d ⟨S, ha⟩ hb hc hd => by rw [view_val hb, view_val hc, view_val hd]; exact iHolds_c y id task tri a S w false ha
end Go.Proofs.YtnhdcbhcocgjhaaGreat
set_option linter.unusedSimpArgs false
set_option linter.unusedVariables false
set_option maxRecDepth 100000
namespace Go.Proofs.YtnhdcbhcocgjhaaGreat
open Go.RowKit Go.Sort
/-- The yard in which run k is r, and what stands ready anew is laid. -/
def turnY (y : Yd) (k : Nat) (r : Rn) : Yd := layY ⟨y.now, y.seq, y.shelf, y.runs.set k r⟩ r (newL ((y.runs[k]?).getD default).tasks r.tasks r.tasks.length)
/-- Runs of which the k-th row is this. -/
def rnsR (l : List Rn) (k : Nat) (row : List D) : List D := (l.take k).flatMap encRn ++ (row ++ (l.drop (k + 1)).flatMap encRn)
abbrev rnV (r : Rn) (x5 x7 : Value) : List D := [.val (.int .i64 r.id), .val (.int .i64 r.plan.prio), .val (.int .i64 r.plan.most), .val (.int .i64 r.plan.wait), .val (.int .i64 r.plan.tasks), .val x5, .val (.int .i64 r.state), .val x7]
section
variable {l : List Rn} {k : Nat} {r : Rn} {row row' : List D}
theorem rns_len_take (hk : k < l.length) : ((l.take k).flatMap encRn).length = k * 8 := by rw [rns_len, List.length_take, Nat.min_eq_left (Nat.le_of_lt hk)]
theorem rnsR_enc (h : l[k]? = some r) : l.flatMap encRn = rnsR l k (encRn r) := split_flat (enc := encRn) h
theorem rnsR_get (hk : k < l.length) (j : Nat) (hj : j < row.length) : (rnsR l k row)[k * 8 + j]? = row[j]? := by
  rw [rnsR, List.getElem?_append_right (by rw [rns_len_take hk]; omega), rns_len_take hk, Nat.add_sub_cancel_left, List.getElem?_append_left hj]
theorem rnsR_set (hk : k < l.length) (j : Nat) (hj : j < row.length) (d : D) : (rnsR l k row).set (k * 8 + j) d = rnsR l k (row.set j d) := by
  rw [rnsR, List.set_append_right _ _ (by rw [rns_len_take hk]; omega), rns_len_take hk, Nat.add_sub_cancel_left, List.set_append_left _ _ hj]; rfl
theorem rnsR_at (hk : k < l.length) (h8 : row.length = 8) : ((rnsR l k row).drop (k * 8)).take 8 = row := by
  rw [rnsR, List.drop_append_of_le_length (by rw [rns_len_take hk]; exact Nat.le_refl _), List.drop_eq_nil_of_le (by rw [rns_len_take hk]; exact Nat.le_refl _), List.nil_append, ← h8, List.take_left]
theorem rnsR_len (hk : k < l.length) (h8 : row.length = 8) : (rnsR l k row).length = l.length * 8 := by
  have h1 := rns_len (l.drop (k + 1))
  rw [List.length_drop] at h1
  rw [rnsR, List.length_append, List.length_append, rns_len_take hk, h1, h8]; omega
theorem rnsR_put (hk : k < l.length) (h8 : row.length = 8) (h8' : row'.length = 8) : setAt (rnsR l k row) (k * 8) row' = rnsR l k row' := by
  have h1 := rns_len_take hk
  have h2 := rnsR_len hk h8
  rw [setAt_eq _ _ _ (by rw [h2, h8']; omega), rnsR, List.take_left' h1, h8']
  have : ((l.take k).flatMap encRn ++ (row ++ (l.drop (k + 1)).flatMap encRn)).drop (k * 8 + 8) = (l.drop (k + 1)).flatMap encRn := by
    rw [← List.append_assoc]; exact List.drop_left' (by rw [List.length_append, h1, h8])
  rw [this, rnsR, List.append_assoc]
theorem rnsR_dlen (hk : k < l.length) (h8 : row.length = 8) : (D.sl 8 tRn (rnsR l k row)).len = l.length := by
  simp only [D.len, D.cells, D.size, rnsR_len hk h8]
  exact Nat.mul_div_cancel _ (by decide)
theorem rnsR_rn (hk : k < l.length) : D.sl 8 tRn (rnsR l k (encRn r)) = encRns (l.set k r) := by
  have h1 : (l.set k r)[k]? = some r := List.getElem?_set_self hk
  have h2 := rnsR_enc h1
  have h3 : rnsR (l.set k r) k (encRn r) = rnsR l k (encRn r) := by
    rw [rnsR, rnsR, List.take_set_of_le (Nat.le_refl _), List.drop_set_of_lt (Nat.lt_succ_self k)]
  rw [encRns, h2, h3]
end
theorem stH_any {flat : Bool} {p : List Nat} {k n : Nat} {η : Heads} {K : Heads → Prop} (h : ∀ η', K η') : stH flat p k n η K := by
  cases flat with
  | true => exact h _
  | false => exact fun η' _ => h η'
theorem runFails_len (r : Rn) (t : Int) : (runFails r t).tasks.length = r.tasks.length := by
  unfold runFails
  split
  · unfold failsR
    split
    · simp only [List.length_set]
    · simp only [mapK_len, List.length_set]
  · rfl
theorem RunOkP.le12 {r : Rn} (h : RunOkP r) : r.tasks.length ≤ 12 := by
  obtain ⟨n, h1, _, h2, _⟩ := pf_0 h.plan
  have := h.len
  omega
/-- Whether the task stood ready before. -/
theorem newB_lt {was ts : List Tk} {k : Nat} {x z : Tk} (h : ts[k]? = some x) (hz : was[k]? = some z) : newB was ts k = ((x.state == 2) && !(z.state == 2)) := by
  have := (List.getElem?_eq_some_iff.1 hz).1
  simp [newB, stT_nat h, stT_nat hz, this]
end Go.Proofs.YtnhdcbhcocgjhaaGreat
set_option linter.unusedSimpArgs false
set_option linter.unusedVariables false
set_option maxRecDepth 100000
namespace Go.Proofs.YtnhdcbhcocgjhaaGreat
open Go.RowKit Go.Sort
section
variable {P : Program} {β : Nat} {s : St} {K : St → Prop} {d : Option Nat} {g : Option (Nat × Bool)}
theorem Inl.weak {f : FuncId} {args : List AV} {o : Nat → Ob} {R R' : AV → (Nat → Ob) → Prop} (h : Inl P f args o R) (hk : ∀ av o', R av o' → R' av o') : Inl P f args o R' :=
  ⟨h.1, fun B w F xs h1 h2 => (h.2 B w F xs h1 h2).mono fun e w' ⟨v, av, o', F', k1, k2, k3, k4⟩ => ⟨v, av, o', F', k1, k2, k3, hk _ _ k4⟩⟩
theorem run_inl_of {f : Nat} {args : List X} {R : AV → (Nat → Ob) → Prop} (h : Inl P f (args.map s.ev) s.o R) (hk : ∀ av o', R av o' → K (St.put ⟨s.t, o'⟩ d av)) : runI P β ⟨d, g, .call f args⟩ s K := run_inl (h.weak hk)
theorem run_inl_at {f : Nat} {args : List X} {vs : List AV} {R : AV → (Nat → Ob) → Prop} (ha : args.map s.ev = vs) (h : Inl P f vs s.o R) (hk : ∀ av o', R av o' → K (St.put ⟨s.t, o'⟩ d av)) : runI P β ⟨d, g, .call f args⟩ s K := by subst ha; exact run_inl_of h hk
theorem simA_self (x : A0) : x.sim x = True := by cases x <;> simp [A0.sim]
theorem simL_self : ∀ l : List A0, simL l l = True
  | [] => rfl
  | x :: l => by simp [simL, simA_self, simL_self l]
theorem simcell_self (x : Cell) : x.sim x = True := by cases x <;> simp [Cell.sim, simA_self]
theorem simC_self : ∀ l : List Cell, simC l l = True
  | [] => rfl
  | x :: l => by simp [simC, simcell_self, simC_self l]
theorem simO_self (x : Ob) : x.sim x = True := by cases x <;> simp [Ob.sim, simC_self]
end
/-- Slots that stay. -/
abbrev Slots (o o' : Nat → Ob) : Prop := o' 92 = o 92 ∧ o' 93 = o 93 ∧ o' 94 = o 94 ∧ o' 95 = o 95 ∧ o' 96 = o 96 ∧ o' 97 = o 97
/-- What a function does in place to run k of a yard (object 90; 91 to 97 stay). -/
def EpK (P : Program) (f : FuncId) (k : Nat) (t : Int) (y : Yd) (r2 : Rn) : Prop := ∀ (o : Nat → Ob) (b : Nat) (e2 e3 : Heads), o 90 = YdBox b tYd y.now y.seq y.shelf e2 y.runs e3 →
  Inl P f [.c (.ep 90 3 [] (k * 8) (e3 [])), Ni t] o fun av o' => av = .tup [] ∧ o' 90 = YdBox b tYd y.now y.seq y.shelf e2 (y.runs.set k r2) e3 ∧ o' 91 = o 91 ∧ Slots o o'
/-- The same, of a closure; what it has caught leads to object 91. -/
def ClosK (P : Program) (f : FuncId) (caps : List A0) (H : Ob) (k : Nat) (y : Yd) (r2 : Rn) : Prop := ∀ (o : Nat → Ob) (b : Nat) (e2 e3 : Heads), o 90 = YdBox b tYd y.now y.seq y.shelf e2 y.runs e3 → o 91 = H →
  Turns P f ([.c (.ep 90 3 [] (k * 8) (e3 []))] ++ caps.map .c) o fun rt o' => rt = .tup [] ∧ o' 90 = YdBox b tYd y.now y.seq y.shelf e2 (y.runs.set k r2) e3 ∧ o' 91 = H ∧ Slots o o'
section
variable {l : List Rn} {k : Nat} {r : Rn}
theorem at_rn7 (h : l[k]? = some r) : ((l.flatMap encRn).drop (k * 8 + 7)).take 1 = [encTks r.tasks] := at1_flat (enc := encRn) (size := 8) (fun _ => rfl) h (j := 7) (n := 1) (by decide)
theorem at_rn6 (h : l[k]? = some r) : ((l.flatMap encRn).drop (k * 8 + 6)).take 1 = [.val (.int .i64 r.state)] := at1_flat (enc := encRn) (size := 8) (fun _ => rfl) h (j := 6) (n := 1) (by decide)
theorem at_rnM (h : l[k]? = some r) : ((l.flatMap encRn).drop (k * 8 + 1 + 1)).take 1 = [.val (.int .i64 r.plan.most)] := at1_flat (enc := encRn) (size := 8) (fun _ => rfl) h (j := 2) (n := 1) (by decide)
theorem in_rn7 (h : l[k]? = some r) : k * 8 + 7 + 1 ≤ (l.flatMap encRn).length := in1_flat (enc := encRn) (size := 8) (fun _ => rfl) h (j := 7) (n := 1) (by decide)
theorem in_rn6 (h : l[k]? = some r) : k * 8 + 6 + 1 ≤ (l.flatMap encRn).length := in1_flat (enc := encRn) (size := 8) (fun _ => rfl) h (j := 6) (n := 1) (by decide)
theorem in_rnM (h : l[k]? = some r) : k * 8 + 1 + 1 + 1 ≤ (l.flatMap encRn).length := in1_flat (enc := encRn) (size := 8) (fun _ => rfl) h (j := 2) (n := 1) (by decide)
theorem put_rn6 (h : l[k]? = some r) (v : Int) : D.put [] (k * 8 + 6) [.val (.int .i64 v)] (encRns l) = encRns (l.set k ⟨r.id, r.plan, v, r.tasks⟩) := put1_flat (enc := encRn) (size := 8) (fun _ => rfl) h (j := 6) rfl (by simp [encRn, encPl])
theorem put_rn7 (h : l[k]? = some r) {ts : List Tk} {i : Nat} {ds : List D} (hp : D.put [] i ds (encTks r.tasks) = encTks ts) : D.put [k * 8 + 7] i ds (encRns l) = encRns (l.set k ⟨r.id, r.plan, r.state, ts⟩) := by
  have hk := (List.getElem?_eq_some_iff.1 h).1
  have h7 : (l.flatMap encRn)[k * 8 + 7]? = some (encTks r.tasks) := rns_get (j := 7) h (by decide)
  have e : (l.flatMap encRn).set (k * 8 + 7) (encTks ts) = rnsR l k (encRn ⟨r.id, r.plan, r.state, ts⟩) := by
    rw [rnsR_enc h, rnsR_set hk 7 (by simp [encRn, encPl])]; rfl
  rw [← rnsR_rn hk, ← e]
  simp only [encRns, D.put, h7, hp]
end
end Go.Proofs.YtnhdcbhcocgjhaaGreat
set_option linter.unusedSimpArgs false
set_option linter.unusedVariables false
set_option maxRecDepth 100000
namespace Go.Proofs.YtnhdcbhcocgjhaaGreat
open Go.RowKit Go.Sort
theorem inl_wkK {P : Program} {f : FuncId} {args : List AV} {o : Nat → Ob} {R : AV → (Nat → Ob) → Prop} (h : Inl P f args o fun av o' => WkK (.only o') fun s' => R av s'.o) : Inl P f args o R :=
  ⟨h.1, fun B w F xs h1 h2 => (h.2 B w F xs h1 h2).mono fun e w' ⟨v, av, o', F', k1, k2, k3, k4⟩ => by
    obtain ⟨s', F2, k5, k6⟩ := k4 _ _ _ _ _ _ k2
    exact ⟨v, av, s'.o, F2, k1, ⟨k5.below, k5.hB, k5.df, k5.sz, fun _ => trivial, k5.ob, k5.fr, k5.dj⟩, k3, k6⟩⟩
/-- What stands ready, and did not. -/
def frP (was : List Tk) (v : Int) : Bool := !decide (v ∈ tinL 2 was)
theorem mem_tinL {s : Int} {ts : List Tk} {j : Nat} : (j : Int) ∈ tinL s ts ↔ j < ts.length ∧ (stT ts (j : Int) == s) = true := by
  simp only [tinL, tinF, List.mem_map, List.mem_filter, List.mem_range]
  constructor
  · rintro ⟨i, h, he⟩
    obtain rfl : i = j := by omega
    exact h
  · exact fun h => ⟨j, h, rfl⟩
theorem fr_new (was ts : List Tk) : (tinL 2 ts).filter (frP was) = newL was ts ts.length := by
  simp only [tinL, tinF, newL, List.filter_map, List.filter_filter]
  congr 1
  refine List.filter_congr fun j _ => ?_
  have h : frP was (j : Int) = !(decide (j < was.length) && (stT was (j : Int) == 2)) := by
    simp only [frP, mem_tinL]
    congr 1
    cases (stT was (j : Int) == 2) <;> simp
  simp only [Function.comp, h, newB]
  rw [Bool.and_comm]
theorem fr_take {l : List Int} {k : Nat} {v : Int} (p : Int → Bool) (h : l[k]? = some v) : (l.take (k + 1)).filter p = (l.take k).filter p ++ (if p v then [v] else []) := by
  rw [List.take_add_one, h, List.filter_append]
  cases hp : p v <;> simp [hp]
def c_impl_change : C := .seq (.reg [⟨some 10, none, .mov (.t 0)⟩, ⟨some 11, none, .fa 0 (.t 10)⟩, ⟨some 12, none, .fa 3 (.t 11)⟩, ⟨some 13, none, .ld false 1 (.t 12)⟩, ⟨some 14, none, .mov (.t 1)⟩, ⟨some 15, none, .ia 8 (.t 13) (.t 14)⟩, ⟨some 16, none, .ld true 8 (.t 15)⟩, ⟨some 17, none, .call 115 [.t 16, .c (.int .i64 2)]⟩, ⟨some 6, none, .mov (.t 17)⟩]) (.seq (.reg [⟨some 18, none, .mov (.t 2)⟩, ⟨some 19, none, .mov (.t 0)⟩, ⟨some 20, none, .fa 0 (.t 19)⟩, ⟨some 21, none, .fa 3 (.t 20)⟩, ⟨some 22, none, .ld false 1 (.t 21)⟩, ⟨some 23, none, .mov (.t 1)⟩, ⟨some 24, none, .ia 8 (.t 22) (.t 23)⟩, ⟨some 25, none, .callv (.t 18) [.t 24]⟩]) (.seq (.reg [⟨some 7, none, .mov (.c (.slice none 0 0))⟩]) (.seq (.seq (.reg [⟨some 26, none, .mov (.t 0)⟩, ⟨some 27, none, .fa 0 (.t 26)⟩, ⟨some 28, none, .fa 3 (.t 27)⟩, ⟨some 29, none, .ld false 1 (.t 28)⟩, ⟨some 30, none, .mov (.t 1)⟩, ⟨some 31, none, .ia 8 (.t 29) (.t 30)⟩, ⟨some 32, none, .ld true 8 (.t 31)⟩, ⟨some 33, none, .call 115 [.t 32, .c (.int .i64 2)]⟩, ⟨some 34, none, .len false (.t 33)⟩, ⟨some 35, none, .mov (.c (.int .i64 0))⟩]) (.blk 0 (.loop (.seq (.reg [⟨some 36, none, .bin .lss 3 (.t 35) (.t 34)⟩]) (.seq (.cond (.t 36) .skip (.exit 0)) (.seq (.blk 1 (.seq (.reg [⟨some 37, none, .ia 1 (.t 33) (.t 35)⟩, ⟨some 38, none, .ld false 1 (.t 37)⟩, ⟨some 9, none, .mov (.t 38)⟩]) (.seq (.reg [⟨some 39, none, .mov (.t 6)⟩, ⟨some 40, none, .mov (.t 9)⟩, ⟨some 41, none, .call 116 [.t 39, .t 40]⟩, ⟨some 42, none, .un .not (.t 41)⟩]) (.cond (.t 42) (.reg [⟨some 43, none, .mov (.t 7)⟩, ⟨some 44, none, .mov (.t 9)⟩, ⟨some 45, none, .bsl 3 1 1 [none] [(0, 1, .t 44)]⟩, ⟨some 46, none, .app 3 1 8 (.t 43) (.t 45)⟩, ⟨some 7, none, .mov (.t 46)⟩]) .skip)))) (.reg [⟨some 47, none, .bin .add 3 (.t 35) (.c (.int .i64 1))⟩, ⟨some 35, none, .mov (.t 47)⟩]))))))) (.reg [⟨some 48, none, .mov (.t 0)⟩, ⟨some 49, none, .mov (.t 0)⟩, ⟨some 50, none, .fa 0 (.t 49)⟩, ⟨some 51, none, .fa 3 (.t 50)⟩, ⟨some 52, none, .ld false 1 (.t 51)⟩, ⟨some 53, none, .mov (.t 1)⟩, ⟨some 54, none, .ia 8 (.t 52) (.t 53)⟩, ⟨some 55, none, .ld true 8 (.t 54)⟩, ⟨some 56, none, .mov (.t 7)⟩, ⟨some 57, none, .call 117 [.t 48, .t 55, .t 56]⟩]))))
theorem code_impl_change : fnC Tryz.prog Tryz.f52 = some (c_impl_change, [], 58) := by kernel_rfl
set_option maxHeartbeats 8000000 in
theorem inl_change {k b : Nat} {y : Yd} {r r2 : Rn} {f : FuncId} {caps : List A0} {H : Ob} (hr : y.runs[k]? = some r) (hl2 : r2.tasks.length = r.tasks.length) (hl12 : r.tasks.length ≤ 12) (h4 : y.shelf.length = 4) (hq : 1 ≤ y.seq ∧ y.seq ≤ 4000000000) (ht : totYd y ≤ 2000000)
    (hc : ClosK Tryz.prog f caps H k y r2) {o : Nat → Ob} {e2 e3 : Heads} (h90 : o 90 = YdBox b tYd y.now y.seq y.shelf e2 y.runs e3) (h91 : o 91 = H) :
    Inl Tryz.prog 52 [Bx 90 b, Ni k, .fn f caps] o fun av o' => av = .tup [] ∧ (∃ e2' e3', o' 90 = YdBox b tYd (turnY y k r2).now (turnY y k r2).seq (turnY y k r2).shelf e2' (turnY y k r2).runs e3') ∧ o' 91 = H ∧ o' 92 = o 92 ∧ o' 93 = o 93 ∧ o' 94 = o 94 ∧ o' 95 = o 95 ∧ o' 96 = o 96 := by
  refine inl_wkK ?_
  refine inl_gn (β := 5000000) [[1,0], [1,1,1,1]] Tryz.func52 code_impl_change (by simp) ?_
  unfold c_impl_change
  simp only [C.ghs, C.ghAt, List.foldr]
  have hk := (List.getElem?_eq_some_iff.1 hr).1
  have h0k : (k : Int) ≥ 0 := by omega
  simp -implicitDefEqProofs only [go_sem, h90, Nat.add_zero, hk, h0k, at_rn hr, in_rn hr, encRn, encPl]
  refine run_call (p_impl_TasksIn r 2 (by omega)) (by simp -implicitDefEqProofs only [go_sem, h90, encRn, encPl, get_rns5' hr, get_rns7' hr]) fun ηi => ?_
  simp -implicitDefEqProofs only [go_sem, h90, encRn, encPl, get_rns5' hr, get_rns7' hr]
  refine wp_gk ?_
  refine WkK.wk (s' := St.of [(0, Bx 90 b), (1, Ni k), (2, .fn f caps), (6, Hd 97 (ηi 0))] [(90, YdBox b tYd y.now y.seq y.shelf e2 y.runs e3), (91, o 91), (92, o 92), (93, o 93), (94, o 94), (95, o 95), (96, o 96), (97, .loose (encInts (tinL 2 r.tasks)) (ηi 0))]) (wk_of [some 90, some 91, some 92, some 93, some 94, some 95, some 96, some 500001700] (by simp -implicitDefEqProofs only [go_sem, h90, simO_self, simL_self] <;> and_intros <;> first | rfl | assumption)) ?_
  refine WkK.of ?_
  simp -implicitDefEqProofs only [go_sem, Nat.add_zero, hk, h0k, in_rn hr]
  refine run_turnv (f := f) (caps := caps) (by simp -implicitDefEqProofs only [go_sem]) (hc _ b e2 e3 (by simp -implicitDefEqProofs only [go_sem]) (by simp -implicitDefEqProofs only [go_sem]; exact h91)) ?_
  rintro _ o1 ⟨rfl, j90, j91, j92, j93, j94, j95, j96, j97⟩ η
  simp -implicitDefEqProofs only [go_sem] at j92 j93 j94 j95 j96 j97
  have hr2 : (y.runs.set k r2)[k]? = some r2 := List.getElem?_set_self hk
  have hk2 : k < (y.runs.set k r2).length := by rw [List.length_set]; exact hk
  simp -implicitDefEqProofs only [go_sem, j90, Nat.add_zero, hk2, h0k, at_rn hr2, in_rn hr2, encRn, encPl]
  refine run_call (p_impl_TasksIn r2 2 (by omega)) (by simp -implicitDefEqProofs only [go_sem, j90, encRn, encPl, get_rns5' hr2, get_rns7' hr2]) fun ηj => ?_
  simp -implicitDefEqProofs only [go_sem, j90, encRn, encPl, get_rns5' hr2, get_rns7' hr2]
  have hn0 : ∀ v : Int, v ∈ tinL 2 r2.tasks → 0 ≤ v := fun v hv => by
    simp only [tinL, tinF, List.mem_map] at hv
    obtain ⟨a, _, rfl⟩ := hv; omega
  have hfn := fr_new r.tasks r2.tasks
  have hLl : (tinL 2 r2.tasks).length ≤ 12 := Nat.le_trans (tinF_len _ _ _) (by omega)
  have hBl : (tinL 2 r.tasks).length ≤ 12 := Nat.le_trans (tinF_len _ _ _) hl12
  generalize tinL 2 r2.tasks = L2 at *
  refine wp_loopW (fun i : Nat × Heads => St.of [(0, Bx 90 b), (1, Ni k), (6, Hd 97 (ηi 0)), (7, Hd 7 i.2), (33, Hd 33 (ηj 0)), (34, Ni L2.length), (35, Ni i.1)] [(90, YdBox b tYd y.now y.seq y.shelf e2 (y.runs.set k r2) e3), (91, H), (92, o 92), (93, o 93), (94, o 94), (95, o 95), (96, o 96), (97, .loose (encInts (tinL 2 r.tasks)) (ηi 0)), (7, .loose (encInts ((L2.take i.1).filter (frP r.tasks))) i.2), (33, .loose (encInts L2) (ηj 0))]) (fun i => i.1 ≤ L2.length) (fun i => L2.length - i.1) (0, nilH) (by (try dsimp only); first | omega | (simp; done) | (and_intros <;> first | omega | simp)) (wk_of [some 90, some 91, some 92, some 93, some 94, some 95, some 96, some 97, none, some 500003300] (by simp -implicitDefEqProofs only [go_sem, j90, j91, j92, j93, j94, j95, j96, j97, List.take_zero, List.filter_nil, simO_self] <;> and_intros <;> first | rfl | assumption)) ?_
  rintro ⟨i, η7⟩ hi
  dsimp only at hi
  by_cases hlt : i < L2.length
  · have hlt' : (i : Int) < L2.length := by omega
    obtain ⟨v, hv⟩ := get_some hlt
    have hw : IntKind.i64.wrap ((i : Int) + 1) = ((i + 1 : Nat) : Int) := wrap64 (by omega) (by omega)
    have hft := fr_take (frP r.tasks) hv
    have hFl : ((L2.take i).filter (frP r.tasks)).length ≤ 12 := Nat.le_trans (List.length_filter_le _ _) (by rw [List.length_take]; omega)
    generalize (L2.take i).filter (frP r.tasks) = F at *
    have m1 : F.length + 1 ≤ maxLen := by unfold maxLen; omega
    have m2 : (F.length + 1) * 8 ≤ 140737488355328 := by omega
    simp -implicitDefEqProofs only [go_sem, hlt', hlt, at_encInts hv, in_encInts hlt]
    refine run_call (p_ContainsI (tinL 2 r.tasks) v (by omega)) (by simp -implicitDefEqProofs only [go_sem]) fun η => ?_
    simp -implicitDefEqProofs only [go_sem]
    cases hd : decide (v ∈ tinL 2 r.tasks)
    · have hp : frP r.tasks v = true := by rw [frP, hd]; rfl
      rw [hp, if_pos rfl] at hft
      simp -implicitDefEqProofs only [go_sem, hd, m1, m2, ints_snoc1, hw]
      intro η1 η8
      exact ⟨(i + 1, η8), by (try dsimp only); first | omega | assumption | (and_intros <;> first | omega | assumption), (wk_of [some 90, some 91, some 92, some 93, some 94, some 95, some 96, some 97, some 500004600, some 33] (by simp -implicitDefEqProofs only [go_sem, hft, simO_self] <;> and_intros <;> first | rfl | assumption)), by (try dsimp only); omega⟩
    · have hp : frP r.tasks v = false := by rw [frP, hd]; rfl
      rw [hp, if_neg (by decide), List.append_nil] at hft
      simp -implicitDefEqProofs only [go_sem, hd, hw]
      exact ⟨(i + 1, η7), by (try dsimp only); first | omega | assumption | (and_intros <;> first | omega | assumption), (wk_of [some 90, some 91, some 92, some 93, some 94, some 95, some 96, some 97, some 7, some 33] (by simp -implicitDefEqProofs only [go_sem, hft, simO_self] <;> and_intros <;> first | rfl | assumption)), by (try dsimp only); omega⟩
  have hlt' : ¬ (i : Int) < L2.length := by omega
  rw [List.take_of_length_le (by omega), hfn]
  simp -implicitDefEqProofs only [go_sem, hlt']
  refine wp_gk ?_
  have hR : encRns (y.runs.set k r2) = .sl 8 tRn (rnsR y.runs k (encRn r2)) := (rnsR_rn hk).symm
  have hid : (newL r.tasks r2.tasks r2.tasks.length).length ≤ 12 := Nat.le_trans (newL_len _ _ _) (by omega)
  have hLY : turnY y k r2 = ⟨y.now, (layL r2.plan.prio r2.id (newL r.tasks r2.tasks r2.tasks.length) ((y.shelf[shN r2.id]?).getD default, y.seq)).2, y.shelf.set (shN r2.id) (layL r2.plan.prio r2.id (newL r.tasks r2.tasks r2.tasks.length) ((y.shelf[shN r2.id]?).getD default, y.seq)).1, y.runs.set k r2⟩ := by rw [turnY, hr, Option.getD_some]; rfl
  generalize newL r.tasks r2.tasks r2.tasks.length = ids at *
  refine WkK.wk (s' := St.of [(0, Bx 90 b), (1, Ni k), (7, Hd 97 η7)] [(90, YdBoxD b tYd y.now y.seq y.shelf e2 (encRns (y.runs.set k r2)) e3), (91, H), (92, o 92), (93, o 93), (94, o 94), (95, o 95), (96, o 96), (97, .loose (encInts ids) η7)]) (wk_of [some 90, some 91, some 92, some 93, some 94, some 95, some 96, some 7] (by simp -implicitDefEqProofs only [go_sem, simO_self] <;> and_intros <;> first | rfl | assumption)) ?_
  rw [hR]
  refine wk_cutN 90 3 (k * 8 + 5) 98 (η := e3) (cs := r2.plan.edges.flatMap encEd) rfl (rnsR_get hk 5 (by simp [encRn, encPl])) rfl (by decide) fun ηa ηA hA1 hA2 hA3 => ?_
  rw [rnsR_set hk 5 (by simp [encRn, encPl])]
  refine wk_cutN 90 3 (k * 8 + 7) 99 (η := ηA) (cs := r2.tasks.flatMap encTk) rfl (rnsR_get hk 7 (by simp [encRn, encPl])) rfl (by decide) fun ηb ηB hB1 hB2 hB3 => ?_
  rw [rnsR_set hk 7 (by simp [encRn, encPl])]
  rw [← hA2, ← hB2]
  rw [← hA2] at hA3
  rw [← hB2] at hB3
  have hV : ((encRn r2).set 5 (.val (ηa []))).set 7 (.val (ηb [])) = rnV r2 (ηa []) (ηb []) := rfl
  rw [hV]
  obtain ⟨dR, hdR⟩ : ∃ dR, D.sl 8 tRn (rnsR y.runs k (rnV r2 (ηa []) (ηb []))) = dR := ⟨_, rfl⟩
  refine WkK.wk (s' := St.of [(0, Bx 90 b), (1, Ni k), (7, Hd 97 η7)] [(90, YdBoxD b tYd y.now y.seq y.shelf e2 (.sl 8 tRn (rnsR y.runs k (rnV r2 (ηa []) (ηb [])))) ηB), (91, H), (92, o 92), (93, o 93), (94, o 94), (95, o 95), (96, o 96), (97, .loose (encInts ids) η7), (98, .loose (encEds r2.plan.edges) ηa), (99, .loose (encTks r2.tasks) ηb)]) (wk_of [some 90, some 91, some 92, some 93, some 94, some 95, some 96, some 97, some 98, some 99] (by simp -implicitDefEqProofs only [go_sem, simO_self, encEds, encTks] <;> and_intros <;> first | rfl | assumption)) ?_
  refine WkK.of ?_
  have hl1 : (rnsR y.runs k (rnV r2 (ηa []) (ηb []))).length = y.runs.length * 8 := rnsR_len hk rfl
  have ha1 : ((rnsR y.runs k (rnV r2 (ηa []) (ηb []))).drop (k * 8)).take 8 = rnV r2 (ηa []) (ηb []) := rnsR_at hk rfl
  have hi8 : k * 8 + 8 ≤ y.runs.length * 8 := by omega
  have hdl : (D.sl 8 tRn (rnsR y.runs k (rnV r2 (ηa []) (ηb [])))).len = y.runs.length := rnsR_dlen hk rfl
  simp -implicitDefEqProofs only [go_sem, hl1, hdl, ha1, hi8, hk, h0k, hA3, hB3, Nat.add_zero]
  refine run_inl (inl_fn (β := 8000000) Tryz.func117 code_impl_stock (by simp) ?_)
  unfold c_impl_stock
  simp -implicitDefEqProofs only [go_sem, hA3, hB3]
  intro b74
  refine run_call (p_impl_ShelfOf r2.id) (by simp -implicitDefEqProofs only [go_sem]) fun η => ?_
  simp -implicitDefEqProofs only [go_sem]
  obtain ⟨hsn, hs4⟩ := shN_ r2.id
  rw [hsn]
  rw [hLY]
  generalize shN r2.id = n at *
  have hn : n < y.shelf.length := by omega
  have h0n : (n : Int) ≥ 0 := by omega
  obtain ⟨l, hl⟩ := get_some hn
  have hll := shelf2_le ht (List.mem_of_getElem? hl)
  rw [hl, Option.getD_some]
  rw [hdR]
  refine wp_loopW (fun i : Nat × Heads => St.of [(0, Bx 90 b), (4, Bx 4 b74), (6, Ni n), (12, Hd 97 η7), (13, Ni ids.length), (14, Ni i.1)] [(90, YdBoxD b tYd y.now (layL r2.plan.prio r2.id (ids.take i.1) (l, y.seq)).2 (y.shelf.set n (layL r2.plan.prio r2.id (ids.take i.1) (l, y.seq)).1) i.2 dR ηB), (91, H), (92, o 92), (93, o 93), (94, o 94), (95, o 95), (96, o 96), (97, .loose (encInts ids) η7), (98, .loose (encEds r2.plan.edges) ηa), (99, .loose (encTks r2.tasks) ηb), (4, RnBoxH b74 tRn r2 (ηa []) (ηb []))]) (fun i => i.1 ≤ ids.length) (fun i => ids.length - i.1) (0, e2) (by (try dsimp only); first | omega | (simp; done) | (and_intros <;> first | omega | simp)) (wk_of [some 90, some 91, some 92, some 93, some 94, some 95, some 96, some 97, some 98, some 99, some 800000400] (by simp -implicitDefEqProofs only [go_sem, List.take_zero, layL_nil, set_same hl, simO_self] <;> and_intros <;> first | rfl | assumption)) ?_
  rintro ⟨i, η⟩ hi
  dsimp only at hi
  have hsq := layL_seq r2.plan.prio r2.id (ids.take i) (l, y.seq)
  have hle := layL_len r2.plan.prio r2.id (ids.take i) (l, y.seq)
  have hnl : (ids.take i).length = i := by rw [List.length_take]; omega
  dsimp only at hsq hle
  by_cases hlt : i < ids.length
  · have hlt' : (i : Int) < ids.length := by omega
    have h0i : (i : Int) ≥ 0 := by omega
    obtain ⟨x, hx⟩ := get_some hlt
    have hsnoc := layL_snoc r2.plan.prio r2.id (ids.take i) x (l, y.seq)
    have hnx : ids.take (i + 1) = ids.take i ++ [x] := by rw [List.take_add_one, hx]; rfl
    rw [← hnx] at hsnoc
    have hw : IntKind.i64.wrap ((i : Int) + 1) = ((i + 1 : Nat) : Int) := wrap64 (by omega) (by omega)
    have hw2 : IntKind.i64.wrap ((layL r2.plan.prio r2.id (ids.take i) (l, y.seq)).2 + 1) = (layL r2.plan.prio r2.id (ids.take i) (l, y.seq)).2 + 1 := wrap64 (by omega) (by omega)
    generalize hPe : layL r2.plan.prio r2.id (ids.take i) (l, y.seq) = P at *
    obtain ⟨sh, hsh⟩ : ∃ s, y.shelf.set n P.1 = s := ⟨_, rfl⟩
    have hSl : sh[n]? = some P.1 := by rw [← hsh]; exact List.getElem?_set_self hn
    have hns : n < sh.length := by rw [← hsh, List.length_set]; exact hn
    have hss : ∀ L, sh.set n L = y.shelf.set n L := fun L => by rw [← hsh, List.set_set]
    have hi1 : n + 1 ≤ (sh.flatMap fun es => [encEns es]).length := by have := in_encSh hns; rwa [Nat.mul_one] at this
    have hb1 : ((sh.flatMap fun es => [encEns es]).drop n).take 1 = [encEns P.1] := by have := at_encSh hSl; rwa [Nat.mul_one] at this
    have hxi : i + 1 ≤ (ids.flatMap fun n => [iv n]).length := by have := in_encInts hlt; rwa [Nat.mul_one] at this
    have hxa : ((ids.flatMap fun n => [iv n]).drop i).take 1 = [iv x] := by have := at_encInts hx; rwa [Nat.mul_one] at this
    rw [hsh]
    simp -implicitDefEqProofs only [go_sem, encPl, encRn, hlt', h0i, hlt, hxa, hxi, Nat.add_zero, hns, Nat.mul_one, hb1, hi1, h0n]
    refine run_call (p_impl_PutEntry P.1 ⟨r2.plan.prio, P.2, r2.id, x⟩ (by omega)) (by simp -implicitDefEqProofs only [go_sem, encEn, get_sh hSl]) fun ηp => ?_
    simp -implicitDefEqProofs only [go_sem, encEn, get_sh hSl]
    simp -implicitDefEqProofs only [go_sem, hns, Nat.mul_one, hi1, hb1, h0n, put_sh1, hw2, hw, hss, Nat.add_zero]
    refine fun η' hη' => ?_
    exact ⟨(i + 1, η'), by (try dsimp only); first | omega | assumption | (and_intros <;> first | omega | assumption), (wk_of [some 90, some 91, some 92, some 93, some 94, some 95, some 96, some 97, some 98, some 99, some 4] (by simp -implicitDefEqProofs only [go_sem, encPl, encRn, hsnoc, simO_self] <;> and_intros <;> first | rfl | assumption)), by (try dsimp only); omega⟩
  obtain rfl : i = ids.length := by omega
  have hlt' : ¬ ((ids.length : Nat) : Int) < ids.length := by omega
  rw [List.take_length]
  generalize layL r2.plan.prio r2.id ids (l, y.seq) = P at *
  subst hdR
  simp -implicitDefEqProofs only [go_sem, hlt']
  refine WkK.wk (s' := St.of [] [(90, YdBoxD b tYd y.now P.2 (y.shelf.set n P.1) η (.sl 8 tRn (rnsR y.runs k (rnV r2 (ηa []) (ηb [])))) ηB), (91, H), (92, o 92), (93, o 93), (94, o 94), (95, o 95), (96, o 96), (98, .loose (encEds r2.plan.edges) ηa), (99, .loose (encTks r2.tasks) ηb)]) (wk_of [some 90, some 91, some 92, some 93, some 94, some 95, some 96, some 98, some 99] (by simp -implicitDefEqProofs only [go_sem, simO_self] <;> and_intros <;> first | rfl | assumption)) ?_
  refine wk_graftN 90 3 (k * 8 + 5) 98 (η := ηB) (η2 := ηa) (cs := r2.plan.edges.flatMap encEd) rfl (rnsR_get hk 5 (by simp)) (.inl rfl) rfl (by decide) fun ηD _ => ?_
  rw [rnsR_set hk 5 (by simp)]
  refine wk_graftN 90 3 (k * 8 + 7) 99 (η := ηD) (η2 := ηb) (cs := r2.tasks.flatMap encTk) rfl (rnsR_get hk 7 (by simp)) (.inl rfl) rfl (by decide) fun ηE _ => ?_
  rw [rnsR_set hk 7 (by simp)]
  have hrow : (List.set (List.set (rnV r2 (ηa []) (ηb [])) 5 (.sl 2 tEd (r2.plan.edges.flatMap encEd))) 7 (.sl 4 tTk (r2.tasks.flatMap encTk))) = encRn r2 := rfl
  rw [hrow, rnsR_rn hk]
  refine WkK.of ?_
  exact ⟨⟨η, ηE, rfl⟩, rfl, rfl, rfl, rfl, rfl, rfl⟩
end Go.Proofs.YtnhdcbhcocgjhaaGreat
set_option linter.unusedSimpArgs false
set_option linter.unusedVariables false
set_option maxRecDepth 100000
namespace Go.Proofs.YtnhdcbhcocgjhaaGreat
open Go.RowKit Go.Sort
def c_spec_l13Turn : C := .seq (.reg [⟨some 3, none, .box 30 4 (.t 0)⟩, ⟨some 5, none, .box 80 8 (.t 2)⟩, ⟨some 6, none, .alloc 30 [.int .i64 0, .int .i64 0, .slice none 0 0, .slice none 0 0]⟩]) (.seq (.reg [⟨some 8, none, .fa 3 (.t 3)⟩, ⟨some 9, none, .ld false 1 (.t 8)⟩, ⟨some 10, none, .mov (.t 1)⟩, ⟨some 11, none, .ia 8 (.t 9) (.t 10)⟩, ⟨some 12, none, .ld true 8 (.t 11)⟩, ⟨some 7, none, .alloc 80 [.int .i64 0, .int .i64 0, .int .i64 0, .int .i64 0, .int .i64 0, .slice none 0 0, .int .i64 0, .slice none 0 0]⟩, ⟨none, none, .st 8 [none, none, none, none, none, some (2, 182), none, some (4, 98)] (.t 7) (.t 12)⟩]) (.seq (.reg [⟨some 13, none, .fa 3 (.t 3)⟩, ⟨some 14, none, .ld false 1 (.t 13)⟩, ⟨some 15, none, .mov (.t 1)⟩, ⟨some 16, none, .ld true 8 (.t 5)⟩, ⟨some 17, none, .ia 8 (.t 14) (.t 15)⟩, ⟨none, none, .st 8 [none, none, none, none, none, some (2, 182), none, some (4, 98)] (.t 17) (.t 16)⟩]) (.seq (.reg [⟨some 18, none, .ld true 4 (.t 3)⟩, ⟨some 19, none, .ld true 8 (.t 7)⟩, ⟨some 20, none, .ld true 8 (.t 5)⟩, ⟨some 21, none, .call 107 [.t 18, .t 19, .t 20]⟩, ⟨none, none, .st 4 [none, none, some (1, 103), some (8, 80)] (.t 6) (.t 21)⟩]) .ret)))
theorem code_spec_l13Turn : fnC Tryz.prog Tryz.f46 = some (c_spec_l13Turn, [.cell 6 true 4], 22) := by kernel_rfl
end Go.Proofs.YtnhdcbhcocgjhaaGreat
set_option linter.unusedSimpArgs false
set_option linter.unusedVariables false
set_option maxRecDepth 100000
namespace Go.Proofs.YtnhdcbhcocgjhaaGreat
open Go.RowKit Go.Sort
/-- A yard's box that has been emptied. -/
abbrev YdBoxH (b ty : Nat) (now seq : Int) (x2 x3 : Value) : Ob := .box b ty [.a (.v (.int .i64 now)), .a (.v (.int .i64 seq)), .a (.v x2), .a (.v x3)]
set_option maxHeartbeats 8000000 in
theorem inl_turnS {k b : Nat} {y : Yd} {r r2 : Rn} (hr : y.runs[k]? = some r) (hrl : r2.tasks.length = r.tasks.length) (hr12 : r.tasks.length ≤ 12) (h4 : y.shelf.length = 4) (hq : 1 ≤ y.seq ∧ y.seq ≤ 4000000000) (ht : totYd y ≤ 2000000)
    {o : Nat → Ob} {η2 η3 η5 η7 : Heads} (h90 : o 90 = YdBox b tYd y.now y.seq y.shelf η2 y.runs η3) (h97 : o 97 = .loose (encEds r2.plan.edges) η5) (h98 : o 98 = .loose (encTks r2.tasks) η7) :
    Inl Tryz.prog 46 [.agg [.v (.int .i64 y.now), .v (.int .i64 y.seq), .h 90 2 [] (η2 []), .h 90 3 [] (η3 [])], Ni k, .agg [.v (.int .i64 r2.id), .v (.int .i64 r2.plan.prio), .v (.int .i64 r2.plan.most), .v (.int .i64 r2.plan.wait), .v (.int .i64 r2.plan.tasks), .h 97 0 [] (η5 []), .v (.int .i64 r2.state), .h 98 0 [] (η7 [])]] o
      fun av o' => ∃ c e2 e3 x2 x3, av = .agg [.v (.int .i64 (turnY y k r2).now), .v (.int .i64 (turnY y k r2).seq), .h 66 2 [] (e2 []), .h 66 3 [] (e3 [])] ∧ o' 66 = YdBox c tYd (turnY y k r2).now (turnY y k r2).seq (turnY y k r2).shelf e2 (turnY y k r2).runs e3 ∧ o' 90 = YdBoxH b tYd y.now y.seq x2 x3 ∧ o' 91 = o 91 ∧ o' 92 = o 92 ∧ o' 93 = o 93 ∧ o' 94 = o 94 ∧ o' 95 = o 95 ∧ o' 96 = o 96 := by
  have hk := (List.getElem?_eq_some_iff.1 hr).1
  have h0k : (k : Int) ≥ 0 := by omega
  refine inl_wkK ?_
  refine inl_gn (β := 5000000) [[1,0], [1,1,0], [1,1,1,0], [1,1,1,1]] Tryz.func46 code_spec_l13Turn (by simp) ?_
  unfold c_spec_l13Turn
  simp only [C.ghs, C.ghAt, List.foldr]
  simp -implicitDefEqProofs only [go_sem, h90, h97, h98]
  intro c3 c5 c6
  refine wp_gk ?_
  have hR : encRns y.runs = .sl 8 tRn (rnsR y.runs k (encRn r)) := by rw [encRns, rnsR_enc hr]
  refine WkK.wk (s' := St.of [(1, Ni k), (3, Bx 3 c3), (5, Bx 5 c5), (6, Bx 66 c6)] [(90, YdBoxH b tYd y.now y.seq (η2 []) (η3 [])), (91, o 91), (92, o 92), (93, o 93), (94, o 94), (95, o 95), (96, o 96), (3, YdBoxD c3 _ y.now y.seq y.shelf η2 (encRns y.runs) η3), (5, RnBox c5 _ r2 η5 η7), (66, ZYd c6 _)]) (wk_of [some 90, some 91, some 92, some 93, some 94, some 95, some 96, some 500000300, some 500000500, some 500000600] (by simp -implicitDefEqProofs only [go_sem, encYd, encPl, encRn, simO_self, h90] <;> and_intros <;> first | rfl | assumption)) ?_
  rw [hR]
  refine wk_cutN 3 3 (k * 8 + 5) 901 (η := η3) (cs := r.plan.edges.flatMap encEd) rfl (rnsR_get hk 5 (by simp [encRn, encPl])) rfl (by decide) fun ηa ηA hA1 hA2 hA3 => ?_
  rw [rnsR_set hk 5 (by simp [encRn, encPl])]
  refine wk_cutN 3 3 (k * 8 + 7) 902 (η := ηA) (cs := r.tasks.flatMap encTk) rfl (rnsR_get hk 7 (by simp [encRn, encPl])) rfl (by decide) fun ηb ηB hB1 hB2 hB3 => ?_
  rw [rnsR_set hk 7 (by simp [encRn, encPl])]
  rw [← hA2, ← hB2]
  rw [← hA2] at hA3
  rw [← hB2] at hB3
  have hV : ((encRn r).set 5 (.val (ηa []))).set 7 (.val (ηb [])) = rnV r (ηa []) (ηb []) := rfl
  rw [hV]
  refine WkK.wk (s' := St.of [(1, Ni k), (3, Bx 3 c3), (5, Bx 5 c5), (6, Bx 66 c6)] [(90, YdBoxH b tYd y.now y.seq (η2 []) (η3 [])), (91, o 91), (92, o 92), (93, o 93), (94, o 94), (95, o 95), (96, o 96), (3, YdBoxD c3 _ y.now y.seq y.shelf η2 (.sl 8 tRn (rnsR y.runs k (rnV r (ηa []) (ηb [])))) ηB), (5, RnBox c5 _ r2 η5 η7), (66, ZYd c6 _), (901, .loose (encEds r.plan.edges) ηa), (902, .loose (encTks r.tasks) ηb)]) (wk_of [some 90, some 91, some 92, some 93, some 94, some 95, some 96, some 3, some 5, some 66, some 901, some 902] (by simp -implicitDefEqProofs only [go_sem, encYd, encPl, encRn, simO_self] <;> and_intros <;> first | rfl | assumption)) ?_
  refine WkK.of ?_
  have hl1 : (rnsR y.runs k (rnV r (ηa []) (ηb []))).length = y.runs.length * 8 := rnsR_len hk rfl
  have hd8 : y.runs.length * 8 / 8 = y.runs.length := Nat.mul_div_cancel _ (by decide)
  have ha1 : ((rnsR y.runs k (rnV r (ηa []) (ηb []))).drop (k * 8)).take 8 = rnV r (ηa []) (ηb []) := rnsR_at hk rfl
  have hi8 : k * 8 + 8 ≤ y.runs.length * 8 := by omega
  have hdl : (D.sl 8 tRn (rnsR y.runs k (rnV r (ηa []) (ηb [])))).len = y.runs.length := rnsR_dlen hk rfl
  simp -implicitDefEqProofs only [go_sem, hl1, hdl, ha1, hi8, hk, h0k, hA3, hB3]
  intro c7
  refine wp_gk ?_
  refine WkK.wk (s' := St.of [(1, Ni k), (3, Bx 3 c3), (5, Bx 5 c5), (6, Bx 66 c6), (7, Bx 7 c7)] [(90, YdBoxH b tYd y.now y.seq (η2 []) (η3 [])), (91, o 91), (92, o 92), (93, o 93), (94, o 94), (95, o 95), (96, o 96), (3, YdBoxD c3 _ y.now y.seq y.shelf η2 (.sl 8 tRn (rnsR y.runs k (rnV r (ηa []) (ηb [])))) ηB), (5, RnBox c5 _ r2 η5 η7), (66, ZYd c6 _), (7, RnBoxH c7 _ r (ηa []) (ηb [])), (901, .loose (encEds r.plan.edges) ηa), (902, .loose (encTks r.tasks) ηb)]) (wk_of [some 90, some 91, some 92, some 93, some 94, some 95, some 96, some 3, some 5, some 66, some 500000700, some 901, some 902] (by simp -implicitDefEqProofs only [go_sem, encYd, encPl, encRn, simO_self] <;> and_intros <;> first | rfl | assumption)) ?_
  refine wk_graft0 7 5 901 (d := encEds r.plan.edges) (η := ηa) rfl rfl rfl ?_
  refine wk_graft0 7 7 902 (d := encTks r.tasks) (η := ηb) rfl rfl rfl ?_
  refine wk_cut0 5 5 903 (d := encEds r2.plan.edges) (η := η5) rfl rfl (by decide) fun hx5 => ?_
  refine wk_cut0 5 7 904 (d := encTks r2.tasks) (η := η7) rfl rfl (by decide) fun hx7 => ?_
  refine WkK.of ?_
  simp -implicitDefEqProofs only [go_sem, hl1, hdl, ha1, hi8, hk, h0k, hx5, hx7]
  refine stH_any fun ηC => ?_
  have hput : D.put [] (k * 8) (rnH r2 (η5 []) (η7 [])) (.sl 8 tRn (rnsR y.runs k (rnV r (ηa []) (ηb [])))) = .sl 8 tRn (rnsR y.runs k (rnH r2 (η5 []) (η7 []))) := by
    simp only [D.put]; rw [rnsR_put hk rfl rfl]
  refine wp_gk ?_
  refine WkK.wk (s' := St.of [(1, Ni k), (3, Bx 3 c3), (5, Bx 5 c5), (6, Bx 66 c6), (7, Bx 7 c7)] [(90, YdBoxH b tYd y.now y.seq (η2 []) (η3 [])), (91, o 91), (92, o 92), (93, o 93), (94, o 94), (95, o 95), (96, o 96), (3, YdBoxD c3 _ y.now y.seq y.shelf η2 (.sl 8 tRn (rnsR y.runs k (rnH r2 (η5 []) (η7 [])))) ηC), (5, RnBoxH c5 _ r2 (η5 []) (η7 [])), (66, ZYd c6 _), (7, RnBox c7 _ r ηa ηb), (903, .loose (encEds r2.plan.edges) η5), (904, .loose (encTks r2.tasks) η7)]) (wk_of [some 90, some 91, some 92, some 93, some 94, some 95, some 96, some 3, some 5, some 66, some 7, some 903, some 904] (by simp -implicitDefEqProofs only [go_sem, encYd, encPl, encRn, hput, simO_self] <;> and_intros <;> first | rfl | assumption)) ?_
  refine wk_graft0 5 5 903 (d := encEds r2.plan.edges) (η := η5) rfl rfl rfl ?_
  refine wk_graft0 5 7 904 (d := encTks r2.tasks) (η := η7) rfl rfl rfl ?_
  generalize hdR : D.sl 8 tRn (rnsR y.runs k (rnH r2 (η5 []) (η7 []))) = dR at *
  refine WkK.wk (s' := St.of [(1, Ni k), (3, Bx 3 c3), (5, Bx 5 c5), (6, Bx 66 c6), (7, Bx 7 c7)] [(90, YdBoxH b tYd y.now y.seq (η2 []) (η3 [])), (91, o 91), (92, o 92), (93, o 93), (94, o 94), (95, o 95), (96, o 96), (3, YdBoxD c3 _ y.now y.seq y.shelf η2 dR ηC), (5, RnBox c5 _ r2 η5 η7), (66, ZYd c6 _), (7, RnBox c7 _ r ηa ηb)]) (wk_of [some 90, some 91, some 92, some 93, some 94, some 95, some 96, some 3, some 5, some 66, some 7] (by simp -implicitDefEqProofs only [go_sem, encYd, encPl, encRn, simO_self] <;> and_intros <;> first | rfl | assumption)) ?_
  refine WkK.of ?_
  simp -implicitDefEqProofs only [go_sem, encYd, encPl, encRn]
  refine run_inl (inl_fn (β := 7000000) Tryz.func107 code_spec_l10Lay (by simp) ?_)
  unfold c_spec_l10Lay
  simp -implicitDefEqProofs only [go_sem, encEn, encTk]
  intro d3 d4 d5 d6
  refine run_call (p_spec_ShelfOf r2.id) (by simp -implicitDefEqProofs only [go_sem, encRn, encPl]) fun η => ?_
  simp -implicitDefEqProofs only [go_sem, encRn, encPl]
  obtain ⟨hsn, hs4⟩ := shN_ r2.id
  rw [hsn]
  have hLY : turnY y k r2 = ⟨y.now, (layL r2.plan.prio r2.id (newL r.tasks r2.tasks r2.tasks.length) ((y.shelf[shN r2.id]?).getD default, y.seq)).2, y.shelf.set (shN r2.id) (layL r2.plan.prio r2.id (newL r.tasks r2.tasks r2.tasks.length) ((y.shelf[shN r2.id]?).getD default, y.seq)).1, y.runs.set k r2⟩ := by rw [turnY, hr, Option.getD_some]; rfl
  rw [hLY]
  generalize shN r2.id = n at *
  have hn : n < y.shelf.length := by omega
  have h0n : (n : Int) ≥ 0 := by omega
  obtain ⟨l, hl⟩ := get_some hn
  have hll := shelf2_le ht (List.mem_of_getElem? hl)
  rw [hl, Option.getD_some]
  refine wp_loopW (fun i : Nat × Heads => St.of [(3, Bx 3 d3), (4, Bx 4 d4), (5, Bx 5 d5), (6, Bx 6 d6), (7, Ni n), (8, Ni i.1)] [(90, YdBoxH b tYd y.now y.seq (η2 []) (η3 [])), (91, o 91), (92, o 92), (93, o 93), (94, o 94), (95, o 95), (96, o 96), (66, ZYd c6 _), (3, YdBoxD d3 _ y.now (layL r2.plan.prio r2.id (newL r.tasks r2.tasks i.1) (l, y.seq)).2 (y.shelf.set n (layL r2.plan.prio r2.id (newL r.tasks r2.tasks i.1) (l, y.seq)).1) i.2 dR ηC), (4, RnBox d4 _ r ηa ηb), (5, RnBox d5 _ r2 η5 η7), (6, ZYd d6 _)]) (fun i => i.1 ≤ r2.tasks.length) (fun i => r2.tasks.length - i.1) (0, η2) (by (try dsimp only); first | omega | (simp; done) | (and_intros <;> first | omega | simp)) (wk_of [some 90, some 91, some 92, some 93, some 94, some 95, some 96, some 66, some 700000300, some 700000400, some 700000500, some 700000600] (by simp -implicitDefEqProofs only [go_sem, encYd, encPl, encRn, newL_0, layL_nil, set_same hl, simO_self] <;> and_intros <;> first | rfl | assumption)) ?_
  rintro ⟨j, η⟩ hj
  dsimp only at hj
  have hsq := layL_seq r2.plan.prio r2.id (newL r.tasks r2.tasks j) (l, y.seq)
  have hle := layL_len r2.plan.prio r2.id (newL r.tasks r2.tasks j) (l, y.seq)
  have hnl := newL_len r.tasks r2.tasks j
  have hsnoc := layL_snoc r2.plan.prio r2.id (newL r.tasks r2.tasks j) j (l, y.seq)
  have hnx := newL_s r.tasks r2.tasks j
  dsimp only at hsq hle
  by_cases hlt : j < r2.tasks.length
  · have hlt' : (j : Int) < r2.tasks.length := by omega
    have hltw : j < r.tasks.length := by omega
    have hltw' : (j : Int) < r.tasks.length := by omega
    have h0j : (j : Int) ≥ 0 := by omega
    obtain ⟨x, hx⟩ := get_some hlt
    obtain ⟨z, hz⟩ := get_some hltw
    have hw : IntKind.i64.wrap ((j : Int) + 1) = ((j + 1 : Nat) : Int) := wrap64 (by omega) (by omega)
    rw [newB_lt hx hz] at hnx
    have hw2 : IntKind.i64.wrap ((layL r2.plan.prio r2.id (newL r.tasks r2.tasks j) (l, y.seq)).2 + 1) = (layL r2.plan.prio r2.id (newL r.tasks r2.tasks j) (l, y.seq)).2 + 1 := wrap64 (by omega) (by omega)
    generalize hPe : layL r2.plan.prio r2.id (newL r.tasks r2.tasks j) (l, y.seq) = P at *
    obtain ⟨sh, hsh⟩ : ∃ s, y.shelf.set n P.1 = s := ⟨_, rfl⟩
    have hSl : sh[n]? = some P.1 := by rw [← hsh]; exact List.getElem?_set_self hn
    have hns : n < sh.length := by rw [← hsh, List.length_set]; exact hn
    have hss : ∀ L, sh.set n L = y.shelf.set n L := fun L => by rw [← hsh, List.set_set]
    have hi1 : n + 1 ≤ (sh.flatMap fun es => [encEns es]).length := by have := in_encSh hns; rwa [Nat.mul_one] at this
    have hb1 : ((sh.flatMap fun es => [encEns es]).drop n).take 1 = [encEns P.1] := by have := at_encSh hSl; rwa [Nat.mul_one] at this
    rw [hsh]
    cases h2 : x.state != 2
    · have h2' : (x.state == 2) = true := by have : x.state = 2 := by simpa using h2
                                             simp [this]
      rw [h2', Bool.true_and] at hnx
      cases h3 : z.state == 2
      · rw [h3, Bool.not_false, if_pos rfl] at hnx
        rw [← hnx] at hsnoc
        simp -implicitDefEqProofs only [go_sem, encPl, encRn, encTk, hlt', h0j, hlt, hltw, hltw', at_tk0 hx, in_tk0 hx, at_tk0' hx, in_tk0' hx, at_tk0 hz, in_tk0 hz, at_tk0' hz, in_tk0' hz, h2, h3]
        simp -implicitDefEqProofs only [go_sem, hns, Nat.mul_one, hb1, hi1, h0n]
        refine run_call (p_spec_PutEntry P.1 ⟨r2.plan.prio, P.2, r2.id, j⟩ (by omega)) (by simp -implicitDefEqProofs only [go_sem, encEn, get_sh hSl]) fun ηp => ?_
        simp -implicitDefEqProofs only [go_sem, encEn, get_sh hSl]
        simp -implicitDefEqProofs only [go_sem, hns, Nat.mul_one, hi1, hb1, h0n, put_sh1, hw2, hw, hss]
        refine fun η' hη' => ?_
        exact ⟨(j + 1, η'), by (try dsimp only); first | omega | assumption | (and_intros <;> first | omega | assumption), (wk_of [some 90, some 91, some 92, some 93, some 94, some 95, some 96, some 66, some 3, some 4, some 5, some 6] (by simp -implicitDefEqProofs only [go_sem, encYd, encPl, encRn, hsnoc, simO_self] <;> and_intros <;> first | rfl | assumption)), by (try dsimp only); omega⟩
      · rw [h3, Bool.not_true, if_neg (by decide), List.append_nil] at hnx
        simp -implicitDefEqProofs only [go_sem, encPl, encRn, encTk, hlt', h0j, hlt, hltw, hltw', at_tk0 hx, in_tk0 hx, at_tk0' hx, in_tk0' hx, at_tk0 hz, in_tk0 hz, at_tk0' hz, in_tk0' hz, h2, h3, hw]
        exact ⟨(j + 1, η), by (try dsimp only); first | omega | assumption | (and_intros <;> first | omega | assumption), (wk_of [some 90, some 91, some 92, some 93, some 94, some 95, some 96, some 66, some 3, some 4, some 5, some 6] (by simp -implicitDefEqProofs only [go_sem, encYd, encPl, encRn, hnx, hPe, hsh, simO_self] <;> and_intros <;> first | rfl | assumption)), by (try dsimp only); omega⟩
    · have h2' : (x.state == 2) = false := by simpa using h2
      rw [h2', Bool.false_and, if_neg (by decide), List.append_nil] at hnx
      simp -implicitDefEqProofs only [go_sem, encPl, encRn, encTk, hlt', h0j, hlt, at_tk0 hx, in_tk0 hx, at_tk0' hx, in_tk0' hx, h2, hw]
      exact ⟨(j + 1, η), by (try dsimp only); first | omega | assumption | (and_intros <;> first | omega | assumption), (wk_of [some 90, some 91, some 92, some 93, some 94, some 95, some 96, some 66, some 3, some 4, some 5, some 6] (by simp -implicitDefEqProofs only [go_sem, encYd, encPl, encRn, hnx, hPe, hsh, simO_self] <;> and_intros <;> first | rfl | assumption)), by (try dsimp only); omega⟩
  obtain rfl : j = r2.tasks.length := by omega
  have hlt' : ¬ ((r2.tasks.length : Nat) : Int) < r2.tasks.length := by omega
  generalize layL r2.plan.prio r2.id (newL r.tasks r2.tasks r2.tasks.length) (l, y.seq) = P at *
  simp -implicitDefEqProofs only [go_sem, hlt', encPl, encRn]
  refine wp_gk ?_
  subst hdR
  refine WkK.wk (s' := St.of [(6, Bx 66 c6)] [(90, YdBoxH b tYd y.now y.seq (η2 []) (η3 [])), (91, o 91), (92, o 92), (93, o 93), (94, o 94), (95, o 95), (96, o 96), (66, YdBoxD c6 _ y.now P.2 (y.shelf.set n P.1) η (.sl 8 tRn (rnsR y.runs k (rnH r2 (η5 []) (η7 [])))) ηC), (5, RnBox d5 _ r2 η5 η7)]) (wk_of [some 90, some 91, some 92, some 93, some 94, some 95, some 96, some 66, some 5] (by simp -implicitDefEqProofs only [go_sem, encPl, encRn, simO_self] <;> and_intros <;> first | rfl | assumption)) ?_
  refine wk_cut0 5 5 901 (d := encEds r2.plan.edges) (η := η5) rfl rfl (by decide) fun _ => ?_
  refine wk_cut0 5 7 902 (d := encTks r2.tasks) (η := η7) rfl rfl (by decide) fun _ => ?_
  refine wk_graftN 66 3 (k * 8 + 5) 901 (η := ηC) (η2 := η5) (cs := r2.plan.edges.flatMap encEd) rfl (rnsR_get hk 5 (by simp)) (.inr rfl) rfl (by decide) fun ηD _ => ?_
  rw [rnsR_set hk 5 (by simp)]
  refine wk_graftN 66 3 (k * 8 + 7) 902 (η := ηD) (η2 := η7) (cs := r2.tasks.flatMap encTk) rfl (rnsR_get hk 7 (by simp)) (.inr rfl) rfl (by decide) fun ηE _ => ?_
  rw [rnsR_set hk 7 (by simp)]
  have hrow : (List.set (List.set (rnH r2 (η5 []) (η7 [])) 5 (.sl 2 tEd (r2.plan.edges.flatMap encEd))) 7 (.sl 4 tTk (r2.tasks.flatMap encTk))) = encRn r2 := rfl
  rw [hrow, rnsR_rn hk]
  refine WkK.of ?_
  simp -implicitDefEqProofs only [go_sem, encYd]
  refine WkK.wk (s' := St.of [] [(66, YdBox c6 tYd y.now P.2 (y.shelf.set n P.1) η (y.runs.set k r2) ηE), (90, YdBoxH b tYd y.now y.seq (η2 []) (η3 [])), (91, o 91), (92, o 92), (93, o 93), (94, o 94), (95, o 95), (96, o 96)]) (wk_of [some 66, some 90, some 91, some 92, some 93, some 94, some 95, some 96] (by simp -implicitDefEqProofs only [go_sem, simO_self] <;> and_intros <;> first | rfl | assumption)) ?_
  refine WkK.of ⟨c6, η, ηE, η2 [], η3 [], rfl, rfl, rfl, rfl, rfl, rfl, rfl, rfl, rfl⟩
end Go.Proofs.YtnhdcbhcocgjhaaGreat
