/- Texts for laws: YardB. -/
import Derived.Test.YtmnpailnelmpiaaGreatQReadyOf
import Derived.Test.YtmnpailnelmpiaaGreatQRunAt
import Derived.Test.YtmnpailnelmpiaaGreatQRunD
import Derived.Test.YtmnpailnelmpiaaGreatQRunP
import Derived.Test.YtmnpailnelmpiaaGreatQShelf
import Derived.Test.YtmnpailnelmpiaaGreatQSlots
import Derived.Test.YtmnpailnelmpiaaGreatQSlots2
import Derived.Test.YtmnpailnelmpiaaGreatQW
import Derived.Test.YtmnpailnelmpiaaGreatProg
set_option linter.unusedSimpArgs false
set_option linter.unusedVariables false
set_option maxRecDepth 100000
namespace Go.Proofs.YtmnpailnelmpiaaGreat
open Go.RowKit Go.Sort
def c_spec_Ahead : C := .seq (.reg [⟨some 2, none, .box 111 4 (.t 0)⟩, ⟨some 3, none, .box 111 4 (.t 1)⟩, ⟨some 4, none, .mov (.c (.bool false))⟩]) (.seq (.reg [⟨some 5, none, .fa 0 (.t 2)⟩, ⟨some 6, none, .ld false 1 (.t 5)⟩, ⟨some 7, none, .fa 0 (.t 3)⟩, ⟨some 8, none, .ld false 1 (.t 7)⟩, ⟨some 9, none, .bin .gtr 3 (.t 6) (.t 8)⟩, ⟨some 10, none, .mov (.t 9)⟩, ⟨some 11, some (10, false), .fa 0 (.t 2)⟩, ⟨some 12, some (10, false), .ld false 1 (.t 11)⟩, ⟨some 13, some (10, false), .fa 0 (.t 3)⟩, ⟨some 14, some (10, false), .ld false 1 (.t 13)⟩, ⟨some 15, some (10, false), .bin .eql 3 (.t 12) (.t 14)⟩, ⟨some 16, some (10, false), .mov (.t 15)⟩, ⟨some 17, some (16, true), .fa 1 (.t 2)⟩, ⟨some 18, some (16, true), .ld false 1 (.t 17)⟩, ⟨some 19, some (16, true), .fa 1 (.t 3)⟩, ⟨some 20, some (16, true), .ld false 1 (.t 19)⟩, ⟨some 21, some (16, true), .bin .lss 3 (.t 18) (.t 20)⟩, ⟨some 22, some (10, false), .pick (.t 16) (.t 21) (.c (.bool false))⟩, ⟨some 23, none, .pick (.t 10) (.c (.bool true)) (.t 22)⟩, ⟨some 4, none, .mov (.t 23)⟩]) .ret)
theorem code_spec_Ahead : fnC Tryz.prog Tryz.f283 = some (c_spec_Ahead, [.t 4], 24) := by kernel_rfl
def c_impl_Ahead : C := .seq (.reg [⟨some 2, none, .box 111 4 (.t 0)⟩, ⟨some 3, none, .box 111 4 (.t 1)⟩, ⟨some 4, none, .mov (.c (.bool false))⟩]) (.seq (.reg [⟨some 5, none, .fa 0 (.t 2)⟩, ⟨some 6, none, .ld false 1 (.t 5)⟩, ⟨some 7, none, .fa 0 (.t 3)⟩, ⟨some 8, none, .ld false 1 (.t 7)⟩, ⟨some 9, none, .bin .gtr 3 (.t 6) (.t 8)⟩, ⟨some 10, none, .mov (.t 9)⟩, ⟨some 11, some (10, false), .fa 0 (.t 2)⟩, ⟨some 12, some (10, false), .ld false 1 (.t 11)⟩, ⟨some 13, some (10, false), .fa 0 (.t 3)⟩, ⟨some 14, some (10, false), .ld false 1 (.t 13)⟩, ⟨some 15, some (10, false), .bin .eql 3 (.t 12) (.t 14)⟩, ⟨some 16, some (10, false), .mov (.t 15)⟩, ⟨some 17, some (16, true), .fa 1 (.t 2)⟩, ⟨some 18, some (16, true), .ld false 1 (.t 17)⟩, ⟨some 19, some (16, true), .fa 1 (.t 3)⟩, ⟨some 20, some (16, true), .ld false 1 (.t 19)⟩, ⟨some 21, some (16, true), .bin .lss 3 (.t 18) (.t 20)⟩, ⟨some 22, some (10, false), .pick (.t 16) (.t 21) (.c (.bool false))⟩, ⟨some 23, none, .pick (.t 10) (.c (.bool true)) (.t 22)⟩, ⟨some 4, none, .mov (.t 23)⟩]) .ret)
theorem code_impl_Ahead : fnC Tryz.prog Tryz.f233 = some (c_impl_Ahead, [.t 4], 24) := by kernel_rfl
def c_spec_ShelfOk : C := .seq (.reg [⟨some 2, none, .mov (.c (.bool false))⟩]) (.seq (.seq (.reg [⟨some 4, none, .mov (.t 0)⟩, ⟨some 5, none, .len false (.t 4)⟩, ⟨some 6, none, .bin .gtr 3 (.t 5) (.c (.int .i64 80))⟩]) (.cond (.t 6) (.seq (.reg [⟨some 2, none, .mov (.c (.bool false))⟩]) .ret) .skip)) (.seq (.seq (.reg [⟨some 3, none, .mov (.c (.int .i64 1))⟩]) (.blk 0 (.loop (.seq (.seq (.reg [⟨some 7, none, .mov (.t 3)⟩, ⟨some 8, none, .mov (.t 0)⟩, ⟨some 9, none, .len false (.t 8)⟩, ⟨some 10, none, .bin .lss 3 (.t 7) (.t 9)⟩]) (.cond (.t 10) .skip (.exit 0))) (.seq (.blk 1 (.seq (.dreg (T.pure 0 ⟨some 13, none, .mov (.t 0)⟩ (T.pure 1 ⟨some 14, none, .mov (.t 3)⟩ (T.pure 2 ⟨some 15, none, .bin .sub 3 (.t 14) (.c (.int .i64 1))⟩ (T.pure 3 ⟨some 16, none, .ia 4 (.t 13) (.t 15)⟩ (T.pure 4 ⟨some 17, none, .ld true 4 (.t 16)⟩ (T.pure 5 ⟨some 18, none, .mov (.t 0)⟩ (T.pure 6 ⟨some 19, none, .mov (.t 3)⟩ (T.pure 7 ⟨some 20, none, .ia 4 (.t 18) (.t 19)⟩ (T.pure 8 ⟨some 21, none, .ld true 4 (.t 20)⟩ (T.alt ⟨some 22, none, .call 283 [.t 17, .t 21]⟩ [] (T.pure 10 ⟨some 23, none, .un .not (.t 22)⟩ T.done) T.stop))))))))))) (.cond (.t 23) (.seq (.reg [⟨some 2, none, .mov (.c (.bool false))⟩]) .ret) .skip))) (.reg [⟨some 11, none, .mov (.t 3)⟩, ⟨some 12, none, .bin .add 3 (.t 11) (.c (.int .i64 1))⟩, ⟨some 3, none, .mov (.t 12)⟩])))))) (.seq (.reg [⟨some 2, none, .mov (.c (.bool true))⟩]) .ret)))
theorem code_spec_ShelfOk : fnC Tryz.prog Tryz.f239 = some (c_spec_ShelfOk, [.t 2], 24) := by kernel_rfl
def c_impl_ShelfOk : C := .seq (.reg [⟨some 2, none, .mov (.c (.bool false))⟩]) (.seq (.seq (.reg [⟨some 3, none, .mov (.c (.int .i64 1))⟩]) (.blk 0 (.loop (.seq (.seq (.reg [⟨some 4, none, .mov (.t 3)⟩, ⟨some 5, none, .mov (.t 0)⟩, ⟨some 6, none, .len false (.t 5)⟩, ⟨some 7, none, .bin .lss 3 (.t 4) (.t 6)⟩]) (.cond (.t 7) .skip (.exit 0))) (.seq (.blk 1 (.seq (.dreg (T.pure 0 ⟨some 10, none, .mov (.t 0)⟩ (T.pure 1 ⟨some 11, none, .mov (.t 3)⟩ (T.pure 2 ⟨some 12, none, .bin .sub 3 (.t 11) (.c (.int .i64 1))⟩ (T.pure 3 ⟨some 13, none, .ia 4 (.t 10) (.t 12)⟩ (T.pure 4 ⟨some 14, none, .ld true 4 (.t 13)⟩ (T.pure 5 ⟨some 15, none, .mov (.t 0)⟩ (T.pure 6 ⟨some 16, none, .mov (.t 3)⟩ (T.pure 7 ⟨some 17, none, .ia 4 (.t 15) (.t 16)⟩ (T.pure 8 ⟨some 18, none, .ld true 4 (.t 17)⟩ (T.alt ⟨some 19, none, .call 233 [.t 14, .t 18]⟩ [] (T.pure 10 ⟨some 20, none, .un .not (.t 19)⟩ T.done) T.stop))))))))))) (.cond (.t 20) (.seq (.reg [⟨some 2, none, .mov (.c (.bool false))⟩]) .ret) .skip))) (.reg [⟨some 8, none, .mov (.t 3)⟩, ⟨some 9, none, .bin .add 3 (.t 8) (.c (.int .i64 1))⟩, ⟨some 3, none, .mov (.t 9)⟩])))))) (.seq (.reg [⟨some 21, none, .mov (.t 0)⟩, ⟨some 22, none, .len false (.t 21)⟩, ⟨some 23, none, .bin .leq 3 (.t 22) (.c (.int .i64 80))⟩, ⟨some 2, none, .mov (.t 23)⟩]) .ret))
theorem code_impl_ShelfOk : fnC Tryz.prog Tryz.f136 = some (c_impl_ShelfOk, [.t 2], 24) := by kernel_rfl
def c_slices_Index_int_int_ : C := .seq (.reg [⟨some 4, none, .mov (.c (.int .i64 0))⟩]) (.seq (.seq (.reg [⟨some 6, none, .mov (.t 0)⟩, ⟨some 7, none, .len false (.t 6)⟩, ⟨some 8, none, .mov (.c (.int .i64 0))⟩]) (.blk 0 (.loop (.seq (.reg [⟨some 9, none, .bin .lss 3 (.t 8) (.t 7)⟩]) (.seq (.cond (.t 9) .skip (.exit 0)) (.seq (.blk 1 (.seq (.reg [⟨some 10, none, .mov (.t 8)⟩, ⟨some 5, none, .mov (.t 10)⟩]) (.seq (.reg [⟨some 11, none, .mov (.t 1)⟩, ⟨some 12, none, .mov (.t 0)⟩, ⟨some 13, none, .mov (.t 5)⟩, ⟨some 14, none, .ia 1 (.t 12) (.t 13)⟩, ⟨some 15, none, .ld false 1 (.t 14)⟩, ⟨some 16, none, .bin .eql 3 (.t 11) (.t 15)⟩]) (.cond (.t 16) (.seq (.reg [⟨some 17, none, .mov (.t 5)⟩, ⟨some 4, none, .mov (.t 17)⟩]) .ret) .skip)))) (.reg [⟨some 18, none, .bin .add 3 (.t 8) (.c (.int .i64 1))⟩, ⟨some 8, none, .mov (.t 18)⟩]))))))) (.seq (.reg [⟨some 4, none, .mov (.c (.int .i64 (-1)))⟩]) .ret))
theorem code_slices_Index_int_int_ : fnC Tryz.prog Tryz.f234 = some (c_slices_Index_int_int_, [.t 4], 19) := by kernel_rfl
def c_slices_Contains_int_int_ : C := .seq (.reg [⟨some 4, none, .mov (.c (.bool false))⟩]) (.seq (.reg [⟨some 5, none, .mov (.t 0)⟩, ⟨some 6, none, .mov (.t 1)⟩, ⟨some 7, none, .call 234 [.t 5, .t 6]⟩, ⟨some 8, none, .bin .geq 3 (.t 7) (.c (.int .i64 0))⟩, ⟨some 4, none, .mov (.t 8)⟩]) .ret)
theorem code_slices_Contains_int_int_ : fnC Tryz.prog Tryz.f137 = some (c_slices_Contains_int_int_, [.t 4], 9) := by kernel_rfl
theorem p_spec_Ahead (x y : En) : Pure Tryz.prog 283 [.agg (encEn x), .agg (encEn y)] (.c (.val (.bool (aheadB x y)))) := by
  refine pure_fn Tryz.func283 code_spec_Ahead (by simp) ?_
  unfold c_spec_Ahead
  simp -implicitDefEqProofs only [go_sem, encEn]
  intro b b2
  by_cases h1 : x.prio > y.prio
  · have hb : aheadB x y = true := by simp [aheadB, h1]
    simp -implicitDefEqProofs only [go_sem, encEn, h1, hb]
  · cases h2 : x.prio == y.prio
    · have hb : aheadB x y = false := by
        have : ¬ x.prio = y.prio := by simpa using h2
        simp only [aheadB, decide_eq_false_iff_not]; omega
      simp -implicitDefEqProofs only [go_sem, encEn, h1, h2, hb]
    · have hb : aheadB x y = decide (x.seq < y.seq) := by
        have : x.prio = y.prio := by simpa using h2
        simp only [aheadB, this, Int.lt_irrefl, gt_iff_lt, false_or, true_and]
      simp -implicitDefEqProofs only [go_sem, encEn, h1, h2, hb]
theorem p_impl_Ahead (x y : En) : Pure Tryz.prog 233 [.agg (encEn x), .agg (encEn y)] (.c (.val (.bool (aheadB x y)))) := by
  refine pure_fn Tryz.func233 code_impl_Ahead (by simp) ?_
  unfold c_impl_Ahead
  simp -implicitDefEqProofs only [go_sem, encEn]
  intro b b2
  by_cases h1 : x.prio > y.prio
  · have hb : aheadB x y = true := by simp [aheadB, h1]
    simp -implicitDefEqProofs only [go_sem, encEn, h1, hb]
  · cases h2 : x.prio == y.prio
    · have hb : aheadB x y = false := by
        have : ¬ x.prio = y.prio := by simpa using h2
        simp only [aheadB, decide_eq_false_iff_not]; omega
      simp -implicitDefEqProofs only [go_sem, encEn, h1, h2, hb]
    · have hb : aheadB x y = decide (x.seq < y.seq) := by
        have : x.prio = y.prio := by simpa using h2
        simp only [aheadB, this, Int.lt_irrefl, gt_iff_lt, false_or, true_and]
      simp -implicitDefEqProofs only [go_sem, encEn, h1, h2, hb]
set_option maxHeartbeats 4000000 in
theorem p_spec_ShelfOk (l : List En) (hl : l.length ≤ 4000000) : Pure Tryz.prog 239 [.c (encEns l)] (.c (.val (.bool (shelfB l)))) := by
  refine pure_fn Tryz.func239 code_spec_ShelfOk (by simp) ?_
  unfold c_spec_ShelfOk
  simp -implicitDefEqProofs only [go_sem]
  by_cases h80 : 80 < l.length
  · have h80' : (l.length : Int) > 80 := by omega
    have hb : shelfB l = false := shelf_no fun h => by have := h.most; omega
    simp -implicitDefEqProofs only [go_sem, h80', hb]
  have h80' : ¬ (l.length : Int) > 80 := by omega
  simp -implicitDefEqProofs only [go_sem, h80']
  refine wp_loopW (fun i : Nat => St.of [(0, Ro (encEns l)), (3, Ni i)] []) (fun i => 1 ≤ i ∧ (i ≤ l.length ∨ i = 1) ∧ ∀ (k : Nat) (a b : En), k + 1 < i → l[k]? = some a → l[k + 1]? = some b → aheadB a b = true) (fun i => l.length - i) 1 (⟨by omega, .inr rfl, fun k a b h => by omega⟩) (wk_of [] (by simp -implicitDefEqProofs only [go_sem] <;> and_intros <;> first | rfl | assumption)) ?_
  rintro i ⟨hi1, hi2, hio⟩
  by_cases hlt : i < l.length
  · have hlt' : (i : Int) < l.length := by omega
    obtain ⟨j, rfl⟩ : ∃ j, i = j + 1 := ⟨i - 1, by omega⟩
    obtain ⟨x, hx⟩ := get_some (show j < l.length by omega)
    obtain ⟨y, hy⟩ := get_some hlt
    have hjl : j < l.length := by omega
    have hw : IntKind.i64.wrap (((j + 1 : Nat) : Int) + 1) = ((j + 1 + 1 : Nat) : Int) := wrap64 (by omega) (by omega)
    have hw1 : IntKind.i64.wrap (((j + 1 : Nat) : Int) - 1) = (j : Int) := by rw [wrap64 (by omega) (by omega)]; omega
    simp -implicitDefEqProofs only [go_sem, hlt', hlt, hjl, hw1, elem_encEns hx, elem_encEns hy, encEn]
    refine run_call (p_spec_Ahead x y) (by simp -implicitDefEqProofs only [go_sem, encEn]) fun η => ?_
    simp -implicitDefEqProofs only [go_sem, encEn]
    cases ha : aheadB x y
    · have hb : shelfB l = false := shelf_no fun h => by have := h.ahead j x y hx hy; rw [ha] at this; cases this
      simp -implicitDefEqProofs only [go_sem, ha, hb]
    · simp -implicitDefEqProofs only [go_sem, ha, hw]
      exact ⟨j + 1 + 1, ⟨by omega, .inl (by omega), fun k a b hk ha' hb' => by rcases Nat.lt_or_ge (k + 1) (j + 1) with h' | h'; exact hio k a b h' ha' hb'; obtain rfl : k = j := (by omega); rw [hx] at ha'; rw [hy] at hb'; cases ha'; cases hb'; exact ha⟩, (wk_of [] (by simp -implicitDefEqProofs only [go_sem] <;> and_intros <;> first | rfl | assumption)), by (try dsimp only); omega⟩
  have hlt' : ¬ (i : Int) < l.length := by omega
  have hb : shelfB l = true := shelf_yes ⟨by omega, fun k a b ha hb => hio k a b (by have := (List.getElem?_eq_some_iff.1 hb).1; omega) ha hb⟩
  simp -implicitDefEqProofs only [go_sem, hlt', hb]
set_option maxHeartbeats 4000000 in
theorem p_impl_ShelfOk (l : List En) (hl : l.length ≤ 4000000) : Pure Tryz.prog 136 [.c (encEns l)] (.c (.val (.bool (shelfB l)))) := by
  refine pure_fn Tryz.func136 code_impl_ShelfOk (by simp) ?_
  unfold c_impl_ShelfOk
  simp -implicitDefEqProofs only [go_sem]
  refine wp_loopW (fun i : Nat => St.of [(0, Ro (encEns l)), (3, Ni i)] []) (fun i => 1 ≤ i ∧ (i ≤ l.length ∨ i = 1) ∧ ∀ (k : Nat) (a b : En), k + 1 < i → l[k]? = some a → l[k + 1]? = some b → aheadB a b = true) (fun i => l.length - i) 1 (⟨by omega, .inr rfl, fun k a b h => by omega⟩) (wk_of [] (by simp -implicitDefEqProofs only [go_sem] <;> and_intros <;> first | rfl | assumption)) ?_
  rintro i ⟨hi1, hi2, hio⟩
  by_cases hlt : i < l.length
  · have hlt' : (i : Int) < l.length := by omega
    obtain ⟨j, rfl⟩ : ∃ j, i = j + 1 := ⟨i - 1, by omega⟩
    obtain ⟨x, hx⟩ := get_some (show j < l.length by omega)
    obtain ⟨y, hy⟩ := get_some hlt
    have hjl : j < l.length := by omega
    have hw : IntKind.i64.wrap (((j + 1 : Nat) : Int) + 1) = ((j + 1 + 1 : Nat) : Int) := wrap64 (by omega) (by omega)
    have hw1 : IntKind.i64.wrap (((j + 1 : Nat) : Int) - 1) = (j : Int) := by rw [wrap64 (by omega) (by omega)]; omega
    simp -implicitDefEqProofs only [go_sem, hlt', hlt, hjl, hw1, elem_encEns hx, elem_encEns hy, encEn]
    refine run_call (p_impl_Ahead x y) (by simp -implicitDefEqProofs only [go_sem, encEn]) fun η => ?_
    simp -implicitDefEqProofs only [go_sem, encEn]
    cases ha : aheadB x y
    · have hb : shelfB l = false := shelf_no fun h => by have := h.ahead j x y hx hy; rw [ha] at this; cases this
      simp -implicitDefEqProofs only [go_sem, ha, hb]
    · simp -implicitDefEqProofs only [go_sem, ha, hw]
      exact ⟨j + 1 + 1, ⟨by omega, .inl (by omega), fun k a b hk ha' hb' => by rcases Nat.lt_or_ge (k + 1) (j + 1) with h' | h'; exact hio k a b h' ha' hb'; obtain rfl : k = j := (by omega); rw [hx] at ha'; rw [hy] at hb'; cases ha'; cases hb'; exact ha⟩, (wk_of [] (by simp -implicitDefEqProofs only [go_sem] <;> and_intros <;> first | rfl | assumption)), by (try dsimp only); omega⟩
  have hlt' : ¬ (i : Int) < l.length := by omega
  by_cases h80 : l.length ≤ 80
  · have h80' : (l.length : Int) ≤ 80 := by omega
    have hb : shelfB l = true := shelf_yes ⟨h80, fun k a b ha hb => hio k a b (by have := (List.getElem?_eq_some_iff.1 hb).1; omega) ha hb⟩
    simp -implicitDefEqProofs only [go_sem, hlt', h80', hb]
  · have h80' : ¬ (l.length : Int) ≤ 80 := by omega
    have hb : shelfB l = false := shelf_no fun h => h80 h.most
    simp -implicitDefEqProofs only [go_sem, hlt', h80', hb]
set_option maxHeartbeats 4000000 in
theorem p_IndexI (l : List Int) (e : Int) (hl : l.length ≤ 4000000) : Pure Tryz.prog 234 [.c (encInts l), .c (.val (.int .i64 e))] (.c (.val (.int .i64 (findI (fun x => e == x) l)))) := by
  refine pure_fn Tryz.func234 code_slices_Index_int_int_ (by simp) ?_
  unfold c_slices_Index_int_int_
  simp -implicitDefEqProofs only [go_sem]
  refine wp_loopW (fun i : Nat => St.of [(0, Ro (encInts l)), (1, Ni e), (7, Ni l.length), (8, Ni i)] []) (fun i => i ≤ l.length ∧ ∀ y ∈ l.take i, (fun x => e == x) y = false) (fun i => l.length - i) 0 (by (try dsimp only); first | omega | (simp; done) | (and_intros <;> first | omega | simp)) (wk_of [] (by simp -implicitDefEqProofs only [go_sem] <;> and_intros <;> first | rfl | assumption)) ?_
  rintro k ⟨hk, hko⟩
  by_cases hlt : k < l.length
  · have hlt' : (k : Int) < l.length := by omega
    obtain ⟨x, hx⟩ := get_some hlt
    have hw : IntKind.i64.wrap ((k : Int) + 1) = ((k + 1 : Nat) : Int) := wrap64 (by omega) (by omega)
    cases heq : e == x
    · simp -implicitDefEqProofs only [go_sem, hlt, hlt', elem_encInts hx, heq, hw]
      exact ⟨k + 1, ⟨hlt, take_no hx heq hko⟩, (wk_of [] (by simp -implicitDefEqProofs only [go_sem] <;> and_intros <;> first | rfl | assumption)), by (try dsimp only); omega⟩
    · simp -implicitDefEqProofs only [go_sem, hlt, hlt', elem_encInts hx, heq, findI_hit hx heq hko]
  · have hlt' : ¬ (k : Int) < l.length := by omega
    rw [List.take_of_length_le (by omega)] at hko
    simp -implicitDefEqProofs only [go_sem, hlt', findI_none hko]
set_option maxHeartbeats 4000000 in
theorem p_ContainsI (l : List Int) (e : Int) (hl : l.length ≤ 4000000) : Pure Tryz.prog 137 [.c (encInts l), .c (.val (.int .i64 e))] (.c (.val (.bool (decide (e ∈ l))))) := by
  refine pure_fn Tryz.func137 code_slices_Contains_int_int_ (by simp) ?_
  unfold c_slices_Contains_int_int_
  simp -implicitDefEqProofs only [go_sem]
  refine run_call (p_IndexI l e hl) (by simp -implicitDefEqProofs only [go_sem]) fun η => ?_
  simp -implicitDefEqProofs only [go_sem]
  rcases findI_cases (fun x => e == x) l with ⟨h1, h2⟩ | ⟨k, x, h1, h2, h3, -⟩
  · have hm : decide (e ∈ l) = false := decide_eq_false fun h => by have := h2 e h; simp at this
    rw [h1, hm]
    simp -implicitDefEqProofs only [go_sem]
  · have hm : decide (e ∈ l) = true := decide_eq_true (by have h4 : e = x := by simpa using h3
                                                          exact h4 ▸ List.mem_of_getElem? h2)
    have hk : (k : Int) ≥ 0 := by omega
    rw [h1, hm]
    simp -implicitDefEqProofs only [go_sem, hk]
end Go.Proofs.YtmnpailnelmpiaaGreat
set_option linter.unusedSimpArgs false
set_option linter.unusedVariables false
set_option maxRecDepth 100000
namespace Go.Proofs.YtmnpailnelmpiaaGreat
open Go.RowKit Go.Sort
def c_spec_l10Run : C := .seq (.reg [⟨some 3, none, .box 37 4 (.t 0)⟩, ⟨some 4, none, .box 108 8 (.t 1)⟩, ⟨some 6, none, .mov (.c (.bool false))⟩]) (.seq (.seq (.reg [⟨some 7, none, .mov (.c (.int .i64 0))⟩]) (.blk 0 (.loop (.seq (.seq (.reg [⟨some 10, none, .mov (.t 7)⟩, ⟨some 11, none, .fa 7 (.t 4)⟩, ⟨some 12, none, .ld false 1 (.t 11)⟩, ⟨some 13, none, .len false (.t 12)⟩, ⟨some 14, none, .bin .lss 3 (.t 10) (.t 13)⟩]) (.cond (.t 14) .skip (.exit 0))) (.seq (.blk 1 (.seq (.reg [⟨some 8, none, .mov (.c (.int .i64 0))⟩]) (.seq (.seq (.reg [⟨some 9, none, .mov (.c (.int .i64 0))⟩]) (.blk 2 (.loop (.seq (.seq (.reg [⟨some 17, none, .mov (.t 9)⟩, ⟨some 18, none, .mov (.t 2)⟩, ⟨some 19, none, .len false (.t 18)⟩, ⟨some 20, none, .bin .lss 3 (.t 17) (.t 19)⟩]) (.cond (.t 20) .skip (.exit 2))) (.seq (.blk 3 (.seq (.dreg (T.pure 0 ⟨some 23, none, .mov (.t 2)⟩ (T.pure 1 ⟨some 24, none, .mov (.t 9)⟩ (T.pure 2 ⟨some 25, none, .ia 4 (.t 23) (.t 24)⟩ (T.pure 3 ⟨some 26, none, .fa 2 (.t 25)⟩ (T.pure 4 ⟨some 27, none, .ld false 1 (.t 26)⟩ (T.pure 5 ⟨some 28, none, .fa 0 (.t 4)⟩ (T.pure 6 ⟨some 29, none, .ld false 1 (.t 28)⟩ (T.pure 7 ⟨some 30, none, .bin .eql 3 (.t 27) (.t 29)⟩ (T.pure 8 ⟨some 31, none, .mov (.t 30)⟩ (T.pure 9 ⟨some 32, some (31, true), .mov (.t 2)⟩ (T.pure 10 ⟨some 33, some (31, true), .mov (.t 9)⟩ (T.pure 11 ⟨some 34, some (31, true), .ia 4 (.t 32) (.t 33)⟩ (T.pure 12 ⟨some 35, some (31, true), .fa 3 (.t 34)⟩ (T.pure 13 ⟨some 36, some (31, true), .ld false 1 (.t 35)⟩ (T.pure 14 ⟨some 37, some (31, true), .mov (.t 7)⟩ (T.pure 15 ⟨some 38, some (31, true), .bin .eql 3 (.t 36) (.t 37)⟩ (T.pure 16 ⟨some 39, none, .pick (.t 31) (.t 38) (.c (.bool false))⟩ T.done)))))))))))))))))) (.cond (.t 39) (.seq (.reg [⟨some 40, none, .mov (.t 8)⟩, ⟨some 41, none, .bin .add 3 (.t 40) (.c (.int .i64 1))⟩, ⟨some 8, none, .mov (.t 41)⟩]) (.seq (.dreg (T.pure 0 ⟨some 42, none, .fa 7 (.t 4)⟩ (T.pure 1 ⟨some 43, none, .ld false 1 (.t 42)⟩ (T.pure 2 ⟨some 44, none, .mov (.t 7)⟩ (T.pure 3 ⟨some 45, none, .ia 4 (.t 43) (.t 44)⟩ (T.pure 4 ⟨some 46, none, .fa 0 (.t 45)⟩ (T.pure 5 ⟨some 47, none, .ld false 1 (.t 46)⟩ (T.pure 6 ⟨some 48, none, .bin .eql 3 (.t 47) (.c (.int .i64 2))⟩ (T.pure 7 ⟨some 49, none, .mov (.t 48)⟩ (T.pure 8 ⟨some 50, some (49, true), .mov (.t 2)⟩ (T.pure 9 ⟨some 51, some (49, true), .mov (.t 9)⟩ (T.pure 10 ⟨some 52, some (49, true), .ia 4 (.t 50) (.t 51)⟩ (T.pure 11 ⟨some 53, some (49, true), .fa 0 (.t 52)⟩ (T.pure 12 ⟨some 54, some (49, true), .ld false 1 (.t 53)⟩ (T.pure 13 ⟨some 55, some (49, true), .fa 1 (.t 4)⟩ (T.pure 14 ⟨some 56, some (49, true), .fa 0 (.t 55)⟩ (T.pure 15 ⟨some 57, some (49, true), .ld false 1 (.t 56)⟩ (T.pure 16 ⟨some 58, some (49, true), .bin .neq 3 (.t 54) (.t 57)⟩ (T.pure 17 ⟨some 59, none, .pick (.t 49) (.t 58) (.c (.bool false))⟩ T.done))))))))))))))))))) (.cond (.t 59) (.seq (.reg [⟨some 6, none, .mov (.c (.bool false))⟩]) .ret) .skip))) .skip))) (.reg [⟨some 21, none, .mov (.t 9)⟩, ⟨some 22, none, .bin .add 3 (.t 21) (.c (.int .i64 1))⟩, ⟨some 9, none, .mov (.t 22)⟩])))))) (.seq (.dreg (T.pure 0 ⟨some 60, none, .fa 7 (.t 4)⟩ (T.pure 1 ⟨some 61, none, .ld false 1 (.t 60)⟩ (T.pure 2 ⟨some 62, none, .mov (.t 7)⟩ (T.pure 3 ⟨some 63, none, .ia 4 (.t 61) (.t 62)⟩ (T.pure 4 ⟨some 64, none, .fa 0 (.t 63)⟩ (T.pure 5 ⟨some 65, none, .ld false 1 (.t 64)⟩ (T.pure 6 ⟨some 66, none, .bin .eql 3 (.t 65) (.c (.int .i64 2))⟩ (T.pure 7 ⟨some 67, none, .mov (.t 66)⟩ (T.pure 8 ⟨some 68, some (67, true), .mov (.t 8)⟩ (T.pure 9 ⟨some 69, some (67, true), .bin .neq 3 (.t 68) (.c (.int .i64 1))⟩ (T.pure 10 ⟨some 70, none, .pick (.t 67) (.t 69) (.c (.bool false))⟩ (T.pure 11 ⟨some 71, none, .mov (.t 70)⟩ (T.pure 12 ⟨some 72, some (71, false), .fa 7 (.t 4)⟩ (T.pure 13 ⟨some 73, some (71, false), .ld false 1 (.t 72)⟩ (T.pure 14 ⟨some 74, some (71, false), .mov (.t 7)⟩ (T.pure 15 ⟨some 75, some (71, false), .ia 4 (.t 73) (.t 74)⟩ (T.pure 16 ⟨some 76, some (71, false), .fa 0 (.t 75)⟩ (T.pure 17 ⟨some 77, some (71, false), .ld false 1 (.t 76)⟩ (T.pure 18 ⟨some 78, some (71, false), .bin .eql 3 (.t 77) (.c (.int .i64 3))⟩ (T.pure 19 ⟨some 79, some (71, false), .mov (.t 78)⟩ (T.pure 20 ⟨some 80, some (79, true), .fa 7 (.t 4)⟩ (T.pure 21 ⟨some 81, some (79, true), .ld false 1 (.t 80)⟩ (T.pure 22 ⟨some 82, some (79, true), .mov (.t 7)⟩ (T.pure 23 ⟨some 83, some (79, true), .ia 4 (.t 81) (.t 82)⟩ (T.pure 24 ⟨some 84, some (79, true), .fa 3 (.t 83)⟩ (T.pure 25 ⟨some 85, some (79, true), .ld false 1 (.t 84)⟩ (T.pure 26 ⟨some 86, some (79, true), .fa 0 (.t 3)⟩ (T.pure 27 ⟨some 87, some (79, true), .ld false 1 (.t 86)⟩ (T.pure 28 ⟨some 88, some (79, true), .bin .add 3 (.t 87) (.c (.int .i64 1))⟩ (T.pure 29 ⟨some 89, some (79, true), .fa 0 (.t 3)⟩ (T.pure 30 ⟨some 90, some (79, true), .ld false 1 (.t 89)⟩ (T.pure 31 ⟨some 91, some (79, true), .fa 1 (.t 4)⟩ (T.pure 32 ⟨some 92, some (79, true), .fa 2 (.t 91)⟩ (T.pure 33 ⟨some 93, some (79, true), .ld false 1 (.t 92)⟩ (T.pure 34 ⟨some 94, some (79, true), .bin .add 3 (.t 90) (.t 93)⟩ (T.alt ⟨some 95, some (79, true), .call 74 [.t 85, .t 88, .t 94]⟩ [] (T.pure 36 ⟨some 96, some (79, true), .un .not (.t 95)⟩ (T.pure 37 ⟨some 97, some (71, false), .pick (.t 79) (.t 96) (.c (.bool false))⟩ (T.pure 38 ⟨some 98, none, .pick (.t 71) (.c (.bool true)) (.t 97)⟩ T.done))) T.stop))))))))))))))))))))))))))))))))))))) (.cond (.t 98) (.seq (.reg [⟨some 6, none, .mov (.c (.bool false))⟩]) .ret) .skip))))) (.reg [⟨some 15, none, .mov (.t 7)⟩, ⟨some 16, none, .bin .add 3 (.t 15) (.c (.int .i64 1))⟩, ⟨some 7, none, .mov (.t 16)⟩])))))) (.seq (.reg [⟨some 6, none, .mov (.c (.bool true))⟩]) .ret))
theorem code_spec_l10Run : fnC Tryz.prog Tryz.f153 = some (c_spec_l10Run, [.t 6], 99) := by kernel_rfl
def c_impl_runsOk : C := .seq (.reg [⟨some 3, none, .box 37 4 (.t 0)⟩, ⟨some 4, none, .box 108 8 (.t 1)⟩, ⟨some 6, none, .mov (.c (.bool false))⟩]) (.seq (.seq (.reg [⟨some 12, none, .fa 7 (.t 4)⟩, ⟨some 13, none, .ld false 1 (.t 12)⟩, ⟨some 14, none, .len false (.t 13)⟩, ⟨some 15, none, .mov (.c (.int .i64 0))⟩]) (.blk 0 (.loop (.seq (.reg [⟨some 16, none, .bin .lss 3 (.t 15) (.t 14)⟩]) (.seq (.cond (.t 16) .skip (.exit 0)) (.seq (.blk 1 (.seq (.reg [⟨some 17, none, .mov (.t 15)⟩, ⟨some 18, none, .ia 4 (.t 13) (.t 15)⟩, ⟨some 19, none, .ld true 4 (.t 18)⟩, ⟨some 8, none, .alloc 172 [.int .i64 0, .int .i64 0, .int .i64 0, .int .i64 0]⟩, ⟨some 7, none, .mov (.t 17)⟩, ⟨none, none, .st 4 [none, none, none, none] (.t 8) (.t 19)⟩]) (.seq (.reg [⟨some 9, none, .mov (.c (.int .i64 0))⟩]) (.seq (.seq (.reg [⟨some 20, none, .mov (.t 2)⟩, ⟨some 21, none, .len false (.t 20)⟩, ⟨some 22, none, .mov (.c (.int .i64 0))⟩]) (.blk 2 (.loop (.seq (.reg [⟨some 23, none, .bin .lss 3 (.t 22) (.t 21)⟩]) (.seq (.cond (.t 23) .skip (.exit 2)) (.seq (.blk 3 (.seq (.reg [⟨some 24, none, .ia 4 (.t 20) (.t 22)⟩, ⟨some 25, none, .ld true 4 (.t 24)⟩, ⟨some 11, none, .alloc 111 [.int .i64 0, .int .i64 0, .int .i64 0, .int .i64 0]⟩, ⟨none, none, .st 4 [none, none, none, none] (.t 11) (.t 25)⟩]) (.seq (.reg [⟨some 26, none, .fa 2 (.t 11)⟩, ⟨some 27, none, .ld false 1 (.t 26)⟩, ⟨some 28, none, .fa 0 (.t 4)⟩, ⟨some 29, none, .ld false 1 (.t 28)⟩, ⟨some 30, none, .bin .eql 3 (.t 27) (.t 29)⟩, ⟨some 31, none, .mov (.t 30)⟩, ⟨some 32, some (31, true), .fa 3 (.t 11)⟩, ⟨some 33, some (31, true), .ld false 1 (.t 32)⟩, ⟨some 34, some (31, true), .mov (.t 7)⟩, ⟨some 35, some (31, true), .bin .eql 3 (.t 33) (.t 34)⟩, ⟨some 36, none, .pick (.t 31) (.t 35) (.c (.bool false))⟩]) (.cond (.t 36) (.seq (.seq (.reg [⟨some 37, none, .fa 0 (.t 8)⟩, ⟨some 38, none, .ld false 1 (.t 37)⟩, ⟨some 39, none, .bin .eql 3 (.t 38) (.c (.int .i64 2))⟩, ⟨some 40, none, .mov (.t 39)⟩, ⟨some 41, some (40, true), .fa 0 (.t 11)⟩, ⟨some 42, some (40, true), .ld false 1 (.t 41)⟩, ⟨some 43, some (40, true), .fa 1 (.t 4)⟩, ⟨some 44, some (40, true), .fa 0 (.t 43)⟩, ⟨some 45, some (40, true), .ld false 1 (.t 44)⟩, ⟨some 46, some (40, true), .bin .neq 3 (.t 42) (.t 45)⟩, ⟨some 47, none, .pick (.t 40) (.t 46) (.c (.bool false))⟩]) (.cond (.t 47) (.seq (.reg [⟨some 6, none, .mov (.c (.bool false))⟩]) .ret) .skip)) (.reg [⟨some 48, none, .mov (.t 9)⟩, ⟨some 49, none, .bin .add 3 (.t 48) (.c (.int .i64 1))⟩, ⟨some 9, none, .mov (.t 49)⟩])) .skip)))) (.reg [⟨some 50, none, .bin .add 3 (.t 22) (.c (.int .i64 1))⟩, ⟨some 22, none, .mov (.t 50)⟩]))))))) (.seq (.reg [⟨some 51, none, .fa 0 (.t 8)⟩, ⟨some 52, none, .ld false 1 (.t 51)⟩, ⟨some 53, none, .bin .eql 3 (.t 52) (.c (.int .i64 2))⟩, ⟨some 54, none, .mov (.t 53)⟩, ⟨some 55, some (54, true), .mov (.t 9)⟩, ⟨some 56, some (54, true), .bin .neq 3 (.t 55) (.c (.int .i64 1))⟩, ⟨some 57, none, .pick (.t 54) (.t 56) (.c (.bool false))⟩, ⟨some 58, none, .mov (.t 57)⟩, ⟨some 59, some (58, false), .fa 0 (.t 8)⟩, ⟨some 60, some (58, false), .ld false 1 (.t 59)⟩, ⟨some 61, some (58, false), .bin .eql 3 (.t 60) (.c (.int .i64 3))⟩, ⟨some 62, some (58, false), .mov (.t 61)⟩, ⟨some 63, some (62, true), .fa 3 (.t 8)⟩, ⟨some 64, some (62, true), .ld false 1 (.t 63)⟩, ⟨some 65, some (62, true), .fa 0 (.t 3)⟩, ⟨some 66, some (62, true), .ld false 1 (.t 65)⟩, ⟨some 67, some (62, true), .bin .add 3 (.t 66) (.c (.int .i64 1))⟩, ⟨some 68, some (62, true), .fa 0 (.t 3)⟩, ⟨some 69, some (62, true), .ld false 1 (.t 68)⟩, ⟨some 70, some (62, true), .fa 1 (.t 4)⟩, ⟨some 71, some (62, true), .fa 2 (.t 70)⟩, ⟨some 72, some (62, true), .ld false 1 (.t 71)⟩, ⟨some 73, some (62, true), .bin .add 3 (.t 69) (.t 72)⟩, ⟨some 74, some (62, true), .call 78 [.t 64, .t 67, .t 73]⟩, ⟨some 75, some (62, true), .un .not (.t 74)⟩, ⟨some 76, some (58, false), .pick (.t 62) (.t 75) (.c (.bool false))⟩, ⟨some 77, none, .pick (.t 58) (.c (.bool true)) (.t 76)⟩]) (.cond (.t 77) (.seq (.reg [⟨some 6, none, .mov (.c (.bool false))⟩]) .ret) .skip)))))) (.reg [⟨some 78, none, .bin .add 3 (.t 15) (.c (.int .i64 1))⟩, ⟨some 15, none, .mov (.t 78)⟩]))))))) (.seq (.reg [⟨some 6, none, .mov (.c (.bool true))⟩]) .ret))
theorem code_impl_runsOk : fnC Tryz.prog Tryz.f139 = some (c_impl_runsOk, [.t 6], 79) := by kernel_rfl
set_option maxHeartbeats 16000000 in
theorem p_spec_l10Run (y : Yd) (r : Rn) (l : List En) (hl : l.length ≤ 4000000) (ht : r.tasks.length ≤ 4000000) (hy : 0 ≤ y.now ∧ y.now ≤ 999999980) (hwt : 1 ≤ r.plan.wait ∧ r.plan.wait ≤ 20) : Pure Tryz.prog 153 [.agg (encYd y), .agg (encRn r), .c (encEns l)] (.c (.val (.bool (runInB y r l)))) := by
  refine pure_fn Tryz.func153 code_spec_l10Run (by simp) ?_
  unfold c_spec_l10Run
  have hwn : IntKind.i64.wrap (y.now + 1) = y.now + 1 := wrap64 (by omega) (by omega)
  have hww : IntKind.i64.wrap (y.now + r.plan.wait) = y.now + r.plan.wait := wrap64 (by omega) (by omega)
  simp -implicitDefEqProofs only [go_sem, encYd, encRn, encPl, encTk, encEn]
  intro b3 b4
  refine wp_loopW (fun i : Nat => St.of [(2, Ro (encEns l)), (3, Bx 300 b3), (4, Bx 400 b4), (7, Ni i)] [(300, Bi b3 _ (encYd y)), (400, Bi b4 _ (encRn r))]) (fun i => i ≤ r.tasks.length ∧ ∀ (t : Nat) (x : Tk), t < i → r.tasks[t]? = some x → taskIn y r l t x) (fun i => r.tasks.length - i) 0 (by (try dsimp only); first | omega | (simp; done) | (and_intros <;> first | omega | simp)) (wk_of [some 300, some 400] (by simp -implicitDefEqProofs only [go_sem, encYd, encRn, encPl, encTk, encEn] <;> and_intros <;> first | rfl | assumption)) ?_
  rintro k ⟨hk, hko⟩
  by_cases hlt : k < r.tasks.length
  · have hlt' : (k : Int) < r.tasks.length := by omega
    have h0k : (k : Int) ≥ 0 := by omega
    obtain ⟨x, hx⟩ := get_some hlt
    have hw : IntKind.i64.wrap ((k : Int) + 1) = ((k + 1 : Nat) : Int) := wrap64 (by omega) (by omega)
    simp -implicitDefEqProofs only [go_sem, encYd, encRn, encPl, encTk, encEn, hlt']
    refine wp_loopW (fun i : Nat => St.of [(2, Ro (encEns l)), (3, Bx 300 b3), (4, Bx 400 b4), (7, Ni k), (8, Ni (cntE r.id k (l.take i))), (9, Ni i)] [(300, Bi b3 _ (encYd y)), (400, Bi b4 _ (encRn r))]) (fun i => i ≤ l.length ∧ (x.state = 2 → ∀ e ∈ l.take i, e.run = r.id → e.task = k → e.prio = r.plan.prio)) (fun i => l.length - i) 0 (by (try dsimp only); first | omega | (simp; done) | (and_intros <;> first | omega | simp)) (wk_of [some 300, some 400] (by simp -implicitDefEqProofs only [go_sem, encYd, encRn, encPl, encTk, encEn, List.take_zero, cntE, List.filter_nil, List.length_nil] <;> and_intros <;> first | rfl | assumption)) ?_
    rintro j ⟨hj, hjo⟩
    by_cases hjl : j < l.length
    · as_aux_lemma =>
        have hjl' : (j : Int) < l.length := by omega
        obtain ⟨e, he⟩ := get_some hjl
        have hwj : IntKind.i64.wrap ((j : Int) + 1) = ((j + 1 : Nat) : Int) := wrap64 (by omega) (by omega)
        have hcl := cntE_le (l.take j) r.id k
        rw [List.length_take] at hcl
        have hwc : IntKind.i64.wrap ((cntE r.id k (l.take j) : Int) + 1) = ((cntE r.id k (l.take j) + 1 : Nat) : Int) := wrap64 (by omega) (by omega)
        have hnx : ¬ (e.run = r.id ∧ e.task = k) → (x.state = 2 → ∀ e ∈ l.take (j + 1), e.run = r.id → e.task = k → e.prio = r.plan.prio) := fun hno h2 e2 he2 h3 h4 => by
          rw [List.take_add_one, he] at he2
          rcases List.mem_append.1 he2 with he2 | he2
          · exact hjo h2 e2 he2 h3 h4
          · simp at he2; subst he2; exact absurd ⟨h3, h4⟩ hno
        simp -implicitDefEqProofs only [go_sem, encYd, encRn, encPl, encTk, encEn, hjl, hjl', elem_encEns he]
        cases hr : e.run == r.id
        · have hs := cntE_no (id := r.id) (t := k) he (fun h => by have := h.1; simp [this] at hr)
          simp -implicitDefEqProofs only [go_sem, encYd, encRn, encPl, encTk, encEn, hjl, hjl', elem_encEns he, hr, hwj]
          exact ⟨j + 1, ⟨hjl, hnx (fun h => by have := h.1; simp [this] at hr)⟩, (wk_of [some 300, some 400] (by simp -implicitDefEqProofs only [go_sem, encYd, encRn, encPl, encTk, encEn, hs] <;> and_intros <;> first | rfl | assumption)), by (try dsimp only); omega⟩
        have hr' : e.run = r.id := by simpa using hr
        cases htk : e.task == (k : Int)
        · have hs := cntE_no (id := r.id) (t := k) he (fun h => by have := h.2; simp [this] at htk)
          simp -implicitDefEqProofs only [go_sem, encYd, encRn, encPl, encTk, encEn, hjl, hjl', elem_encEns he, hr, htk, hwj]
          exact ⟨j + 1, ⟨hjl, hnx (fun h => by have := h.2; simp [this] at htk)⟩, (wk_of [some 300, some 400] (by simp -implicitDefEqProofs only [go_sem, encYd, encRn, encPl, encTk, encEn, hs] <;> and_intros <;> first | rfl | assumption)), by (try dsimp only); omega⟩
        have htk' : e.task = k := by simpa using htk
        have hs := cntE_yes he hr' htk'
        simp -implicitDefEqProofs only [go_sem, encYd, encRn, encPl, encTk, encEn, hjl, hjl', elem_encEns he, hr, htk, hwc, hlt, hlt', h0k, elem_encTks hx]
        cases h2 : x.state == 2
        · simp -implicitDefEqProofs only [go_sem, encYd, encRn, encPl, encTk, encEn, hjl, hjl', elem_encEns he, h2, hwj, hwc]
          exact ⟨j + 1, ⟨hjl, fun h => by simp [h] at h2⟩, (wk_of [some 300, some 400] (by simp -implicitDefEqProofs only [go_sem, encYd, encRn, encPl, encTk, encEn, hs] <;> and_intros <;> first | rfl | assumption)), by (try dsimp only); omega⟩
        have h2' : x.state = 2 := by simpa using h2
        cases hp : e.prio != r.plan.prio
        · have hp' : e.prio = r.plan.prio := by simpa using hp
          simp -implicitDefEqProofs only [go_sem, encYd, encRn, encPl, encTk, encEn, hjl, hjl', elem_encEns he, h2, hp, hwj, hwc]
          exact ⟨j + 1, ⟨hjl, fun _ e2 he2 h3 h4 => by rw [List.take_add_one, he] at he2; rcases List.mem_append.1 he2 with he2 | he2; exact hjo h2' e2 he2 h3 h4; simp at he2; subst he2; exact hp'⟩, (wk_of [some 300, some 400] (by simp -implicitDefEqProofs only [go_sem, encYd, encRn, encPl, encTk, encEn, hs] <;> and_intros <;> first | rfl | assumption)), by (try dsimp only); omega⟩
        · have hb : runInB y r l = false := runIn_no fun h => by
            have := ((h k x hx).1 h2').1 e (List.mem_of_getElem? he) hr' htk'
            simp [this] at hp
          simp -implicitDefEqProofs only [go_sem, encYd, encRn, encPl, encTk, encEn, hjl, hjl', elem_encEns he, h2, hp, hb]
    as_aux_lemma =>
      have hjl' : ¬ (j : Int) < l.length := by omega
      rw [List.take_of_length_le (by omega)] at hjo
      rw [List.take_of_length_le (by omega)]
      have hnx2 : taskIn y r l k x → ∀ (t : Nat) (z : Tk), t < k + 1 → r.tasks[t]? = some z → taskIn y r l t z := fun h t z ht hz => by
        rcases Nat.lt_or_ge t k with h' | h'
        · exact hko t z h' hz
        · obtain rfl : t = k := by omega
          rw [hx] at hz; cases hz; exact h
      cases h2 : x.state == 2
      rotate_left
      · have h2' : x.state = 2 := by simpa using h2
        have h3 : (x.state == 3) = false := by simp [h2']
        cases hc : ((cntE r.id k l : Nat) : Int) != 1
        · as_aux_lemma =>
            have hc' : cntE r.id k l = 1 := by have : ((cntE r.id k l : Nat) : Int) = 1 := by simpa only [bne_eq_false_iff_eq] using hc
                                               omega
            simp -implicitDefEqProofs only [go_sem, encYd, encRn, encPl, encTk, encEn, hjl', hlt, hlt', h0k, elem_encTks hx, h2, hc, h3, hw]
            exact ⟨k + 1, ⟨hlt, hnx2 ⟨fun _ => ⟨hjo h2', hc'⟩, fun h => by omega⟩⟩, (wk_of [some 300, some 400] (by simp -implicitDefEqProofs only [go_sem, encYd, encRn, encPl, encTk, encEn] <;> and_intros <;> first | rfl | assumption)), by (try dsimp only); omega⟩
        · as_aux_lemma =>
            have hb : runInB y r l = false := runIn_no fun h => by
              have := ((h k x hx).1 h2').2
              rw [this] at hc
              cases hc
            simp -implicitDefEqProofs only [go_sem, encYd, encRn, encPl, encTk, encEn, hjl', hlt, hlt', h0k, elem_encTks hx, h2, hc, hb]
      · have h2' : ¬ x.state = 2 := by simpa using h2
        cases h3 : x.state == 3
        · as_aux_lemma =>
            have h3' : ¬ x.state = 3 := by simpa using h3
            simp -implicitDefEqProofs only [go_sem, encYd, encRn, encPl, encTk, encEn, hjl', hlt, hlt', h0k, elem_encTks hx, h2, h3, hw]
            exact ⟨k + 1, ⟨hlt, hnx2 ⟨fun h => absurd h h2', fun h => absurd h h3'⟩⟩, (wk_of [some 300, some 400] (by simp -implicitDefEqProofs only [go_sem, encYd, encRn, encPl, encTk, encEn] <;> and_intros <;> first | rfl | assumption)), by (try dsimp only); omega⟩
        · have h3' : x.state = 3 := by simpa using h3
          as_aux_lemma =>
            simp -implicitDefEqProofs only [go_sem, encYd, encRn, encPl, encTk, encEn, hjl', hlt, hlt', h0k, elem_encTks hx, h2, h3, hwn, hww]
            refine run_call (p_spec_l01In x.til (y.now + 1) (y.now + r.plan.wait)) (by simp -implicitDefEqProofs only [go_sem, encYd, encRn, encPl, encTk, encEn, hwn, hww]) fun η => ?_
            simp -implicitDefEqProofs only [go_sem, encYd, encRn, encPl, encTk, encEn, hwn, hww]
            cases ht : decide (y.now + 1 ≤ x.til ∧ x.til ≤ y.now + r.plan.wait)
            · have hb : runInB y r l = false := runIn_no fun h => by
                have := (h k x hx).2 h3'
                simp [this] at ht
              simp -implicitDefEqProofs only [go_sem, encYd, encRn, encPl, encTk, encEn, ht, hb]
            · have ht' : y.now + 1 ≤ x.til ∧ x.til ≤ y.now + r.plan.wait := of_decide_eq_true ht
              simp -implicitDefEqProofs only [go_sem, encYd, encRn, encPl, encTk, encEn, ht, hw]
              exact ⟨k + 1, ⟨hlt, hnx2 ⟨fun h => absurd h h2', fun _ => ht'⟩⟩, (wk_of [some 300, some 400] (by simp -implicitDefEqProofs only [go_sem, encYd, encRn, encPl, encTk, encEn] <;> and_intros <;> first | rfl | assumption)), by (try dsimp only); omega⟩
  have hlt' : ¬ (k : Int) < r.tasks.length := by omega
  have hb : runInB y r l = true := runIn_yes fun t x hx => hko t x (by have := (List.getElem?_eq_some_iff.1 hx).1; omega) hx
  simp -implicitDefEqProofs only [go_sem, encYd, encRn, encPl, encTk, encEn, hlt', hb]
set_option maxHeartbeats 16000000 in
theorem p_impl_runsOk (y : Yd) (r : Rn) (l : List En) (hl : l.length ≤ 4000000) (ht : r.tasks.length ≤ 4000000) (hy : 0 ≤ y.now ∧ y.now ≤ 999999980) (hwt : 1 ≤ r.plan.wait ∧ r.plan.wait ≤ 20) : Pure Tryz.prog 139 [.agg (encYd y), .agg (encRn r), .c (encEns l)] (.c (.val (.bool (runInB y r l)))) := by
  refine pure_fn Tryz.func139 code_impl_runsOk (by simp) ?_
  unfold c_impl_runsOk
  have hwn : IntKind.i64.wrap (y.now + 1) = y.now + 1 := wrap64 (by omega) (by omega)
  have hww : IntKind.i64.wrap (y.now + r.plan.wait) = y.now + r.plan.wait := wrap64 (by omega) (by omega)
  simp -implicitDefEqProofs only [go_sem, encYd, encRn, encPl, encTk, encEn]
  intro b3 b4
  refine wp_loopW (fun i : Nat => St.of [(2, Ro (encEns l)), (3, Bx 300 b3), (4, Bx 400 b4), (13, Ro (encTks r.tasks)), (14, Ni r.tasks.length), (15, Ni i)] [(300, Bi b3 _ (encYd y)), (400, Bi b4 _ (encRn r))]) (fun i => i ≤ r.tasks.length ∧ ∀ (t : Nat) (x : Tk), t < i → r.tasks[t]? = some x → taskIn y r l t x) (fun i => r.tasks.length - i) 0 (by (try dsimp only); first | omega | (simp; done) | (and_intros <;> first | omega | simp)) (wk_of [some 300, some 400] (by simp -implicitDefEqProofs only [go_sem, encYd, encRn, encPl, encTk, encEn] <;> and_intros <;> first | rfl | assumption)) ?_
  rintro k ⟨hk, hko⟩
  by_cases hlt : k < r.tasks.length
  · have hlt' : (k : Int) < r.tasks.length := by omega
    have h0k : (k : Int) ≥ 0 := by omega
    obtain ⟨x, hx⟩ := get_some hlt
    have hw : IntKind.i64.wrap ((k : Int) + 1) = ((k + 1 : Nat) : Int) := wrap64 (by omega) (by omega)
    simp -implicitDefEqProofs only [go_sem, encYd, encRn, encPl, encTk, encEn, hlt, hlt', elem_encTks hx]
    intro b8
    refine wp_loopW (fun i : Nat => St.of [(2, Ro (encEns l)), (3, Bx 300 b3), (4, Bx 400 b4), (7, Ni k), (8, Bx 800 b8), (9, Ni (cntE r.id k (l.take i))), (13, Ro (encTks r.tasks)), (14, Ni r.tasks.length), (15, Ni k), (20, Ro (encEns l)), (21, Ni l.length), (22, Ni i)] [(300, Bi b3 _ (encYd y)), (400, Bi b4 _ (encRn r)), (800, Bi b8 _ (encTk x))]) (fun i => i ≤ l.length ∧ (x.state = 2 → ∀ e ∈ l.take i, e.run = r.id → e.task = k → e.prio = r.plan.prio)) (fun i => l.length - i) 0 (by (try dsimp only); first | omega | (simp; done) | (and_intros <;> first | omega | simp)) (wk_of [some 300, some 400, some 800] (by simp -implicitDefEqProofs only [go_sem, encYd, encRn, encPl, encTk, encEn, List.take_zero, cntE, List.filter_nil, List.length_nil] <;> and_intros <;> first | rfl | assumption)) ?_
    rintro j ⟨hj, hjo⟩
    by_cases hjl : j < l.length
    · as_aux_lemma =>
        have hjl' : (j : Int) < l.length := by omega
        obtain ⟨e, he⟩ := get_some hjl
        have hwj : IntKind.i64.wrap ((j : Int) + 1) = ((j + 1 : Nat) : Int) := wrap64 (by omega) (by omega)
        have hcl := cntE_le (l.take j) r.id k
        rw [List.length_take] at hcl
        have hwc : IntKind.i64.wrap ((cntE r.id k (l.take j) : Int) + 1) = ((cntE r.id k (l.take j) + 1 : Nat) : Int) := wrap64 (by omega) (by omega)
        have hnx : ¬ (e.run = r.id ∧ e.task = k) → (x.state = 2 → ∀ e ∈ l.take (j + 1), e.run = r.id → e.task = k → e.prio = r.plan.prio) := fun hno h2 e2 he2 h3 h4 => by
          rw [List.take_add_one, he] at he2
          rcases List.mem_append.1 he2 with he2 | he2
          · exact hjo h2 e2 he2 h3 h4
          · simp at he2; subst he2; exact absurd ⟨h3, h4⟩ hno
        simp -implicitDefEqProofs only [go_sem, encYd, encRn, encPl, encTk, encEn, hjl, hjl', elem_encEns he]
        intro b11
        cases hr : e.run == r.id
        · have hs := cntE_no (id := r.id) (t := k) he (fun h => by have := h.1; simp [this] at hr)
          simp -implicitDefEqProofs only [go_sem, encYd, encRn, encPl, encTk, encEn, hjl, hjl', elem_encEns he, hr, hwj]
          exact ⟨j + 1, ⟨hjl, hnx (fun h => by have := h.1; simp [this] at hr)⟩, (wk_of [some 300, some 400, some 800] (by simp -implicitDefEqProofs only [go_sem, encYd, encRn, encPl, encTk, encEn, hs] <;> and_intros <;> first | rfl | assumption)), by (try dsimp only); omega⟩
        have hr' : e.run = r.id := by simpa using hr
        cases htk : e.task == (k : Int)
        · have hs := cntE_no (id := r.id) (t := k) he (fun h => by have := h.2; simp [this] at htk)
          simp -implicitDefEqProofs only [go_sem, encYd, encRn, encPl, encTk, encEn, hjl, hjl', elem_encEns he, hr, htk, hwj]
          exact ⟨j + 1, ⟨hjl, hnx (fun h => by have := h.2; simp [this] at htk)⟩, (wk_of [some 300, some 400, some 800] (by simp -implicitDefEqProofs only [go_sem, encYd, encRn, encPl, encTk, encEn, hs] <;> and_intros <;> first | rfl | assumption)), by (try dsimp only); omega⟩
        have htk' : e.task = k := by simpa using htk
        have hs := cntE_yes he hr' htk'
        simp -implicitDefEqProofs only [go_sem, encYd, encRn, encPl, encTk, encEn, hjl, hjl', elem_encEns he, hr, htk, hwc, hlt, hlt', h0k]
        cases h2 : x.state == 2
        · simp -implicitDefEqProofs only [go_sem, encYd, encRn, encPl, encTk, encEn, hjl, hjl', elem_encEns he, h2, hwj, hwc]
          exact ⟨j + 1, ⟨hjl, fun h => by simp [h] at h2⟩, (wk_of [some 300, some 400, some 800] (by simp -implicitDefEqProofs only [go_sem, encYd, encRn, encPl, encTk, encEn, hs] <;> and_intros <;> first | rfl | assumption)), by (try dsimp only); omega⟩
        have h2' : x.state = 2 := by simpa using h2
        cases hp : e.prio != r.plan.prio
        · have hp' : e.prio = r.plan.prio := by simpa using hp
          simp -implicitDefEqProofs only [go_sem, encYd, encRn, encPl, encTk, encEn, hjl, hjl', elem_encEns he, h2, hp, hwj, hwc]
          exact ⟨j + 1, ⟨hjl, fun _ e2 he2 h3 h4 => by rw [List.take_add_one, he] at he2; rcases List.mem_append.1 he2 with he2 | he2; exact hjo h2' e2 he2 h3 h4; simp at he2; subst he2; exact hp'⟩, (wk_of [some 300, some 400, some 800] (by simp -implicitDefEqProofs only [go_sem, encYd, encRn, encPl, encTk, encEn, hs] <;> and_intros <;> first | rfl | assumption)), by (try dsimp only); omega⟩
        · have hb : runInB y r l = false := runIn_no fun h => by
            have := ((h k x hx).1 h2').1 e (List.mem_of_getElem? he) hr' htk'
            simp [this] at hp
          simp -implicitDefEqProofs only [go_sem, encYd, encRn, encPl, encTk, encEn, hjl, hjl', elem_encEns he, h2, hp, hb]
    as_aux_lemma =>
      have hjl' : ¬ (j : Int) < l.length := by omega
      rw [List.take_of_length_le (by omega)] at hjo
      rw [List.take_of_length_le (by omega)]
      have hnx2 : taskIn y r l k x → ∀ (t : Nat) (z : Tk), t < k + 1 → r.tasks[t]? = some z → taskIn y r l t z := fun h t z ht hz => by
        rcases Nat.lt_or_ge t k with h' | h'
        · exact hko t z h' hz
        · obtain rfl : t = k := by omega
          rw [hx] at hz; cases hz; exact h
      simp -implicitDefEqProofs only [go_sem, encYd, encRn, encPl, encTk, encEn, hjl', hlt, hlt', h0k]
      cases h2 : x.state == 2
      rotate_left
      · have h2' : x.state = 2 := by simpa using h2
        have h3 : (x.state == 3) = false := by simp [h2']
        cases hc : ((cntE r.id k l : Nat) : Int) != 1
        · have hc' : cntE r.id k l = 1 := by have : ((cntE r.id k l : Nat) : Int) = 1 := by simpa only [bne_eq_false_iff_eq] using hc
                                             omega
          simp -implicitDefEqProofs only [go_sem, encYd, encRn, encPl, encTk, encEn, h2, hc, h3, hw, hlt, hlt', h0k]
          exact ⟨k + 1, ⟨hlt, hnx2 ⟨fun _ => ⟨hjo h2', hc'⟩, fun h => by omega⟩⟩, (wk_of [some 300, some 400] (by simp -implicitDefEqProofs only [go_sem, encYd, encRn, encPl, encTk, encEn] <;> and_intros <;> first | rfl | assumption)), by (try dsimp only); omega⟩
        · have hb : runInB y r l = false := runIn_no fun h => by
            have := ((h k x hx).1 h2').2
            rw [this] at hc
            cases hc
          simp -implicitDefEqProofs only [go_sem, encYd, encRn, encPl, encTk, encEn, h2, hc, hb]
      · have h2' : ¬ x.state = 2 := by simpa using h2
        cases h3 : x.state == 3
        · have h3' : ¬ x.state = 3 := by simpa using h3
          simp -implicitDefEqProofs only [go_sem, encYd, encRn, encPl, encTk, encEn, h2, h3, hw, hlt, hlt', h0k]
          exact ⟨k + 1, ⟨hlt, hnx2 ⟨fun h => absurd h h2', fun h => absurd h h3'⟩⟩, (wk_of [some 300, some 400] (by simp -implicitDefEqProofs only [go_sem, encYd, encRn, encPl, encTk, encEn] <;> and_intros <;> first | rfl | assumption)), by (try dsimp only); omega⟩
        · have h3' : x.state = 3 := by simpa using h3
          simp -implicitDefEqProofs only [go_sem, encYd, encRn, encPl, encTk, encEn, h2, h3, hwn, hww, hlt, hlt', h0k]
          refine run_call (p_impl_within x.til (y.now + 1) (y.now + r.plan.wait)) (by simp -implicitDefEqProofs only [go_sem, encYd, encRn, encPl, encTk, encEn, hwn, hww]) fun η => ?_
          simp -implicitDefEqProofs only [go_sem, encYd, encRn, encPl, encTk, encEn, hwn, hww]
          cases ht : decide (y.now + 1 ≤ x.til ∧ x.til ≤ y.now + r.plan.wait)
          · have hb : runInB y r l = false := runIn_no fun h => by
              have := (h k x hx).2 h3'
              simp [this] at ht
            simp -implicitDefEqProofs only [go_sem, encYd, encRn, encPl, encTk, encEn, ht, hb]
          · have ht' : y.now + 1 ≤ x.til ∧ x.til ≤ y.now + r.plan.wait := of_decide_eq_true ht
            simp -implicitDefEqProofs only [go_sem, encYd, encRn, encPl, encTk, encEn, ht, hw]
            exact ⟨k + 1, ⟨hlt, hnx2 ⟨fun h => absurd h h2', fun _ => ht'⟩⟩, (wk_of [some 300, some 400] (by simp -implicitDefEqProofs only [go_sem, encYd, encRn, encPl, encTk, encEn] <;> and_intros <;> first | rfl | assumption)), by (try dsimp only); omega⟩
  have hlt' : ¬ (k : Int) < r.tasks.length := by omega
  have hb : runInB y r l = true := runIn_yes fun t x hx => hko t x (by have := (List.getElem?_eq_some_iff.1 hx).1; omega) hx
  simp -implicitDefEqProofs only [go_sem, encYd, encRn, encPl, encTk, encEn, hlt', hb]
end Go.Proofs.YtmnpailnelmpiaaGreat
set_option linter.unusedSimpArgs false
set_option linter.unusedVariables false
set_option maxRecDepth 100000
namespace Go.Proofs.YtmnpailnelmpiaaGreat
open Go.RowKit Go.Sort
def c_spec_l10Shelves : C := .seq (.reg [⟨some 1, none, .box 37 4 (.t 0)⟩, ⟨some 2, none, .mov (.c (.bool false))⟩]) (.seq (.seq (.reg [⟨some 7, none, .fa 2 (.t 1)⟩, ⟨some 8, none, .ld false 1 (.t 7)⟩, ⟨some 9, none, .len false (.t 8)⟩, ⟨some 10, none, .bin .neq 3 (.t 9) (.c (.int .i64 4))⟩]) (.cond (.t 10) (.seq (.reg [⟨some 2, none, .mov (.c (.bool false))⟩]) .ret) .skip)) (.seq (.seq (.reg [⟨some 3, none, .mov (.c (.int .i64 0))⟩]) (.blk 0 (.loop (.seq (.seq (.reg [⟨some 11, none, .mov (.t 3)⟩, ⟨some 12, none, .fa 2 (.t 1)⟩, ⟨some 13, none, .ld false 1 (.t 12)⟩, ⟨some 14, none, .len false (.t 13)⟩, ⟨some 15, none, .bin .lss 3 (.t 11) (.t 14)⟩]) (.cond (.t 15) .skip (.exit 0))) (.seq (.blk 1 (.seq (.reg [⟨some 18, none, .fa 2 (.t 1)⟩, ⟨some 19, none, .ld false 1 (.t 18)⟩, ⟨some 20, none, .mov (.t 3)⟩, ⟨some 21, none, .ia 1 (.t 19) (.t 20)⟩, ⟨some 22, none, .ld false 1 (.t 21)⟩, ⟨some 23, none, .call 239 [.t 22]⟩, ⟨some 24, none, .un .not (.t 23)⟩]) (.cond (.t 24) (.seq (.reg [⟨some 2, none, .mov (.c (.bool false))⟩]) .ret) .skip))) (.reg [⟨some 16, none, .mov (.t 3)⟩, ⟨some 17, none, .bin .add 3 (.t 16) (.c (.int .i64 1))⟩, ⟨some 3, none, .mov (.t 17)⟩])))))) (.seq (.reg [⟨some 25, none, .ld true 4 (.t 1)⟩, ⟨some 26, none, .call 140 [.t 25]⟩, ⟨some 4, none, .mov (.t 26)⟩]) (.seq (.seq (.reg [⟨some 5, none, .mov (.c (.int .i64 0))⟩]) (.blk 2 (.loop (.seq (.seq (.reg [⟨some 27, none, .mov (.t 5)⟩, ⟨some 28, none, .mov (.t 4)⟩, ⟨some 29, none, .len false (.t 28)⟩, ⟨some 30, none, .bin .lss 3 (.t 27) (.t 29)⟩]) (.cond (.t 30) .skip (.exit 2))) (.seq (.blk 3 (.seq (.seq (.dreg (T.pure 0 ⟨some 33, none, .mov (.t 4)⟩ (T.pure 1 ⟨some 34, none, .mov (.t 5)⟩ (T.pure 2 ⟨some 35, none, .ia 4 (.t 33) (.t 34)⟩ (T.pure 3 ⟨some 36, none, .fa 1 (.t 35)⟩ (T.pure 4 ⟨some 37, none, .ld false 1 (.t 36)⟩ (T.pure 5 ⟨some 38, none, .fa 1 (.t 1)⟩ (T.pure 6 ⟨some 39, none, .ld false 1 (.t 38)⟩ (T.pure 7 ⟨some 40, none, .bin .sub 3 (.t 39) (.c (.int .i64 1))⟩ (T.alt ⟨some 41, none, .call 74 [.t 37, .c (.int .i64 1), .t 40]⟩ [] (T.pure 9 ⟨some 42, none, .un .not (.t 41)⟩ T.done) T.stop)))))))))) (.cond (.t 42) (.seq (.reg [⟨some 2, none, .mov (.c (.bool false))⟩]) .ret) .skip)) (.seq (.reg [⟨some 6, none, .mov (.c (.int .i64 0))⟩]) (.blk 4 (.loop (.seq (.seq (.reg [⟨some 43, none, .mov (.t 6)⟩, ⟨some 44, none, .mov (.t 5)⟩, ⟨some 45, none, .bin .lss 3 (.t 43) (.t 44)⟩]) (.cond (.t 45) .skip (.exit 4))) (.seq (.blk 5 (.seq (.dreg (T.pure 0 ⟨some 48, none, .mov (.t 4)⟩ (T.pure 1 ⟨some 49, none, .mov (.t 6)⟩ (T.pure 2 ⟨some 50, none, .ia 4 (.t 48) (.t 49)⟩ (T.pure 3 ⟨some 51, none, .fa 1 (.t 50)⟩ (T.pure 4 ⟨some 52, none, .ld false 1 (.t 51)⟩ (T.pure 5 ⟨some 53, none, .mov (.t 4)⟩ (T.pure 6 ⟨some 54, none, .mov (.t 5)⟩ (T.pure 7 ⟨some 55, none, .ia 4 (.t 53) (.t 54)⟩ (T.pure 8 ⟨some 56, none, .fa 1 (.t 55)⟩ (T.pure 9 ⟨some 57, none, .ld false 1 (.t 56)⟩ (T.pure 10 ⟨some 58, none, .bin .eql 3 (.t 52) (.t 57)⟩ T.done)))))))))))) (.cond (.t 58) (.seq (.reg [⟨some 2, none, .mov (.c (.bool false))⟩]) .ret) .skip))) (.reg [⟨some 46, none, .mov (.t 6)⟩, ⟨some 47, none, .bin .add 3 (.t 46) (.c (.int .i64 1))⟩, ⟨some 6, none, .mov (.t 47)⟩])))))))) (.reg [⟨some 31, none, .mov (.t 5)⟩, ⟨some 32, none, .bin .add 3 (.t 31) (.c (.int .i64 1))⟩, ⟨some 5, none, .mov (.t 32)⟩])))))) (.seq (.reg [⟨some 2, none, .mov (.c (.bool true))⟩]) .ret)))))
theorem code_spec_l10Shelves : fnC Tryz.prog Tryz.f150 = some (c_spec_l10Shelves, [.t 2], 59) := by kernel_rfl
def c_spec_YardOk : C := .seq (.reg [⟨some 1, none, .box 37 4 (.t 0)⟩, ⟨some 2, none, .mov (.c (.bool false))⟩]) (.seq (.seq (.reg [⟨some 6, none, .fa 0 (.t 1)⟩, ⟨some 7, none, .ld false 1 (.t 6)⟩, ⟨some 8, none, .call 74 [.t 7, .c (.int .i64 0), .c (.int .i64 999999980)]⟩, ⟨some 9, none, .un .not (.t 8)⟩, ⟨some 10, none, .mov (.t 9)⟩, ⟨some 11, some (10, false), .fa 1 (.t 1)⟩, ⟨some 12, some (10, false), .ld false 1 (.t 11)⟩, ⟨some 13, some (10, false), .call 74 [.t 12, .c (.int .i64 1), .c (.int .i64 1000000000)]⟩, ⟨some 14, some (10, false), .un .not (.t 13)⟩, ⟨some 15, none, .pick (.t 10) (.c (.bool true)) (.t 14)⟩, ⟨some 16, none, .mov (.t 15)⟩, ⟨some 17, some (16, false), .fa 3 (.t 1)⟩, ⟨some 18, some (16, false), .ld false 1 (.t 17)⟩, ⟨some 19, some (16, false), .len false (.t 18)⟩, ⟨some 20, some (16, false), .bin .gtr 3 (.t 19) (.c (.int .i64 8))⟩, ⟨some 21, none, .pick (.t 16) (.c (.bool true)) (.t 20)⟩, ⟨some 22, none, .mov (.t 21)⟩, ⟨some 23, some (22, false), .ld true 4 (.t 1)⟩, ⟨some 24, some (22, false), .call 150 [.t 23]⟩, ⟨some 25, some (22, false), .un .not (.t 24)⟩, ⟨some 26, none, .pick (.t 22) (.c (.bool true)) (.t 25)⟩]) (.cond (.t 26) (.seq (.reg [⟨some 2, none, .mov (.c (.bool false))⟩]) .ret) .skip)) (.seq (.seq (.reg [⟨some 3, none, .mov (.c (.int .i64 0))⟩]) (.blk 0 (.loop (.seq (.seq (.reg [⟨some 27, none, .mov (.t 3)⟩, ⟨some 28, none, .fa 3 (.t 1)⟩, ⟨some 29, none, .ld false 1 (.t 28)⟩, ⟨some 30, none, .len false (.t 29)⟩, ⟨some 31, none, .bin .lss 3 (.t 27) (.t 30)⟩]) (.cond (.t 31) .skip (.exit 0))) (.seq (.blk 1 (.seq (.dreg (T.pure 0 ⟨some 34, none, .fa 3 (.t 1)⟩ (T.pure 1 ⟨some 35, none, .ld false 1 (.t 34)⟩ (T.pure 2 ⟨some 36, none, .mov (.t 3)⟩ (T.pure 3 ⟨some 37, none, .ia 8 (.t 35) (.t 36)⟩ (T.pure 4 ⟨some 38, none, .ld true 8 (.t 37)⟩ (T.alt ⟨some 39, none, .call 151 [.t 38]⟩ [] (T.pure 6 ⟨some 40, none, .un .not (.t 39)⟩ (T.pure 7 ⟨some 41, none, .mov (.t 40)⟩ (T.pure 8 ⟨some 42, some (41, false), .ld true 4 (.t 1)⟩ (T.pure 9 ⟨some 43, some (41, false), .fa 3 (.t 1)⟩ (T.pure 10 ⟨some 44, some (41, false), .ld false 1 (.t 43)⟩ (T.pure 11 ⟨some 45, some (41, false), .mov (.t 3)⟩ (T.pure 12 ⟨some 46, some (41, false), .ia 8 (.t 44) (.t 45)⟩ (T.pure 13 ⟨some 47, some (41, false), .fa 0 (.t 46)⟩ (T.pure 14 ⟨some 48, some (41, false), .ld false 1 (.t 47)⟩ (T.pure 16 ⟨some 50, some (41, false), .mov (.t 3)⟩ (T.alt ⟨some 49, some (41, false), .call 152 [.t 42, .t 48]⟩ [16] (T.pure 17 ⟨some 51, some (41, false), .bin .neq 3 (.t 49) (.t 50)⟩ (T.pure 18 ⟨some 52, none, .pick (.t 41) (.c (.bool true)) (.t 51)⟩ T.done)) T.stop))))))))))) T.stop))))))) (.cond (.t 52) (.seq (.reg [⟨some 2, none, .mov (.c (.bool false))⟩]) .ret) .skip))) (.reg [⟨some 32, none, .mov (.t 3)⟩, ⟨some 33, none, .bin .add 3 (.t 32) (.c (.int .i64 1))⟩, ⟨some 3, none, .mov (.t 33)⟩])))))) (.seq (.reg [⟨some 53, none, .ld true 4 (.t 1)⟩, ⟨some 54, none, .call 140 [.t 53]⟩, ⟨some 4, none, .mov (.t 54)⟩]) (.seq (.seq (.reg [⟨some 5, none, .mov (.c (.int .i64 0))⟩]) (.blk 2 (.loop (.seq (.seq (.reg [⟨some 55, none, .mov (.t 5)⟩, ⟨some 56, none, .fa 3 (.t 1)⟩, ⟨some 57, none, .ld false 1 (.t 56)⟩, ⟨some 58, none, .len false (.t 57)⟩, ⟨some 59, none, .bin .lss 3 (.t 55) (.t 58)⟩]) (.cond (.t 59) .skip (.exit 2))) (.seq (.blk 3 (.seq (.dreg (T.pure 0 ⟨some 62, none, .ld true 4 (.t 1)⟩ (T.pure 1 ⟨some 63, none, .fa 3 (.t 1)⟩ (T.pure 2 ⟨some 64, none, .ld false 1 (.t 63)⟩ (T.pure 3 ⟨some 65, none, .mov (.t 5)⟩ (T.pure 4 ⟨some 66, none, .ia 8 (.t 64) (.t 65)⟩ (T.pure 5 ⟨some 67, none, .ld true 8 (.t 66)⟩ (T.pure 6 ⟨some 68, none, .mov (.t 4)⟩ (T.alt ⟨some 69, none, .call 153 [.t 62, .t 67, .t 68]⟩ [] (T.pure 8 ⟨some 70, none, .un .not (.t 69)⟩ T.done) T.stop))))))))) (.cond (.t 70) (.seq (.reg [⟨some 2, none, .mov (.c (.bool false))⟩]) .ret) .skip))) (.reg [⟨some 60, none, .mov (.t 5)⟩, ⟨some 61, none, .bin .add 3 (.t 60) (.c (.int .i64 1))⟩, ⟨some 5, none, .mov (.t 61)⟩])))))) (.seq (.reg [⟨some 71, none, .ld true 4 (.t 1)⟩, ⟨some 72, none, .call 63 [.t 71]⟩, ⟨some 73, none, .bin .leq 3 (.t 72) (.c (.int .i64 40))⟩, ⟨some 2, none, .mov (.t 73)⟩]) .ret)))))
theorem code_spec_YardOk : fnC Tryz.prog Tryz.f72 = some (c_spec_YardOk, [.t 2], 74) := by kernel_rfl
def c_impl_YardOk : C := .seq (.reg [⟨some 1, none, .box 37 4 (.t 0)⟩, ⟨some 2, none, .mov (.c (.bool false))⟩]) (.seq (.seq (.reg [⟨some 11, none, .fa 0 (.t 1)⟩, ⟨some 12, none, .ld false 1 (.t 11)⟩, ⟨some 13, none, .call 78 [.t 12, .c (.int .i64 0), .c (.int .i64 999999980)]⟩, ⟨some 14, none, .un .not (.t 13)⟩, ⟨some 15, none, .mov (.t 14)⟩, ⟨some 16, some (15, false), .fa 1 (.t 1)⟩, ⟨some 17, some (15, false), .ld false 1 (.t 16)⟩, ⟨some 18, some (15, false), .call 78 [.t 17, .c (.int .i64 1), .c (.int .i64 1000000000)]⟩, ⟨some 19, some (15, false), .un .not (.t 18)⟩, ⟨some 20, none, .pick (.t 15) (.c (.bool true)) (.t 19)⟩, ⟨some 21, none, .mov (.t 20)⟩, ⟨some 22, some (21, false), .fa 2 (.t 1)⟩, ⟨some 23, some (21, false), .ld false 1 (.t 22)⟩, ⟨some 24, some (21, false), .len false (.t 23)⟩, ⟨some 25, some (21, false), .bin .neq 3 (.t 24) (.c (.int .i64 4))⟩, ⟨some 26, none, .pick (.t 21) (.c (.bool true)) (.t 25)⟩, ⟨some 27, none, .mov (.t 26)⟩, ⟨some 28, some (27, false), .fa 3 (.t 1)⟩, ⟨some 29, some (27, false), .ld false 1 (.t 28)⟩, ⟨some 30, some (27, false), .len false (.t 29)⟩, ⟨some 31, some (27, false), .bin .gtr 3 (.t 30) (.c (.int .i64 8))⟩, ⟨some 32, none, .pick (.t 27) (.c (.bool true)) (.t 31)⟩]) (.cond (.t 32) (.seq (.reg [⟨some 2, none, .mov (.c (.bool false))⟩]) .ret) .skip)) (.seq (.seq (.reg [⟨some 33, none, .fa 2 (.t 1)⟩, ⟨some 34, none, .ld false 1 (.t 33)⟩, ⟨some 35, none, .len false (.t 34)⟩, ⟨some 36, none, .mov (.c (.int .i64 0))⟩]) (.blk 0 (.loop (.seq (.reg [⟨some 37, none, .bin .lss 3 (.t 36) (.t 35)⟩]) (.seq (.cond (.t 37) .skip (.exit 0)) (.seq (.blk 1 (.seq (.reg [⟨some 38, none, .ia 1 (.t 34) (.t 36)⟩, ⟨some 39, none, .ld false 1 (.t 38)⟩, ⟨some 4, none, .mov (.t 39)⟩]) (.seq (.reg [⟨some 40, none, .mov (.t 4)⟩, ⟨some 41, none, .call 136 [.t 40]⟩, ⟨some 42, none, .un .not (.t 41)⟩]) (.cond (.t 42) (.seq (.reg [⟨some 2, none, .mov (.c (.bool false))⟩]) .ret) .skip)))) (.reg [⟨some 43, none, .bin .add 3 (.t 36) (.c (.int .i64 1))⟩, ⟨some 36, none, .mov (.t 43)⟩]))))))) (.seq (.reg [⟨some 44, none, .ld true 4 (.t 1)⟩, ⟨some 45, none, .call 133 [.t 44]⟩, ⟨some 5, none, .mov (.t 45)⟩]) (.seq (.reg [⟨some 6, none, .mov (.c (.slice none 0 0))⟩]) (.seq (.seq (.reg [⟨some 46, none, .mov (.t 5)⟩, ⟨some 47, none, .len false (.t 46)⟩, ⟨some 48, none, .mov (.c (.int .i64 0))⟩]) (.blk 2 (.loop (.seq (.reg [⟨some 49, none, .bin .lss 3 (.t 48) (.t 47)⟩]) (.seq (.cond (.t 49) .skip (.exit 2)) (.seq (.blk 3 (.seq (.reg [⟨some 50, none, .ia 4 (.t 46) (.t 48)⟩, ⟨some 51, none, .ld true 4 (.t 50)⟩, ⟨some 8, none, .alloc 111 [.int .i64 0, .int .i64 0, .int .i64 0, .int .i64 0]⟩, ⟨none, none, .st 4 [none, none, none, none] (.t 8) (.t 51)⟩]) (.seq (.seq (.reg [⟨some 52, none, .fa 1 (.t 8)⟩, ⟨some 53, none, .ld false 1 (.t 52)⟩, ⟨some 54, none, .fa 1 (.t 1)⟩, ⟨some 55, none, .ld false 1 (.t 54)⟩, ⟨some 56, none, .bin .sub 3 (.t 55) (.c (.int .i64 1))⟩, ⟨some 57, none, .call 78 [.t 53, .c (.int .i64 1), .t 56]⟩, ⟨some 58, none, .un .not (.t 57)⟩, ⟨some 59, none, .mov (.t 58)⟩, ⟨some 60, some (59, false), .mov (.t 6)⟩, ⟨some 61, some (59, false), .fa 1 (.t 8)⟩, ⟨some 62, some (59, false), .ld false 1 (.t 61)⟩, ⟨some 63, some (59, false), .call 137 [.t 60, .t 62]⟩, ⟨some 64, none, .pick (.t 59) (.c (.bool true)) (.t 63)⟩]) (.cond (.t 64) (.seq (.reg [⟨some 2, none, .mov (.c (.bool false))⟩]) .ret) .skip)) (.reg [⟨some 65, none, .mov (.t 6)⟩, ⟨some 66, none, .fa 1 (.t 8)⟩, ⟨some 67, none, .ld false 1 (.t 66)⟩, ⟨some 68, none, .bsl 3 1 1 [none] [(0, 1, .t 67)]⟩, ⟨some 69, none, .app 3 1 8 (.t 65) (.t 68)⟩, ⟨some 6, none, .mov (.t 69)⟩])))) (.reg [⟨some 70, none, .bin .add 3 (.t 48) (.c (.int .i64 1))⟩, ⟨some 48, none, .mov (.t 70)⟩]))))))) (.seq (.seq (.reg [⟨some 71, none, .fa 3 (.t 1)⟩, ⟨some 72, none, .ld false 1 (.t 71)⟩, ⟨some 73, none, .len false (.t 72)⟩, ⟨some 74, none, .mov (.c (.int .i64 0))⟩]) (.blk 4 (.loop (.seq (.reg [⟨some 75, none, .bin .lss 3 (.t 74) (.t 73)⟩]) (.seq (.cond (.t 75) .skip (.exit 4)) (.seq (.blk 5 (.seq (.reg [⟨some 76, none, .mov (.t 74)⟩, ⟨some 77, none, .ia 8 (.t 72) (.t 74)⟩, ⟨some 78, none, .ld true 8 (.t 77)⟩, ⟨some 10, none, .alloc 108 [.int .i64 0, .int .i64 0, .int .i64 0, .int .i64 0, .int .i64 0, .slice none 0 0, .int .i64 0, .slice none 0 0]⟩, ⟨some 9, none, .mov (.t 76)⟩, ⟨none, none, .st 8 [none, none, none, none, none, some (2, 253), none, some (4, 172)] (.t 10) (.t 78)⟩]) (.seq (.reg [⟨some 79, none, .ld true 8 (.t 10)⟩, ⟨some 80, none, .call 138 [.t 79]⟩, ⟨some 81, none, .un .not (.t 80)⟩, ⟨some 82, none, .mov (.t 81)⟩, ⟨some 83, some (82, false), .ld true 4 (.t 1)⟩, ⟨some 84, some (82, false), .fa 0 (.t 10)⟩, ⟨some 85, some (82, false), .ld false 1 (.t 84)⟩, ⟨some 86, some (82, false), .call 56 [.t 83, .t 85]⟩, ⟨some 87, some (82, false), .mov (.t 9)⟩, ⟨some 88, some (82, false), .bin .neq 3 (.t 86) (.t 87)⟩, ⟨some 89, none, .pick (.t 82) (.c (.bool true)) (.t 88)⟩, ⟨some 90, none, .mov (.t 89)⟩, ⟨some 91, some (90, false), .ld true 4 (.t 1)⟩, ⟨some 92, some (90, false), .ld true 8 (.t 10)⟩, ⟨some 93, some (90, false), .mov (.t 5)⟩, ⟨some 94, some (90, false), .call 139 [.t 91, .t 92, .t 93]⟩, ⟨some 95, some (90, false), .un .not (.t 94)⟩, ⟨some 96, none, .pick (.t 90) (.c (.bool true)) (.t 95)⟩]) (.cond (.t 96) (.seq (.reg [⟨some 2, none, .mov (.c (.bool false))⟩]) .ret) .skip)))) (.reg [⟨some 97, none, .bin .add 3 (.t 74) (.c (.int .i64 1))⟩, ⟨some 74, none, .mov (.t 97)⟩]))))))) (.seq (.reg [⟨some 98, none, .ld true 4 (.t 1)⟩, ⟨some 99, none, .call 62 [.t 98]⟩, ⟨some 100, none, .bin .leq 3 (.t 99) (.c (.int .i64 40))⟩, ⟨some 2, none, .mov (.t 100)⟩]) .ret)))))))
theorem code_impl_YardOk : fnC Tryz.prog Tryz.f59 = some (c_impl_YardOk, [.t 2], 101) := by kernel_rfl
theorem p_spec_RunAt (y : Yd) (id : Int) : Pure Tryz.prog 152 [.agg (encYd y), .c (.val (.int .i64 id))] (.c (.val (.int .i64 (runAt y id)))) := pure2 ⟨_, Tryz.func152, by kernel_rfl, by kernel_rfl⟩ fun w a b ⟨S, ha⟩ hb => by rw [view_val hb]; exact sRunAt_c y id a S w false ha
theorem p_impl_RunAt (y : Yd) (id : Int) : Pure Tryz.prog 56 [.agg (encYd y), .c (.val (.int .i64 id))] (.c (.val (.int .i64 (runAt y id)))) := pure2 ⟨_, Tryz.func56, by kernel_rfl, by kernel_rfl⟩ fun w a b ⟨S, ha⟩ hb => by rw [view_val hb]; exact iRunAt_c y id a S w false ha
theorem p_spec_SlotsOf (y : Yd) (ht : totYd y ≤ 2000000) : Pure Tryz.prog 63 [.agg (encYd y)] (.c (.val (.int .i64 (slotsOf y)))) := pure1 ⟨_, Tryz.func63, by kernel_rfl, by kernel_rfl⟩ fun w a ⟨S, ha⟩ => sSlotsOf_c y a S w false ha ht
theorem p_impl_SlotsOf (y : Yd) (ht : totYd y ≤ 2000000) : Pure Tryz.prog 62 [.agg (encYd y)] (.c (.val (.int .i64 (slotsOf y)))) := pure1 ⟨_, Tryz.func62, by kernel_rfl, by kernel_rfl⟩ fun w a ⟨S, ha⟩ => iSlotsOf_c y a S w false ha ht
structure ShelvesP (y : Yd) : Prop where
  four : y.shelf.length = 4
  shelves : ∀ l ∈ y.shelf, ShelfP l
  seqs : SeqP y.seq y.shelf.flatten
open Classical in
noncomputable def shelvesB (y : Yd) : Bool := decide (ShelvesP y)
theorem shelves_yes {y : Yd} (h : ShelvesP y) : shelvesB y = true := by simp [shelvesB, h]
theorem shelves_no {y : Yd} (h : ¬ ShelvesP y) : shelvesB y = false := by simp [shelvesB, h]
theorem shelves_iff {y : Yd} : shelvesB y = true ↔ ShelvesP y := by simp [shelvesB]
theorem shelf1_le {y : Yd} (ht : totYd y ≤ 2000000) {l : List En} (h : l ∈ y.shelf) : l.length ≤ 4000000 := by
  obtain ⟨k, hk, rfl⟩ := List.getElem_of_mem h
  have h1 := flat_take (List.getElem?_eq_getElem hk)
  have h2 := flat_take_le y.shelf (k + 1)
  have h3 := shelf_flat ht
  rw [h1, List.length_append] at h2
  omega
set_option maxHeartbeats 8000000 in
theorem p_spec_l10Shelves (y : Yd) (ht : totYd y ≤ 2000000) (hq : 1 ≤ y.seq ∧ y.seq ≤ 1000000000) : Pure Tryz.prog 150 [.agg (encYd y)] (.c (.val (.bool (shelvesB y)))) := by
  refine pure_fn Tryz.func150 code_spec_l10Shelves (by simp) ?_
  unfold c_spec_l10Shelves
  have hsf := shelf_flat ht
  have hws : IntKind.i64.wrap (y.seq - 1) = y.seq - 1 := wrap64 (by omega) (by omega)
  simp -implicitDefEqProofs only [go_sem, encYd]
  intro b
  cases h4 : (y.shelf.length : Int) != 4
  rotate_left
  · have hb : shelvesB y = false := shelves_no fun h => by have := h.four; rw [this] at h4; cases h4
    simp -implicitDefEqProofs only [go_sem, encYd, h4, hb]
  have h4' : y.shelf.length = 4 := by have : (y.shelf.length : Int) = 4 := by simpa only [bne_eq_false_iff_eq] using h4
                                      omega
  simp -implicitDefEqProofs only [go_sem, encYd, h4]
  refine wp_loopW (fun i : Nat => St.of [(1, Bx 100 b), (3, Ni i)] [(100, Bi b _ (encYd y))]) (fun i => i ≤ y.shelf.length ∧ ∀ l ∈ y.shelf.take i, ShelfP l) (fun i => y.shelf.length - i) 0 (by (try dsimp only); first | omega | (simp; done) | (and_intros <;> first | omega | simp)) (wk_of [some 100] (by simp -implicitDefEqProofs only [go_sem, encYd] <;> and_intros <;> first | rfl | assumption)) ?_
  rintro k ⟨hk, hko⟩
  by_cases hlt : k < y.shelf.length
  · have hlt' : (k : Int) < y.shelf.length := by omega
    obtain ⟨l, hl⟩ := get_some hlt
    have hlm := List.mem_of_getElem? hl
    have hw : IntKind.i64.wrap ((k : Int) + 1) = ((k + 1 : Nat) : Int) := wrap64 (by omega) (by omega)
    simp -implicitDefEqProofs only [go_sem, encYd, hlt, hlt', elem_encSh hl]
    refine run_call (p_spec_ShelfOk l (shelf1_le ht hlm)) (by simp -implicitDefEqProofs only [go_sem, encYd]) fun η => ?_
    simp -implicitDefEqProofs only [go_sem, encYd]
    cases hs : shelfB l
    · have hb : shelvesB y = false := shelves_no fun h => by have := shelf_yes (h.shelves l hlm); rw [hs] at this; cases this
      simp -implicitDefEqProofs only [go_sem, encYd, hs, hb]
    · simp -implicitDefEqProofs only [go_sem, encYd, hs, hw]
      exact ⟨k + 1, ⟨hlt, fun l2 h2 => by rw [List.take_add_one, hl] at h2; rcases List.mem_append.1 h2 with h2 | h2; exact hko l2 h2; simp at h2; subst h2; exact shelf_iff.1 hs⟩, (wk_of [some 100] (by simp -implicitDefEqProofs only [go_sem, encYd] <;> and_intros <;> first | rfl | assumption)), by (try dsimp only); omega⟩
  have hlt' : ¬ (k : Int) < y.shelf.length := by omega
  rw [List.take_of_length_le (by omega)] at hko
  simp -implicitDefEqProofs only [go_sem, encYd, hlt']
  refine run_call (p_spec_l10Entries y ht) (by simp -implicitDefEqProofs only [go_sem, encYd]) fun ηe => ?_
  simp -implicitDefEqProofs only [go_sem, encYd]
  generalize hF : y.shelf.flatten = F at *
  refine wp_loopW (fun i : Nat => St.of [(1, Bx 100 b), (4, Hd 4 (ηe 0)), (5, Ni i)] [(100, Bi b _ (encYd y)), (4, .loose (encEns F) (ηe 0))]) (fun i => i ≤ F.length ∧ (∀ e ∈ F.take i, 1 ≤ e.seq ∧ e.seq ≤ y.seq - 1) ∧ ((F.take i).map (·.seq)).Nodup) (fun i => F.length - i) 0 (by (try dsimp only); first | omega | (simp; done) | (and_intros <;> first | omega | simp)) (wk_of [some 100, some 2600] (by simp -implicitDefEqProofs only [go_sem, encYd] <;> and_intros <;> first | rfl | assumption)) ?_
  rintro j ⟨hj, hjo, hjd⟩
  by_cases hjl : j < F.length
  · have hjl' : (j : Int) < F.length := by omega
    have h0j : (j : Int) ≥ 0 := by omega
    obtain ⟨e, he⟩ := get_some hjl
    have hw : IntKind.i64.wrap ((j : Int) + 1) = ((j + 1 : Nat) : Int) := wrap64 (by omega) (by omega)
    simp -implicitDefEqProofs only [go_sem, encYd, hjl, hjl', h0j, at_en1 he, in_en1 he, hws]
    refine run_call (p_spec_l01In e.seq 1 (y.seq - 1)) (by simp -implicitDefEqProofs only [go_sem, encYd]) fun η => ?_
    simp -implicitDefEqProofs only [go_sem, encYd]
    cases hr : decide (1 ≤ e.seq ∧ e.seq ≤ y.seq - 1)
    · have hb : shelvesB y = false := shelves_no fun h => by
        have := h.seqs.range e (by rw [hF]; exact List.mem_of_getElem? he)
        simp [this] at hr
      simp -implicitDefEqProofs only [go_sem, encYd, hr, hb]
    have hr' : 1 ≤ e.seq ∧ e.seq ≤ y.seq - 1 := of_decide_eq_true hr
    simp -implicitDefEqProofs only [go_sem, encYd, hr]
    refine wp_loopW (fun i : Nat => St.of [(1, Bx 100 b), (4, Hd 4 (ηe 0)), (5, Ni j), (6, Ni i)] [(100, Bi b _ (encYd y)), (4, .loose (encEns F) (ηe 0))]) (fun i => i ≤ j ∧ ∀ e2 ∈ F.take i, e2.seq ≠ e.seq) (fun i => j - i) 0 (by (try dsimp only); first | omega | (simp; done) | (and_intros <;> first | omega | simp)) (wk_of [some 100, some 4] (by simp -implicitDefEqProofs only [go_sem, encYd] <;> and_intros <;> first | rfl | assumption)) ?_
    rintro m ⟨hm, hmo⟩
    by_cases hml : m < j
    · have hml' : (m : Int) < j := by omega
      have h0m : (m : Int) ≥ 0 := by omega
      have hml2 : m < F.length := by omega
      obtain ⟨e2, he2⟩ := get_some hml2
      have hwm : IntKind.i64.wrap ((m : Int) + 1) = ((m + 1 : Nat) : Int) := wrap64 (by omega) (by omega)
      cases hse : e2.seq == e.seq
      · have hse' : ¬ e2.seq = e.seq := by simpa using hse
        simp -implicitDefEqProofs only [go_sem, encYd, hml', hml2, h0m, hjl, h0j, at_en1 he, in_en1 he, at_en1 he2, in_en1 he2, hse, hwm]
        exact ⟨m + 1, ⟨hml, fun e3 h3 => by rw [List.take_add_one, he2] at h3; rcases List.mem_append.1 h3 with h3 | h3; exact hmo e3 h3; simp at h3; subst h3; exact hse'⟩, (wk_of [some 100, some 4] (by simp -implicitDefEqProofs only [go_sem, encYd] <;> and_intros <;> first | rfl | assumption)), by (try dsimp only); omega⟩
      · have hse' : e2.seq = e.seq := by simpa using hse
        have hb : shelvesB y = false := shelves_no fun h => seq_dup he hml he2 hse' (by rw [← hF]; exact h.seqs.apart)
        simp -implicitDefEqProofs only [go_sem, encYd, hml', hml2, h0m, hjl, h0j, at_en1 he, in_en1 he, at_en1 he2, in_en1 he2, hse, hb]
    · have hml' : ¬ (m : Int) < j := by omega
      obtain rfl : m = j := by omega
      simp -implicitDefEqProofs only [go_sem, encYd, hml', hw]
      exact ⟨m + 1, ⟨hjl, fun e2 h2 => by rw [List.take_add_one, he] at h2; rcases List.mem_append.1 h2 with h2 | h2; exact hjo e2 h2; simp at h2; subst h2; exact hr', seq_new he hjd hmo⟩, (wk_of [some 100, some 4] (by simp -implicitDefEqProofs only [go_sem, encYd] <;> and_intros <;> first | rfl | assumption)), by (try dsimp only); omega⟩
  have hjl' : ¬ (j : Int) < F.length := by omega
  rw [List.take_of_length_le (by omega)] at hjo hjd
  have hb : shelvesB y = true := shelves_yes ⟨h4', hko, by rw [hF]; exact ⟨hjo, hjd⟩⟩
  simp -implicitDefEqProofs only [go_sem, hjl', hb]
set_option maxHeartbeats 8000000 in
theorem p_spec_YardOk (y : Yd) (ht : totYd y ≤ 2000000) : Pure Tryz.prog 72 [.agg (encYd y)] (.c (.val (.bool (yardOkB y)))) := by
  refine pure_fn Tryz.func72 code_spec_YardOk (by simp) ?_
  unfold c_spec_YardOk
  have hsf := shelf_flat ht
  have hrl := runs_le ht
  simp -implicitDefEqProofs only [go_sem, encYd]
  intro b
  refine run_call (p_spec_l01In y.now 0 999999980) (by simp -implicitDefEqProofs only [go_sem, encYd]) fun η => ?_
  simp -implicitDefEqProofs only [go_sem, encYd]
  cases h1 : decide (0 ≤ y.now ∧ y.now ≤ 999999980)
  · have hb : yardOkB y = false := yard_no fun h => by have := h.now; simp [this] at h1
    simp -implicitDefEqProofs only [go_sem, encYd, h1, hb]
  have hnow := of_decide_eq_true h1
  simp -implicitDefEqProofs only [go_sem, encYd, h1]
  refine run_call (p_spec_l01In y.seq 1 1000000000) (by simp -implicitDefEqProofs only [go_sem, encYd]) fun η => ?_
  simp -implicitDefEqProofs only [go_sem, encYd]
  cases h2 : decide (1 ≤ y.seq ∧ y.seq ≤ 1000000000)
  · have hb : yardOkB y = false := yard_no fun h => by have := h.seq; simp [this] at h2
    simp -implicitDefEqProofs only [go_sem, encYd, h2, hb]
  have hseq := of_decide_eq_true h2
  by_cases h8 : 8 < y.runs.length
  · have h8' : (y.runs.length : Int) > 8 := by omega
    have hb : yardOkB y = false := yard_no fun h => by have := h.eight; omega
    simp -implicitDefEqProofs only [go_sem, encYd, h2, h8', hb]
  have h8' : ¬ (y.runs.length : Int) > 8 := by omega
  simp -implicitDefEqProofs only [go_sem, encYd, h2, h8']
  refine run_call (p_spec_l10Shelves y ht hseq) (by simp -implicitDefEqProofs only [go_sem, encYd]) fun η => ?_
  simp -implicitDefEqProofs only [go_sem, encYd]
  cases hsh : shelvesB y
  · have hb : yardOkB y = false := yard_no fun h => by have := shelves_yes ⟨h.four, h.shelves, h.seqs⟩; rw [hsh] at this; cases this
    simp -implicitDefEqProofs only [go_sem, encYd, hsh, hb]
  have hshP := shelves_iff.1 hsh
  simp -implicitDefEqProofs only [go_sem, encYd, hsh]
  refine wp_loopW (fun i : Nat => St.of [(1, Bx 100 b), (3, Ni i)] [(100, Bi b _ (encYd y))]) (fun i => i ≤ y.runs.length ∧ ∀ (k : Nat) (r : Rn), k < i → y.runs[k]? = some r → RunOkP r ∧ runAt y r.id = k) (fun i => y.runs.length - i) 0 (by (try dsimp only); first | omega | (simp; done) | (and_intros <;> first | omega | simp)) (wk_of [some 100] (by simp -implicitDefEqProofs only [go_sem, encYd] <;> and_intros <;> first | rfl | assumption)) ?_
  rintro k ⟨hk, hko⟩
  by_cases hlt : k < y.runs.length
  · have hlt' : (k : Int) < y.runs.length := by omega
    obtain ⟨r, hr⟩ := get_some hlt
    have hw : IntKind.i64.wrap ((k : Int) + 1) = ((k + 1 : Nat) : Int) := wrap64 (by omega) (by omega)
    simp -implicitDefEqProofs only [go_sem, encYd, hlt, hlt', elem_encRns hr, encRn, encPl]
    refine run_call (p_spec_RunOk r) (by simp -implicitDefEqProofs only [go_sem, encYd, encRn, encPl]) fun η => ?_
    simp -implicitDefEqProofs only [go_sem, encYd, encRn, encPl]
    cases hs : runOkB r
    · have hb : yardOkB y = false := yard_no fun h => by have := runOk_iff.2 (h.right r (List.mem_of_getElem? hr)); rw [hs] at this; cases this
      simp -implicitDefEqProofs only [go_sem, encYd, hs, hb]
    simp -implicitDefEqProofs only [go_sem, encYd, hs, hlt, hlt', elem_encRns hr, encRn, encPl]
    refine run_call (p_spec_RunAt y r.id) (by simp -implicitDefEqProofs only [go_sem, encYd]) fun η => ?_
    simp -implicitDefEqProofs only [go_sem, encYd]
    cases hat : runAt y r.id != (k : Int)
    · have hat' : runAt y r.id = k := by simpa using hat
      simp -implicitDefEqProofs only [go_sem, encYd, hat, hw]
      exact ⟨k + 1, ⟨hlt, fun k2 r2 h2 hr2 => by rcases Nat.lt_or_ge k2 k with h' | h'; exact hko k2 r2 h' hr2; obtain rfl : k2 = k := (by omega); rw [hr] at hr2; cases hr2; exact ⟨runOk_iff.1 hs, hat'⟩⟩, (wk_of [some 100] (by simp -implicitDefEqProofs only [go_sem, encYd] <;> and_intros <;> first | rfl | assumption)), by (try dsimp only); omega⟩
    · have hb : yardOkB y = false := yard_no fun h => by have := h.place k r hr; simp [this] at hat
      simp -implicitDefEqProofs only [go_sem, encYd, hat, hb]
  have hlt' : ¬ (k : Int) < y.runs.length := by omega
  have hall : ∀ (k : Nat) (r : Rn), y.runs[k]? = some r → RunOkP r ∧ runAt y r.id = k := fun k r h => hko k r (by have := (List.getElem?_eq_some_iff.1 h).1; omega) h
  simp -implicitDefEqProofs only [go_sem, encYd, hlt']
  refine run_call (p_spec_l10Entries y ht) (by simp -implicitDefEqProofs only [go_sem, encYd]) fun ηe => ?_
  simp -implicitDefEqProofs only [go_sem, encYd]
  generalize hF : y.shelf.flatten = F at *
  refine wp_loopW (fun i : Nat => St.of [(1, Bx 100 b), (4, Hd 4 (ηe 0)), (5, Ni i)] [(100, Bi b _ (encYd y)), (4, .loose (encEns F) (ηe 0))]) (fun i => i ≤ y.runs.length ∧ ∀ (k : Nat) (r : Rn), k < i → y.runs[k]? = some r → RunIn y r F) (fun i => y.runs.length - i) 0 (by (try dsimp only); first | omega | (simp; done) | (and_intros <;> first | omega | simp)) (wk_of [some 100, some 5400] (by simp -implicitDefEqProofs only [go_sem, encYd] <;> and_intros <;> first | rfl | assumption)) ?_
  rintro j ⟨hj, hjo⟩
  by_cases hjl : j < y.runs.length
  · have hjl' : (j : Int) < y.runs.length := by omega
    obtain ⟨r, hr⟩ := get_some hjl
    have hw : IntKind.i64.wrap ((j : Int) + 1) = ((j + 1 : Nat) : Int) := wrap64 (by omega) (by omega)
    have hrP := (hall j r hr).1
    obtain ⟨n, hn, hn1, h12, h30, hes, hnd, -, -, hwt⟩ := pf_0 hrP.plan
    have hlen := hrP.len
    simp -implicitDefEqProofs only [go_sem, encYd, hjl, hjl', elem_encRns hr, encRn, encPl]
    refine run_call (p_spec_l10Run y r F (by omega) (by omega) hnow hwt) (by simp -implicitDefEqProofs only [go_sem, encYd, encRn, encPl]) fun η => ?_
    simp -implicitDefEqProofs only [go_sem, encYd, encRn, encPl]
    cases hs : runInB y r F
    · have hb : yardOkB y = false := yard_no fun h => by have := runIn_yes (h.runs r (List.mem_of_getElem? hr)); rw [hF, hs] at this; cases this
      simp -implicitDefEqProofs only [go_sem, encYd, hs, hb]
    · simp -implicitDefEqProofs only [go_sem, encYd, hs, hw]
      exact ⟨j + 1, ⟨hjl, fun k2 r2 h2 hr2 => by rcases Nat.lt_or_ge k2 j with h' | h'; exact hjo k2 r2 h' hr2; obtain rfl : k2 = j := (by omega); rw [hr] at hr2; cases hr2; exact runIn_iff.1 hs⟩, (wk_of [some 100, some 4] (by simp -implicitDefEqProofs only [go_sem, encYd] <;> and_intros <;> first | rfl | assumption)), by (try dsimp only); omega⟩
  have hjl' : ¬ (j : Int) < y.runs.length := by omega
  simp -implicitDefEqProofs only [go_sem, encYd, hjl']
  refine run_call (p_spec_SlotsOf y ht) (by simp -implicitDefEqProofs only [go_sem, encYd]) fun η => ?_
  simp -implicitDefEqProofs only [go_sem, encYd]
  have hb : yardOkB y = decide (slotsOf y ≤ 40) := by
    by_cases h40 : slotsOf y ≤ 40
    · rw [yard_yes ⟨hnow, hseq, hshP.four, by omega, hshP.shelves, hshP.seqs, fun r hr => by obtain ⟨k, hk, rfl⟩ := List.getElem_of_mem hr; exact (hall k _ (List.getElem?_eq_getElem hk)).1, fun k r hr => (hall k r hr).2, fun r hr => by obtain ⟨k, hk, rfl⟩ := List.getElem_of_mem hr; rw [hF]; exact hjo k _ (by omega) (List.getElem?_eq_getElem hk), h40⟩]
      simp [h40]
    · rw [yard_no fun h => h40 h.slots]; simp [h40]
  simp -implicitDefEqProofs only [go_sem, hb]
end Go.Proofs.YtmnpailnelmpiaaGreat
set_option linter.unusedSimpArgs false
set_option linter.unusedVariables false
set_option maxRecDepth 100000
namespace Go.Proofs.YtmnpailnelmpiaaGreat
open Go.RowKit Go.Sort
set_option maxHeartbeats 8000000 in
theorem p_impl_YardOk (y : Yd) (ht : totYd y ≤ 2000000) : Pure Tryz.prog 59 [.agg (encYd y)] (.c (.val (.bool (yardOkB y)))) := by
  refine pure_fn Tryz.func59 code_impl_YardOk (by simp) ?_
  unfold c_impl_YardOk
  have hsf := shelf_flat ht
  have hrl := runs_le ht
  simp -implicitDefEqProofs only [go_sem, encYd]
  intro b
  refine run_call (p_impl_within y.now 0 999999980) (by simp -implicitDefEqProofs only [go_sem, encYd]) fun η => ?_
  simp -implicitDefEqProofs only [go_sem, encYd]
  cases h1 : decide (0 ≤ y.now ∧ y.now ≤ 999999980)
  · have hb : yardOkB y = false := yard_no fun h => by have := h.now; simp [this] at h1
    simp -implicitDefEqProofs only [go_sem, encYd, h1, hb]
  have hnow := of_decide_eq_true h1
  simp -implicitDefEqProofs only [go_sem, encYd, h1]
  refine run_call (p_impl_within y.seq 1 1000000000) (by simp -implicitDefEqProofs only [go_sem, encYd]) fun η => ?_
  simp -implicitDefEqProofs only [go_sem, encYd]
  cases h2 : decide (1 ≤ y.seq ∧ y.seq ≤ 1000000000)
  · have hb : yardOkB y = false := yard_no fun h => by have := h.seq; simp [this] at h2
    simp -implicitDefEqProofs only [go_sem, encYd, h2, hb]
  have hseq := of_decide_eq_true h2
  have hws : IntKind.i64.wrap (y.seq - 1) = y.seq - 1 := wrap64 (by omega) (by omega)
  cases h4 : (y.shelf.length : Int) != 4
  rotate_left
  · have hb : yardOkB y = false := yard_no fun h => by have := h.four; rw [this] at h4; cases h4
    simp -implicitDefEqProofs only [go_sem, encYd, h2, h4, hb]
  have h4' : y.shelf.length = 4 := by have : (y.shelf.length : Int) = 4 := by simpa only [bne_eq_false_iff_eq] using h4
                                      omega
  by_cases h8 : 8 < y.runs.length
  · have h8' : (y.runs.length : Int) > 8 := by omega
    have hb : yardOkB y = false := yard_no fun h => by have := h.eight; omega
    simp -implicitDefEqProofs only [go_sem, encYd, h2, h4, h8', hb]
  have h8' : ¬ (y.runs.length : Int) > 8 := by omega
  simp -implicitDefEqProofs only [go_sem, encYd, h2, h4, h8']
  refine wp_loopW (fun i : Nat => St.of [(1, Bx 100 b), (34, Ro (encSh y.shelf)), (35, Ni y.shelf.length), (36, Ni i)] [(100, Bi b _ (encYd y))]) (fun i => i ≤ y.shelf.length ∧ ∀ l ∈ y.shelf.take i, ShelfP l) (fun i => y.shelf.length - i) 0 (by (try dsimp only); first | omega | (simp; done) | (and_intros <;> first | omega | simp)) (wk_of [some 100] (by simp -implicitDefEqProofs only [go_sem, encYd] <;> and_intros <;> first | rfl | assumption)) ?_
  rintro k ⟨hk, hko⟩
  by_cases hlt : k < y.shelf.length
  · have hlt' : (k : Int) < y.shelf.length := by omega
    obtain ⟨l, hl⟩ := get_some hlt
    have hlm := List.mem_of_getElem? hl
    have hw : IntKind.i64.wrap ((k : Int) + 1) = ((k + 1 : Nat) : Int) := wrap64 (by omega) (by omega)
    simp -implicitDefEqProofs only [go_sem, encYd, hlt, hlt', elem_encSh hl]
    refine run_call (p_impl_ShelfOk l (shelf1_le ht hlm)) (by simp -implicitDefEqProofs only [go_sem, encYd]) fun η => ?_
    simp -implicitDefEqProofs only [go_sem, encYd]
    cases hs : shelfB l
    · have hb : yardOkB y = false := yard_no fun h => by have := shelf_yes (h.shelves l hlm); rw [hs] at this; cases this
      simp -implicitDefEqProofs only [go_sem, encYd, hs, hb]
    · simp -implicitDefEqProofs only [go_sem, encYd, hs, hw]
      exact ⟨k + 1, ⟨hlt, fun l2 h2 => by rw [List.take_add_one, hl] at h2; rcases List.mem_append.1 h2 with h2 | h2; exact hko l2 h2; simp at h2; subst h2; exact shelf_iff.1 hs⟩, (wk_of [some 100] (by simp -implicitDefEqProofs only [go_sem, encYd] <;> and_intros <;> first | rfl | assumption)), by (try dsimp only); omega⟩
  have hlt' : ¬ (k : Int) < y.shelf.length := by omega
  rw [List.take_of_length_le (by omega)] at hko
  simp -implicitDefEqProofs only [go_sem, encYd, hlt']
  refine run_call (p_impl_allEntries y ht) (by simp -implicitDefEqProofs only [go_sem, encYd]) fun ηe => ?_
  simp -implicitDefEqProofs only [go_sem, encYd]
  generalize hF : y.shelf.flatten = F at *
  refine wp_loopW (fun i : Nat × Heads => St.of [(1, Bx 100 b), (5, Hd 5 (ηe 0)), (6, Hd 6 i.2), (46, Hd 5 (ηe 0)), (47, Ni F.length), (48, Ni i.1)] [(100, Bi b _ (encYd y)), (5, .loose (encEns F) (ηe 0)), (6, .loose (encInts ((F.take i.1).map (·.seq))) i.2)]) (fun i => i.1 ≤ F.length ∧ (∀ e ∈ F.take i.1, 1 ≤ e.seq ∧ e.seq ≤ y.seq - 1) ∧ ((F.take i.1).map (·.seq)).Nodup) (fun i => F.length - i.1) (0, nilH) (by (try dsimp only); first | omega | (simp; done) | (and_intros <;> first | omega | simp)) (wk_of [some 100, some 4500, none] (by simp -implicitDefEqProofs only [go_sem, encYd] <;> and_intros <;> first | rfl | assumption)) ?_
  rintro ⟨j, η6⟩ ⟨hj, hjo, hjd⟩
  dsimp only at hj hjo hjd
  by_cases hjl : j < F.length
  · have hjl' : (j : Int) < F.length := by omega
    have h0j : (j : Int) ≥ 0 := by omega
    obtain ⟨e, he⟩ := get_some hjl
    have hw : IntKind.i64.wrap ((j : Int) + 1) = ((j + 1 : Nat) : Int) := wrap64 (by omega) (by omega)
    have hml : ((F.take j).map (·.seq)).length ≤ 2000000 := by rw [List.length_map, List.length_take]; omega
    have hmt : (F.take (j + 1)).map (·.seq) = (F.take j).map (·.seq) ++ [e.seq] := by rw [List.take_add_one, he]; simp
    generalize hM : (F.take j).map (·.seq) = M at *
    have hm1 : M.length + 1 ≤ maxLen := by unfold maxLen; omega
    have hm2 : (M.length + 1) * 8 ≤ 140737488355328 := by omega
    simp -implicitDefEqProofs only [go_sem, encYd, hjl, hjl', h0j, at_en he, in_en he, encEn]
    intro b8
    simp -implicitDefEqProofs only [go_sem, encYd, encEn, hws]
    refine run_call (p_impl_within e.seq 1 (y.seq - 1)) (by simp -implicitDefEqProofs only [go_sem, encYd, encEn, hws]) fun η => ?_
    simp -implicitDefEqProofs only [go_sem, encYd, encEn, hws]
    cases hr : decide (1 ≤ e.seq ∧ e.seq ≤ y.seq - 1)
    · have hb : yardOkB y = false := yard_no fun h => by
        have := h.seqs.range e (by rw [hF]; exact List.mem_of_getElem? he)
        simp [this] at hr
      simp -implicitDefEqProofs only [go_sem, encYd, hr, hb]
    have hr' : 1 ≤ e.seq ∧ e.seq ≤ y.seq - 1 := of_decide_eq_true hr
    simp -implicitDefEqProofs only [go_sem, encYd, encEn, hr]
    refine run_call (p_ContainsI M e.seq (by omega)) (by simp -implicitDefEqProofs only [go_sem, encYd, encEn]) fun η => ?_
    simp -implicitDefEqProofs only [go_sem, encYd, encEn]
    by_cases hin : e.seq ∈ M
    · have hb : yardOkB y = false := yard_no fun h => by
        rw [← hM] at hin
        obtain ⟨e2, h3, h4⟩ := List.mem_map.1 hin
        obtain ⟨m, hm, rfl⟩ := List.getElem_of_mem h3
        have hm' : m < j := by rw [List.length_take] at hm; omega
        rw [List.getElem_take] at h4
        exact seq_dup he hm' (List.getElem?_eq_getElem (by omega)) h4 (by rw [← hF]; exact h.seqs.apart)
      simp -implicitDefEqProofs only [go_sem, encYd, encEn, hin, hb]
    · simp -implicitDefEqProofs only [go_sem, encYd, encEn, hin, hm1, hm2, ints_snoc1, hw]
      intro η7 η8
      exact ⟨(j + 1, η8), ⟨hjl, fun e2 h2 => by rw [List.take_add_one, he] at h2; rcases List.mem_append.1 h2 with h2 | h2; exact hjo e2 h2; simp at h2; subst h2; exact hr', seq_new he (by rw [hM]; exact hjd) (fun e2 h2 h3 => hin (by rw [← hM]; exact List.mem_map.2 ⟨e2, h2, h3⟩))⟩, (wk_of [some 100, some 5, some 6900] (by simp -implicitDefEqProofs only [go_sem, encYd, hmt] <;> and_intros <;> first | rfl | assumption)), by (try dsimp only); omega⟩
  have hjl' : ¬ (j : Int) < F.length := by omega
  rw [List.take_of_length_le (by omega)] at hjo hjd
  simp -implicitDefEqProofs only [go_sem, encYd, hjl']
  refine wp_loopW (fun i : Nat => St.of [(1, Bx 100 b), (5, Hd 5 (ηe 0)), (72, Ro (encRns y.runs)), (73, Ni y.runs.length), (74, Ni i)] [(100, Bi b _ (encYd y)), (5, .loose (encEns F) (ηe 0))]) (fun i => i ≤ y.runs.length ∧ ∀ (k : Nat) (r : Rn), k < i → y.runs[k]? = some r → RunOkP r ∧ runAt y r.id = k ∧ RunIn y r F) (fun i => y.runs.length - i) 0 (by (try dsimp only); first | omega | (simp; done) | (and_intros <;> first | omega | simp)) (wk_of [some 100, some 5] (by simp -implicitDefEqProofs only [go_sem, encYd] <;> and_intros <;> first | rfl | assumption)) ?_
  rintro m ⟨hm, hmo⟩
  by_cases hml : m < y.runs.length
  · have hml' : (m : Int) < y.runs.length := by omega
    obtain ⟨r, hr⟩ := get_some hml
    have hw : IntKind.i64.wrap ((m : Int) + 1) = ((m + 1 : Nat) : Int) := wrap64 (by omega) (by omega)
    have hre : r.plan.edges.length ≤ 4000000 := by
      have h5 := tsum_succ (tot := totRn) hr
      have h6 := tsum_le totRn y.runs (m + 1)
      have h7 : tsum totRn y.runs ≤ 2000000 := by simp only [totYd, totRns] at ht; omega
      have h8 : r.plan.edges.length ≤ totRn r := by simp only [totRn, totPl]; omega
      omega
    simp -implicitDefEqProofs only [go_sem, encYd, hml, hml', elem_encRns hr, encRn, encPl]
    intro b10
    refine run_call (p_impl_RunOk r hre) (by simp -implicitDefEqProofs only [go_sem, encYd, encRn, encPl]) fun η => ?_
    simp -implicitDefEqProofs only [go_sem, encYd, encRn, encPl]
    cases hs : runOkB r
    · have hb : yardOkB y = false := yard_no fun h => by have := runOk_iff.2 (h.right r (List.mem_of_getElem? hr)); rw [hs] at this; cases this
      simp -implicitDefEqProofs only [go_sem, encYd, hs, hb]
    have hrP := runOk_iff.1 hs
    obtain ⟨n, hn, hn1, h12, h30, hes, hnd, -, -, hwt⟩ := pf_0 hrP.plan
    have hlen := hrP.len
    simp -implicitDefEqProofs only [go_sem, encYd, hs, encRn, encPl]
    refine run_call (p_impl_RunAt y r.id) (by simp -implicitDefEqProofs only [go_sem, encYd, encRn, encPl]) fun η => ?_
    simp -implicitDefEqProofs only [go_sem, encYd, encRn, encPl]
    cases hat : runAt y r.id != (m : Int)
    rotate_left
    · have hb : yardOkB y = false := yard_no fun h => by have := h.place m r hr; simp [this] at hat
      simp -implicitDefEqProofs only [go_sem, encYd, hat, hb]
    have hat' : runAt y r.id = m := by simpa using hat
    simp -implicitDefEqProofs only [go_sem, encYd, hat, encRn, encPl]
    refine run_call (p_impl_runsOk y r F (by omega) (by omega) hnow hwt) (by simp -implicitDefEqProofs only [go_sem, encYd, encRn, encPl]) fun η => ?_
    simp -implicitDefEqProofs only [go_sem, encYd, encRn, encPl]
    cases hri : runInB y r F
    · have hb : yardOkB y = false := yard_no fun h => by have := runIn_yes (h.runs r (List.mem_of_getElem? hr)); rw [hF, hri] at this; cases this
      simp -implicitDefEqProofs only [go_sem, encYd, hri, hb]
    · simp -implicitDefEqProofs only [go_sem, encYd, hri, hw]
      exact ⟨m + 1, ⟨hml, fun k2 r2 h2 hr2 => by rcases Nat.lt_or_ge k2 m with h' | h'; exact hmo k2 r2 h' hr2; obtain rfl : k2 = m := (by omega); rw [hr] at hr2; cases hr2; exact ⟨hrP, hat', runIn_iff.1 hri⟩⟩, (wk_of [some 100, some 5] (by simp -implicitDefEqProofs only [go_sem, encYd] <;> and_intros <;> first | rfl | assumption)), by (try dsimp only); omega⟩
  have hml' : ¬ (m : Int) < y.runs.length := by omega
  have hall : ∀ (k : Nat) (r : Rn), y.runs[k]? = some r → RunOkP r ∧ runAt y r.id = k ∧ RunIn y r F := fun k r h => hmo k r (by have := (List.getElem?_eq_some_iff.1 h).1; omega) h
  simp -implicitDefEqProofs only [go_sem, encYd, hml']
  refine run_call (p_impl_SlotsOf y ht) (by simp -implicitDefEqProofs only [go_sem, encYd]) fun η => ?_
  simp -implicitDefEqProofs only [go_sem, encYd]
  have hb : yardOkB y = decide (slotsOf y ≤ 40) := by
    by_cases h40 : slotsOf y ≤ 40
    · rw [yard_yes ⟨hnow, hseq, h4', by omega, hko, by rw [hF]; exact ⟨hjo, hjd⟩, fun r hr => by obtain ⟨k, hk, rfl⟩ := List.getElem_of_mem hr; exact (hall k _ (List.getElem?_eq_getElem hk)).1, fun k r hr => (hall k r hr).2.1, fun r hr => by obtain ⟨k, hk, rfl⟩ := List.getElem_of_mem hr; rw [hF]; exact (hall k _ (List.getElem?_eq_getElem hk)).2.2, h40⟩]
      simp [h40]
    · rw [yard_no fun h => h40 h.slots]; simp [h40]
  simp -implicitDefEqProofs only [go_sem, hb]
end Go.Proofs.YtmnpailnelmpiaaGreat
