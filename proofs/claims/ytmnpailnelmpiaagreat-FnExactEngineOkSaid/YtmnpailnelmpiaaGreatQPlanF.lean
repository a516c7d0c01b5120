/- Texts for laws: PlanF. -/
import Derived.Test.YtmnpailnelmpiaaGreatQEqR
import Derived.Test.YtmnpailnelmpiaaGreatQRunP
import Derived.Test.YtmnpailnelmpiaaGreatQShelf
import Derived.Test.YtmnpailnelmpiaaGreatQW
import Derived.Test.YtmnpailnelmpiaaGreatProg
set_option linter.unusedSimpArgs false
set_option linter.unusedVariables false
set_option maxRecDepth 100000
namespace Go.Proofs.YtmnpailnelmpiaaGreat
open Go.RowKit Go.Sort
def c_spec_l06Many : C := .seq (.reg [⟨some 1, none, .box 71 5 (.t 0)⟩, ⟨some 2, none, .mov (.c (.bool false))⟩]) (.seq (.reg [⟨some 3, none, .fa 3 (.t 1)⟩, ⟨some 4, none, .ld false 1 (.t 3)⟩, ⟨some 5, none, .call 74 [.t 4, .c (.int .i64 1), .c (.int .i64 12)]⟩, ⟨some 6, none, .un .not (.t 5)⟩, ⟨some 7, none, .mov (.t 6)⟩, ⟨some 8, some (7, false), .fa 4 (.t 1)⟩, ⟨some 9, some (7, false), .ld false 1 (.t 8)⟩, ⟨some 10, some (7, false), .len false (.t 9)⟩, ⟨some 11, some (7, false), .bin .gtr 3 (.t 10) (.c (.int .i64 30))⟩, ⟨some 12, none, .pick (.t 7) (.c (.bool true)) (.t 11)⟩, ⟨some 13, none, .mov (.t 12)⟩, ⟨some 14, some (13, false), .fa 0 (.t 1)⟩, ⟨some 15, some (13, false), .ld false 1 (.t 14)⟩, ⟨some 16, some (13, false), .call 74 [.t 15, .c (.int .i64 0), .c (.int .i64 9)]⟩, ⟨some 17, some (13, false), .un .not (.t 16)⟩, ⟨some 18, none, .pick (.t 13) (.c (.bool true)) (.t 17)⟩, ⟨some 19, none, .mov (.t 18)⟩, ⟨some 20, some (19, false), .fa 1 (.t 1)⟩, ⟨some 21, some (19, false), .ld false 1 (.t 20)⟩, ⟨some 22, some (19, false), .call 74 [.t 21, .c (.int .i64 1), .c (.int .i64 5)]⟩, ⟨some 23, some (19, false), .un .not (.t 22)⟩, ⟨some 24, none, .pick (.t 19) (.c (.bool true)) (.t 23)⟩, ⟨some 25, none, .mov (.t 24)⟩, ⟨some 26, some (25, false), .fa 2 (.t 1)⟩, ⟨some 27, some (25, false), .ld false 1 (.t 26)⟩, ⟨some 28, some (25, false), .call 74 [.t 27, .c (.int .i64 1), .c (.int .i64 20)]⟩, ⟨some 29, some (25, false), .un .not (.t 28)⟩, ⟨some 30, none, .pick (.t 25) (.c (.bool true)) (.t 29)⟩, ⟨some 2, none, .mov (.t 30)⟩]) .ret)
theorem code_spec_l06Many : fnC Tryz.prog Tryz.f257 = some (c_spec_l06Many, [.t 2], 31) := by kernel_rfl
def c_spec_l06From : C := .seq (.reg [⟨some 2, none, .box 71 5 (.t 0)⟩, ⟨some 4, none, .mov (.c (.slice none 0 0))⟩]) (.seq (.reg [⟨some 10, none, .fa 3 (.t 2)⟩, ⟨some 11, none, .ld false 1 (.t 10)⟩, ⟨some 12, none, .mks 4 1 1 [D.val (.bool false)] (.t 11) (.t 11)⟩, ⟨some 5, none, .mov (.t 12)⟩]) (.seq (.reg [⟨some 13, none, .mov (.t 1)⟩, ⟨some 14, none, .bsl 3 1 1 [none] [(0, 1, .t 13)]⟩, ⟨some 6, none, .mov (.t 14)⟩]) (.seq (.seq (.reg [⟨some 7, none, .mov (.c (.int .i64 0))⟩]) (.blk 0 (.loop (.seq (.seq (.reg [⟨some 15, none, .mov (.t 7)⟩, ⟨some 16, none, .mov (.t 6)⟩, ⟨some 17, none, .len false (.t 16)⟩, ⟨some 18, none, .bin .lss 3 (.t 15) (.t 17)⟩]) (.cond (.t 18) .skip (.exit 0))) (.seq (.blk 1 (.seq (.reg [⟨some 8, none, .mov (.c (.int .i64 0))⟩]) (.blk 2 (.loop (.seq (.seq (.reg [⟨some 21, none, .mov (.t 8)⟩, ⟨some 22, none, .fa 4 (.t 2)⟩, ⟨some 23, none, .ld false 1 (.t 22)⟩, ⟨some 24, none, .len false (.t 23)⟩, ⟨some 25, none, .bin .lss 3 (.t 21) (.t 24)⟩]) (.cond (.t 25) .skip (.exit 2))) (.seq (.blk 3 (.seq (.reg [⟨some 28, none, .fa 4 (.t 2)⟩, ⟨some 29, none, .ld false 1 (.t 28)⟩, ⟨some 30, none, .mov (.t 8)⟩, ⟨some 31, none, .ia 2 (.t 29) (.t 30)⟩, ⟨some 32, none, .ld true 2 (.t 31)⟩, ⟨some 9, none, .alloc 253 [.int .i64 0, .int .i64 0]⟩, ⟨none, none, .st 2 [none, none] (.t 9) (.t 32)⟩]) (.seq (.dreg (T.pure 0 ⟨some 33, none, .fa 0 (.t 9)⟩ (T.pure 1 ⟨some 34, none, .ld false 1 (.t 33)⟩ (T.pure 2 ⟨some 35, none, .mov (.t 6)⟩ (T.pure 3 ⟨some 36, none, .mov (.t 7)⟩ (T.pure 4 ⟨some 37, none, .ia 1 (.t 35) (.t 36)⟩ (T.pure 5 ⟨some 38, none, .ld false 1 (.t 37)⟩ (T.pure 6 ⟨some 39, none, .bin .eql 3 (.t 34) (.t 38)⟩ (T.pure 7 ⟨some 40, none, .mov (.t 39)⟩ (T.pure 8 ⟨some 41, some (40, true), .mov (.t 5)⟩ (T.pure 9 ⟨some 42, some (40, true), .fa 1 (.t 9)⟩ (T.pure 10 ⟨some 43, some (40, true), .ld false 1 (.t 42)⟩ (T.pure 11 ⟨some 44, some (40, true), .ia 1 (.t 41) (.t 43)⟩ (T.pure 12 ⟨some 45, some (40, true), .ld false 1 (.t 44)⟩ (T.pure 13 ⟨some 46, some (40, true), .un .not (.t 45)⟩ (T.pure 14 ⟨some 47, none, .pick (.t 40) (.t 46) (.c (.bool false))⟩ T.done)))))))))))))))) (.cond (.t 47) (.seq (.reg [⟨some 48, none, .mov (.t 5)⟩, ⟨some 49, none, .fa 1 (.t 9)⟩, ⟨some 50, none, .ld false 1 (.t 49)⟩, ⟨some 51, none, .ia 1 (.t 48) (.t 50)⟩, ⟨none, none, .st 1 [none] (.t 51) (.c (.bool true))⟩]) (.reg [⟨some 52, none, .mov (.t 6)⟩, ⟨some 53, none, .fa 1 (.t 9)⟩, ⟨some 54, none, .ld false 1 (.t 53)⟩, ⟨some 55, none, .bsl 3 1 1 [none] [(0, 1, .t 54)]⟩, ⟨some 56, none, .app 3 1 8 (.t 52) (.t 55)⟩, ⟨some 6, none, .mov (.t 56)⟩])) .skip)))) (.reg [⟨some 26, none, .mov (.t 8)⟩, ⟨some 27, none, .bin .add 3 (.t 26) (.c (.int .i64 1))⟩, ⟨some 8, none, .mov (.t 27)⟩]))))))) (.reg [⟨some 19, none, .mov (.t 7)⟩, ⟨some 20, none, .bin .add 3 (.t 19) (.c (.int .i64 1))⟩, ⟨some 7, none, .mov (.t 20)⟩])))))) (.seq (.reg [⟨some 57, none, .mov (.t 5)⟩, ⟨some 4, none, .mov (.t 57)⟩]) .ret))))
theorem code_spec_l06From : fnC Tryz.prog Tryz.f258 = some (c_spec_l06From, [.t 4], 58) := by kernel_rfl
def c_spec_PlanFault : C := .seq (.reg [⟨some 1, none, .box 71 5 (.t 0)⟩, ⟨some 2, none, .mov (.c (.int .i64 0))⟩]) (.seq (.seq (.reg [⟨some 7, none, .ld true 5 (.t 1)⟩, ⟨some 8, none, .call 257 [.t 7]⟩]) (.cond (.t 8) (.seq (.reg [⟨some 2, none, .mov (.c (.int .i64 1))⟩]) .ret) .skip)) (.seq (.seq (.reg [⟨some 3, none, .mov (.c (.int .i64 0))⟩]) (.blk 0 (.loop (.seq (.seq (.reg [⟨some 9, none, .mov (.t 3)⟩, ⟨some 10, none, .fa 4 (.t 1)⟩, ⟨some 11, none, .ld false 1 (.t 10)⟩, ⟨some 12, none, .len false (.t 11)⟩, ⟨some 13, none, .bin .lss 3 (.t 9) (.t 12)⟩]) (.cond (.t 13) .skip (.exit 0))) (.seq (.blk 1 (.seq (.dreg (T.pure 0 ⟨some 16, none, .fa 4 (.t 1)⟩ (T.pure 1 ⟨some 17, none, .ld false 1 (.t 16)⟩ (T.pure 2 ⟨some 18, none, .mov (.t 3)⟩ (T.pure 3 ⟨some 19, none, .ia 2 (.t 17) (.t 18)⟩ (T.pure 4 ⟨some 20, none, .fa 0 (.t 19)⟩ (T.pure 5 ⟨some 21, none, .ld false 1 (.t 20)⟩ (T.pure 6 ⟨some 22, none, .fa 3 (.t 1)⟩ (T.pure 7 ⟨some 23, none, .ld false 1 (.t 22)⟩ (T.pure 8 ⟨some 24, none, .bin .sub 3 (.t 23) (.c (.int .i64 1))⟩ (T.alt ⟨some 25, none, .call 74 [.t 21, .c (.int .i64 0), .t 24]⟩ [] (T.pure 10 ⟨some 26, none, .un .not (.t 25)⟩ (T.pure 11 ⟨some 27, none, .mov (.t 26)⟩ (T.pure 12 ⟨some 28, some (27, false), .fa 4 (.t 1)⟩ (T.pure 13 ⟨some 29, some (27, false), .ld false 1 (.t 28)⟩ (T.pure 14 ⟨some 30, some (27, false), .mov (.t 3)⟩ (T.pure 15 ⟨some 31, some (27, false), .ia 2 (.t 29) (.t 30)⟩ (T.pure 16 ⟨some 32, some (27, false), .fa 1 (.t 31)⟩ (T.pure 17 ⟨some 33, some (27, false), .ld false 1 (.t 32)⟩ (T.pure 18 ⟨some 34, some (27, false), .fa 3 (.t 1)⟩ (T.pure 19 ⟨some 35, some (27, false), .ld false 1 (.t 34)⟩ (T.pure 20 ⟨some 36, some (27, false), .bin .sub 3 (.t 35) (.c (.int .i64 1))⟩ (T.alt ⟨some 37, some (27, false), .call 74 [.t 33, .c (.int .i64 0), .t 36]⟩ [] (T.pure 22 ⟨some 38, some (27, false), .un .not (.t 37)⟩ (T.pure 23 ⟨some 39, none, .pick (.t 27) (.c (.bool true)) (.t 38)⟩ T.done)) T.stop)))))))))))) T.stop))))))))))) (.cond (.t 39) (.seq (.reg [⟨some 2, none, .mov (.c (.int .i64 2))⟩]) .ret) .skip))) (.reg [⟨some 14, none, .mov (.t 3)⟩, ⟨some 15, none, .bin .add 3 (.t 14) (.c (.int .i64 1))⟩, ⟨some 3, none, .mov (.t 15)⟩])))))) (.seq (.seq (.reg [⟨some 4, none, .mov (.c (.int .i64 0))⟩]) (.blk 2 (.loop (.seq (.seq (.reg [⟨some 40, none, .mov (.t 4)⟩, ⟨some 41, none, .fa 4 (.t 1)⟩, ⟨some 42, none, .ld false 1 (.t 41)⟩, ⟨some 43, none, .len false (.t 42)⟩, ⟨some 44, none, .bin .lss 3 (.t 40) (.t 43)⟩]) (.cond (.t 44) .skip (.exit 2))) (.seq (.blk 3 (.seq (.reg [⟨some 5, none, .mov (.c (.int .i64 0))⟩]) (.blk 4 (.loop (.seq (.seq (.reg [⟨some 47, none, .mov (.t 5)⟩, ⟨some 48, none, .mov (.t 4)⟩, ⟨some 49, none, .bin .lss 3 (.t 47) (.t 48)⟩]) (.cond (.t 49) .skip (.exit 4))) (.seq (.blk 5 (.seq (.dreg (T.pure 0 ⟨some 52, none, .fa 4 (.t 1)⟩ (T.pure 1 ⟨some 53, none, .ld false 1 (.t 52)⟩ (T.pure 2 ⟨some 54, none, .mov (.t 4)⟩ (T.pure 3 ⟨some 55, none, .ia 2 (.t 53) (.t 54)⟩ (T.pure 4 ⟨some 56, none, .ld true 2 (.t 55)⟩ (T.pure 5 ⟨some 57, none, .fa 4 (.t 1)⟩ (T.pure 6 ⟨some 58, none, .ld false 1 (.t 57)⟩ (T.pure 7 ⟨some 59, none, .mov (.t 5)⟩ (T.pure 8 ⟨some 60, none, .ia 2 (.t 58) (.t 59)⟩ (T.pure 9 ⟨some 61, none, .ld true 2 (.t 60)⟩ (T.pure 10 ⟨some 62, none, .bin .eql 253 (.t 56) (.t 61)⟩ T.done)))))))))))) (.cond (.t 62) (.seq (.reg [⟨some 2, none, .mov (.c (.int .i64 3))⟩]) .ret) .skip))) (.reg [⟨some 50, none, .mov (.t 5)⟩, ⟨some 51, none, .bin .add 3 (.t 50) (.c (.int .i64 1))⟩, ⟨some 5, none, .mov (.t 51)⟩]))))))) (.reg [⟨some 45, none, .mov (.t 4)⟩, ⟨some 46, none, .bin .add 3 (.t 45) (.c (.int .i64 1))⟩, ⟨some 4, none, .mov (.t 46)⟩])))))) (.seq (.seq (.reg [⟨some 6, none, .mov (.c (.int .i64 0))⟩]) (.blk 6 (.loop (.seq (.seq (.reg [⟨some 63, none, .mov (.t 6)⟩, ⟨some 64, none, .fa 3 (.t 1)⟩, ⟨some 65, none, .ld false 1 (.t 64)⟩, ⟨some 66, none, .bin .lss 3 (.t 63) (.t 65)⟩]) (.cond (.t 66) .skip (.exit 6))) (.seq (.blk 7 (.seq (.reg [⟨some 69, none, .ld true 5 (.t 1)⟩, ⟨some 70, none, .mov (.t 6)⟩, ⟨some 71, none, .call 258 [.t 69, .t 70]⟩, ⟨some 72, none, .mov (.t 6)⟩, ⟨some 73, none, .ia 1 (.t 71) (.t 72)⟩, ⟨some 74, none, .ld false 1 (.t 73)⟩]) (.cond (.t 74) (.seq (.reg [⟨some 2, none, .mov (.c (.int .i64 4))⟩]) .ret) .skip))) (.reg [⟨some 67, none, .mov (.t 6)⟩, ⟨some 68, none, .bin .add 3 (.t 67) (.c (.int .i64 1))⟩, ⟨some 6, none, .mov (.t 68)⟩])))))) (.seq (.reg [⟨some 2, none, .mov (.c (.int .i64 0))⟩]) .ret)))))
theorem code_spec_PlanFault : fnC Tryz.prog Tryz.f186 = some (c_spec_PlanFault, [.t 2], 75) := by kernel_rfl
def c_slices_Index_impl_Edge_impl_Edge_ : C := .seq (.reg [⟨some 3, none, .box 253 2 (.t 1)⟩, ⟨some 4, none, .mov (.c (.int .i64 0))⟩]) (.seq (.seq (.reg [⟨some 6, none, .mov (.t 0)⟩, ⟨some 7, none, .len false (.t 6)⟩, ⟨some 8, none, .mov (.c (.int .i64 0))⟩]) (.blk 0 (.loop (.seq (.reg [⟨some 9, none, .bin .lss 3 (.t 8) (.t 7)⟩]) (.seq (.cond (.t 9) .skip (.exit 0)) (.seq (.blk 1 (.seq (.reg [⟨some 10, none, .mov (.t 8)⟩, ⟨some 5, none, .mov (.t 10)⟩]) (.seq (.dreg (T.pure 0 ⟨some 11, none, .ld true 2 (.t 3)⟩ (T.pure 1 ⟨some 12, none, .mov (.t 0)⟩ (T.pure 2 ⟨some 13, none, .mov (.t 5)⟩ (T.pure 3 ⟨some 14, none, .ia 2 (.t 12) (.t 13)⟩ (T.pure 4 ⟨some 15, none, .ld true 2 (.t 14)⟩ (T.pure 5 ⟨some 16, none, .bin .eql 253 (.t 11) (.t 15)⟩ T.done))))))) (.cond (.t 16) (.seq (.reg [⟨some 17, none, .mov (.t 5)⟩, ⟨some 4, none, .mov (.t 17)⟩]) .ret) .skip)))) (.reg [⟨some 18, none, .bin .add 3 (.t 8) (.c (.int .i64 1))⟩, ⟨some 8, none, .mov (.t 18)⟩]))))))) (.seq (.reg [⟨some 4, none, .mov (.c (.int .i64 (-1)))⟩]) .ret))
theorem code_slices_Index_impl_Edge_impl_Edge_ : fnC Tryz.prog Tryz.f287 = some (c_slices_Index_impl_Edge_impl_Edge_, [.t 4], 19) := by kernel_rfl
def c_slices_Contains_impl_Edge_impl_Edge_ : C := .seq (.reg [⟨some 3, none, .box 253 2 (.t 1)⟩, ⟨some 4, none, .mov (.c (.bool false))⟩]) (.seq (.reg [⟨some 5, none, .mov (.t 0)⟩, ⟨some 6, none, .ld true 2 (.t 3)⟩, ⟨some 7, none, .call 287 [.t 5, .t 6]⟩, ⟨some 8, none, .bin .geq 3 (.t 7) (.c (.int .i64 0))⟩, ⟨some 4, none, .mov (.t 8)⟩]) .ret)
theorem code_slices_Contains_impl_Edge_impl_Edge_ : fnC Tryz.prog Tryz.f271 = some (c_slices_Contains_impl_Edge_impl_Edge_, [.t 4], 9) := by kernel_rfl
set_option maxHeartbeats 4000000 in
theorem p_spec_l06Many (p : Pl) : Pure Tryz.prog 257 [.agg (encPl p)] (.c (.val (.bool (manyB p)))) := by
  refine pure_fn Tryz.func257 code_spec_l06Many (by simp) ?_
  unfold c_spec_l06Many
  simp -implicitDefEqProofs only [go_sem, encPl]
  intro b
  refine run_call (p_spec_l01In p.tasks 1 12) (by simp -implicitDefEqProofs only [go_sem, encPl]) fun η => ?_
  simp -implicitDefEqProofs only [go_sem, encPl]
  cases h1 : decide (1 ≤ p.tasks ∧ p.tasks ≤ 12)
  · simp -implicitDefEqProofs only [go_sem, encPl, h1, manyB, inB]
  · by_cases h2 : 30 < p.edges.length
    · have h2' : (p.edges.length : Int) > 30 := by omega
      simp -implicitDefEqProofs only [go_sem, encPl, h1, h2, h2', manyB, inB]
    · have h2' : ¬ (p.edges.length : Int) > 30 := by omega
      simp -implicitDefEqProofs only [go_sem, encPl, h1, h2, h2']
      refine run_call (p_spec_l01In p.prio 0 9) (by simp -implicitDefEqProofs only [go_sem, encPl]) fun η => ?_
      simp -implicitDefEqProofs only [go_sem, encPl]
      cases h3 : decide (0 ≤ p.prio ∧ p.prio ≤ 9)
      · simp -implicitDefEqProofs only [go_sem, encPl, h1, h2, h2', h3, manyB, inB]
      · simp -implicitDefEqProofs only [go_sem, encPl, h1, h2, h2', h3]
        refine run_call (p_spec_l01In p.most 1 5) (by simp -implicitDefEqProofs only [go_sem, encPl]) fun η => ?_
        simp -implicitDefEqProofs only [go_sem, encPl]
        cases h4 : decide (1 ≤ p.most ∧ p.most ≤ 5)
        · simp -implicitDefEqProofs only [go_sem, encPl, h1, h2, h2', h3, h4, manyB, inB]
        · simp -implicitDefEqProofs only [go_sem, encPl, h1, h2, h2', h3, h4]
          refine run_call (p_spec_l01In p.wait 1 20) (by simp -implicitDefEqProofs only [go_sem, encPl]) fun η => ?_
          simp -implicitDefEqProofs only [go_sem, encPl]
          cases h5 : decide (1 ≤ p.wait ∧ p.wait ≤ 20)
          · simp -implicitDefEqProofs only [go_sem, encPl, h1, h2, h2', h3, h4, h5, manyB, inB]
          · simp -implicitDefEqProofs only [go_sem, encPl, h1, h2, h2', h3, h4, h5, manyB, inB]
set_option maxHeartbeats 4000000 in
theorem p_spec_l06From (p : Pl) (n : Nat) (hn : p.tasks = n) (h12 : n ≤ 12) (h30 : p.edges.length ≤ 30) (hes : ∀ e ∈ p.edges, okE n e) (t : Nat) (ht : t < n) : Pure Tryz.prog 258 [.agg (encPl p), .c (.val (.int .i64 t))] (.c (encBools (fromL p.edges n t))) := by
  refine pure_fn Tryz.func258 code_spec_l06From (by simp) ?_
  unfold c_spec_l06From
  have hm : 1 * n ≤ 281474976710656 := by omega
  have hml : n ≤ maxLen := by unfold maxLen; omega
  have hrep : D.sl 1 tBool (List.replicate n [D.val (.bool false)]).flatten = encBools (bOut n []) := by
    rw [mk_bools]
    congr 1
    apply List.ext_getElem?
    intro k
    by_cases hk : k < n
    · rw [bOut_get hk]; simp [hk]
    · rw [List.getElem?_eq_none (by simp; omega), List.getElem?_eq_none (by rw [bOut_len]; omega)]
  have hint : D.sl 1 tInt [D.val (.int .i64 t)] = encInts [(t : Int)] := by simp [encInts]
  simp -implicitDefEqProofs only [go_sem, encPl, hn]
  intro b
  rw [run_mks]
  refine ⟨.i64, .i64, n, by simp -implicitDefEqProofs only [go_sem], by simp -implicitDefEqProofs only [go_sem], hm, hml, fun η => ?_⟩
  simp -implicitDefEqProofs only [go_sem, encPl, hn, hrep, hint]
  intro η1
  refine wp_loopW (fun i : Nat × List Int × Heads × Heads => St.of [(2, Bx 200 b), (5, Hd 5 i.2.2.1), (6, Hd 6 i.2.2.2), (7, Ni i.1)] [(200, Bi b _ (encPl p)), (5, .loose (encBools (bOut n i.2.1)) i.2.2.1), (6, .loose (encInts ((t : Int) :: i.2.1)) i.2.2.2)]) (fun i => BInv p.edges n t i.1 i.2.1) (fun i => n + 1 - i.1) (0, [], η, η1) (bInv_0) (wk_of [some 200, some 1200, some 1400] (by simp -implicitDefEqProofs only [go_sem, encPl, hn] <;> and_intros <;> first | rfl | assumption)) ?_
  rintro ⟨h, r, η2, η3⟩ hb
  dsimp only at hb
  have hrl := bInv_len hb
  have hll : ((t : Int) :: r).length = r.length + 1 := rfl
  by_cases hlt : h < r.length + 1
  · have hlt' : (h : Int) < ((r.length + 1 : Nat) : Int) := by omega
    obtain ⟨x, hx⟩ := get_some (l := (t : Int) :: r) hlt
    have hwh : IntKind.i64.wrap ((h : Int) + 1) = ((h + 1 : Nat) : Int) := wrap64 (by omega) (by omega)
    simp -implicitDefEqProofs only [go_sem, hlt, hlt']
    refine wp_loopW (fun i : Nat × List Int × Heads × Heads => St.of [(2, Bx 200 b), (5, Hd 5 i.2.2.1), (6, Hd 6 i.2.2.2), (7, Ni h), (8, Ni i.1)] [(200, Bi b _ (encPl p)), (5, .loose (encBools (bOut n i.2.1)) i.2.2.1), (6, .loose (encInts ((t : Int) :: i.2.1)) i.2.2.2)]) (fun i => BIn p.edges n t h x i.1 i.2.1 ∧ i.1 ≤ p.edges.length) (fun i => p.edges.length - i.1) (0, r, η2, η3) (⟨bIn_0 hb hx, Nat.zero_le _⟩) (wk_of [some 200, some 5, some 6] (by simp -implicitDefEqProofs only [go_sem, encPl, hn] <;> and_intros <;> first | rfl | assumption)) ?_
    rintro ⟨j, r1, η4, η5⟩ ⟨hj, hjl⟩
    dsimp only at hj hjl
    have hrl1 := bInv_len hj.1
    have hll1 : ((t : Int) :: r1).length = r1.length + 1 := rfl
    by_cases hjt : j < p.edges.length
    · have hjt' : (j : Int) < p.edges.length := by omega
      obtain ⟨e, he⟩ := get_some hjt
      obtain ⟨⟨e1, e2⟩, e3, e4⟩ := hes e (List.mem_of_getElem? he)
      have hwj : IntKind.i64.wrap ((j : Int) + 1) = ((j + 1 : Nat) : Int) := wrap64 (by omega) (by omega)
      have hqx : ((t : Int) :: r1)[h]? = some x := hj.2.1
      have hhl : h < ((t : Int) :: r1).length := (List.getElem?_eq_some_iff.1 hqx).1
      have hd : e.dst.toNat < n := by omega
      have hdi : ((e.dst.toNat : Nat) : Int) = e.dst := by omega
      have hgd : (bOut n r1)[e.dst.toNat]? = some (decide (e.dst ∈ r1)) := by rw [bOut_get hd, hdi]
      have hdl : e.dst.toNat < (bOut n r1).length := by rw [bOut_len]; exact hd
      have hset : (bOut n r1).set e.dst.toNat true = bOut n (r1 ++ [e.dst]) := by rw [bOut_set hd, hdi]
      have hone : 1 ≤ maxLen := by unfold maxLen; omega
      have hq1 : ((t : Int) :: r1).length + 1 ≤ maxLen := by unfold maxLen; omega
      have hq2 : (((t : Int) :: r1).length + 1) * 8 ≤ 140737488355328 := by omega
      have hint2 : D.sl 1 tInt [D.val (.int .i64 e.dst)] = encInts [e.dst] := by simp [encInts]
      dsimp only
      generalize hq : (t : Int) :: r1 = q at hqx hhl hll1 hq1 hq2 ⊢
      simp -implicitDefEqProofs only [go_sem, encPl, hn, hjt, hjt', elem_encEds he, encEd, bOut_len, e3, hd]
      intro b2
      simp -implicitDefEqProofs only [go_sem, encPl, hn, encEd, at_encInts hqx, in_encInts hhl, hhl, e3, hd, bOut_len]
      cases hxe : (e.src == x)
      · have hne : e.src ≠ x := by simpa using hxe
        simp -implicitDefEqProofs only [go_sem, hwj]
        exact ⟨(j + 1, r1, η4, η5), ⟨bIn_no hj he fun h' => absurd h' hne, by omega⟩, (wk_of [some 200, some 5, some 6] (by simp -implicitDefEqProofs only [go_sem, encPl, hn, ← hq] <;> and_intros <;> first | rfl | assumption)), by (try dsimp only); omega⟩
      · have hse : e.src = x := by simpa using hxe
        simp -implicitDefEqProofs only [go_sem, encEd, e3, hd, bOut_len, at_encBools hgd, in_encBools hdl, elem_encBools hgd]
        by_cases hin : e.dst ∈ r1
        · simp -implicitDefEqProofs only [go_sem, hin, hwj]
          exact ⟨(j + 1, r1, η4, η5), ⟨bIn_no hj he fun _ => hin, by omega⟩, (wk_of [some 200, some 5, some 6] (by simp -implicitDefEqProofs only [go_sem, encPl, hn, ← hq] <;> and_intros <;> first | rfl | assumption)), by (try dsimp only); omega⟩
        · simp -implicitDefEqProofs only [go_sem, hin, hwj, encEd, e3, hd, bOut_len, put_encBools true hdl, in_encBools hdl, hset, hq1, hq2, ints_one, ints_snoc1]
          intro η6 η7
          exact ⟨(j + 1, r1 ++ [e.dst], η4, η7), ⟨bIn_new hj he hse hin ⟨e3, e4⟩ (fun h0 => by subst h0; simpa using hj.2.1.symm), by omega⟩, (wk_of [some 200, some 5, some 5600] (by simp -implicitDefEqProofs only [go_sem, encPl, hn, ← hq, List.cons_append] <;> and_intros <;> first | rfl | assumption)), by (try dsimp only); omega⟩
    · have hjt' : ¬ (j : Int) < p.edges.length := by omega
      simp -implicitDefEqProofs only [go_sem, encPl, hn, hjt', hwh]
      exact ⟨(h + 1, r1, η4, η5), bInv_next hj (by omega), (wk_of [some 200, some 5, some 6] (by simp -implicitDefEqProofs only [go_sem, encPl, hn] <;> and_intros <;> first | rfl | assumption)), by (try dsimp only); omega⟩
  · have hlt' : ¬ (h : Int) < ((r.length + 1 : Nat) : Int) := by omega
    simp -implicitDefEqProofs only [go_sem, encPl, hn, hlt', bInv_done hb (by omega)]
theorem many_no {p : Pl} (h : manyB p = false) : ∃ n : Nat, p.tasks = n ∧ 1 ≤ n ∧ n ≤ 12 ∧ p.edges.length ≤ 30 ∧ (0 ≤ p.prio ∧ p.prio ≤ 9) ∧ (1 ≤ p.most ∧ p.most ≤ 5) ∧ (1 ≤ p.wait ∧ p.wait ≤ 20) := by
  simp only [manyB, inB, Bool.or_eq_false_iff, Bool.not_eq_false', decide_eq_true_eq, decide_eq_false_iff_not] at h
  obtain ⟨⟨⟨⟨h1, h2⟩, h3⟩, h4⟩, h5⟩ := h
  exact ⟨p.tasks.toNat, by omega, by omega, by omega, by omega, h3, h4, h5⟩
theorem pf_many {p : Pl} (h : manyB p = true) : planFault p = 1 := by simp [planFault, h]
theorem pf_edge {p : Pl} (h : manyB p = false) {e : Ed} (he : e ∈ p.edges) (h2 : badE p.tasks e = true) : planFault p = 2 := by
  have : p.edges.any (badE p.tasks) = true := List.any_eq_true.2 ⟨e, he, h2⟩
  simp [planFault, h, this]
theorem pf_dup {p : Pl} (h : manyB p = false) (h2 : p.edges.any (badE p.tasks) = false) (h3 : ¬ p.edges.Nodup) : planFault p = 3 := by simp [planFault, h, h2, h3]
theorem pf_cyc {p : Pl} (h : manyB p = false) (h2 : p.edges.any (badE p.tasks) = false) (h3 : p.edges.Nodup) {t : Nat} (ht : (t : Int) < p.tasks) (h4 : Rc p.edges t t) : planFault p = 4 := by
  have : cycB p = true := by simp only [cycB, decide_eq_true_eq]; exact ⟨t, ht, h4⟩
  simp [planFault, h, h2, h3, this]
theorem pf_ok {p : Pl} (h : manyB p = false) (h2 : p.edges.any (badE p.tasks) = false) (h3 : p.edges.Nodup) (h4 : ∀ t : Nat, (t : Int) < p.tasks → ¬ Rc p.edges t t) : planFault p = 0 := by
  have : cycB p = false := by simp only [cycB, decide_eq_false_iff_not, not_exists, not_and]; exact h4
  simp [planFault, h, h2, h3, this]
theorem any_take {α : Type} {f : α → Bool} {l : List α} {k : Nat} {x : α} (h : l[k]? = some x) (hx : f x = false) (hn : (l.take k).any f = false) : (l.take (k + 1)).any f = false := by
  rw [List.take_add_one, h]; simp_all
theorem dup_take {l : List Ed} {k j : Nat} {x : Ed} (h : l[k]? = some x) (hj : j < k) (hx : l[j]? = some x) : ¬ l.Nodup := by
  intro hd
  obtain ⟨h1, h2⟩ := List.getElem?_eq_some_iff.1 h
  obtain ⟨h3, h4⟩ := List.getElem?_eq_some_iff.1 hx
  exact List.pairwise_iff_getElem.1 hd j k h3 h1 hj (h4.trans h2.symm)
theorem nodup_take {l : List Ed} {k : Nat} {x : Ed} (h : l[k]? = some x) (hn : (l.take k).Nodup) (hx : x ∉ l.take k) : (l.take (k + 1)).Nodup := by
  rw [List.take_add_one, h]
  simp only [Option.toList_some]
  rw [List.nodup_append]
  exact ⟨hn, by simp, fun a ha b hb e => by simp at hb; subst hb; exact hx (e ▸ ha)⟩
set_option maxHeartbeats 4000000 in
theorem p_spec_PlanFault (p : Pl) : Pure Tryz.prog 186 [.agg (encPl p)] (.c (.val (.int .i64 (planFault p)))) := by
  refine pure_fn Tryz.func186 code_spec_PlanFault (by simp) ?_
  unfold c_spec_PlanFault
  simp -implicitDefEqProofs only [go_sem, encPl]
  intro b
  refine run_call (p_spec_l06Many p) (by simp -implicitDefEqProofs only [go_sem, encPl]) fun η => ?_
  simp -implicitDefEqProofs only [go_sem, encPl]
  cases hm : manyB p
  rotate_left
  · simp -implicitDefEqProofs only [go_sem, encPl, hm, pf_many hm]
  obtain ⟨n, hn, hn1, hn12, hel, -⟩ := many_no hm
  have hw1 : IntKind.i64.wrap ((n : Int) - 1) = n - 1 := wrap64 (by omega) (by omega)
  simp -implicitDefEqProofs only [go_sem, encPl, hm]
  refine wp_loopW (fun i : Nat => St.of [(1, Bx 100 b), (3, Ni i)] [(100, Bi b _ (encPl p))]) (fun i => i ≤ p.edges.length ∧ (p.edges.take i).any (badE n) = false) (fun i => p.edges.length - i) 0 (by (try dsimp only); first | omega | (simp; done) | (and_intros <;> first | omega | simp)) (wk_of [some 100] (by simp -implicitDefEqProofs only [go_sem, encPl] <;> and_intros <;> first | rfl | assumption)) ?_
  rintro k ⟨hk, hko⟩
  by_cases hlt : k < p.edges.length
  · have hlt' : (k : Int) < p.edges.length := by omega
    obtain ⟨e, he⟩ := get_some hlt
    have hw : IntKind.i64.wrap ((k : Int) + 1) = ((k + 1 : Nat) : Int) := wrap64 (by omega) (by omega)
    simp -implicitDefEqProofs only [go_sem, encPl, hn, hlt, hlt', elem_encEds he, encEd, hw1]
    refine run_call (p_spec_l01In e.src 0 (n - 1)) (by simp -implicitDefEqProofs only [go_sem, encPl, hlt, hlt', elem_encEds he, encEd, hw1]) fun η => ?_
    simp -implicitDefEqProofs only [go_sem, encPl, hlt, hlt', elem_encEds he, encEd, hw1]
    cases h1 : decide (0 ≤ e.src ∧ e.src ≤ n - 1)
    · have hbe : badE p.tasks e = true := by simp [badE, inB, hn, h1]
      simp -implicitDefEqProofs only [go_sem, encPl, h1, pf_edge hm (List.mem_of_getElem? he) hbe]
    · simp -implicitDefEqProofs only [go_sem, encPl, h1, hlt, hlt', elem_encEds he, encEd, hw1, hn]
      refine run_call (p_spec_l01In e.dst 0 (n - 1)) (by simp -implicitDefEqProofs only [go_sem, encPl, hlt, hlt', elem_encEds he, encEd, hw1]) fun η => ?_
      simp -implicitDefEqProofs only [go_sem, encPl, hlt, hlt', elem_encEds he, encEd, hw1]
      cases h2 : decide (0 ≤ e.dst ∧ e.dst ≤ n - 1)
      · have hbe : badE p.tasks e = true := by simp [badE, inB, hn, h2]
        simp -implicitDefEqProofs only [go_sem, encPl, h2, pf_edge hm (List.mem_of_getElem? he) hbe]
      · have hbe : badE n e = false := by simp [badE, inB, h1, h2]
        simp -implicitDefEqProofs only [go_sem, encPl, h2, hw]
        exact ⟨k + 1, ⟨hlt, any_take he hbe hko⟩, (wk_of [some 100] (by simp -implicitDefEqProofs only [go_sem, encPl] <;> and_intros <;> first | rfl | assumption)), by (try dsimp only); omega⟩
  have hlt' : ¬ (k : Int) < p.edges.length := by omega
  rw [List.take_of_length_le (by omega), ← hn] at hko
  have hes := okE_of hko
  simp -implicitDefEqProofs only [go_sem, encPl, hlt']
  refine wp_loopW (fun i : Nat => St.of [(1, Bx 100 b), (4, Ni i)] [(100, Bi b _ (encPl p))]) (fun i => i ≤ p.edges.length ∧ (p.edges.take i).Nodup) (fun i => p.edges.length - i) 0 (by (try dsimp only); first | omega | (simp; done) | (and_intros <;> first | omega | simp)) (wk_of [some 100] (by simp -implicitDefEqProofs only [go_sem, encPl] <;> and_intros <;> first | rfl | assumption)) ?_
  rintro j ⟨hj, hjo⟩
  by_cases hjl : j < p.edges.length
  · have hjl' : (j : Int) < p.edges.length := by omega
    obtain ⟨e, he⟩ := get_some hjl
    have hw : IntKind.i64.wrap ((j : Int) + 1) = ((j + 1 : Nat) : Int) := wrap64 (by omega) (by omega)
    simp -implicitDefEqProofs only [go_sem, encPl, hjl']
    refine wp_loopW (fun i : Nat => St.of [(1, Bx 100 b), (4, Ni j), (5, Ni i)] [(100, Bi b _ (encPl p))]) (fun i => i ≤ j ∧ e ∉ p.edges.take i) (fun i => j - i) 0 (by (try dsimp only); first | omega | (simp; done) | (and_intros <;> first | omega | simp)) (wk_of [some 100] (by simp -implicitDefEqProofs only [go_sem, encPl] <;> and_intros <;> first | rfl | assumption)) ?_
    rintro m ⟨hm1, hmo⟩
    by_cases hml : m < j
    · have hml' : (m : Int) < j := by omega
      obtain ⟨e2, he2⟩ := get_some (show m < p.edges.length by omega)
      have hw2 : IntKind.i64.wrap ((m : Int) + 1) = ((m + 1 : Nat) : Int) := wrap64 (by omega) (by omega)
      have hm3 : m < p.edges.length := by omega
      have hm3' : (m : Int) < p.edges.length := by omega
      by_cases heq : e = e2
      · subst heq
        simp -implicitDefEqProofs only [go_sem, encPl, hml', hjl, hjl', hm3, hm3', elem_encEds he, elem_encEds he2, encEd, pf_dup hm hko (dup_take he hml he2)]
      · simp -implicitDefEqProofs only [go_sem, encPl, hml', hjl, hjl', hm3, hm3', elem_encEds he, elem_encEds he2, encEd, heq, hw2]
        exact ⟨m + 1, ⟨hml, fun h' => by rw [List.take_add_one, he2] at h'; simp at h'; rcases h' with h' | h'; exact hmo h'; exact heq h'⟩, (wk_of [some 100] (by simp -implicitDefEqProofs only [go_sem, encPl] <;> and_intros <;> first | rfl | assumption)), by (try dsimp only); omega⟩
    · have hml' : ¬ (m : Int) < j := by omega
      obtain rfl : m = j := by omega
      simp -implicitDefEqProofs only [go_sem, encPl, hml', hw]
      exact ⟨m + 1, ⟨hjl, nodup_take he hjo hmo⟩, (wk_of [some 100] (by simp -implicitDefEqProofs only [go_sem, encPl] <;> and_intros <;> first | rfl | assumption)), by (try dsimp only); omega⟩
  have hjl' : ¬ (j : Int) < p.edges.length := by omega
  rw [List.take_of_length_le (by omega)] at hjo
  simp -implicitDefEqProofs only [go_sem, encPl, hjl']
  refine wp_loopW (fun i : Nat => St.of [(1, Bx 100 b), (6, Ni i)] [(100, Bi b _ (encPl p))]) (fun i => i ≤ n ∧ ∀ t : Nat, t < i → ¬ Rc p.edges t t) (fun i => n - i) 0 (by (try dsimp only); first | omega | (simp; done) | (and_intros <;> first | omega | simp)) (wk_of [some 100] (by simp -implicitDefEqProofs only [go_sem, encPl] <;> and_intros <;> first | rfl | assumption)) ?_
  rintro t ⟨ht, hto⟩
  by_cases htl : t < n
  · have htl' : (t : Int) < n := by omega
    have hw : IntKind.i64.wrap ((t : Int) + 1) = ((t + 1 : Nat) : Int) := wrap64 (by omega) (by omega)
    have hes' : ∀ e ∈ p.edges, okE n e := fun e he => by have := hes e he; rwa [hn, Int.toNat_natCast] at this
    simp -implicitDefEqProofs only [go_sem, encPl, hn, htl']
    refine run_call (p_spec_l06From p n hn hn12 hel hes' t htl) (by simp -implicitDefEqProofs only [go_sem, encPl, hn]) fun η => ?_
    simp -implicitDefEqProofs only [go_sem, encPl, hn]
    cases hr : rcB p.edges t t
    · have hg : (fromL p.edges n t)[t]? = some false := by rw [fromL_get htl, hr]
      simp -implicitDefEqProofs only [go_sem, encPl, htl, htl', fromL_len, at_encBools hg, in_encBools (show t < (fromL p.edges n t).length by rw [fromL_len]; exact htl), hw]
      exact ⟨t + 1, ⟨htl, fun s hs h' => by rcases Nat.lt_or_ge s t with h2 | h2; exact hto s h2 h'; obtain rfl : s = t := (by omega); rw [rcB_iff.2 h'] at hr; cases hr⟩, (wk_of [some 100] (by simp -implicitDefEqProofs only [go_sem, encPl] <;> and_intros <;> first | rfl | assumption)), by (try dsimp only); omega⟩
    · have hg : (fromL p.edges n t)[t]? = some true := by rw [fromL_get htl, hr]
      simp -implicitDefEqProofs only [go_sem, encPl, htl, htl', fromL_len, at_encBools hg, in_encBools (show t < (fromL p.edges n t).length by rw [fromL_len]; exact htl), hw, pf_cyc hm hko hjo (by rw [hn]; exact htl') (rcB_iff.1 hr)]
  · have htl' : ¬ (t : Int) < n := by omega
    simp -implicitDefEqProofs only [go_sem, encPl, hn, htl', pf_ok hm hko hjo (fun s hs => hto s (by omega))]
set_option maxHeartbeats 4000000 in
theorem p_IndexEd (l : List Ed) (e : Ed) (hl : l.length ≤ 4000000) : Pure Tryz.prog 287 [.c (encEds l), .agg (encEd e)] (.c (.val (.int .i64 (findI (fun x => decide (e = x)) l)))) := by
  refine pure_fn Tryz.func287 code_slices_Index_impl_Edge_impl_Edge_ (by simp) ?_
  unfold c_slices_Index_impl_Edge_impl_Edge_
  simp -implicitDefEqProofs only [go_sem, encEd]
  intro b
  refine wp_loopW (fun i : Nat => St.of [(0, Ro (encEds l)), (3, Bx 300 b), (7, Ni l.length), (8, Ni i)] [(300, Bi b _ (encEd e))]) (fun i => i ≤ l.length ∧ ∀ y ∈ l.take i, (fun x => decide (e = x)) y = false) (fun i => l.length - i) 0 (by (try dsimp only); first | omega | (simp; done) | (and_intros <;> first | omega | simp)) (wk_of [some 300] (by simp -implicitDefEqProofs only [go_sem, encEd] <;> and_intros <;> first | rfl | assumption)) ?_
  rintro k ⟨hk, hko⟩
  by_cases hlt : k < l.length
  · have hlt' : (k : Int) < l.length := by omega
    obtain ⟨x, hx⟩ := get_some hlt
    have hw : IntKind.i64.wrap ((k : Int) + 1) = ((k + 1 : Nat) : Int) := wrap64 (by omega) (by omega)
    by_cases heq : e = x
    · subst heq
      simp -implicitDefEqProofs only [go_sem, encEd, hlt, hlt', elem_encEds hx, findI_hit hx (decide_eq_true rfl) hko]
    · simp -implicitDefEqProofs only [go_sem, encEd, hlt, hlt', elem_encEds hx, heq, hw]
      exact ⟨k + 1, ⟨hlt, take_no hx (decide_eq_false heq) hko⟩, (wk_of [some 300] (by simp -implicitDefEqProofs only [go_sem, encEd] <;> and_intros <;> first | rfl | assumption)), by (try dsimp only); omega⟩
  · have hlt' : ¬ (k : Int) < l.length := by omega
    rw [List.take_of_length_le (by omega)] at hko
    simp -implicitDefEqProofs only [go_sem, encEd, hlt', findI_none hko]
set_option maxHeartbeats 4000000 in
theorem p_ContainsEd (l : List Ed) (e : Ed) (hl : l.length ≤ 4000000) : Pure Tryz.prog 271 [.c (encEds l), .agg (encEd e)] (.c (.val (.bool (decide (e ∈ l))))) := by
  refine pure_fn Tryz.func271 code_slices_Contains_impl_Edge_impl_Edge_ (by simp) ?_
  unfold c_slices_Contains_impl_Edge_impl_Edge_
  simp -implicitDefEqProofs only [go_sem, encEd]
  intro b
  refine run_call (p_IndexEd l e hl) (by simp -implicitDefEqProofs only [go_sem, encEd]) fun η => ?_
  simp -implicitDefEqProofs only [go_sem, encEd]
  rcases findI_cases (fun x => decide (e = x)) l with ⟨h1, h2⟩ | ⟨k, x, h1, h2, h3, -⟩
  · have hm : decide (e ∈ l) = false := decide_eq_false fun h => by have := h2 e h; simp at this
    rw [h1, hm]
    simp -implicitDefEqProofs only [go_sem]
  · have hm : decide (e ∈ l) = true := decide_eq_true (by have : e = x := by simpa using h3
                                                          exact this ▸ List.mem_of_getElem? h2)
    have hk : (k : Int) ≥ 0 := by omega
    rw [h1, hm]
    simp -implicitDefEqProofs only [go_sem, hk]
end Go.Proofs.YtmnpailnelmpiaaGreat
set_option linter.unusedSimpArgs false
set_option linter.unusedVariables false
set_option maxRecDepth 100000
namespace Go.Proofs.YtmnpailnelmpiaaGreat
open Go.RowKit Go.Sort
theorem bits_of {a : Nat} (h : a < 4096) : (BitVec.ofInt 64 (a : Int)) = BitVec.ofNat 64 a := by
  apply BitVec.eq_of_toNat_eq
  simp
theorem or_small {a b : Nat} (ha : a < 4096) (hb : b < 4096) : IntKind.i64.wrap ((BitVec.ofInt 64 (a : Int) ||| BitVec.ofInt 64 (b : Int)).toNat : Int) = ((a ||| b : Nat) : Int) := by
  have hab : a ||| b < 2 ^ 12 := Nat.or_lt_two_pow ha hb
  have e : (BitVec.ofInt 64 (a : Int) ||| BitVec.ofInt 64 (b : Int)).toNat = a ||| b := by
    rw [bits_of ha, bits_of hb, BitVec.toNat_or, BitVec.toNat_ofNat, BitVec.toNat_ofNat, Nat.mod_eq_of_lt (by omega), Nat.mod_eq_of_lt (by omega)]
  rw [e]
  exact wrap64 (by omega) (by omega)
theorem shl_small {d : Int} (h0 : 0 ≤ d) (h : d < 12) : IntKind.i64.wrap (1 * 2 ^ min d.toNat 64) = ((2 ^ d.toNat : Nat) : Int) := by
  have e : min d.toNat 64 = d.toNat := Nat.min_eq_left (by omega)
  have hlt : 2 ^ d.toNat < 4096 := (show 2 ^ d.toNat < 2 ^ 12 from Nat.pow_lt_pow_right (by omega) (by omega))
  rw [e, Int.one_mul, show (2 : Int) ^ d.toNat = ((2 ^ d.toNat : Nat) : Int) by simp]
  generalize 2 ^ d.toNat = q at *
  exact wrap64 (by omega) (by omega)
theorem bit_test {a t : Nat} (ha : a < 4096) (ht : t < 12) : (IntKind.i64.wrap ((BitVec.ofInt 64 (Int.fdiv (a : Int) (2 ^ min t 64)) &&& BitVec.ofInt 64 1).toNat : Int) == 1) = a.testBit t := by
  have e : min t 64 = t := Nat.min_eq_left (by omega)
  have e1 : Int.fdiv (a : Int) (2 ^ t) = ((a / 2 ^ t : Nat) : Int) := by
    rw [show (2 : Int) ^ t = ((2 ^ t : Nat) : Int) by simp, Int.fdiv_eq_ediv_of_nonneg _ (Int.natCast_nonneg _)]; rfl
  have hq : a / 2 ^ t < 4096 := Nat.lt_of_le_of_lt (Nat.div_le_self _ _) ha
  have e2 : (BitVec.ofInt 64 ((a / 2 ^ t : Nat) : Int) &&& BitVec.ofInt 64 1).toNat = (a / 2 ^ t) % 2 := by
    rw [bits_of hq, show BitVec.ofInt 64 1 = BitVec.ofNat 64 1 from rfl, BitVec.toNat_and, BitVec.toNat_ofNat, BitVec.toNat_ofNat, Nat.mod_eq_of_lt (by omega), Nat.mod_eq_of_lt (by omega)]
    exact Nat.and_one_is_mod _
  rw [e, e1, e2, wrap64 (by omega) (by omega), Nat.testBit_eq_decide_div_mod_eq]
  by_cases h : a / 2 ^ t % 2 = 1
  · rw [h]; rfl
  · have h0 : a / 2 ^ t % 2 = 0 := by omega
    rw [h0]; rfl
theorem or_small' {a b : Nat} (ha : a < 4096) (hb : b < 4096) : IntKind.i64.wrap ((@BitVec.toNat 64 (@HOr.hOr (BitVec 64) (BitVec 64) (BitVec 64) (@instHOrOfOrOp (BitVec IntKind.i64.bits) (@BitVec.instOrOp IntKind.i64.bits)) (BitVec.ofInt 64 (a : Int)) (BitVec.ofInt 64 (b : Int))) : Nat) : Int) = ((a ||| b : Nat) : Int) := or_small ha hb
theorem bit_test' {a t : Nat} (ha : a < 4096) (ht : t < 12) : (IntKind.i64.wrap ((@BitVec.toNat 64 (@HAnd.hAnd (BitVec 64) (BitVec 64) (BitVec 64) (@instHAndOfAndOp (BitVec IntKind.i64.bits) (@BitVec.instAndOp IntKind.i64.bits)) (BitVec.ofInt 64 (Int.fdiv (a : Int) (2 ^ min t 64))) (BitVec.ofInt 64 1)) : Nat) : Int) == 1) = a.testBit t := bit_test ha ht
def zL (S : List Nat) : List Int := S.map fun (k : Nat) => (k : Int)
theorem zL_len (S : List Nat) : (zL S).length = S.length := by simp [zL]
theorem zL_get {S : List Nat} {k : Nat} (h : k < S.length) : (zL S)[k]? = some ((S.getD k 0 : Nat) : Int) := by simp [zL, h]
theorem zL_set (S : List Nat) (k v : Nat) : (zL S).set k (v : Int) = zL (S.set k v) := by simp [zL, List.map_set]
theorem rnd_take {es : List Ed} {k : Nat} {e : Ed} (h : es[k]? = some e) (S : List Nat) : (es.take (k + 1)).foldl stepE S = stepE ((es.take k).foldl stepE S) e := by
  rw [List.take_add_one, h]; simp
theorem fold_lt {n : Nat} : ∀ {l : List Ed} {S : List Nat}, (∀ e ∈ l, okE n e) → (∀ x ∈ S, x < 2 ^ n) → ∀ x ∈ l.foldl stepE S, x < 2 ^ n
  | [], _, _, h => h
  | e :: l, S, hl, h => fold_lt (l := l) (S := stepE S e) (fun e he => hl e (by simp [he])) (step_lt (hl e (by simp)) h)
theorem rndN_lt {n : Nat} {es : List Ed} (hes : ∀ e ∈ es, okE n e) : ∀ (k : Nat), ∀ x ∈ rndN es k (List.replicate n 0), x < 2 ^ n
  | 0 => fun x hx => by simp [rndN] at hx; have := Nat.two_pow_pos n; omega
  | k + 1 => fold_lt hes (rndN_lt hes k)
theorem getD_lt {S : List Nat} {n : Nat} (h : ∀ x ∈ S, x < 2 ^ n) (hn : n ≤ 12) (k : Nat) : S.getD k 0 < 4096 := by
  have h2 : 2 ^ n ≤ 2 ^ 12 := Nat.pow_le_pow_right (by omega) hn
  rw [List.getD_eq_getElem?_getD]
  cases hk : S[k]? with
  | none => simp
  | some v => have := h v (List.mem_of_getElem? hk); simp; omega
def c_impl_waits : C := .seq (.reg [⟨some 1, none, .box 71 5 (.t 0)⟩, ⟨some 2, none, .mov (.c (.slice none 0 0))⟩]) (.seq (.reg [⟨some 6, none, .fa 3 (.t 1)⟩, ⟨some 7, none, .ld false 1 (.t 6)⟩, ⟨some 8, none, .mks 3 1 8 [D.val (.int .i64 0)] (.t 7) (.t 7)⟩, ⟨some 3, none, .mov (.t 8)⟩]) (.seq (.seq (.reg [⟨some 9, none, .fa 3 (.t 1)⟩, ⟨some 10, none, .ld false 1 (.t 9)⟩, ⟨some 11, none, .mov (.c (.int .i64 0))⟩]) (.blk 0 (.loop (.seq (.reg [⟨some 12, none, .bin .lss 3 (.t 11) (.t 10)⟩]) (.seq (.cond (.t 12) .skip (.exit 0)) (.seq (.blk 1 (.seq (.reg [⟨some 13, none, .fa 4 (.t 1)⟩, ⟨some 14, none, .ld false 1 (.t 13)⟩, ⟨some 15, none, .len false (.t 14)⟩, ⟨some 16, none, .mov (.c (.int .i64 0))⟩]) (.blk 2 (.loop (.seq (.reg [⟨some 17, none, .bin .lss 3 (.t 16) (.t 15)⟩]) (.seq (.cond (.t 17) .skip (.exit 2)) (.seq (.blk 3 (.seq (.reg [⟨some 18, none, .ia 2 (.t 14) (.t 16)⟩, ⟨some 19, none, .ld true 2 (.t 18)⟩, ⟨some 5, none, .alloc 253 [.int .i64 0, .int .i64 0]⟩, ⟨none, none, .st 2 [none, none] (.t 5) (.t 19)⟩]) (.dreg (T.pure 0 ⟨some 20, none, .mov (.t 3)⟩ (T.pure 1 ⟨some 21, none, .fa 0 (.t 5)⟩ (T.pure 2 ⟨some 22, none, .ld false 1 (.t 21)⟩ (T.pure 3 ⟨some 23, none, .ia 1 (.t 20) (.t 22)⟩ (T.pure 4 ⟨some 24, none, .ld false 1 (.t 23)⟩ (T.pure 5 ⟨some 25, none, .fa 1 (.t 5)⟩ (T.pure 6 ⟨some 26, none, .ld false 1 (.t 25)⟩ (T.pure 7 ⟨some 27, none, .bin .shl 3 (.c (.int .i64 1)) (.t 26)⟩ (T.pure 8 ⟨some 28, none, .mov (.t 3)⟩ (T.pure 9 ⟨some 29, none, .fa 1 (.t 5)⟩ (T.pure 10 ⟨some 30, none, .ld false 1 (.t 29)⟩ (T.pure 11 ⟨some 31, none, .ia 1 (.t 28) (.t 30)⟩ (T.pure 12 ⟨some 32, none, .ld false 1 (.t 31)⟩ (T.pure 13 ⟨some 33, none, .bin .or 3 (.t 27) (.t 32)⟩ (T.pure 14 ⟨some 34, none, .bin .or 3 (.t 24) (.t 33)⟩ (T.pure 15 ⟨some 35, none, .ia 1 (.t 20) (.t 22)⟩ (T.alt ⟨none, none, .st 1 [none] (.t 35) (.t 34)⟩ [] T.done T.stop)))))))))))))))))))) (.reg [⟨some 36, none, .bin .add 3 (.t 16) (.c (.int .i64 1))⟩, ⟨some 16, none, .mov (.t 36)⟩])))))))) (.reg [⟨some 37, none, .bin .add 3 (.t 11) (.c (.int .i64 1))⟩, ⟨some 11, none, .mov (.t 37)⟩]))))))) (.seq (.reg [⟨some 38, none, .mov (.t 3)⟩, ⟨some 2, none, .mov (.t 38)⟩]) .ret)))
theorem code_impl_waits : fnC Tryz.prog Tryz.f272 = some (c_impl_waits, [.t 2], 39) := by kernel_rfl
def c_impl_PlanFault : C := .seq (.reg [⟨some 1, none, .box 71 5 (.t 0)⟩, ⟨some 2, none, .mov (.c (.int .i64 0))⟩]) (.seq (.seq (.reg [⟨some 9, none, .fa 3 (.t 1)⟩, ⟨some 10, none, .ld false 1 (.t 9)⟩, ⟨some 11, none, .call 78 [.t 10, .c (.int .i64 1), .c (.int .i64 12)]⟩, ⟨some 12, none, .un .not (.t 11)⟩, ⟨some 13, none, .mov (.t 12)⟩, ⟨some 14, some (13, false), .fa 4 (.t 1)⟩, ⟨some 15, some (13, false), .ld false 1 (.t 14)⟩, ⟨some 16, some (13, false), .len false (.t 15)⟩, ⟨some 17, some (13, false), .bin .gtr 3 (.t 16) (.c (.int .i64 30))⟩, ⟨some 18, none, .pick (.t 13) (.c (.bool true)) (.t 17)⟩, ⟨some 19, none, .mov (.t 18)⟩, ⟨some 20, some (19, false), .fa 0 (.t 1)⟩, ⟨some 21, some (19, false), .ld false 1 (.t 20)⟩, ⟨some 22, some (19, false), .call 78 [.t 21, .c (.int .i64 0), .c (.int .i64 9)]⟩, ⟨some 23, some (19, false), .un .not (.t 22)⟩, ⟨some 24, none, .pick (.t 19) (.c (.bool true)) (.t 23)⟩, ⟨some 25, none, .mov (.t 24)⟩, ⟨some 26, some (25, false), .fa 1 (.t 1)⟩, ⟨some 27, some (25, false), .ld false 1 (.t 26)⟩, ⟨some 28, some (25, false), .call 78 [.t 27, .c (.int .i64 1), .c (.int .i64 5)]⟩, ⟨some 29, some (25, false), .un .not (.t 28)⟩, ⟨some 30, none, .pick (.t 25) (.c (.bool true)) (.t 29)⟩, ⟨some 31, none, .mov (.t 30)⟩, ⟨some 32, some (31, false), .fa 2 (.t 1)⟩, ⟨some 33, some (31, false), .ld false 1 (.t 32)⟩, ⟨some 34, some (31, false), .call 78 [.t 33, .c (.int .i64 1), .c (.int .i64 20)]⟩, ⟨some 35, some (31, false), .un .not (.t 34)⟩, ⟨some 36, none, .pick (.t 31) (.c (.bool true)) (.t 35)⟩]) (.cond (.t 36) (.seq (.reg [⟨some 2, none, .mov (.c (.int .i64 1))⟩]) .ret) .skip)) (.seq (.seq (.reg [⟨some 37, none, .fa 4 (.t 1)⟩, ⟨some 38, none, .ld false 1 (.t 37)⟩, ⟨some 39, none, .len false (.t 38)⟩, ⟨some 40, none, .mov (.c (.int .i64 0))⟩]) (.blk 0 (.loop (.seq (.reg [⟨some 41, none, .bin .lss 3 (.t 40) (.t 39)⟩]) (.seq (.cond (.t 41) .skip (.exit 0)) (.seq (.blk 1 (.seq (.reg [⟨some 42, none, .ia 2 (.t 38) (.t 40)⟩, ⟨some 43, none, .ld true 2 (.t 42)⟩, ⟨some 4, none, .alloc 253 [.int .i64 0, .int .i64 0]⟩, ⟨none, none, .st 2 [none, none] (.t 4) (.t 43)⟩]) (.seq (.reg [⟨some 44, none, .fa 0 (.t 4)⟩, ⟨some 45, none, .ld false 1 (.t 44)⟩, ⟨some 46, none, .fa 3 (.t 1)⟩, ⟨some 47, none, .ld false 1 (.t 46)⟩, ⟨some 48, none, .bin .sub 3 (.t 47) (.c (.int .i64 1))⟩, ⟨some 49, none, .call 78 [.t 45, .c (.int .i64 0), .t 48]⟩, ⟨some 50, none, .un .not (.t 49)⟩, ⟨some 51, none, .mov (.t 50)⟩, ⟨some 52, some (51, false), .fa 1 (.t 4)⟩, ⟨some 53, some (51, false), .ld false 1 (.t 52)⟩, ⟨some 54, some (51, false), .fa 3 (.t 1)⟩, ⟨some 55, some (51, false), .ld false 1 (.t 54)⟩, ⟨some 56, some (51, false), .bin .sub 3 (.t 55) (.c (.int .i64 1))⟩, ⟨some 57, some (51, false), .call 78 [.t 53, .c (.int .i64 0), .t 56]⟩, ⟨some 58, some (51, false), .un .not (.t 57)⟩, ⟨some 59, none, .pick (.t 51) (.c (.bool true)) (.t 58)⟩]) (.cond (.t 59) (.seq (.reg [⟨some 2, none, .mov (.c (.int .i64 2))⟩]) .ret) .skip)))) (.reg [⟨some 60, none, .bin .add 3 (.t 40) (.c (.int .i64 1))⟩, ⟨some 40, none, .mov (.t 60)⟩]))))))) (.seq (.seq (.reg [⟨some 61, none, .fa 4 (.t 1)⟩, ⟨some 62, none, .ld false 1 (.t 61)⟩, ⟨some 63, none, .len false (.t 62)⟩, ⟨some 64, none, .mov (.c (.int .i64 0))⟩]) (.blk 2 (.loop (.seq (.reg [⟨some 65, none, .bin .lss 3 (.t 64) (.t 63)⟩]) (.seq (.cond (.t 65) .skip (.exit 2)) (.seq (.blk 3 (.seq (.reg [⟨some 66, none, .mov (.t 64)⟩, ⟨some 67, none, .ia 2 (.t 62) (.t 64)⟩, ⟨some 68, none, .ld true 2 (.t 67)⟩, ⟨some 6, none, .alloc 253 [.int .i64 0, .int .i64 0]⟩, ⟨some 5, none, .mov (.t 66)⟩, ⟨none, none, .st 2 [none, none] (.t 6) (.t 68)⟩]) (.seq (.dreg (T.pure 0 ⟨some 69, none, .fa 4 (.t 1)⟩ (T.pure 1 ⟨some 70, none, .ld false 1 (.t 69)⟩ (T.pure 2 ⟨some 71, none, .mov (.t 5)⟩ (T.pure 3 ⟨some 72, none, .sl 2 (.t 70) none (some (.t 71))⟩ (T.pure 4 ⟨some 73, none, .ld true 2 (.t 6)⟩ (T.alt ⟨some 74, none, .call 271 [.t 72, .t 73]⟩ [] T.done T.stop))))))) (.cond (.t 74) (.seq (.reg [⟨some 2, none, .mov (.c (.int .i64 3))⟩]) .ret) .skip)))) (.reg [⟨some 75, none, .bin .add 3 (.t 64) (.c (.int .i64 1))⟩, ⟨some 64, none, .mov (.t 75)⟩]))))))) (.seq (.seq (.reg [⟨some 76, none, .ld true 5 (.t 1)⟩, ⟨some 77, none, .call 272 [.t 76]⟩, ⟨some 78, none, .len false (.t 77)⟩, ⟨some 79, none, .mov (.c (.int .i64 0))⟩]) (.blk 4 (.loop (.seq (.reg [⟨some 80, none, .bin .lss 3 (.t 79) (.t 78)⟩]) (.seq (.cond (.t 80) .skip (.exit 4)) (.seq (.blk 5 (.seq (.reg [⟨some 81, none, .mov (.t 79)⟩, ⟨some 82, none, .ia 1 (.t 77) (.t 79)⟩, ⟨some 83, none, .ld false 1 (.t 82)⟩, ⟨some 7, none, .mov (.t 81)⟩, ⟨some 8, none, .mov (.t 83)⟩]) (.seq (.reg [⟨some 84, none, .mov (.t 8)⟩, ⟨some 85, none, .mov (.t 7)⟩, ⟨some 86, none, .bin .shr 3 (.t 84) (.t 85)⟩, ⟨some 87, none, .bin .and 3 (.t 86) (.c (.int .i64 1))⟩, ⟨some 88, none, .bin .eql 3 (.t 87) (.c (.int .i64 1))⟩]) (.cond (.t 88) (.seq (.reg [⟨some 2, none, .mov (.c (.int .i64 4))⟩]) .ret) .skip)))) (.reg [⟨some 89, none, .bin .add 3 (.t 79) (.c (.int .i64 1))⟩, ⟨some 79, none, .mov (.t 89)⟩]))))))) (.seq (.reg [⟨some 2, none, .mov (.c (.int .i64 0))⟩]) .ret)))))
theorem code_impl_PlanFault : fnC Tryz.prog Tryz.f210 = some (c_impl_PlanFault, [.t 2], 90) := by kernel_rfl
set_option maxHeartbeats 4000000 in
theorem p_impl_waits (p : Pl) (n : Nat) (hn : p.tasks = n) (h12 : n ≤ 12) (h30 : p.edges.length ≤ 30) (hes : ∀ e ∈ p.edges, okE n e) : Pure Tryz.prog 272 [.agg (encPl p)] (.c (encInts (zL (waitsL p.edges n)))) := by
  refine pure_fn Tryz.func272 code_impl_waits (by simp) ?_
  unfold c_impl_waits
  have hrep : encInts (List.replicate n 0) = encInts (zL (rndN p.edges 0 (List.replicate n 0))) := by simp [rndN, zL]
  simp -implicitDefEqProofs only [go_sem, encPl, hn]
  intro b
  rw [run_mks]
  refine ⟨.i64, .i64, n, by simp -implicitDefEqProofs only [go_sem], by simp -implicitDefEqProofs only [go_sem], by omega, by unfold maxLen; omega, fun η => ?_⟩
  simp -implicitDefEqProofs only [go_sem, encPl, hn, mk_ints, hrep]
  refine wp_loopW (fun i : Nat × Heads => St.of [(1, Bx 100 b), (3, Hd 3 i.2), (10, Ni n), (11, Ni i.1)] [(100, Bi b _ (encPl p)), (3, .loose (encInts (zL (rndN p.edges i.1 (List.replicate n 0)))) i.2)]) (fun i => i.1 ≤ n) (fun i => n - i.1) (0, η) (by (try dsimp only); first | omega | (simp; done) | (and_intros <;> first | omega | simp)) (wk_of [some 100, some 800] (by simp -implicitDefEqProofs only [go_sem, encPl, hn] <;> and_intros <;> first | rfl | assumption)) ?_
  rintro ⟨k, η1⟩ hk
  dsimp only at hk
  by_cases hlt : k < n
  · have hlt' : (k : Int) < n := by omega
    have hw : IntKind.i64.wrap ((k : Int) + 1) = ((k + 1 : Nat) : Int) := wrap64 (by omega) (by omega)
    have hSl := rndN_len (es := p.edges) k (List.replicate n 0)
    have hSb := rndN_lt hes k
    rw [List.length_replicate] at hSl
    have hnext : rndN p.edges (k + 1) (List.replicate n 0) = p.edges.foldl stepE (rndN p.edges k (List.replicate n 0)) := rfl
    dsimp only
    generalize rndN p.edges k (List.replicate n 0) = S at *
    simp -implicitDefEqProofs only [go_sem, encPl, hlt', hn]
    refine wp_loopW (fun i : Nat × Heads => St.of [(1, Bx 100 b), (3, Hd 3 i.2), (10, Ni n), (11, Ni k), (14, Ro (encEds p.edges)), (15, Ni p.edges.length), (16, Ni i.1)] [(100, Bi b _ (encPl p)), (3, .loose (encInts (zL ((p.edges.take i.1).foldl stepE S))) i.2)]) (fun i => i.1 ≤ p.edges.length) (fun i => p.edges.length - i.1) (0, η1) (by (try dsimp only); first | omega | (simp; done) | (and_intros <;> first | omega | simp)) (wk_of [some 100, some 3] (by simp -implicitDefEqProofs only [go_sem, encPl, hn, List.take_zero, List.foldl_nil] <;> and_intros <;> first | rfl | assumption)) ?_
    rintro ⟨j, η2⟩ hj
    dsimp only at hj
    by_cases hjt : j < p.edges.length
    · have hjt' : (j : Int) < p.edges.length := by omega
      obtain ⟨e, he⟩ := get_some hjt
      have hm : e ∈ p.edges := List.mem_of_getElem? he
      obtain ⟨⟨e1, e2⟩, e3, e4⟩ := hes e hm
      have hwj : IntKind.i64.wrap ((j : Int) + 1) = ((j + 1 : Nat) : Int) := wrap64 (by omega) (by omega)
      have hTl := fold_len (p.edges.take j) S
      have hTb := fold_lt (n := n) (l := p.edges.take j) (S := S) (fun e he => hes e (List.mem_of_mem_take he)) hSb
      have htk := rnd_take he S
      dsimp only
      generalize (p.edges.take j).foldl stepE S = U at *
      have hsl : e.src.toNat < U.length := by omega
      have hdl : e.dst.toNat < U.length := by omega
      have hs' := zL_get hsl
      have hd' := zL_get hdl
      have hzs : e.src.toNat < (zL U).length := by rw [zL_len]; exact hsl
      have hzd : e.dst.toNat < (zL U).length := by rw [zL_len]; exact hdl
      have hu1 := getD_lt hTb h12 e.src.toNat
      have hu2 := getD_lt hTb h12 e.dst.toNat
      have hp : 2 ^ e.dst.toNat < 4096 := (show 2 ^ e.dst.toNat < 2 ^ 12 from Nat.pow_lt_pow_right (by omega) (by omega))
      have ho : 2 ^ e.dst.toNat ||| U.getD e.dst.toNat 0 < 4096 := Nat.or_lt_two_pow (n := 12) hp hu2
      have hst : (zL U).set e.src.toNat ((U.getD e.src.toNat 0 ||| (2 ^ e.dst.toNat ||| U.getD e.dst.toNat 0) : Nat) : Int) = zL (stepE U e) := zL_set _ _ _
      simp -implicitDefEqProofs only [go_sem, encPl, hn, hjt, hjt', elem_encEds he, encEd, e1, e3, hsl, hdl, zL_len]
      intro b2
      simp -implicitDefEqProofs only [go_sem, encPl, hn, hjt, hjt', encEd, e1, e3, hsl, hdl, zL_len, at_encInts hs', in_encInts hzs, at_encInts hd', in_encInts hzd, shl_small e3 (by omega), or_small' hp hu2, or_small' hu1 ho, put_encInts _ hzs, hst, hwj]
      exact ⟨(j + 1, η2), by (try dsimp only); first | omega | assumption | (and_intros <;> first | omega | assumption), (wk_of [some 100, some 3] (by simp -implicitDefEqProofs only [go_sem, encPl, hn, htk] <;> and_intros <;> first | rfl | assumption)), by (try dsimp only); omega⟩
    · have hjt' : ¬ (j : Int) < p.edges.length := by omega
      rw [List.take_of_length_le (by omega)]
      simp -implicitDefEqProofs only [go_sem, encPl, hn, hjt', hw]
      exact ⟨(k + 1, η2), by (try dsimp only); first | omega | assumption | (and_intros <;> first | omega | assumption), (wk_of [some 100, some 3] (by simp -implicitDefEqProofs only [go_sem, encPl, hn, hnext] <;> and_intros <;> first | rfl | assumption)), by (try dsimp only); omega⟩
  · have hlt' : ¬ (k : Int) < n := by omega
    obtain rfl : k = n := by omega
    simp -implicitDefEqProofs only [go_sem, encPl, hn, hlt', waitsL]
set_option maxHeartbeats 4000000 in
theorem p_impl_PlanFault (p : Pl) (hpl : p.edges.length ≤ 4000000) : Pure Tryz.prog 210 [.agg (encPl p)] (.c (.val (.int .i64 (planFault p)))) := by
  refine pure_fn Tryz.func210 code_impl_PlanFault (by simp) ?_
  unfold c_impl_PlanFault
  simp -implicitDefEqProofs only [go_sem, encPl]
  intro b
  refine run_call (p_impl_within p.tasks 1 12) (by simp -implicitDefEqProofs only [go_sem, encPl]) fun η => ?_
  simp -implicitDefEqProofs only [go_sem, encPl]
  cases h1 : decide (1 ≤ p.tasks ∧ p.tasks ≤ 12)
  · simp -implicitDefEqProofs only [go_sem, encPl, h1, pf_many (show manyB p = true by simp [manyB, inB, h1])]
  by_cases h2 : 30 < p.edges.length
  · have h2' : (p.edges.length : Int) > 30 := by omega
    simp -implicitDefEqProofs only [go_sem, encPl, h1, h2', pf_many (show manyB p = true by simp [manyB, inB, h1, h2])]
  have h2' : ¬ (p.edges.length : Int) > 30 := by omega
  simp -implicitDefEqProofs only [go_sem, encPl, h1, h2']
  refine run_call (p_impl_within p.prio 0 9) (by simp -implicitDefEqProofs only [go_sem, encPl]) fun η => ?_
  simp -implicitDefEqProofs only [go_sem, encPl]
  cases h3 : decide (0 ≤ p.prio ∧ p.prio ≤ 9)
  · simp -implicitDefEqProofs only [go_sem, encPl, h3, pf_many (show manyB p = true by simp [manyB, inB, h3])]
  simp -implicitDefEqProofs only [go_sem, encPl, h3]
  refine run_call (p_impl_within p.most 1 5) (by simp -implicitDefEqProofs only [go_sem, encPl]) fun η => ?_
  simp -implicitDefEqProofs only [go_sem, encPl]
  cases h4 : decide (1 ≤ p.most ∧ p.most ≤ 5)
  · simp -implicitDefEqProofs only [go_sem, encPl, h4, pf_many (show manyB p = true by simp [manyB, inB, h4])]
  simp -implicitDefEqProofs only [go_sem, encPl, h4]
  refine run_call (p_impl_within p.wait 1 20) (by simp -implicitDefEqProofs only [go_sem, encPl]) fun η => ?_
  simp -implicitDefEqProofs only [go_sem, encPl]
  cases h5 : decide (1 ≤ p.wait ∧ p.wait ≤ 20)
  · simp -implicitDefEqProofs only [go_sem, encPl, h5, pf_many (show manyB p = true by simp [manyB, inB, h5])]
  have hm : manyB p = false := by simp [manyB, inB, h1, h2, h3, h4, h5]
  obtain ⟨n, hn, hn1, hn12, hel, -⟩ := many_no hm
  have hw1 : IntKind.i64.wrap ((n : Int) - 1) = n - 1 := wrap64 (by omega) (by omega)
  simp -implicitDefEqProofs only [go_sem, encPl, h5, hn]
  refine wp_loopW (fun i : Nat => St.of [(1, Bx 100 b), (38, Ro (encEds p.edges)), (39, Ni p.edges.length), (40, Ni i)] [(100, Bi b _ (encPl p))]) (fun i => i ≤ p.edges.length ∧ (p.edges.take i).any (badE n) = false) (fun i => p.edges.length - i) 0 (by (try dsimp only); first | omega | (simp; done) | (and_intros <;> first | omega | simp)) (wk_of [some 100] (by simp -implicitDefEqProofs only [go_sem, encPl, hn] <;> and_intros <;> first | rfl | assumption)) ?_
  rintro k ⟨hk, hko⟩
  by_cases hlt : k < p.edges.length
  · have hlt' : (k : Int) < p.edges.length := by omega
    obtain ⟨e, he⟩ := get_some hlt
    have hw : IntKind.i64.wrap ((k : Int) + 1) = ((k + 1 : Nat) : Int) := wrap64 (by omega) (by omega)
    simp -implicitDefEqProofs only [go_sem, encPl, hn, hlt, hlt', elem_encEds he, encEd, hw1]
    intro b2
    refine run_call (p_impl_within e.src 0 (n - 1)) (by simp -implicitDefEqProofs only [go_sem, encPl, encEd, hw1]) fun η => ?_
    simp -implicitDefEqProofs only [go_sem, encPl, encEd, hw1]
    cases h1 : decide (0 ≤ e.src ∧ e.src ≤ n - 1)
    · have hbe : badE p.tasks e = true := by simp [badE, inB, hn, h1]
      simp -implicitDefEqProofs only [go_sem, encPl, h1, pf_edge hm (List.mem_of_getElem? he) hbe]
    · simp -implicitDefEqProofs only [go_sem, encPl, h1, encEd, hw1, hn]
      refine run_call (p_impl_within e.dst 0 (n - 1)) (by simp -implicitDefEqProofs only [go_sem, encPl, encEd, hw1]) fun η => ?_
      simp -implicitDefEqProofs only [go_sem, encPl, encEd, hw1]
      cases h2 : decide (0 ≤ e.dst ∧ e.dst ≤ n - 1)
      · have hbe : badE p.tasks e = true := by simp [badE, inB, hn, h2]
        simp -implicitDefEqProofs only [go_sem, encPl, h2, pf_edge hm (List.mem_of_getElem? he) hbe]
      · have hbe : badE n e = false := by simp [badE, inB, h1, h2]
        simp -implicitDefEqProofs only [go_sem, encPl, h2, hw]
        exact ⟨k + 1, ⟨hlt, any_take he hbe hko⟩, (wk_of [some 100] (by simp -implicitDefEqProofs only [go_sem, encPl, hn] <;> and_intros <;> first | rfl | assumption)), by (try dsimp only); omega⟩
  have hlt' : ¬ (k : Int) < p.edges.length := by omega
  rw [List.take_of_length_le (by omega), ← hn] at hko
  have hes := okE_of hko
  have hes' : ∀ e ∈ p.edges, okE n e := fun e he => by have := hes e he; rwa [hn, Int.toNat_natCast] at this
  simp -implicitDefEqProofs only [go_sem, encPl, hlt', hn]
  refine wp_loopW (fun i : Nat => St.of [(1, Bx 100 b), (62, Ro (encEds p.edges)), (63, Ni p.edges.length), (64, Ni i)] [(100, Bi b _ (encPl p))]) (fun i => i ≤ p.edges.length ∧ (p.edges.take i).Nodup) (fun i => p.edges.length - i) 0 (by (try dsimp only); first | omega | (simp; done) | (and_intros <;> first | omega | simp)) (wk_of [some 100] (by simp -implicitDefEqProofs only [go_sem, encPl, hn] <;> and_intros <;> first | rfl | assumption)) ?_
  rintro j ⟨hj, hjo⟩
  by_cases hjl : j < p.edges.length
  · have hjl' : (j : Int) < p.edges.length := by omega
    obtain ⟨e, he⟩ := get_some hjl
    have hw : IntKind.i64.wrap ((j : Int) + 1) = ((j + 1 : Nat) : Int) := wrap64 (by omega) (by omega)
    have hjle : j ≤ p.edges.length := by omega
    simp -implicitDefEqProofs only [go_sem, encPl, hjl, hjl', hjle, elem_encEds he, encEd, hn]
    intro b2
    refine run_call (p_ContainsEd (p.edges.take j) e (by rw [List.length_take]; omega)) (by simp -implicitDefEqProofs only [go_sem, encPl, encEd]) fun η => ?_
    simp -implicitDefEqProofs only [go_sem, encPl, encEd]
    by_cases hin : e ∈ p.edges.take j
    · have hd : ¬ p.edges.Nodup := by
        obtain ⟨m, hm1, hm2⟩ := List.getElem_of_mem hin
        rw [List.length_take] at hm1
        rw [List.getElem_take] at hm2
        exact dup_take he (show m < j by omega) (by rw [List.getElem?_eq_getElem (by omega), hm2])
      simp -implicitDefEqProofs only [go_sem, encPl, hin, pf_dup hm hko hd]
    · simp -implicitDefEqProofs only [go_sem, encPl, hin, hw]
      exact ⟨j + 1, ⟨hjl, nodup_take he hjo hin⟩, (wk_of [some 100] (by simp -implicitDefEqProofs only [go_sem, encPl, hn] <;> and_intros <;> first | rfl | assumption)), by (try dsimp only); omega⟩
  have hjl' : ¬ (j : Int) < p.edges.length := by omega
  rw [List.take_of_length_le (by omega)] at hjo
  simp -implicitDefEqProofs only [go_sem, encPl, hjl', hn]
  refine run_call (p_impl_waits p n hn hn12 hel hes') (by simp -implicitDefEqProofs only [go_sem, encPl, hn]) fun η => ?_
  simp -implicitDefEqProofs only [go_sem, encPl, hn]
  have hwl := waits_len (es := p.edges) (n := n)
  have hwb := waits_bit (n := n) hes'
  have hwm : ∀ k : Nat, (waitsL p.edges n).getD k 0 < 4096 := getD_lt (rndN_lt hes' n) hn12
  simp -implicitDefEqProofs only [go_sem, zL_len, hwl]
  refine wp_loopW (fun i : Nat => St.of [(77, Hd 7700 (η 0)), (78, Ni n), (79, Ni i)] [(7700, .loose (encInts (zL (waitsL p.edges n))) (η 0))]) (fun i => i ≤ n ∧ ∀ t : Nat, t < i → ¬ Rc p.edges t t) (fun i => n - i) 0 (by (try dsimp only); first | omega | (simp; done) | (and_intros <;> first | omega | simp)) (wk_of [some 7700] (by simp -implicitDefEqProofs only [go_sem, zL_len, hwl] <;> and_intros <;> first | rfl | assumption)) ?_
  rintro t ⟨ht, hto⟩
  by_cases htl : t < n
  · have htl' : (t : Int) < n := by omega
    have hw : IntKind.i64.wrap ((t : Int) + 1) = ((t + 1 : Nat) : Int) := wrap64 (by omega) (by omega)
    have htw : t < (waitsL p.edges n).length := by rw [hwl]; exact htl
    have hg := zL_get htw
    have hzt : t < (zL (waitsL p.edges n)).length := by rw [zL_len]; exact htw
    have hbt := bit_test' (hwm t) (show t < 12 by omega)
    have h0t : (t : Int) ≥ 0 := by omega
    cases hr : ((waitsL p.edges n).getD t 0).testBit t
    · rw [hr] at hbt
      simp -implicitDefEqProofs only [go_sem, htl, htl', zL_len, hwl, at_encInts hg, in_encInts hzt, hbt, hw]
      exact ⟨t + 1, ⟨htl, fun s hs h' => by rcases Nat.lt_or_ge s t with h2 | h2; exact hto s h2 h'; obtain rfl : s = t := (by omega); rw [(hwb s s).2 h'] at hr; cases hr⟩, (wk_of [some 7700] (by simp -implicitDefEqProofs only [go_sem] <;> and_intros <;> first | rfl | assumption)), by (try dsimp only); omega⟩
    · rw [hr] at hbt
      simp -implicitDefEqProofs only [go_sem, htl, htl', zL_len, hwl, at_encInts hg, in_encInts hzt, hbt, hw, pf_cyc hm hko hjo (by rw [hn]; exact htl') ((hwb t t).1 hr)]
  · have htl' : ¬ (t : Int) < n := by omega
    simp -implicitDefEqProofs only [go_sem, htl', pf_ok hm hko hjo (fun s hs => hto s (by omega))]
end Go.Proofs.YtmnpailnelmpiaaGreat
