/- Texts for the law FnExactRestart. -/
import Derived.Test.YtnhdcbhcocgjhaaGreatQRestartC
import Derived.Test.YtnhdcbhcocgjhaaGreatProg
set_option linter.unusedSimpArgs false
set_option linter.unusedVariables false
set_option maxRecDepth 100000
namespace Go.Proofs.YtnhdcbhcocgjhaaGreat
open Go.RowKit Go.Sort
def c_spec_l06Many : C := .seq (.reg [⟨some 1, none, .box 77 5 (.t 0)⟩, ⟨some 2, none, .mov (.c (.bool false))⟩]) (.seq (.reg [⟨some 3, none, .fa 3 (.t 1)⟩, ⟨some 4, none, .ld false 1 (.t 3)⟩, ⟨some 5, none, .call 72 [.t 4, .c (.int .i64 1), .c (.int .i64 12)]⟩, ⟨some 6, none, .un .not (.t 5)⟩, ⟨some 7, none, .mov (.t 6)⟩, ⟨some 8, some (7, false), .fa 4 (.t 1)⟩, ⟨some 9, some (7, false), .ld false 1 (.t 8)⟩, ⟨some 10, some (7, false), .len false (.t 9)⟩, ⟨some 11, some (7, false), .bin .gtr 3 (.t 10) (.c (.int .i64 30))⟩, ⟨some 12, none, .pick (.t 7) (.c (.bool true)) (.t 11)⟩, ⟨some 13, none, .mov (.t 12)⟩, ⟨some 14, some (13, false), .fa 0 (.t 1)⟩, ⟨some 15, some (13, false), .ld false 1 (.t 14)⟩, ⟨some 16, some (13, false), .call 72 [.t 15, .c (.int .i64 0), .c (.int .i64 9)]⟩, ⟨some 17, some (13, false), .un .not (.t 16)⟩, ⟨some 18, none, .pick (.t 13) (.c (.bool true)) (.t 17)⟩, ⟨some 19, none, .mov (.t 18)⟩, ⟨some 20, some (19, false), .fa 1 (.t 1)⟩, ⟨some 21, some (19, false), .ld false 1 (.t 20)⟩, ⟨some 22, some (19, false), .call 72 [.t 21, .c (.int .i64 1), .c (.int .i64 5)]⟩, ⟨some 23, some (19, false), .un .not (.t 22)⟩, ⟨some 24, none, .pick (.t 19) (.c (.bool true)) (.t 23)⟩, ⟨some 25, none, .mov (.t 24)⟩, ⟨some 26, some (25, false), .fa 2 (.t 1)⟩, ⟨some 27, some (25, false), .ld false 1 (.t 26)⟩, ⟨some 28, some (25, false), .call 72 [.t 27, .c (.int .i64 1), .c (.int .i64 20)]⟩, ⟨some 29, some (25, false), .un .not (.t 28)⟩, ⟨some 30, none, .pick (.t 25) (.c (.bool true)) (.t 29)⟩, ⟨some 2, none, .mov (.t 30)⟩]) .ret)
theorem code_spec_l06Many : fnC Tryz.prog Tryz.f206 = some (c_spec_l06Many, [.t 2], 31) := by kernel_rfl
def c_spec_l06From : C := .seq (.reg [⟨some 2, none, .box 77 5 (.t 0)⟩, ⟨some 4, none, .mov (.c (.slice none 0 0))⟩]) (.seq (.reg [⟨some 10, none, .fa 3 (.t 2)⟩, ⟨some 11, none, .ld false 1 (.t 10)⟩, ⟨some 12, none, .mks 4 1 1 [D.val (.bool false)] (.t 11) (.t 11)⟩, ⟨some 5, none, .mov (.t 12)⟩]) (.seq (.reg [⟨some 13, none, .mov (.t 1)⟩, ⟨some 14, none, .bsl 3 1 1 [none] [(0, 1, .t 13)]⟩, ⟨some 6, none, .mov (.t 14)⟩]) (.seq (.seq (.reg [⟨some 7, none, .mov (.c (.int .i64 0))⟩]) (.blk 0 (.loop (.seq (.seq (.reg [⟨some 15, none, .mov (.t 7)⟩, ⟨some 16, none, .mov (.t 6)⟩, ⟨some 17, none, .len false (.t 16)⟩, ⟨some 18, none, .bin .lss 3 (.t 15) (.t 17)⟩]) (.cond (.t 18) .skip (.exit 0))) (.seq (.blk 1 (.seq (.reg [⟨some 8, none, .mov (.c (.int .i64 0))⟩]) (.blk 2 (.loop (.seq (.seq (.reg [⟨some 21, none, .mov (.t 8)⟩, ⟨some 22, none, .fa 4 (.t 2)⟩, ⟨some 23, none, .ld false 1 (.t 22)⟩, ⟨some 24, none, .len false (.t 23)⟩, ⟨some 25, none, .bin .lss 3 (.t 21) (.t 24)⟩]) (.cond (.t 25) .skip (.exit 2))) (.seq (.blk 3 (.seq (.reg [⟨some 28, none, .fa 4 (.t 2)⟩, ⟨some 29, none, .ld false 1 (.t 28)⟩, ⟨some 30, none, .mov (.t 8)⟩, ⟨some 31, none, .ia 2 (.t 29) (.t 30)⟩, ⟨some 32, none, .ld true 2 (.t 31)⟩, ⟨some 9, none, .alloc 182 [.int .i64 0, .int .i64 0]⟩, ⟨none, none, .st 2 [none, none] (.t 9) (.t 32)⟩]) (.seq (.dreg (T.pure 0 ⟨some 33, none, .fa 0 (.t 9)⟩ (T.pure 1 ⟨some 34, none, .ld false 1 (.t 33)⟩ (T.pure 2 ⟨some 35, none, .mov (.t 6)⟩ (T.pure 3 ⟨some 36, none, .mov (.t 7)⟩ (T.pure 4 ⟨some 37, none, .ia 1 (.t 35) (.t 36)⟩ (T.pure 5 ⟨some 38, none, .ld false 1 (.t 37)⟩ (T.pure 6 ⟨some 39, none, .bin .eql 3 (.t 34) (.t 38)⟩ (T.pure 7 ⟨some 40, none, .mov (.t 39)⟩ (T.pure 8 ⟨some 41, some (40, true), .mov (.t 5)⟩ (T.pure 9 ⟨some 42, some (40, true), .fa 1 (.t 9)⟩ (T.pure 10 ⟨some 43, some (40, true), .ld false 1 (.t 42)⟩ (T.pure 11 ⟨some 44, some (40, true), .ia 1 (.t 41) (.t 43)⟩ (T.pure 12 ⟨some 45, some (40, true), .ld false 1 (.t 44)⟩ (T.pure 13 ⟨some 46, some (40, true), .un .not (.t 45)⟩ (T.pure 14 ⟨some 47, none, .pick (.t 40) (.t 46) (.c (.bool false))⟩ T.done)))))))))))))))) (.cond (.t 47) (.seq (.reg [⟨some 48, none, .mov (.t 5)⟩, ⟨some 49, none, .fa 1 (.t 9)⟩, ⟨some 50, none, .ld false 1 (.t 49)⟩, ⟨some 51, none, .ia 1 (.t 48) (.t 50)⟩, ⟨none, none, .st 1 [none] (.t 51) (.c (.bool true))⟩]) (.reg [⟨some 52, none, .mov (.t 6)⟩, ⟨some 53, none, .fa 1 (.t 9)⟩, ⟨some 54, none, .ld false 1 (.t 53)⟩, ⟨some 55, none, .bsl 3 1 1 [none] [(0, 1, .t 54)]⟩, ⟨some 56, none, .app 3 1 8 (.t 52) (.t 55)⟩, ⟨some 6, none, .mov (.t 56)⟩])) .skip)))) (.reg [⟨some 26, none, .mov (.t 8)⟩, ⟨some 27, none, .bin .add 3 (.t 26) (.c (.int .i64 1))⟩, ⟨some 8, none, .mov (.t 27)⟩]))))))) (.reg [⟨some 19, none, .mov (.t 7)⟩, ⟨some 20, none, .bin .add 3 (.t 19) (.c (.int .i64 1))⟩, ⟨some 7, none, .mov (.t 20)⟩])))))) (.seq (.reg [⟨some 57, none, .mov (.t 5)⟩, ⟨some 4, none, .mov (.t 57)⟩]) .ret))))
theorem code_spec_l06From : fnC Tryz.prog Tryz.f207 = some (c_spec_l06From, [.t 4], 58) := by kernel_rfl
def c_spec_PlanFault : C := .seq (.reg [⟨some 1, none, .box 77 5 (.t 0)⟩, ⟨some 2, none, .mov (.c (.int .i64 0))⟩]) (.seq (.seq (.reg [⟨some 7, none, .ld true 5 (.t 1)⟩, ⟨some 8, none, .call 206 [.t 7]⟩]) (.cond (.t 8) (.seq (.reg [⟨some 2, none, .mov (.c (.int .i64 1))⟩]) .ret) .skip)) (.seq (.seq (.reg [⟨some 3, none, .mov (.c (.int .i64 0))⟩]) (.blk 0 (.loop (.seq (.seq (.reg [⟨some 9, none, .mov (.t 3)⟩, ⟨some 10, none, .fa 4 (.t 1)⟩, ⟨some 11, none, .ld false 1 (.t 10)⟩, ⟨some 12, none, .len false (.t 11)⟩, ⟨some 13, none, .bin .lss 3 (.t 9) (.t 12)⟩]) (.cond (.t 13) .skip (.exit 0))) (.seq (.blk 1 (.seq (.dreg (T.pure 0 ⟨some 16, none, .fa 4 (.t 1)⟩ (T.pure 1 ⟨some 17, none, .ld false 1 (.t 16)⟩ (T.pure 2 ⟨some 18, none, .mov (.t 3)⟩ (T.pure 3 ⟨some 19, none, .ia 2 (.t 17) (.t 18)⟩ (T.pure 4 ⟨some 20, none, .fa 0 (.t 19)⟩ (T.pure 5 ⟨some 21, none, .ld false 1 (.t 20)⟩ (T.pure 6 ⟨some 22, none, .fa 3 (.t 1)⟩ (T.pure 7 ⟨some 23, none, .ld false 1 (.t 22)⟩ (T.pure 8 ⟨some 24, none, .bin .sub 3 (.t 23) (.c (.int .i64 1))⟩ (T.alt ⟨some 25, none, .call 72 [.t 21, .c (.int .i64 0), .t 24]⟩ [] (T.pure 10 ⟨some 26, none, .un .not (.t 25)⟩ (T.pure 11 ⟨some 27, none, .mov (.t 26)⟩ (T.pure 12 ⟨some 28, some (27, false), .fa 4 (.t 1)⟩ (T.pure 13 ⟨some 29, some (27, false), .ld false 1 (.t 28)⟩ (T.pure 14 ⟨some 30, some (27, false), .mov (.t 3)⟩ (T.pure 15 ⟨some 31, some (27, false), .ia 2 (.t 29) (.t 30)⟩ (T.pure 16 ⟨some 32, some (27, false), .fa 1 (.t 31)⟩ (T.pure 17 ⟨some 33, some (27, false), .ld false 1 (.t 32)⟩ (T.pure 18 ⟨some 34, some (27, false), .fa 3 (.t 1)⟩ (T.pure 19 ⟨some 35, some (27, false), .ld false 1 (.t 34)⟩ (T.pure 20 ⟨some 36, some (27, false), .bin .sub 3 (.t 35) (.c (.int .i64 1))⟩ (T.alt ⟨some 37, some (27, false), .call 72 [.t 33, .c (.int .i64 0), .t 36]⟩ [] (T.pure 22 ⟨some 38, some (27, false), .un .not (.t 37)⟩ (T.pure 23 ⟨some 39, none, .pick (.t 27) (.c (.bool true)) (.t 38)⟩ T.done)) T.stop)))))))))))) T.stop))))))))))) (.cond (.t 39) (.seq (.reg [⟨some 2, none, .mov (.c (.int .i64 2))⟩]) .ret) .skip))) (.reg [⟨some 14, none, .mov (.t 3)⟩, ⟨some 15, none, .bin .add 3 (.t 14) (.c (.int .i64 1))⟩, ⟨some 3, none, .mov (.t 15)⟩])))))) (.seq (.seq (.reg [⟨some 4, none, .mov (.c (.int .i64 0))⟩]) (.blk 2 (.loop (.seq (.seq (.reg [⟨some 40, none, .mov (.t 4)⟩, ⟨some 41, none, .fa 4 (.t 1)⟩, ⟨some 42, none, .ld false 1 (.t 41)⟩, ⟨some 43, none, .len false (.t 42)⟩, ⟨some 44, none, .bin .lss 3 (.t 40) (.t 43)⟩]) (.cond (.t 44) .skip (.exit 2))) (.seq (.blk 3 (.seq (.reg [⟨some 5, none, .mov (.c (.int .i64 0))⟩]) (.blk 4 (.loop (.seq (.seq (.reg [⟨some 47, none, .mov (.t 5)⟩, ⟨some 48, none, .mov (.t 4)⟩, ⟨some 49, none, .bin .lss 3 (.t 47) (.t 48)⟩]) (.cond (.t 49) .skip (.exit 4))) (.seq (.blk 5 (.seq (.dreg (T.pure 0 ⟨some 52, none, .fa 4 (.t 1)⟩ (T.pure 1 ⟨some 53, none, .ld false 1 (.t 52)⟩ (T.pure 2 ⟨some 54, none, .mov (.t 4)⟩ (T.pure 3 ⟨some 55, none, .ia 2 (.t 53) (.t 54)⟩ (T.pure 4 ⟨some 56, none, .ld true 2 (.t 55)⟩ (T.pure 5 ⟨some 57, none, .fa 4 (.t 1)⟩ (T.pure 6 ⟨some 58, none, .ld false 1 (.t 57)⟩ (T.pure 7 ⟨some 59, none, .mov (.t 5)⟩ (T.pure 8 ⟨some 60, none, .ia 2 (.t 58) (.t 59)⟩ (T.pure 9 ⟨some 61, none, .ld true 2 (.t 60)⟩ (T.pure 10 ⟨some 62, none, .bin .eql 182 (.t 56) (.t 61)⟩ T.done)))))))))))) (.cond (.t 62) (.seq (.reg [⟨some 2, none, .mov (.c (.int .i64 3))⟩]) .ret) .skip))) (.reg [⟨some 50, none, .mov (.t 5)⟩, ⟨some 51, none, .bin .add 3 (.t 50) (.c (.int .i64 1))⟩, ⟨some 5, none, .mov (.t 51)⟩]))))))) (.reg [⟨some 45, none, .mov (.t 4)⟩, ⟨some 46, none, .bin .add 3 (.t 45) (.c (.int .i64 1))⟩, ⟨some 4, none, .mov (.t 46)⟩])))))) (.seq (.seq (.reg [⟨some 6, none, .mov (.c (.int .i64 0))⟩]) (.blk 6 (.loop (.seq (.seq (.reg [⟨some 63, none, .mov (.t 6)⟩, ⟨some 64, none, .fa 3 (.t 1)⟩, ⟨some 65, none, .ld false 1 (.t 64)⟩, ⟨some 66, none, .bin .lss 3 (.t 63) (.t 65)⟩]) (.cond (.t 66) .skip (.exit 6))) (.seq (.blk 7 (.seq (.reg [⟨some 69, none, .ld true 5 (.t 1)⟩, ⟨some 70, none, .mov (.t 6)⟩, ⟨some 71, none, .call 207 [.t 69, .t 70]⟩, ⟨some 72, none, .mov (.t 6)⟩, ⟨some 73, none, .ia 1 (.t 71) (.t 72)⟩, ⟨some 74, none, .ld false 1 (.t 73)⟩]) (.cond (.t 74) (.seq (.reg [⟨some 2, none, .mov (.c (.int .i64 4))⟩]) .ret) .skip))) (.reg [⟨some 67, none, .mov (.t 6)⟩, ⟨some 68, none, .bin .add 3 (.t 67) (.c (.int .i64 1))⟩, ⟨some 6, none, .mov (.t 68)⟩])))))) (.seq (.reg [⟨some 2, none, .mov (.c (.int .i64 0))⟩]) .ret)))))
theorem code_spec_PlanFault : fnC Tryz.prog Tryz.f177 = some (c_spec_PlanFault, [.t 2], 75) := by kernel_rfl
def c_slices_Index_impl_Edge_impl_Edge_ : C := .seq (.reg [⟨some 3, none, .box 182 2 (.t 1)⟩, ⟨some 4, none, .mov (.c (.int .i64 0))⟩]) (.seq (.seq (.reg [⟨some 6, none, .mov (.t 0)⟩, ⟨some 7, none, .len false (.t 6)⟩, ⟨some 8, none, .mov (.c (.int .i64 0))⟩]) (.blk 0 (.loop (.seq (.reg [⟨some 9, none, .bin .lss 3 (.t 8) (.t 7)⟩]) (.seq (.cond (.t 9) .skip (.exit 0)) (.seq (.blk 1 (.seq (.reg [⟨some 10, none, .mov (.t 8)⟩, ⟨some 5, none, .mov (.t 10)⟩]) (.seq (.dreg (T.pure 0 ⟨some 11, none, .ld true 2 (.t 3)⟩ (T.pure 1 ⟨some 12, none, .mov (.t 0)⟩ (T.pure 2 ⟨some 13, none, .mov (.t 5)⟩ (T.pure 3 ⟨some 14, none, .ia 2 (.t 12) (.t 13)⟩ (T.pure 4 ⟨some 15, none, .ld true 2 (.t 14)⟩ (T.pure 5 ⟨some 16, none, .bin .eql 182 (.t 11) (.t 15)⟩ T.done))))))) (.cond (.t 16) (.seq (.reg [⟨some 17, none, .mov (.t 5)⟩, ⟨some 4, none, .mov (.t 17)⟩]) .ret) .skip)))) (.reg [⟨some 18, none, .bin .add 3 (.t 8) (.c (.int .i64 1))⟩, ⟨some 8, none, .mov (.t 18)⟩]))))))) (.seq (.reg [⟨some 4, none, .mov (.c (.int .i64 (-1)))⟩]) .ret))
theorem code_slices_Index_impl_Edge_impl_Edge_ : fnC Tryz.prog Tryz.f213 = some (c_slices_Index_impl_Edge_impl_Edge_, [.t 4], 19) := by kernel_rfl
def c_slices_Contains_impl_Edge_impl_Edge_ : C := .seq (.reg [⟨some 3, none, .box 182 2 (.t 1)⟩, ⟨some 4, none, .mov (.c (.bool false))⟩]) (.seq (.reg [⟨some 5, none, .mov (.t 0)⟩, ⟨some 6, none, .ld true 2 (.t 3)⟩, ⟨some 7, none, .call 213 [.t 5, .t 6]⟩, ⟨some 8, none, .bin .geq 3 (.t 7) (.c (.int .i64 0))⟩, ⟨some 4, none, .mov (.t 8)⟩]) .ret)
theorem code_slices_Contains_impl_Edge_impl_Edge_ : fnC Tryz.prog Tryz.f200 = some (c_slices_Contains_impl_Edge_impl_Edge_, [.t 4], 9) := by kernel_rfl
set_option maxHeartbeats 4000000 in
theorem p_spec_l06Many (p : Pl) : Pure Tryz.prog 206 [.agg (encPl p)] (.c (.val (.bool (manyB p)))) := by
  refine pure_fn Tryz.func206 code_spec_l06Many (by simp) ?_
  unfold c_spec_l06Many
  simp -implicitDefEqProofs only [go_sem, encPl]
  intro b
  refine run_call (p_spec_l01In p.tasks 1 12) (by simp -implicitDefEqProofs only [go_sem, encPl]) fun η => ?_
  simp -implicitDefEqProofs only [go_sem, encPl]
  cases h1 : decide (1 ≤ p.tasks ∧ p.tasks ≤ 12)
  · simp -implicitDefEqProofs only [go_sem, encPl, h1, manyB, inB]
  · by_cases h2 : 30 < p.edges.length
    · have h2' : (p.edges.length : Int) > 30 := by omega
      simp -implicitDefEqProofs only [go_sem, encPl, h1, h2, h2', manyB, inB]
    · have h2' : ¬ (p.edges.length : Int) > 30 := by omega
      simp -implicitDefEqProofs only [go_sem, encPl, h1, h2, h2']
      refine run_call (p_spec_l01In p.prio 0 9) (by simp -implicitDefEqProofs only [go_sem, encPl]) fun η => ?_
      simp -implicitDefEqProofs only [go_sem, encPl]
      cases h3 : decide (0 ≤ p.prio ∧ p.prio ≤ 9)
      · simp -implicitDefEqProofs only [go_sem, encPl, h1, h2, h2', h3, manyB, inB]
      · simp -implicitDefEqProofs only [go_sem, encPl, h1, h2, h2', h3]
        refine run_call (p_spec_l01In p.most 1 5) (by simp -implicitDefEqProofs only [go_sem, encPl]) fun η => ?_
        simp -implicitDefEqProofs only [go_sem, encPl]
        cases h4 : decide (1 ≤ p.most ∧ p.most ≤ 5)
        · simp -implicitDefEqProofs only [go_sem, encPl, h1, h2, h2', h3, h4, manyB, inB]
        · simp -implicitDefEqProofs only [go_sem, encPl, h1, h2, h2', h3, h4]
          refine run_call (p_spec_l01In p.wait 1 20) (by simp -implicitDefEqProofs only [go_sem, encPl]) fun η => ?_
          simp -implicitDefEqProofs only [go_sem, encPl]
          cases h5 : decide (1 ≤ p.wait ∧ p.wait ≤ 20)
          · simp -implicitDefEqProofs only [go_sem, encPl, h1, h2, h2', h3, h4, h5, manyB, inB]
          · simp -implicitDefEqProofs only [go_sem, encPl, h1, h2, h2', h3, h4, h5, manyB, inB]
set_option maxHeartbeats 4000000 in
theorem p_spec_l06From (p : Pl) (n : Nat) (hn : p.tasks = n) (h12 : n ≤ 12) (h30 : p.edges.length ≤ 30) (hes : ∀ e ∈ p.edges, okE n e) (t : Nat) (ht : t < n) : Pure Tryz.prog 207 [.agg (encPl p), .c (.val (.int .i64 t))] (.c (encBools (fromL p.edges n t))) := by
  refine pure_fn Tryz.func207 code_spec_l06From (by simp) ?_
  unfold c_spec_l06From
  have hm : 1 * n ≤ 281474976710656 := by omega
  have hml : n ≤ maxLen := by unfold maxLen; omega
  have hrep : D.sl 1 tBool (List.replicate n [D.val (.bool false)]).flatten = encBools (bOut n []) := by
    rw [mk_bools]
    congr 1
    apply List.ext_getElem?
    intro k
    by_cases hk : k < n
    · rw [bOut_get hk]; simp [hk]
    · rw [List.getElem?_eq_none (by simp; omega), List.getElem?_eq_none (by rw [bOut_len]; omega)]
  have hint : D.sl 1 tInt [D.val (.int .i64 t)] = encInts [(t : Int)] := by simp [encInts]
  simp -implicitDefEqProofs only [go_sem, encPl, hn]
  intro b
  rw [run_mks]
  refine ⟨.i64, .i64, n, by simp -implicitDefEqProofs only [go_sem], by simp -implicitDefEqProofs only [go_sem], hm, hml, fun η => ?_⟩
  simp -implicitDefEqProofs only [go_sem, encPl, hn, hrep, hint]
  intro η1
  refine wp_loopW (fun i : Nat × List Int × Heads × Heads => St.of [(2, Bx 200 b), (5, Hd 5 i.2.2.1), (6, Hd 6 i.2.2.2), (7, Ni i.1)] [(200, Bi b _ (encPl p)), (5, .loose (encBools (bOut n i.2.1)) i.2.2.1), (6, .loose (encInts ((t : Int) :: i.2.1)) i.2.2.2)]) (fun i => BInv p.edges n t i.1 i.2.1) (fun i => n + 1 - i.1) (0, [], η, η1) (bInv_0) (wk_of [some 200, some 1200, some 1400] (by simp -implicitDefEqProofs only [go_sem, encPl, hn] <;> and_intros <;> first | rfl | assumption)) ?_
  rintro ⟨h, r, η2, η3⟩ hb
  dsimp only at hb
  have hrl := bInv_len hb
  have hll : ((t : Int) :: r).length = r.length + 1 := rfl
  by_cases hlt : h < r.length + 1
  · have hlt' : (h : Int) < ((r.length + 1 : Nat) : Int) := by omega
    obtain ⟨x, hx⟩ := get_some (l := (t : Int) :: r) hlt
    have hwh : IntKind.i64.wrap ((h : Int) + 1) = ((h + 1 : Nat) : Int) := wrap64 (by omega) (by omega)
    simp -implicitDefEqProofs only [go_sem, hlt, hlt']
    refine wp_loopW (fun i : Nat × List Int × Heads × Heads => St.of [(2, Bx 200 b), (5, Hd 5 i.2.2.1), (6, Hd 6 i.2.2.2), (7, Ni h), (8, Ni i.1)] [(200, Bi b _ (encPl p)), (5, .loose (encBools (bOut n i.2.1)) i.2.2.1), (6, .loose (encInts ((t : Int) :: i.2.1)) i.2.2.2)]) (fun i => BIn p.edges n t h x i.1 i.2.1 ∧ i.1 ≤ p.edges.length) (fun i => p.edges.length - i.1) (0, r, η2, η3) (⟨bIn_0 hb hx, Nat.zero_le _⟩) (wk_of [some 200, some 5, some 6] (by simp -implicitDefEqProofs only [go_sem, encPl, hn] <;> and_intros <;> first | rfl | assumption)) ?_
    rintro ⟨j, r1, η4, η5⟩ ⟨hj, hjl⟩
    dsimp only at hj hjl
    have hrl1 := bInv_len hj.1
    have hll1 : ((t : Int) :: r1).length = r1.length + 1 := rfl
    by_cases hjt : j < p.edges.length
    · have hjt' : (j : Int) < p.edges.length := by omega
      obtain ⟨e, he⟩ := get_some hjt
      obtain ⟨⟨e1, e2⟩, e3, e4⟩ := hes e (List.mem_of_getElem? he)
      have hwj : IntKind.i64.wrap ((j : Int) + 1) = ((j + 1 : Nat) : Int) := wrap64 (by omega) (by omega)
      have hqx : ((t : Int) :: r1)[h]? = some x := hj.2.1
      have hhl : h < ((t : Int) :: r1).length := (List.getElem?_eq_some_iff.1 hqx).1
      have hd : e.dst.toNat < n := by omega
      have hdi : ((e.dst.toNat : Nat) : Int) = e.dst := by omega
      have hgd : (bOut n r1)[e.dst.toNat]? = some (decide (e.dst ∈ r1)) := by rw [bOut_get hd, hdi]
      have hdl : e.dst.toNat < (bOut n r1).length := by rw [bOut_len]; exact hd
      have hset : (bOut n r1).set e.dst.toNat true = bOut n (r1 ++ [e.dst]) := by rw [bOut_set hd, hdi]
      have hone : 1 ≤ maxLen := by unfold maxLen; omega
      have hq1 : ((t : Int) :: r1).length + 1 ≤ maxLen := by unfold maxLen; omega
      have hq2 : (((t : Int) :: r1).length + 1) * 8 ≤ 140737488355328 := by omega
      have hint2 : D.sl 1 tInt [D.val (.int .i64 e.dst)] = encInts [e.dst] := by simp [encInts]
      dsimp only
      generalize hq : (t : Int) :: r1 = q at hqx hhl hll1 hq1 hq2 ⊢
      simp -implicitDefEqProofs only [go_sem, encPl, hn, hjt, hjt', elem_encEds he, encEd, bOut_len, e3, hd]
      intro b2
      simp -implicitDefEqProofs only [go_sem, encPl, hn, encEd, at_encInts hqx, in_encInts hhl, hhl, e3, hd, bOut_len]
      cases hxe : (e.src == x)
      · have hne : e.src ≠ x := by simpa using hxe
        simp -implicitDefEqProofs only [go_sem, hwj]
        exact ⟨(j + 1, r1, η4, η5), ⟨bIn_no hj he fun h' => absurd h' hne, by omega⟩, (wk_of [some 200, some 5, some 6] (by simp -implicitDefEqProofs only [go_sem, encPl, hn, ← hq] <;> and_intros <;> first | rfl | assumption)), by (try dsimp only); omega⟩
      · have hse : e.src = x := by simpa using hxe
        simp -implicitDefEqProofs only [go_sem, encEd, e3, hd, bOut_len, at_encBools hgd, in_encBools hdl, elem_encBools hgd]
        by_cases hin : e.dst ∈ r1
        · simp -implicitDefEqProofs only [go_sem, hin, hwj]
          exact ⟨(j + 1, r1, η4, η5), ⟨bIn_no hj he fun _ => hin, by omega⟩, (wk_of [some 200, some 5, some 6] (by simp -implicitDefEqProofs only [go_sem, encPl, hn, ← hq] <;> and_intros <;> first | rfl | assumption)), by (try dsimp only); omega⟩
        · simp -implicitDefEqProofs only [go_sem, hin, hwj, encEd, e3, hd, bOut_len, put_encBools true hdl, in_encBools hdl, hset, hq1, hq2, ints_one, ints_snoc1]
          intro η6 η7
          exact ⟨(j + 1, r1 ++ [e.dst], η4, η7), ⟨bIn_new hj he hse hin ⟨e3, e4⟩ (fun h0 => by subst h0; simpa using hj.2.1.symm), by omega⟩, (wk_of [some 200, some 5, some 5600] (by simp -implicitDefEqProofs only [go_sem, encPl, hn, ← hq, List.cons_append] <;> and_intros <;> first | rfl | assumption)), by (try dsimp only); omega⟩
    · have hjt' : ¬ (j : Int) < p.edges.length := by omega
      simp -implicitDefEqProofs only [go_sem, encPl, hn, hjt', hwh]
      exact ⟨(h + 1, r1, η4, η5), bInv_next hj (by omega), (wk_of [some 200, some 5, some 6] (by simp -implicitDefEqProofs only [go_sem, encPl, hn] <;> and_intros <;> first | rfl | assumption)), by (try dsimp only); omega⟩
  · have hlt' : ¬ (h : Int) < ((r.length + 1 : Nat) : Int) := by omega
    simp -implicitDefEqProofs only [go_sem, encPl, hn, hlt', bInv_done hb (by omega)]
theorem many_no {p : Pl} (h : manyB p = false) : ∃ n : Nat, p.tasks = n ∧ 1 ≤ n ∧ n ≤ 12 ∧ p.edges.length ≤ 30 ∧ (0 ≤ p.prio ∧ p.prio ≤ 9) ∧ (1 ≤ p.most ∧ p.most ≤ 5) ∧ (1 ≤ p.wait ∧ p.wait ≤ 20) := by
  simp only [manyB, inB, Bool.or_eq_false_iff, Bool.not_eq_false', decide_eq_true_eq, decide_eq_false_iff_not] at h
  obtain ⟨⟨⟨⟨h1, h2⟩, h3⟩, h4⟩, h5⟩ := h
  exact ⟨p.tasks.toNat, by omega, by omega, by omega, by omega, h3, h4, h5⟩
theorem pf_many {p : Pl} (h : manyB p = true) : planFault p = 1 := by simp [planFault, h]
theorem pf_edge {p : Pl} (h : manyB p = false) {e : Ed} (he : e ∈ p.edges) (h2 : badE p.tasks e = true) : planFault p = 2 := by
  have : p.edges.any (badE p.tasks) = true := List.any_eq_true.2 ⟨e, he, h2⟩
  simp [planFault, h, this]
theorem pf_dup {p : Pl} (h : manyB p = false) (h2 : p.edges.any (badE p.tasks) = false) (h3 : ¬ p.edges.Nodup) : planFault p = 3 := by simp [planFault, h, h2, h3]
theorem pf_cyc {p : Pl} (h : manyB p = false) (h2 : p.edges.any (badE p.tasks) = false) (h3 : p.edges.Nodup) {t : Nat} (ht : (t : Int) < p.tasks) (h4 : Rc p.edges t t) : planFault p = 4 := by
  have : cycB p = true := by simp only [cycB, decide_eq_true_eq]; exact ⟨t, ht, h4⟩
  simp [planFault, h, h2, h3, this]
theorem pf_ok {p : Pl} (h : manyB p = false) (h2 : p.edges.any (badE p.tasks) = false) (h3 : p.edges.Nodup) (h4 : ∀ t : Nat, (t : Int) < p.tasks → ¬ Rc p.edges t t) : planFault p = 0 := by
  have : cycB p = false := by simp only [cycB, decide_eq_false_iff_not, not_exists, not_and]; exact h4
  simp [planFault, h, h2, h3, this]
theorem any_take {α : Type} {f : α → Bool} {l : List α} {k : Nat} {x : α} (h : l[k]? = some x) (hx : f x = false) (hn : (l.take k).any f = false) : (l.take (k + 1)).any f = false := by
  rw [List.take_add_one, h]; simp_all
theorem dup_take {l : List Ed} {k j : Nat} {x : Ed} (h : l[k]? = some x) (hj : j < k) (hx : l[j]? = some x) : ¬ l.Nodup := by
  intro hd
  obtain ⟨h1, h2⟩ := List.getElem?_eq_some_iff.1 h
  obtain ⟨h3, h4⟩ := List.getElem?_eq_some_iff.1 hx
  exact List.pairwise_iff_getElem.1 hd j k h3 h1 hj (h4.trans h2.symm)
theorem nodup_take {l : List Ed} {k : Nat} {x : Ed} (h : l[k]? = some x) (hn : (l.take k).Nodup) (hx : x ∉ l.take k) : (l.take (k + 1)).Nodup := by
  rw [List.take_add_one, h]
  simp only [Option.toList_some]
  rw [List.nodup_append]
  exact ⟨hn, by simp, fun a ha b hb e => by simp at hb; subst hb; exact hx (e ▸ ha)⟩
set_option maxHeartbeats 4000000 in
theorem p_spec_PlanFault (p : Pl) : Pure Tryz.prog 177 [.agg (encPl p)] (.c (.val (.int .i64 (planFault p)))) := by
  refine pure_fn Tryz.func177 code_spec_PlanFault (by simp) ?_
  unfold c_spec_PlanFault
  simp -implicitDefEqProofs only [go_sem, encPl]
  intro b
  refine run_call (p_spec_l06Many p) (by simp -implicitDefEqProofs only [go_sem, encPl]) fun η => ?_
  simp -implicitDefEqProofs only [go_sem, encPl]
  cases hm : manyB p
  rotate_left
  · simp -implicitDefEqProofs only [go_sem, encPl, hm, pf_many hm]
  obtain ⟨n, hn, hn1, hn12, hel, -⟩ := many_no hm
  have hw1 : IntKind.i64.wrap ((n : Int) - 1) = n - 1 := wrap64 (by omega) (by omega)
  simp -implicitDefEqProofs only [go_sem, encPl, hm]
  refine wp_loopW (fun i : Nat => St.of [(1, Bx 100 b), (3, Ni i)] [(100, Bi b _ (encPl p))]) (fun i => i ≤ p.edges.length ∧ (p.edges.take i).any (badE n) = false) (fun i => p.edges.length - i) 0 (by (try dsimp only); first | omega | (simp; done) | (and_intros <;> first | omega | simp)) (wk_of [some 100] (by simp -implicitDefEqProofs only [go_sem, encPl] <;> and_intros <;> first | rfl | assumption)) ?_
  rintro k ⟨hk, hko⟩
  by_cases hlt : k < p.edges.length
  · have hlt' : (k : Int) < p.edges.length := by omega
    obtain ⟨e, he⟩ := get_some hlt
    have hw : IntKind.i64.wrap ((k : Int) + 1) = ((k + 1 : Nat) : Int) := wrap64 (by omega) (by omega)
    simp -implicitDefEqProofs only [go_sem, encPl, hn, hlt, hlt', elem_encEds he, encEd, hw1]
    refine run_call (p_spec_l01In e.src 0 (n - 1)) (by simp -implicitDefEqProofs only [go_sem, encPl, hlt, hlt', elem_encEds he, encEd, hw1]) fun η => ?_
    simp -implicitDefEqProofs only [go_sem, encPl, hlt, hlt', elem_encEds he, encEd, hw1]
    cases h1 : decide (0 ≤ e.src ∧ e.src ≤ n - 1)
    · have hbe : badE p.tasks e = true := by simp [badE, inB, hn, h1]
      simp -implicitDefEqProofs only [go_sem, encPl, h1, pf_edge hm (List.mem_of_getElem? he) hbe]
    · simp -implicitDefEqProofs only [go_sem, encPl, h1, hlt, hlt', elem_encEds he, encEd, hw1, hn]
      refine run_call (p_spec_l01In e.dst 0 (n - 1)) (by simp -implicitDefEqProofs only [go_sem, encPl, hlt, hlt', elem_encEds he, encEd, hw1]) fun η => ?_
      simp -implicitDefEqProofs only [go_sem, encPl, hlt, hlt', elem_encEds he, encEd, hw1]
      cases h2 : decide (0 ≤ e.dst ∧ e.dst ≤ n - 1)
      · have hbe : badE p.tasks e = true := by simp [badE, inB, hn, h2]
        simp -implicitDefEqProofs only [go_sem, encPl, h2, pf_edge hm (List.mem_of_getElem? he) hbe]
      · have hbe : badE n e = false := by simp [badE, inB, h1, h2]
        simp -implicitDefEqProofs only [go_sem, encPl, h2, hw]
        exact ⟨k + 1, ⟨hlt, any_take he hbe hko⟩, (wk_of [some 100] (by simp -implicitDefEqProofs only [go_sem, encPl] <;> and_intros <;> first | rfl | assumption)), by (try dsimp only); omega⟩
  have hlt' : ¬ (k : Int) < p.edges.length := by omega
  rw [List.take_of_length_le (by omega), ← hn] at hko
  have hes := okE_of hko
  simp -implicitDefEqProofs only [go_sem, encPl, hlt']
  refine wp_loopW (fun i : Nat => St.of [(1, Bx 100 b), (4, Ni i)] [(100, Bi b _ (encPl p))]) (fun i => i ≤ p.edges.length ∧ (p.edges.take i).Nodup) (fun i => p.edges.length - i) 0 (by (try dsimp only); first | omega | (simp; done) | (and_intros <;> first | omega | simp)) (wk_of [some 100] (by simp -implicitDefEqProofs only [go_sem, encPl] <;> and_intros <;> first | rfl | assumption)) ?_
  rintro j ⟨hj, hjo⟩
  by_cases hjl : j < p.edges.length
  · have hjl' : (j : Int) < p.edges.length := by omega
    obtain ⟨e, he⟩ := get_some hjl
    have hw : IntKind.i64.wrap ((j : Int) + 1) = ((j + 1 : Nat) : Int) := wrap64 (by omega) (by omega)
    simp -implicitDefEqProofs only [go_sem, encPl, hjl']
    refine wp_loopW (fun i : Nat => St.of [(1, Bx 100 b), (4, Ni j), (5, Ni i)] [(100, Bi b _ (encPl p))]) (fun i => i ≤ j ∧ e ∉ p.edges.take i) (fun i => j - i) 0 (by (try dsimp only); first | omega | (simp; done) | (and_intros <;> first | omega | simp)) (wk_of [some 100] (by simp -implicitDefEqProofs only [go_sem, encPl] <;> and_intros <;> first | rfl | assumption)) ?_
    rintro m ⟨hm1, hmo⟩
    by_cases hml : m < j
    · have hml' : (m : Int) < j := by omega
      obtain ⟨e2, he2⟩ := get_some (show m < p.edges.length by omega)
      have hw2 : IntKind.i64.wrap ((m : Int) + 1) = ((m + 1 : Nat) : Int) := wrap64 (by omega) (by omega)
      have hm3 : m < p.edges.length := by omega
      have hm3' : (m : Int) < p.edges.length := by omega
      by_cases heq : e = e2
      · subst heq
        simp -implicitDefEqProofs only [go_sem, encPl, hml', hjl, hjl', hm3, hm3', elem_encEds he, elem_encEds he2, encEd, pf_dup hm hko (dup_take he hml he2)]
      · simp -implicitDefEqProofs only [go_sem, encPl, hml', hjl, hjl', hm3, hm3', elem_encEds he, elem_encEds he2, encEd, heq, hw2]
        exact ⟨m + 1, ⟨hml, fun h' => by rw [List.take_add_one, he2] at h'; simp at h'; rcases h' with h' | h'; exact hmo h'; exact heq h'⟩, (wk_of [some 100] (by simp -implicitDefEqProofs only [go_sem, encPl] <;> and_intros <;> first | rfl | assumption)), by (try dsimp only); omega⟩
    · have hml' : ¬ (m : Int) < j := by omega
      obtain rfl : m = j := by omega
      simp -implicitDefEqProofs only [go_sem, encPl, hml', hw]
      exact ⟨m + 1, ⟨hjl, nodup_take he hjo hmo⟩, (wk_of [some 100] (by simp -implicitDefEqProofs only [go_sem, encPl] <;> and_intros <;> first | rfl | assumption)), by (try dsimp only); omega⟩
  have hjl' : ¬ (j : Int) < p.edges.length := by omega
  rw [List.take_of_length_le (by omega)] at hjo
  simp -implicitDefEqProofs only [go_sem, encPl, hjl']
  refine wp_loopW (fun i : Nat => St.of [(1, Bx 100 b), (6, Ni i)] [(100, Bi b _ (encPl p))]) (fun i => i ≤ n ∧ ∀ t : Nat, t < i → ¬ Rc p.edges t t) (fun i => n - i) 0 (by (try dsimp only); first | omega | (simp; done) | (and_intros <;> first | omega | simp)) (wk_of [some 100] (by simp -implicitDefEqProofs only [go_sem, encPl] <;> and_intros <;> first | rfl | assumption)) ?_
  rintro t ⟨ht, hto⟩
  by_cases htl : t < n
  · have htl' : (t : Int) < n := by omega
    have hw : IntKind.i64.wrap ((t : Int) + 1) = ((t + 1 : Nat) : Int) := wrap64 (by omega) (by omega)
    have hes' : ∀ e ∈ p.edges, okE n e := fun e he => by have := hes e he; rwa [hn, Int.toNat_natCast] at this
    simp -implicitDefEqProofs only [go_sem, encPl, hn, htl']
    refine run_call (p_spec_l06From p n hn hn12 hel hes' t htl) (by simp -implicitDefEqProofs only [go_sem, encPl, hn]) fun η => ?_
    simp -implicitDefEqProofs only [go_sem, encPl, hn]
    cases hr : rcB p.edges t t
    · have hg : (fromL p.edges n t)[t]? = some false := by rw [fromL_get htl, hr]
      simp -implicitDefEqProofs only [go_sem, encPl, htl, htl', fromL_len, at_encBools hg, in_encBools (show t < (fromL p.edges n t).length by rw [fromL_len]; exact htl), hw]
      exact ⟨t + 1, ⟨htl, fun s hs h' => by rcases Nat.lt_or_ge s t with h2 | h2; exact hto s h2 h'; obtain rfl : s = t := (by omega); rw [rcB_iff.2 h'] at hr; cases hr⟩, (wk_of [some 100] (by simp -implicitDefEqProofs only [go_sem, encPl] <;> and_intros <;> first | rfl | assumption)), by (try dsimp only); omega⟩
    · have hg : (fromL p.edges n t)[t]? = some true := by rw [fromL_get htl, hr]
      simp -implicitDefEqProofs only [go_sem, encPl, htl, htl', fromL_len, at_encBools hg, in_encBools (show t < (fromL p.edges n t).length by rw [fromL_len]; exact htl), hw, pf_cyc hm hko hjo (by rw [hn]; exact htl') (rcB_iff.1 hr)]
  · have htl' : ¬ (t : Int) < n := by omega
    simp -implicitDefEqProofs only [go_sem, encPl, hn, htl', pf_ok hm hko hjo (fun s hs => hto s (by omega))]
set_option maxHeartbeats 4000000 in
theorem p_IndexEd (l : List Ed) (e : Ed) (hl : l.length ≤ 4000000) : Pure Tryz.prog 213 [.c (encEds l), .agg (encEd e)] (.c (.val (.int .i64 (findI (fun x => decide (e = x)) l)))) := by
  refine pure_fn Tryz.func213 code_slices_Index_impl_Edge_impl_Edge_ (by simp) ?_
  unfold c_slices_Index_impl_Edge_impl_Edge_
  simp -implicitDefEqProofs only [go_sem, encEd]
  intro b
  refine wp_loopW (fun i : Nat => St.of [(0, Ro (encEds l)), (3, Bx 300 b), (7, Ni l.length), (8, Ni i)] [(300, Bi b _ (encEd e))]) (fun i => i ≤ l.length ∧ ∀ y ∈ l.take i, (fun x => decide (e = x)) y = false) (fun i => l.length - i) 0 (by (try dsimp only); first | omega | (simp; done) | (and_intros <;> first | omega | simp)) (wk_of [some 300] (by simp -implicitDefEqProofs only [go_sem, encEd] <;> and_intros <;> first | rfl | assumption)) ?_
  rintro k ⟨hk, hko⟩
  by_cases hlt : k < l.length
  · have hlt' : (k : Int) < l.length := by omega
    obtain ⟨x, hx⟩ := get_some hlt
    have hw : IntKind.i64.wrap ((k : Int) + 1) = ((k + 1 : Nat) : Int) := wrap64 (by omega) (by omega)
    by_cases heq : e = x
    · subst heq
      simp -implicitDefEqProofs only [go_sem, encEd, hlt, hlt', elem_encEds hx, findI_hit hx (decide_eq_true rfl) hko]
    · simp -implicitDefEqProofs only [go_sem, encEd, hlt, hlt', elem_encEds hx, heq, hw]
      exact ⟨k + 1, ⟨hlt, take_no hx (decide_eq_false heq) hko⟩, (wk_of [some 300] (by simp -implicitDefEqProofs only [go_sem, encEd] <;> and_intros <;> first | rfl | assumption)), by (try dsimp only); omega⟩
  · have hlt' : ¬ (k : Int) < l.length := by omega
    rw [List.take_of_length_le (by omega)] at hko
    simp -implicitDefEqProofs only [go_sem, encEd, hlt', findI_none hko]
set_option maxHeartbeats 4000000 in
theorem p_ContainsEd (l : List Ed) (e : Ed) (hl : l.length ≤ 4000000) : Pure Tryz.prog 200 [.c (encEds l), .agg (encEd e)] (.c (.val (.bool (decide (e ∈ l))))) := by
  refine pure_fn Tryz.func200 code_slices_Contains_impl_Edge_impl_Edge_ (by simp) ?_
  unfold c_slices_Contains_impl_Edge_impl_Edge_
  simp -implicitDefEqProofs only [go_sem, encEd]
  intro b
  refine run_call (p_IndexEd l e hl) (by simp -implicitDefEqProofs only [go_sem, encEd]) fun η => ?_
  simp -implicitDefEqProofs only [go_sem, encEd]
  rcases findI_cases (fun x => decide (e = x)) l with ⟨h1, h2⟩ | ⟨k, x, h1, h2, h3, -⟩
  · have hm : decide (e ∈ l) = false := decide_eq_false fun h => by have := h2 e h; simp at this
    rw [h1, hm]
    simp -implicitDefEqProofs only [go_sem]
  · have hm : decide (e ∈ l) = true := decide_eq_true (by have : e = x := by simpa using h3
                                                          exact this ▸ List.mem_of_getElem? h2)
    have hk : (k : Int) ≥ 0 := by omega
    rw [h1, hm]
    simp -implicitDefEqProofs only [go_sem, hk]
end Go.Proofs.YtnhdcbhcocgjhaaGreat
set_option linter.unusedSimpArgs false
set_option linter.unusedVariables false
set_option maxRecDepth 100000
namespace Go.Proofs.YtnhdcbhcocgjhaaGreat
open Go.RowKit Go.Sort
theorem bits_of {a : Nat} (h : a < 4096) : (BitVec.ofInt 64 (a : Int)) = BitVec.ofNat 64 a := by
  apply BitVec.eq_of_toNat_eq
  simp
theorem or_small {a b : Nat} (ha : a < 4096) (hb : b < 4096) : IntKind.i64.wrap ((BitVec.ofInt 64 (a : Int) ||| BitVec.ofInt 64 (b : Int)).toNat : Int) = ((a ||| b : Nat) : Int) := by
  have hab : a ||| b < 2 ^ 12 := Nat.or_lt_two_pow ha hb
  have e : (BitVec.ofInt 64 (a : Int) ||| BitVec.ofInt 64 (b : Int)).toNat = a ||| b := by
    rw [bits_of ha, bits_of hb, BitVec.toNat_or, BitVec.toNat_ofNat, BitVec.toNat_ofNat, Nat.mod_eq_of_lt (by omega), Nat.mod_eq_of_lt (by omega)]
  rw [e]
  exact wrap64 (by omega) (by omega)
theorem shl_small {d : Int} (h0 : 0 ≤ d) (h : d < 12) : IntKind.i64.wrap (1 * 2 ^ min d.toNat 64) = ((2 ^ d.toNat : Nat) : Int) := by
  have e : min d.toNat 64 = d.toNat := Nat.min_eq_left (by omega)
  have hlt : 2 ^ d.toNat < 4096 := (show 2 ^ d.toNat < 2 ^ 12 from Nat.pow_lt_pow_right (by omega) (by omega))
  rw [e, Int.one_mul, show (2 : Int) ^ d.toNat = ((2 ^ d.toNat : Nat) : Int) by simp]
  generalize 2 ^ d.toNat = q at *
  exact wrap64 (by omega) (by omega)
theorem bit_test {a t : Nat} (ha : a < 4096) (ht : t < 12) : (IntKind.i64.wrap ((BitVec.ofInt 64 (Int.fdiv (a : Int) (2 ^ min t 64)) &&& BitVec.ofInt 64 1).toNat : Int) == 1) = a.testBit t := by
  have e : min t 64 = t := Nat.min_eq_left (by omega)
  have e1 : Int.fdiv (a : Int) (2 ^ t) = ((a / 2 ^ t : Nat) : Int) := by
    rw [show (2 : Int) ^ t = ((2 ^ t : Nat) : Int) by simp, Int.fdiv_eq_ediv_of_nonneg _ (Int.natCast_nonneg _)]; rfl
  have hq : a / 2 ^ t < 4096 := Nat.lt_of_le_of_lt (Nat.div_le_self _ _) ha
  have e2 : (BitVec.ofInt 64 ((a / 2 ^ t : Nat) : Int) &&& BitVec.ofInt 64 1).toNat = (a / 2 ^ t) % 2 := by
    rw [bits_of hq, show BitVec.ofInt 64 1 = BitVec.ofNat 64 1 from rfl, BitVec.toNat_and, BitVec.toNat_ofNat, BitVec.toNat_ofNat, Nat.mod_eq_of_lt (by omega), Nat.mod_eq_of_lt (by omega)]
    exact Nat.and_one_is_mod _
  rw [e, e1, e2, wrap64 (by omega) (by omega), Nat.testBit_eq_decide_div_mod_eq]
  by_cases h : a / 2 ^ t % 2 = 1
  · rw [h]; rfl
  · have h0 : a / 2 ^ t % 2 = 0 := by omega
    rw [h0]; rfl
theorem or_small' {a b : Nat} (ha : a < 4096) (hb : b < 4096) : IntKind.i64.wrap ((@BitVec.toNat 64 (@HOr.hOr (BitVec 64) (BitVec 64) (BitVec 64) (@instHOrOfOrOp (BitVec IntKind.i64.bits) (@BitVec.instOrOp IntKind.i64.bits)) (BitVec.ofInt 64 (a : Int)) (BitVec.ofInt 64 (b : Int))) : Nat) : Int) = ((a ||| b : Nat) : Int) := or_small ha hb
theorem bit_test' {a t : Nat} (ha : a < 4096) (ht : t < 12) : (IntKind.i64.wrap ((@BitVec.toNat 64 (@HAnd.hAnd (BitVec 64) (BitVec 64) (BitVec 64) (@instHAndOfAndOp (BitVec IntKind.i64.bits) (@BitVec.instAndOp IntKind.i64.bits)) (BitVec.ofInt 64 (Int.fdiv (a : Int) (2 ^ min t 64))) (BitVec.ofInt 64 1)) : Nat) : Int) == 1) = a.testBit t := bit_test ha ht
def zL (S : List Nat) : List Int := S.map fun (k : Nat) => (k : Int)
theorem zL_len (S : List Nat) : (zL S).length = S.length := by simp [zL]
theorem zL_get {S : List Nat} {k : Nat} (h : k < S.length) : (zL S)[k]? = some ((S.getD k 0 : Nat) : Int) := by simp [zL, h]
theorem zL_set (S : List Nat) (k v : Nat) : (zL S).set k (v : Int) = zL (S.set k v) := by simp [zL, List.map_set]
theorem rnd_take {es : List Ed} {k : Nat} {e : Ed} (h : es[k]? = some e) (S : List Nat) : (es.take (k + 1)).foldl stepE S = stepE ((es.take k).foldl stepE S) e := by
  rw [List.take_add_one, h]; simp
theorem fold_lt {n : Nat} : ∀ {l : List Ed} {S : List Nat}, (∀ e ∈ l, okE n e) → (∀ x ∈ S, x < 2 ^ n) → ∀ x ∈ l.foldl stepE S, x < 2 ^ n
  | [], _, _, h => h
  | e :: l, S, hl, h => fold_lt (l := l) (S := stepE S e) (fun e he => hl e (by simp [he])) (step_lt (hl e (by simp)) h)
theorem rndN_lt {n : Nat} {es : List Ed} (hes : ∀ e ∈ es, okE n e) : ∀ (k : Nat), ∀ x ∈ rndN es k (List.replicate n 0), x < 2 ^ n
  | 0 => fun x hx => by simp [rndN] at hx; have := Nat.two_pow_pos n; omega
  | k + 1 => fold_lt hes (rndN_lt hes k)
theorem getD_lt {S : List Nat} {n : Nat} (h : ∀ x ∈ S, x < 2 ^ n) (hn : n ≤ 12) (k : Nat) : S.getD k 0 < 4096 := by
  have h2 : 2 ^ n ≤ 2 ^ 12 := Nat.pow_le_pow_right (by omega) hn
  rw [List.getD_eq_getElem?_getD]
  cases hk : S[k]? with
  | none => simp
  | some v => have := h v (List.mem_of_getElem? hk); simp; omega
def c_impl_waits : C := .seq (.reg [⟨some 1, none, .box 77 5 (.t 0)⟩, ⟨some 2, none, .mov (.c (.slice none 0 0))⟩]) (.seq (.reg [⟨some 6, none, .fa 3 (.t 1)⟩, ⟨some 7, none, .ld false 1 (.t 6)⟩, ⟨some 8, none, .mks 3 1 8 [D.val (.int .i64 0)] (.t 7) (.t 7)⟩, ⟨some 3, none, .mov (.t 8)⟩]) (.seq (.seq (.reg [⟨some 9, none, .fa 3 (.t 1)⟩, ⟨some 10, none, .ld false 1 (.t 9)⟩, ⟨some 11, none, .mov (.c (.int .i64 0))⟩]) (.blk 0 (.loop (.seq (.reg [⟨some 12, none, .bin .lss 3 (.t 11) (.t 10)⟩]) (.seq (.cond (.t 12) .skip (.exit 0)) (.seq (.blk 1 (.seq (.reg [⟨some 13, none, .fa 4 (.t 1)⟩, ⟨some 14, none, .ld false 1 (.t 13)⟩, ⟨some 15, none, .len false (.t 14)⟩, ⟨some 16, none, .mov (.c (.int .i64 0))⟩]) (.blk 2 (.loop (.seq (.reg [⟨some 17, none, .bin .lss 3 (.t 16) (.t 15)⟩]) (.seq (.cond (.t 17) .skip (.exit 2)) (.seq (.blk 3 (.seq (.reg [⟨some 18, none, .ia 2 (.t 14) (.t 16)⟩, ⟨some 19, none, .ld true 2 (.t 18)⟩, ⟨some 5, none, .alloc 182 [.int .i64 0, .int .i64 0]⟩, ⟨none, none, .st 2 [none, none] (.t 5) (.t 19)⟩]) (.dreg (T.pure 0 ⟨some 20, none, .mov (.t 3)⟩ (T.pure 1 ⟨some 21, none, .fa 0 (.t 5)⟩ (T.pure 2 ⟨some 22, none, .ld false 1 (.t 21)⟩ (T.pure 3 ⟨some 23, none, .ia 1 (.t 20) (.t 22)⟩ (T.pure 4 ⟨some 24, none, .ld false 1 (.t 23)⟩ (T.pure 5 ⟨some 25, none, .fa 1 (.t 5)⟩ (T.pure 6 ⟨some 26, none, .ld false 1 (.t 25)⟩ (T.pure 7 ⟨some 27, none, .bin .shl 3 (.c (.int .i64 1)) (.t 26)⟩ (T.pure 8 ⟨some 28, none, .mov (.t 3)⟩ (T.pure 9 ⟨some 29, none, .fa 1 (.t 5)⟩ (T.pure 10 ⟨some 30, none, .ld false 1 (.t 29)⟩ (T.pure 11 ⟨some 31, none, .ia 1 (.t 28) (.t 30)⟩ (T.pure 12 ⟨some 32, none, .ld false 1 (.t 31)⟩ (T.pure 13 ⟨some 33, none, .bin .or 3 (.t 27) (.t 32)⟩ (T.pure 14 ⟨some 34, none, .bin .or 3 (.t 24) (.t 33)⟩ (T.pure 15 ⟨some 35, none, .ia 1 (.t 20) (.t 22)⟩ (T.alt ⟨none, none, .st 1 [none] (.t 35) (.t 34)⟩ [] T.done T.stop)))))))))))))))))))) (.reg [⟨some 36, none, .bin .add 3 (.t 16) (.c (.int .i64 1))⟩, ⟨some 16, none, .mov (.t 36)⟩])))))))) (.reg [⟨some 37, none, .bin .add 3 (.t 11) (.c (.int .i64 1))⟩, ⟨some 11, none, .mov (.t 37)⟩]))))))) (.seq (.reg [⟨some 38, none, .mov (.t 3)⟩, ⟨some 2, none, .mov (.t 38)⟩]) .ret)))
theorem code_impl_waits : fnC Tryz.prog Tryz.f201 = some (c_impl_waits, [.t 2], 39) := by kernel_rfl
def c_impl_PlanFault : C := .seq (.reg [⟨some 1, none, .box 77 5 (.t 0)⟩, ⟨some 2, none, .mov (.c (.int .i64 0))⟩]) (.seq (.seq (.reg [⟨some 9, none, .fa 3 (.t 1)⟩, ⟨some 10, none, .ld false 1 (.t 9)⟩, ⟨some 11, none, .call 79 [.t 10, .c (.int .i64 1), .c (.int .i64 12)]⟩, ⟨some 12, none, .un .not (.t 11)⟩, ⟨some 13, none, .mov (.t 12)⟩, ⟨some 14, some (13, false), .fa 4 (.t 1)⟩, ⟨some 15, some (13, false), .ld false 1 (.t 14)⟩, ⟨some 16, some (13, false), .len false (.t 15)⟩, ⟨some 17, some (13, false), .bin .gtr 3 (.t 16) (.c (.int .i64 30))⟩, ⟨some 18, none, .pick (.t 13) (.c (.bool true)) (.t 17)⟩, ⟨some 19, none, .mov (.t 18)⟩, ⟨some 20, some (19, false), .fa 0 (.t 1)⟩, ⟨some 21, some (19, false), .ld false 1 (.t 20)⟩, ⟨some 22, some (19, false), .call 79 [.t 21, .c (.int .i64 0), .c (.int .i64 9)]⟩, ⟨some 23, some (19, false), .un .not (.t 22)⟩, ⟨some 24, none, .pick (.t 19) (.c (.bool true)) (.t 23)⟩, ⟨some 25, none, .mov (.t 24)⟩, ⟨some 26, some (25, false), .fa 1 (.t 1)⟩, ⟨some 27, some (25, false), .ld false 1 (.t 26)⟩, ⟨some 28, some (25, false), .call 79 [.t 27, .c (.int .i64 1), .c (.int .i64 5)]⟩, ⟨some 29, some (25, false), .un .not (.t 28)⟩, ⟨some 30, none, .pick (.t 25) (.c (.bool true)) (.t 29)⟩, ⟨some 31, none, .mov (.t 30)⟩, ⟨some 32, some (31, false), .fa 2 (.t 1)⟩, ⟨some 33, some (31, false), .ld false 1 (.t 32)⟩, ⟨some 34, some (31, false), .call 79 [.t 33, .c (.int .i64 1), .c (.int .i64 20)]⟩, ⟨some 35, some (31, false), .un .not (.t 34)⟩, ⟨some 36, none, .pick (.t 31) (.c (.bool true)) (.t 35)⟩]) (.cond (.t 36) (.seq (.reg [⟨some 2, none, .mov (.c (.int .i64 1))⟩]) .ret) .skip)) (.seq (.seq (.reg [⟨some 37, none, .fa 4 (.t 1)⟩, ⟨some 38, none, .ld false 1 (.t 37)⟩, ⟨some 39, none, .len false (.t 38)⟩, ⟨some 40, none, .mov (.c (.int .i64 0))⟩]) (.blk 0 (.loop (.seq (.reg [⟨some 41, none, .bin .lss 3 (.t 40) (.t 39)⟩]) (.seq (.cond (.t 41) .skip (.exit 0)) (.seq (.blk 1 (.seq (.reg [⟨some 42, none, .ia 2 (.t 38) (.t 40)⟩, ⟨some 43, none, .ld true 2 (.t 42)⟩, ⟨some 4, none, .alloc 182 [.int .i64 0, .int .i64 0]⟩, ⟨none, none, .st 2 [none, none] (.t 4) (.t 43)⟩]) (.seq (.reg [⟨some 44, none, .fa 0 (.t 4)⟩, ⟨some 45, none, .ld false 1 (.t 44)⟩, ⟨some 46, none, .fa 3 (.t 1)⟩, ⟨some 47, none, .ld false 1 (.t 46)⟩, ⟨some 48, none, .bin .sub 3 (.t 47) (.c (.int .i64 1))⟩, ⟨some 49, none, .call 79 [.t 45, .c (.int .i64 0), .t 48]⟩, ⟨some 50, none, .un .not (.t 49)⟩, ⟨some 51, none, .mov (.t 50)⟩, ⟨some 52, some (51, false), .fa 1 (.t 4)⟩, ⟨some 53, some (51, false), .ld false 1 (.t 52)⟩, ⟨some 54, some (51, false), .fa 3 (.t 1)⟩, ⟨some 55, some (51, false), .ld false 1 (.t 54)⟩, ⟨some 56, some (51, false), .bin .sub 3 (.t 55) (.c (.int .i64 1))⟩, ⟨some 57, some (51, false), .call 79 [.t 53, .c (.int .i64 0), .t 56]⟩, ⟨some 58, some (51, false), .un .not (.t 57)⟩, ⟨some 59, none, .pick (.t 51) (.c (.bool true)) (.t 58)⟩]) (.cond (.t 59) (.seq (.reg [⟨some 2, none, .mov (.c (.int .i64 2))⟩]) .ret) .skip)))) (.reg [⟨some 60, none, .bin .add 3 (.t 40) (.c (.int .i64 1))⟩, ⟨some 40, none, .mov (.t 60)⟩]))))))) (.seq (.seq (.reg [⟨some 61, none, .fa 4 (.t 1)⟩, ⟨some 62, none, .ld false 1 (.t 61)⟩, ⟨some 63, none, .len false (.t 62)⟩, ⟨some 64, none, .mov (.c (.int .i64 0))⟩]) (.blk 2 (.loop (.seq (.reg [⟨some 65, none, .bin .lss 3 (.t 64) (.t 63)⟩]) (.seq (.cond (.t 65) .skip (.exit 2)) (.seq (.blk 3 (.seq (.reg [⟨some 66, none, .mov (.t 64)⟩, ⟨some 67, none, .ia 2 (.t 62) (.t 64)⟩, ⟨some 68, none, .ld true 2 (.t 67)⟩, ⟨some 6, none, .alloc 182 [.int .i64 0, .int .i64 0]⟩, ⟨some 5, none, .mov (.t 66)⟩, ⟨none, none, .st 2 [none, none] (.t 6) (.t 68)⟩]) (.seq (.dreg (T.pure 0 ⟨some 69, none, .fa 4 (.t 1)⟩ (T.pure 1 ⟨some 70, none, .ld false 1 (.t 69)⟩ (T.pure 2 ⟨some 71, none, .mov (.t 5)⟩ (T.pure 3 ⟨some 72, none, .sl 2 (.t 70) none (some (.t 71))⟩ (T.pure 4 ⟨some 73, none, .ld true 2 (.t 6)⟩ (T.alt ⟨some 74, none, .call 200 [.t 72, .t 73]⟩ [] T.done T.stop))))))) (.cond (.t 74) (.seq (.reg [⟨some 2, none, .mov (.c (.int .i64 3))⟩]) .ret) .skip)))) (.reg [⟨some 75, none, .bin .add 3 (.t 64) (.c (.int .i64 1))⟩, ⟨some 64, none, .mov (.t 75)⟩]))))))) (.seq (.seq (.reg [⟨some 76, none, .ld true 5 (.t 1)⟩, ⟨some 77, none, .call 201 [.t 76]⟩, ⟨some 78, none, .len false (.t 77)⟩, ⟨some 79, none, .mov (.c (.int .i64 0))⟩]) (.blk 4 (.loop (.seq (.reg [⟨some 80, none, .bin .lss 3 (.t 79) (.t 78)⟩]) (.seq (.cond (.t 80) .skip (.exit 4)) (.seq (.blk 5 (.seq (.reg [⟨some 81, none, .mov (.t 79)⟩, ⟨some 82, none, .ia 1 (.t 77) (.t 79)⟩, ⟨some 83, none, .ld false 1 (.t 82)⟩, ⟨some 7, none, .mov (.t 81)⟩, ⟨some 8, none, .mov (.t 83)⟩]) (.seq (.reg [⟨some 84, none, .mov (.t 8)⟩, ⟨some 85, none, .mov (.t 7)⟩, ⟨some 86, none, .bin .shr 3 (.t 84) (.t 85)⟩, ⟨some 87, none, .bin .and 3 (.t 86) (.c (.int .i64 1))⟩, ⟨some 88, none, .bin .eql 3 (.t 87) (.c (.int .i64 1))⟩]) (.cond (.t 88) (.seq (.reg [⟨some 2, none, .mov (.c (.int .i64 4))⟩]) .ret) .skip)))) (.reg [⟨some 89, none, .bin .add 3 (.t 79) (.c (.int .i64 1))⟩, ⟨some 79, none, .mov (.t 89)⟩]))))))) (.seq (.reg [⟨some 2, none, .mov (.c (.int .i64 0))⟩]) .ret)))))
theorem code_impl_PlanFault : fnC Tryz.prog Tryz.f171 = some (c_impl_PlanFault, [.t 2], 90) := by kernel_rfl
set_option maxHeartbeats 4000000 in
theorem p_impl_waits (p : Pl) (n : Nat) (hn : p.tasks = n) (h12 : n ≤ 12) (h30 : p.edges.length ≤ 30) (hes : ∀ e ∈ p.edges, okE n e) : Pure Tryz.prog 201 [.agg (encPl p)] (.c (encInts (zL (waitsL p.edges n)))) := by
  refine pure_fn Tryz.func201 code_impl_waits (by simp) ?_
  unfold c_impl_waits
  have hrep : encInts (List.replicate n 0) = encInts (zL (rndN p.edges 0 (List.replicate n 0))) := by simp [rndN, zL]
  simp -implicitDefEqProofs only [go_sem, encPl, hn]
  intro b
  rw [run_mks]
  refine ⟨.i64, .i64, n, by simp -implicitDefEqProofs only [go_sem], by simp -implicitDefEqProofs only [go_sem], by omega, by unfold maxLen; omega, fun η => ?_⟩
  simp -implicitDefEqProofs only [go_sem, encPl, hn, mk_ints, hrep]
  refine wp_loopW (fun i : Nat × Heads => St.of [(1, Bx 100 b), (3, Hd 3 i.2), (10, Ni n), (11, Ni i.1)] [(100, Bi b _ (encPl p)), (3, .loose (encInts (zL (rndN p.edges i.1 (List.replicate n 0)))) i.2)]) (fun i => i.1 ≤ n) (fun i => n - i.1) (0, η) (by (try dsimp only); first | omega | (simp; done) | (and_intros <;> first | omega | simp)) (wk_of [some 100, some 800] (by simp -implicitDefEqProofs only [go_sem, encPl, hn] <;> and_intros <;> first | rfl | assumption)) ?_
  rintro ⟨k, η1⟩ hk
  dsimp only at hk
  by_cases hlt : k < n
  · have hlt' : (k : Int) < n := by omega
    have hw : IntKind.i64.wrap ((k : Int) + 1) = ((k + 1 : Nat) : Int) := wrap64 (by omega) (by omega)
    have hSl := rndN_len (es := p.edges) k (List.replicate n 0)
    have hSb := rndN_lt hes k
    rw [List.length_replicate] at hSl
    have hnext : rndN p.edges (k + 1) (List.replicate n 0) = p.edges.foldl stepE (rndN p.edges k (List.replicate n 0)) := rfl
    dsimp only
    generalize rndN p.edges k (List.replicate n 0) = S at *
    simp -implicitDefEqProofs only [go_sem, encPl, hlt', hn]
    refine wp_loopW (fun i : Nat × Heads => St.of [(1, Bx 100 b), (3, Hd 3 i.2), (10, Ni n), (11, Ni k), (14, Ro (encEds p.edges)), (15, Ni p.edges.length), (16, Ni i.1)] [(100, Bi b _ (encPl p)), (3, .loose (encInts (zL ((p.edges.take i.1).foldl stepE S))) i.2)]) (fun i => i.1 ≤ p.edges.length) (fun i => p.edges.length - i.1) (0, η1) (by (try dsimp only); first | omega | (simp; done) | (and_intros <;> first | omega | simp)) (wk_of [some 100, some 3] (by simp -implicitDefEqProofs only [go_sem, encPl, hn, List.take_zero, List.foldl_nil] <;> and_intros <;> first | rfl | assumption)) ?_
    rintro ⟨j, η2⟩ hj
    dsimp only at hj
    by_cases hjt : j < p.edges.length
    · have hjt' : (j : Int) < p.edges.length := by omega
      obtain ⟨e, he⟩ := get_some hjt
      have hm : e ∈ p.edges := List.mem_of_getElem? he
      obtain ⟨⟨e1, e2⟩, e3, e4⟩ := hes e hm
      have hwj : IntKind.i64.wrap ((j : Int) + 1) = ((j + 1 : Nat) : Int) := wrap64 (by omega) (by omega)
      have hTl := fold_len (p.edges.take j) S
      have hTb := fold_lt (n := n) (l := p.edges.take j) (S := S) (fun e he => hes e (List.mem_of_mem_take he)) hSb
      have htk := rnd_take he S
      dsimp only
      generalize (p.edges.take j).foldl stepE S = U at *
      have hsl : e.src.toNat < U.length := by omega
      have hdl : e.dst.toNat < U.length := by omega
      have hs' := zL_get hsl
      have hd' := zL_get hdl
      have hzs : e.src.toNat < (zL U).length := by rw [zL_len]; exact hsl
      have hzd : e.dst.toNat < (zL U).length := by rw [zL_len]; exact hdl
      have hu1 := getD_lt hTb h12 e.src.toNat
      have hu2 := getD_lt hTb h12 e.dst.toNat
      have hp : 2 ^ e.dst.toNat < 4096 := (show 2 ^ e.dst.toNat < 2 ^ 12 from Nat.pow_lt_pow_right (by omega) (by omega))
      have ho : 2 ^ e.dst.toNat ||| U.getD e.dst.toNat 0 < 4096 := Nat.or_lt_two_pow (n := 12) hp hu2
      have hst : (zL U).set e.src.toNat ((U.getD e.src.toNat 0 ||| (2 ^ e.dst.toNat ||| U.getD e.dst.toNat 0) : Nat) : Int) = zL (stepE U e) := zL_set _ _ _
      simp -implicitDefEqProofs only [go_sem, encPl, hn, hjt, hjt', elem_encEds he, encEd, e1, e3, hsl, hdl, zL_len]
      intro b2
      simp -implicitDefEqProofs only [go_sem, encPl, hn, hjt, hjt', encEd, e1, e3, hsl, hdl, zL_len, at_encInts hs', in_encInts hzs, at_encInts hd', in_encInts hzd, shl_small e3 (by omega), or_small' hp hu2, or_small' hu1 ho, put_encInts _ hzs, hst, hwj]
      exact ⟨(j + 1, η2), by (try dsimp only); first | omega | assumption | (and_intros <;> first | omega | assumption), (wk_of [some 100, some 3] (by simp -implicitDefEqProofs only [go_sem, encPl, hn, htk] <;> and_intros <;> first | rfl | assumption)), by (try dsimp only); omega⟩
    · have hjt' : ¬ (j : Int) < p.edges.length := by omega
      rw [List.take_of_length_le (by omega)]
      simp -implicitDefEqProofs only [go_sem, encPl, hn, hjt', hw]
      exact ⟨(k + 1, η2), by (try dsimp only); first | omega | assumption | (and_intros <;> first | omega | assumption), (wk_of [some 100, some 3] (by simp -implicitDefEqProofs only [go_sem, encPl, hn, hnext] <;> and_intros <;> first | rfl | assumption)), by (try dsimp only); omega⟩
  · have hlt' : ¬ (k : Int) < n := by omega
    obtain rfl : k = n := by omega
    simp -implicitDefEqProofs only [go_sem, encPl, hn, hlt', waitsL]
set_option maxHeartbeats 4000000 in
theorem p_impl_PlanFault (p : Pl) (hpl : p.edges.length ≤ 4000000) : Pure Tryz.prog 171 [.agg (encPl p)] (.c (.val (.int .i64 (planFault p)))) := by
  refine pure_fn Tryz.func171 code_impl_PlanFault (by simp) ?_
  unfold c_impl_PlanFault
  simp -implicitDefEqProofs only [go_sem, encPl]
  intro b
  refine run_call (p_impl_within p.tasks 1 12) (by simp -implicitDefEqProofs only [go_sem, encPl]) fun η => ?_
  simp -implicitDefEqProofs only [go_sem, encPl]
  cases h1 : decide (1 ≤ p.tasks ∧ p.tasks ≤ 12)
  · simp -implicitDefEqProofs only [go_sem, encPl, h1, pf_many (show manyB p = true by simp [manyB, inB, h1])]
  by_cases h2 : 30 < p.edges.length
  · have h2' : (p.edges.length : Int) > 30 := by omega
    simp -implicitDefEqProofs only [go_sem, encPl, h1, h2', pf_many (show manyB p = true by simp [manyB, inB, h1, h2])]
  have h2' : ¬ (p.edges.length : Int) > 30 := by omega
  simp -implicitDefEqProofs only [go_sem, encPl, h1, h2']
  refine run_call (p_impl_within p.prio 0 9) (by simp -implicitDefEqProofs only [go_sem, encPl]) fun η => ?_
  simp -implicitDefEqProofs only [go_sem, encPl]
  cases h3 : decide (0 ≤ p.prio ∧ p.prio ≤ 9)
  · simp -implicitDefEqProofs only [go_sem, encPl, h3, pf_many (show manyB p = true by simp [manyB, inB, h3])]
  simp -implicitDefEqProofs only [go_sem, encPl, h3]
  refine run_call (p_impl_within p.most 1 5) (by simp -implicitDefEqProofs only [go_sem, encPl]) fun η => ?_
  simp -implicitDefEqProofs only [go_sem, encPl]
  cases h4 : decide (1 ≤ p.most ∧ p.most ≤ 5)
  · simp -implicitDefEqProofs only [go_sem, encPl, h4, pf_many (show manyB p = true by simp [manyB, inB, h4])]
  simp -implicitDefEqProofs only [go_sem, encPl, h4]
  refine run_call (p_impl_within p.wait 1 20) (by simp -implicitDefEqProofs only [go_sem, encPl]) fun η => ?_
  simp -implicitDefEqProofs only [go_sem, encPl]
  cases h5 : decide (1 ≤ p.wait ∧ p.wait ≤ 20)
  · simp -implicitDefEqProofs only [go_sem, encPl, h5, pf_many (show manyB p = true by simp [manyB, inB, h5])]
  have hm : manyB p = false := by simp [manyB, inB, h1, h2, h3, h4, h5]
  obtain ⟨n, hn, hn1, hn12, hel, -⟩ := many_no hm
  have hw1 : IntKind.i64.wrap ((n : Int) - 1) = n - 1 := wrap64 (by omega) (by omega)
  simp -implicitDefEqProofs only [go_sem, encPl, h5, hn]
  refine wp_loopW (fun i : Nat => St.of [(1, Bx 100 b), (38, Ro (encEds p.edges)), (39, Ni p.edges.length), (40, Ni i)] [(100, Bi b _ (encPl p))]) (fun i => i ≤ p.edges.length ∧ (p.edges.take i).any (badE n) = false) (fun i => p.edges.length - i) 0 (by (try dsimp only); first | omega | (simp; done) | (and_intros <;> first | omega | simp)) (wk_of [some 100] (by simp -implicitDefEqProofs only [go_sem, encPl, hn] <;> and_intros <;> first | rfl | assumption)) ?_
  rintro k ⟨hk, hko⟩
  by_cases hlt : k < p.edges.length
  · have hlt' : (k : Int) < p.edges.length := by omega
    obtain ⟨e, he⟩ := get_some hlt
    have hw : IntKind.i64.wrap ((k : Int) + 1) = ((k + 1 : Nat) : Int) := wrap64 (by omega) (by omega)
    simp -implicitDefEqProofs only [go_sem, encPl, hn, hlt, hlt', elem_encEds he, encEd, hw1]
    intro b2
    refine run_call (p_impl_within e.src 0 (n - 1)) (by simp -implicitDefEqProofs only [go_sem, encPl, encEd, hw1]) fun η => ?_
    simp -implicitDefEqProofs only [go_sem, encPl, encEd, hw1]
    cases h1 : decide (0 ≤ e.src ∧ e.src ≤ n - 1)
    · have hbe : badE p.tasks e = true := by simp [badE, inB, hn, h1]
      simp -implicitDefEqProofs only [go_sem, encPl, h1, pf_edge hm (List.mem_of_getElem? he) hbe]
    · simp -implicitDefEqProofs only [go_sem, encPl, h1, encEd, hw1, hn]
      refine run_call (p_impl_within e.dst 0 (n - 1)) (by simp -implicitDefEqProofs only [go_sem, encPl, encEd, hw1]) fun η => ?_
      simp -implicitDefEqProofs only [go_sem, encPl, encEd, hw1]
      cases h2 : decide (0 ≤ e.dst ∧ e.dst ≤ n - 1)
      · have hbe : badE p.tasks e = true := by simp [badE, inB, hn, h2]
        simp -implicitDefEqProofs only [go_sem, encPl, h2, pf_edge hm (List.mem_of_getElem? he) hbe]
      · have hbe : badE n e = false := by simp [badE, inB, h1, h2]
        simp -implicitDefEqProofs only [go_sem, encPl, h2, hw]
        exact ⟨k + 1, ⟨hlt, any_take he hbe hko⟩, (wk_of [some 100] (by simp -implicitDefEqProofs only [go_sem, encPl, hn] <;> and_intros <;> first | rfl | assumption)), by (try dsimp only); omega⟩
  have hlt' : ¬ (k : Int) < p.edges.length := by omega
  rw [List.take_of_length_le (by omega), ← hn] at hko
  have hes := okE_of hko
  have hes' : ∀ e ∈ p.edges, okE n e := fun e he => by have := hes e he; rwa [hn, Int.toNat_natCast] at this
  simp -implicitDefEqProofs only [go_sem, encPl, hlt', hn]
  refine wp_loopW (fun i : Nat => St.of [(1, Bx 100 b), (62, Ro (encEds p.edges)), (63, Ni p.edges.length), (64, Ni i)] [(100, Bi b _ (encPl p))]) (fun i => i ≤ p.edges.length ∧ (p.edges.take i).Nodup) (fun i => p.edges.length - i) 0 (by (try dsimp only); first | omega | (simp; done) | (and_intros <;> first | omega | simp)) (wk_of [some 100] (by simp -implicitDefEqProofs only [go_sem, encPl, hn] <;> and_intros <;> first | rfl | assumption)) ?_
  rintro j ⟨hj, hjo⟩
  by_cases hjl : j < p.edges.length
  · have hjl' : (j : Int) < p.edges.length := by omega
    obtain ⟨e, he⟩ := get_some hjl
    have hw : IntKind.i64.wrap ((j : Int) + 1) = ((j + 1 : Nat) : Int) := wrap64 (by omega) (by omega)
    have hjle : j ≤ p.edges.length := by omega
    simp -implicitDefEqProofs only [go_sem, encPl, hjl, hjl', hjle, elem_encEds he, encEd, hn]
    intro b2
    refine run_call (p_ContainsEd (p.edges.take j) e (by rw [List.length_take]; omega)) (by simp -implicitDefEqProofs only [go_sem, encPl, encEd]) fun η => ?_
    simp -implicitDefEqProofs only [go_sem, encPl, encEd]
    by_cases hin : e ∈ p.edges.take j
    · have hd : ¬ p.edges.Nodup := by
        obtain ⟨m, hm1, hm2⟩ := List.getElem_of_mem hin
        rw [List.length_take] at hm1
        rw [List.getElem_take] at hm2
        exact dup_take he (show m < j by omega) (by rw [List.getElem?_eq_getElem (by omega), hm2])
      simp -implicitDefEqProofs only [go_sem, encPl, hin, pf_dup hm hko hd]
    · simp -implicitDefEqProofs only [go_sem, encPl, hin, hw]
      exact ⟨j + 1, ⟨hjl, nodup_take he hjo hin⟩, (wk_of [some 100] (by simp -implicitDefEqProofs only [go_sem, encPl, hn] <;> and_intros <;> first | rfl | assumption)), by (try dsimp only); omega⟩
  have hjl' : ¬ (j : Int) < p.edges.length := by omega
  rw [List.take_of_length_le (by omega)] at hjo
  simp -implicitDefEqProofs only [go_sem, encPl, hjl', hn]
  refine run_call (p_impl_waits p n hn hn12 hel hes') (by simp -implicitDefEqProofs only [go_sem, encPl, hn]) fun η => ?_
  simp -implicitDefEqProofs only [go_sem, encPl, hn]
  have hwl := waits_len (es := p.edges) (n := n)
  have hwb := waits_bit (n := n) hes'
  have hwm : ∀ k : Nat, (waitsL p.edges n).getD k 0 < 4096 := getD_lt (rndN_lt hes' n) hn12
  simp -implicitDefEqProofs only [go_sem, zL_len, hwl]
  refine wp_loopW (fun i : Nat => St.of [(77, Hd 7700 (η 0)), (78, Ni n), (79, Ni i)] [(7700, .loose (encInts (zL (waitsL p.edges n))) (η 0))]) (fun i => i ≤ n ∧ ∀ t : Nat, t < i → ¬ Rc p.edges t t) (fun i => n - i) 0 (by (try dsimp only); first | omega | (simp; done) | (and_intros <;> first | omega | simp)) (wk_of [some 7700] (by simp -implicitDefEqProofs only [go_sem, zL_len, hwl] <;> and_intros <;> first | rfl | assumption)) ?_
  rintro t ⟨ht, hto⟩
  by_cases htl : t < n
  · have htl' : (t : Int) < n := by omega
    have hw : IntKind.i64.wrap ((t : Int) + 1) = ((t + 1 : Nat) : Int) := wrap64 (by omega) (by omega)
    have htw : t < (waitsL p.edges n).length := by rw [hwl]; exact htl
    have hg := zL_get htw
    have hzt : t < (zL (waitsL p.edges n)).length := by rw [zL_len]; exact htw
    have hbt := bit_test' (hwm t) (show t < 12 by omega)
    have h0t : (t : Int) ≥ 0 := by omega
    cases hr : ((waitsL p.edges n).getD t 0).testBit t
    · rw [hr] at hbt
      simp -implicitDefEqProofs only [go_sem, htl, htl', zL_len, hwl, at_encInts hg, in_encInts hzt, hbt, hw]
      exact ⟨t + 1, ⟨htl, fun s hs h' => by rcases Nat.lt_or_ge s t with h2 | h2; exact hto s h2 h'; obtain rfl : s = t := (by omega); rw [(hwb s s).2 h'] at hr; cases hr⟩, (wk_of [some 7700] (by simp -implicitDefEqProofs only [go_sem] <;> and_intros <;> first | rfl | assumption)), by (try dsimp only); omega⟩
    · rw [hr] at hbt
      simp -implicitDefEqProofs only [go_sem, htl, htl', zL_len, hwl, at_encInts hg, in_encInts hzt, hbt, hw, pf_cyc hm hko hjo (by rw [hn]; exact htl') ((hwb t t).1 hr)]
  · have htl' : ¬ (t : Int) < n := by omega
    simp -implicitDefEqProofs only [go_sem, htl', pf_ok hm hko hjo (fun s hs => hto s (by omega))]
end Go.Proofs.YtnhdcbhcocgjhaaGreat
set_option linter.unusedSimpArgs false
set_option linter.unusedVariables false
set_option maxRecDepth 100000
namespace Go.Proofs.YtnhdcbhcocgjhaaGreat
open Go.RowKit Go.Sort
def c_cmp_isNaN_int_ : C := .seq (.reg [⟨some 2, none, .mov (.c (.bool false))⟩]) (.seq (.reg [⟨some 3, none, .mov (.t 0)⟩, ⟨some 4, none, .mov (.t 0)⟩, ⟨some 5, none, .bin .neq 3 (.t 3) (.t 4)⟩, ⟨some 2, none, .mov (.t 5)⟩]) .ret)
theorem code_cmp_isNaN_int_ : fnC Tryz.prog Tryz.f233 = some (c_cmp_isNaN_int_, [.t 2], 6) := by kernel_rfl
def c_cmp_Less_int_ : C := .seq (.reg [⟨some 4, none, .mov (.c (.bool false))⟩]) (.seq (.reg [⟨some 5, none, .mov (.t 0)⟩, ⟨some 6, none, .call 233 [.t 5]⟩, ⟨some 7, none, .mov (.t 6)⟩, ⟨some 8, some (7, true), .mov (.t 1)⟩, ⟨some 9, some (7, true), .call 233 [.t 8]⟩, ⟨some 10, some (7, true), .un .not (.t 9)⟩, ⟨some 11, none, .pick (.t 7) (.t 10) (.c (.bool false))⟩, ⟨some 12, none, .mov (.t 11)⟩, ⟨some 13, some (12, false), .mov (.t 0)⟩, ⟨some 14, some (12, false), .mov (.t 1)⟩, ⟨some 15, some (12, false), .bin .lss 3 (.t 13) (.t 14)⟩, ⟨some 16, none, .pick (.t 12) (.c (.bool true)) (.t 15)⟩, ⟨some 4, none, .mov (.t 16)⟩]) .ret)
theorem code_cmp_Less_int_ : fnC Tryz.prog Tryz.f220 = some (c_cmp_Less_int_, [.t 4], 17) := by kernel_rfl
def c_slices_insertionSortOrdered_int_ : C := .seq (.reg [⟨some 8, none, .mov (.t 1)⟩, ⟨some 9, none, .bin .add 3 (.t 8) (.c (.int .i64 1))⟩, ⟨some 6, none, .mov (.t 9)⟩]) (.blk 0 (.loop (.seq (.seq (.reg [⟨some 10, none, .mov (.t 6)⟩, ⟨some 11, none, .mov (.t 2)⟩, ⟨some 12, none, .bin .lss 3 (.t 10) (.t 11)⟩]) (.cond (.t 12) .skip (.exit 0))) (.seq (.blk 1 (.seq (.reg [⟨some 15, none, .mov (.t 6)⟩, ⟨some 7, none, .mov (.t 15)⟩]) (.blk 2 (.loop (.seq (.seq (.dreg (T.pure 0 ⟨some 16, none, .mov (.t 7)⟩ (T.pure 1 ⟨some 17, none, .mov (.t 1)⟩ (T.pure 2 ⟨some 18, none, .bin .gtr 3 (.t 16) (.t 17)⟩ (T.pure 3 ⟨some 19, none, .mov (.t 18)⟩ (T.pure 4 ⟨some 20, some (19, true), .mov (.t 0)⟩ (T.pure 5 ⟨some 21, some (19, true), .mov (.t 7)⟩ (T.pure 6 ⟨some 22, some (19, true), .ia 1 (.t 20) (.t 21)⟩ (T.pure 7 ⟨some 23, some (19, true), .ld false 1 (.t 22)⟩ (T.pure 8 ⟨some 24, some (19, true), .mov (.t 0)⟩ (T.pure 9 ⟨some 25, some (19, true), .mov (.t 7)⟩ (T.pure 10 ⟨some 26, some (19, true), .bin .sub 3 (.t 25) (.c (.int .i64 1))⟩ (T.pure 11 ⟨some 27, some (19, true), .ia 1 (.t 24) (.t 26)⟩ (T.pure 12 ⟨some 28, some (19, true), .ld false 1 (.t 27)⟩ (T.alt ⟨some 29, some (19, true), .call 220 [.t 23, .t 28]⟩ [] (T.pure 14 ⟨some 30, none, .pick (.t 19) (.t 29) (.c (.bool false))⟩ T.done) T.stop))))))))))))))) (.cond (.t 30) .skip (.exit 2))) (.seq (.blk 3 (.dreg (T.pure 0 ⟨some 33, none, .mov (.t 0)⟩ (T.pure 1 ⟨some 34, none, .mov (.t 7)⟩ (T.pure 2 ⟨some 35, none, .mov (.t 0)⟩ (T.pure 3 ⟨some 36, none, .mov (.t 7)⟩ (T.pure 4 ⟨some 37, none, .bin .sub 3 (.t 36) (.c (.int .i64 1))⟩ (T.pure 5 ⟨some 38, none, .mov (.t 0)⟩ (T.pure 6 ⟨some 39, none, .mov (.t 7)⟩ (T.pure 7 ⟨some 40, none, .bin .sub 3 (.t 39) (.c (.int .i64 1))⟩ (T.pure 8 ⟨some 41, none, .ia 1 (.t 38) (.t 40)⟩ (T.pure 9 ⟨some 42, none, .ld false 1 (.t 41)⟩ (T.pure 10 ⟨some 43, none, .mov (.t 0)⟩ (T.pure 11 ⟨some 44, none, .mov (.t 7)⟩ (T.pure 12 ⟨some 45, none, .ia 1 (.t 43) (.t 44)⟩ (T.pure 13 ⟨some 46, none, .ld false 1 (.t 45)⟩ (T.pure 14 ⟨some 47, none, .ia 1 (.t 33) (.t 34)⟩ (T.alt ⟨none, none, .st 1 [none] (.t 47) (.t 42)⟩ [4, 3, 2] (T.pure 16 ⟨some 48, none, .ia 1 (.t 35) (.t 37)⟩ (T.alt ⟨none, none, .st 1 [none] (.t 48) (.t 46)⟩ [] T.done T.stop)) T.stop)))))))))))))))))) (.reg [⟨some 31, none, .mov (.t 7)⟩, ⟨some 32, none, .bin .sub 3 (.t 31) (.c (.int .i64 1))⟩, ⟨some 7, none, .mov (.t 32)⟩]))))))) (.reg [⟨some 13, none, .mov (.t 6)⟩, ⟨some 14, none, .bin .add 3 (.t 13) (.c (.int .i64 1))⟩, ⟨some 6, none, .mov (.t 14)⟩])))))
theorem code_slices_insertionSortOrdered_int_ : fnC Tryz.prog Tryz.f214 = some (c_slices_insertionSortOrdered_int_, [], 49) := by kernel_rfl
def c_slices_pdqsortOrdered_int_ : C := .seq (.reg [⟨some 8, none, .mov (.c (.bool true))⟩]) (.seq (.reg [⟨some 9, none, .mov (.c (.bool true))⟩]) (.blk 0 (.loop (.blk 1 (.seq (.reg [⟨some 19, none, .mov (.t 2)⟩, ⟨some 20, none, .mov (.t 1)⟩, ⟨some 21, none, .bin .sub 3 (.t 19) (.t 20)⟩, ⟨some 10, none, .mov (.t 21)⟩]) (.seq (.seq (.reg [⟨some 22, none, .mov (.t 10)⟩, ⟨some 23, none, .bin .leq 3 (.t 22) (.c (.int .i64 12))⟩]) (.cond (.t 23) (.seq (.reg [⟨some 24, none, .mov (.t 0)⟩, ⟨some 25, none, .mov (.t 1)⟩, ⟨some 26, none, .mov (.t 2)⟩, ⟨some 27, none, .call 214 [.t 24, .t 25, .t 26]⟩]) .ret) .skip)) (.seq (.seq (.reg [⟨some 28, none, .mov (.t 3)⟩, ⟨some 29, none, .bin .eql 3 (.t 28) (.c (.int .i64 0))⟩]) (.cond (.t 29) (.seq (.reg [⟨some 30, none, .mov (.t 0)⟩, ⟨some 31, none, .mov (.t 1)⟩, ⟨some 32, none, .mov (.t 2)⟩, ⟨some 33, none, .call 215 [.t 30, .t 31, .t 32]⟩]) .ret) .skip)) (.seq (.seq (.reg [⟨some 34, none, .mov (.t 8)⟩, ⟨some 35, none, .un .not (.t 34)⟩]) (.cond (.t 35) (.seq (.reg [⟨some 36, none, .mov (.t 0)⟩, ⟨some 37, none, .mov (.t 1)⟩, ⟨some 38, none, .mov (.t 2)⟩, ⟨some 39, none, .call 216 [.t 36, .t 37, .t 38]⟩]) (.reg [⟨some 40, none, .mov (.t 3)⟩, ⟨some 41, none, .bin .sub 3 (.t 40) (.c (.int .i64 1))⟩, ⟨some 3, none, .mov (.t 41)⟩])) .skip)) (.seq (.reg [⟨some 43, none, .mov (.t 0)⟩, ⟨some 44, none, .mov (.t 1)⟩, ⟨some 45, none, .mov (.t 2)⟩, ⟨some 46, none, .call 217 [.t 43, .t 44, .t 45]⟩, ⟨some 42, none, .mov (.t 46)⟩, ⟨some 47, none, .ext (.t 42) 0⟩, ⟨some 48, none, .ext (.t 42) 1⟩, ⟨some 11, none, .mov (.t 47)⟩, ⟨some 12, none, .mov (.t 48)⟩]) (.seq (.seq (.reg [⟨some 49, none, .mov (.t 12)⟩, ⟨some 50, none, .bin .eql 225 (.t 49) (.c (.int .i64 2))⟩]) (.cond (.t 50) (.seq (.reg [⟨some 51, none, .mov (.t 0)⟩, ⟨some 52, none, .mov (.t 1)⟩, ⟨some 53, none, .mov (.t 2)⟩, ⟨some 54, none, .call 218 [.t 51, .t 52, .t 53]⟩]) (.seq (.reg [⟨some 55, none, .mov (.t 2)⟩, ⟨some 56, none, .bin .sub 3 (.t 55) (.c (.int .i64 1))⟩, ⟨some 57, none, .mov (.t 11)⟩, ⟨some 58, none, .mov (.t 1)⟩, ⟨some 59, none, .bin .sub 3 (.t 57) (.t 58)⟩, ⟨some 60, none, .bin .sub 3 (.t 56) (.t 59)⟩, ⟨some 11, none, .mov (.t 60)⟩]) (.reg [⟨some 12, none, .mov (.c (.int .i64 1))⟩]))) .skip)) (.seq (.seq (.reg [⟨some 61, none, .mov (.t 8)⟩, ⟨some 62, none, .mov (.t 61)⟩, ⟨some 63, some (62, true), .mov (.t 9)⟩, ⟨some 64, none, .pick (.t 62) (.t 63) (.c (.bool false))⟩, ⟨some 65, none, .mov (.t 64)⟩, ⟨some 66, some (65, true), .mov (.t 12)⟩, ⟨some 67, some (65, true), .bin .eql 225 (.t 66) (.c (.int .i64 1))⟩, ⟨some 68, none, .pick (.t 65) (.t 67) (.c (.bool false))⟩]) (.cond (.t 68) (.seq (.reg [⟨some 69, none, .mov (.t 0)⟩, ⟨some 70, none, .mov (.t 1)⟩, ⟨some 71, none, .mov (.t 2)⟩, ⟨some 72, none, .call 219 [.t 69, .t 70, .t 71]⟩]) (.cond (.t 72) .ret .skip)) .skip)) (.seq (.seq (.dreg (T.pure 0 ⟨some 73, none, .mov (.t 1)⟩ (T.pure 1 ⟨some 74, none, .bin .gtr 3 (.t 73) (.c (.int .i64 0))⟩ (T.pure 2 ⟨some 75, none, .mov (.t 74)⟩ (T.pure 3 ⟨some 76, some (75, true), .mov (.t 0)⟩ (T.pure 4 ⟨some 77, some (75, true), .mov (.t 1)⟩ (T.pure 5 ⟨some 78, some (75, true), .bin .sub 3 (.t 77) (.c (.int .i64 1))⟩ (T.pure 6 ⟨some 79, some (75, true), .ia 1 (.t 76) (.t 78)⟩ (T.pure 7 ⟨some 80, some (75, true), .ld false 1 (.t 79)⟩ (T.pure 8 ⟨some 81, some (75, true), .mov (.t 0)⟩ (T.pure 9 ⟨some 82, some (75, true), .mov (.t 11)⟩ (T.pure 10 ⟨some 83, some (75, true), .ia 1 (.t 81) (.t 82)⟩ (T.pure 11 ⟨some 84, some (75, true), .ld false 1 (.t 83)⟩ (T.alt ⟨some 85, some (75, true), .call 220 [.t 80, .t 84]⟩ [] (T.pure 13 ⟨some 86, some (75, true), .un .not (.t 85)⟩ (T.pure 14 ⟨some 87, none, .pick (.t 75) (.t 86) (.c (.bool false))⟩ T.done)) T.stop)))))))))))))) (.cond (.t 87) (.seq (.reg [⟨some 88, none, .mov (.t 0)⟩, ⟨some 89, none, .mov (.t 1)⟩, ⟨some 90, none, .mov (.t 2)⟩, ⟨some 91, none, .mov (.t 11)⟩, ⟨some 92, none, .call 221 [.t 88, .t 89, .t 90, .t 91]⟩, ⟨some 13, none, .mov (.t 92)⟩]) (.seq (.reg [⟨some 93, none, .mov (.t 13)⟩, ⟨some 1, none, .mov (.t 93)⟩]) (.exit 1))) .skip)) (.seq (.reg [⟨some 95, none, .mov (.t 0)⟩, ⟨some 96, none, .mov (.t 1)⟩, ⟨some 97, none, .mov (.t 2)⟩, ⟨some 98, none, .mov (.t 11)⟩, ⟨some 99, none, .call 222 [.t 95, .t 96, .t 97, .t 98]⟩, ⟨some 94, none, .mov (.t 99)⟩, ⟨some 100, none, .ext (.t 94) 0⟩, ⟨some 101, none, .ext (.t 94) 1⟩, ⟨some 14, none, .mov (.t 100)⟩, ⟨some 15, none, .mov (.t 101)⟩]) (.seq (.reg [⟨some 102, none, .mov (.t 15)⟩, ⟨some 9, none, .mov (.t 102)⟩]) (.seq (.reg [⟨some 103, none, .mov (.t 14)⟩, ⟨some 104, none, .mov (.t 1)⟩, ⟨some 105, none, .bin .sub 3 (.t 103) (.t 104)⟩, ⟨some 106, none, .mov (.t 2)⟩, ⟨some 107, none, .mov (.t 14)⟩, ⟨some 108, none, .bin .sub 3 (.t 106) (.t 107)⟩, ⟨some 16, none, .mov (.t 105)⟩, ⟨some 17, none, .mov (.t 108)⟩]) (.seq (.reg [⟨some 109, none, .mov (.t 10)⟩, ⟨some 110, none, .bin .quo 3 (.t 109) (.c (.int .i64 8))⟩, ⟨some 18, none, .mov (.t 110)⟩]) (.seq (.reg [⟨some 111, none, .mov (.t 16)⟩, ⟨some 112, none, .mov (.t 17)⟩, ⟨some 113, none, .bin .lss 3 (.t 111) (.t 112)⟩]) (.cond (.t 113) (.seq (.reg [⟨some 114, none, .mov (.t 16)⟩, ⟨some 115, none, .mov (.t 18)⟩, ⟨some 116, none, .bin .geq 3 (.t 114) (.t 115)⟩, ⟨some 8, none, .mov (.t 116)⟩]) (.seq (.reg [⟨some 117, none, .mov (.t 0)⟩, ⟨some 118, none, .mov (.t 1)⟩, ⟨some 119, none, .mov (.t 14)⟩, ⟨some 120, none, .mov (.t 3)⟩, ⟨some 121, none, .call 202 [.t 117, .t 118, .t 119, .t 120]⟩]) (.reg [⟨some 122, none, .mov (.t 14)⟩, ⟨some 123, none, .bin .add 3 (.t 122) (.c (.int .i64 1))⟩, ⟨some 1, none, .mov (.t 123)⟩]))) (.seq (.reg [⟨some 124, none, .mov (.t 17)⟩, ⟨some 125, none, .mov (.t 18)⟩, ⟨some 126, none, .bin .geq 3 (.t 124) (.t 125)⟩, ⟨some 8, none, .mov (.t 126)⟩]) (.seq (.reg [⟨some 127, none, .mov (.t 0)⟩, ⟨some 128, none, .mov (.t 14)⟩, ⟨some 129, none, .bin .add 3 (.t 128) (.c (.int .i64 1))⟩, ⟨some 130, none, .mov (.t 2)⟩, ⟨some 131, none, .mov (.t 3)⟩, ⟨some 132, none, .call 202 [.t 127, .t 129, .t 130, .t 131]⟩]) (.reg [⟨some 133, none, .mov (.t 14)⟩, ⟨some 2, none, .mov (.t 133)⟩])))))))))))))))))))))
theorem code_slices_pdqsortOrdered_int_ : fnC Tryz.prog Tryz.f202 = some (c_slices_pdqsortOrdered_int_, [], 134) := by kernel_rfl
def c_slices_Sort_int_int_ : C := .seq (.reg [⟨some 3, none, .mov (.t 0)⟩, ⟨some 4, none, .len false (.t 3)⟩, ⟨some 2, none, .mov (.t 4)⟩]) (.reg [⟨some 5, none, .mov (.t 0)⟩, ⟨some 6, none, .mov (.t 2)⟩, ⟨some 7, none, .mov (.t 2)⟩, ⟨some 8, none, .cv (.num .u64) 0 (.t 7)⟩, ⟨some 9, none, .call 203 [.t 8]⟩, ⟨some 10, none, .call 202 [.t 5, .c (.int .i64 0), .t 6, .t 9]⟩])
theorem code_slices_Sort_int_int_ : fnC Tryz.prog Tryz.f172 = some (c_slices_Sort_int_int_, [], 11) := by kernel_rfl
def c_math_bits_Len : C := .seq (.reg [⟨some 2, none, .mov (.c (.int .i64 0))⟩]) (.seq (.cond (.c (.bool false)) (.seq (.reg [⟨some 3, none, .mov (.t 0)⟩, ⟨some 4, none, .cv (.num .u32) 0 (.t 3)⟩, ⟨some 5, none, .call 223 [.t 4]⟩, ⟨some 2, none, .mov (.t 5)⟩]) .ret) .skip) (.seq (.reg [⟨some 6, none, .mov (.t 0)⟩, ⟨some 7, none, .call 224 [.t 6]⟩, ⟨some 2, none, .mov (.t 7)⟩]) .ret))
theorem code_math_bits_Len : fnC Tryz.prog Tryz.f203 = some (c_math_bits_Len, [.t 2], 8) := by kernel_rfl
def lenTab : ByteArray := ⟨(([0, 1] : List UInt8) ++ List.replicate 2 2 ++ List.replicate 4 3 ++ List.replicate 8 4 ++ List.replicate 16 5 ++ List.replicate 32 6 ++ List.replicate 64 7 ++ List.replicate 128 8).toArray⟩
def c_math_bits_Len64 : C := .seq (.reg [⟨some 2, none, .mov (.c (.int .i64 0))⟩]) (.seq (.seq (.reg [⟨some 3, none, .mov (.t 0)⟩, ⟨some 4, none, .bin .geq 236 (.t 3) (.c (.int .u64 4294967296))⟩]) (.cond (.t 4) (.seq (.reg [⟨some 5, none, .mov (.t 0)⟩, ⟨some 6, none, .bin .shr 236 (.t 5) (.c (.int .u64 32))⟩, ⟨some 0, none, .mov (.t 6)⟩]) (.reg [⟨some 2, none, .mov (.c (.int .i64 32))⟩])) .skip)) (.seq (.seq (.reg [⟨some 7, none, .mov (.t 0)⟩, ⟨some 8, none, .bin .geq 236 (.t 7) (.c (.int .u64 65536))⟩]) (.cond (.t 8) (.seq (.reg [⟨some 9, none, .mov (.t 0)⟩, ⟨some 10, none, .bin .shr 236 (.t 9) (.c (.int .u64 16))⟩, ⟨some 0, none, .mov (.t 10)⟩]) (.reg [⟨some 11, none, .mov (.t 2)⟩, ⟨some 12, none, .bin .add 3 (.t 11) (.c (.int .i64 16))⟩, ⟨some 2, none, .mov (.t 12)⟩])) .skip)) (.seq (.seq (.reg [⟨some 13, none, .mov (.t 0)⟩, ⟨some 14, none, .bin .geq 236 (.t 13) (.c (.int .u64 256))⟩]) (.cond (.t 14) (.seq (.reg [⟨some 15, none, .mov (.t 0)⟩, ⟨some 16, none, .bin .shr 236 (.t 15) (.c (.int .u64 8))⟩, ⟨some 0, none, .mov (.t 16)⟩]) (.reg [⟨some 17, none, .mov (.t 2)⟩, ⟨some 18, none, .bin .add 3 (.t 17) (.c (.int .i64 8))⟩, ⟨some 2, none, .mov (.t 18)⟩])) .skip)) (.seq (.reg [⟨some 19, none, .mov (.t 2)⟩, ⟨some 20, none, .mov (.t 0)⟩, ⟨some 21, none, .cv (.num .u8) 0 (.t 20)⟩, ⟨some 22, none, .sidx (.c (.string lenTab)) (.t 21)⟩, ⟨some 23, none, .cv (.num .i64) 0 (.t 22)⟩, ⟨some 24, none, .bin .add 3 (.t 19) (.t 23)⟩, ⟨some 2, none, .mov (.t 24)⟩]) .ret))))
theorem code_math_bits_Len64 : fnC Tryz.prog Tryz.f224 = some (c_math_bits_Len64, [.t 2], 25) := by kernel_rfl
theorem p_isNaN (a : Int) : Pure Tryz.prog 233 [.c (.val (.int .i64 a))] (.c (.val (.bool false))) := by
  refine pure_fn Tryz.func233 code_cmp_isNaN_int_ (by simp) ?_
  unfold c_cmp_isNaN_int_
  simp -implicitDefEqProofs only [go_sem, bne_self_eq_false]
theorem p_less (a b : Int) : Pure Tryz.prog 220 [.c (.val (.int .i64 a)), .c (.val (.int .i64 b))] (.c (.val (.bool (decide (a < b))))) := by
  refine pure_fn Tryz.func220 code_cmp_Less_int_ (by simp) ?_
  unfold c_cmp_Less_int_
  simp -implicitDefEqProofs only [go_sem]
  refine run_call (p_isNaN a) (by simp -implicitDefEqProofs only [go_sem]) fun η => ?_
  simp -implicitDefEqProofs only [go_sem]
def up1 (o : Nat → Ob) (g : Nat) (ob : Ob) : Nat → Ob := fun k => if k = g then ob else o k
theorem up1_at (o : Nat → Ob) (g : Nat) (ob : Ob) : up1 o g ob g = ob := by simp [up1]
theorem up1_up1 (o : Nat → Ob) (g : Nat) (a b : Ob) : (fun k => if k = g then b else up1 o g a k) = up1 o g b := by funext k; simp only [up1]; split <;> rfl
theorem up1_is {o : Nat → Ob} {g : Nat} {ob : Ob} (h : o g = ob) : o = up1 o g ob := by
  funext k
  simp only [up1]
  split
  · rename_i e; rw [e, h]
  · rfl
theorem setO_up1 (s : St) (g : Nat) (ob : Ob) : (s.setO g ob).o = up1 s.o g ob := rfl
theorem up1_2 (o : Nat → Ob) (g : Nat) (a b : Ob) : up1 (up1 o g a) g b = up1 o g b := up1_up1 o g a b
theorem put_o' (s : St) (d : Option Nat) (v : AV) : (s.put d v).o = s.o := by cases d <;> rfl
set_option maxHeartbeats 4000000 in
theorem inl_insert (A : List Int) (hA : A.length ≤ 12) (o : Nat → Ob) (g : Nat) (η : Heads) (ho : o g = .loose (encInts A) η) : Inl Tryz.prog 214 [Hd g η, Ni 0, Ni A.length] o (fun av o' => av = .tup [] ∧ ∃ (l : List Int) (i : Nat), o' = up1 o g (.loose (encInts l) η) ∧ SO A l i ∧ A.length ≤ i) := by
  refine inl_fn (β := 0) Tryz.func214 code_slices_insertionSortOrdered_int_ (by simp) ?_
  unfold c_slices_insertionSortOrdered_int_
  simp -implicitDefEqProofs only [go_sem]
  refine wp_loop_ (fun s => ∃ (l : List Int) (i : Nat), 1 ≤ i ∧ (i ≤ A.length ∨ i = 1) ∧ SO A l i ∧ s.t 0 = Hd g η ∧ s.t 1 = Ni 0 ∧ s.t 2 = Ni A.length ∧ s.t 6 = Ni i ∧ s.o = up1 o g (.loose (encInts l) η)) (fun s => A.length - s.n 6) ?_ ?_
  · exact ⟨A, 1, by omega, .inr rfl, SO_1 A, by simp -implicitDefEqProofs only [go_sem] <;> rfl, by simp -implicitDefEqProofs only [go_sem] <;> rfl, by simp -implicitDefEqProofs only [go_sem] <;> rfl, by simp -implicitDefEqProofs only [go_sem] <;> rfl, up1_is ho⟩
  · rintro s ⟨l, i, hi, hi2, hso, h0, h1, h2, h6, hob⟩
    have hm : s.n 6 = i := st_n h6
    rw [hm]
    by_cases hlt : i < A.length
    · have hlt' : (i : Int) < A.length := by omega
      have hw : IntKind.i64.wrap ((i : Int) + 1) = ((i + 1 : Nat) : Int) := wrap64 (by omega) (by omega)
      have hll := hso.1.length_eq
      simp -implicitDefEqProofs only [go_sem, h0, h1, h2, h6, hob, hlt']
      refine wp_loop_ (fun s => ∃ (l : List Int) (j : Nat), SI A l i j ∧ s.t 0 = Hd g η ∧ s.t 1 = Ni 0 ∧ s.t 2 = Ni A.length ∧ s.t 6 = Ni i ∧ s.t 7 = Ni j ∧ s.o = up1 o g (.loose (encInts l) η)) (fun s => s.n 7) ?_ ?_
      · exact ⟨l, i, SI_0 hso, by simp -implicitDefEqProofs only [go_sem, h0, h1, h2, h6, hob] <;> rfl, by simp -implicitDefEqProofs only [go_sem, h0, h1, h2, h6, hob] <;> rfl, by simp -implicitDefEqProofs only [go_sem, h0, h1, h2, h6, hob] <;> rfl, by simp -implicitDefEqProofs only [go_sem, h0, h1, h2, h6, hob] <;> rfl, by simp -implicitDefEqProofs only [go_sem, h0, h1, h2, h6, hob] <;> rfl, hob⟩
      · clear h0 h1 h2 h6 hob hso hll hm
        rintro s ⟨l, j, hsi, h0, h1, h2, h6, h7, hob⟩
        have hll := hsi.1.length_eq
        have hji := hsi.2.1
        have hm : s.n 7 = j := st_n h7
        rw [hm]
        cases j with
        | zero =>
          simp -implicitDefEqProofs only [go_sem, h0, h1, h2, h6, h7, hob, hw]
          refine ⟨⟨l, i + 1, by omega, .inl (by omega), SI_end hsi (.inl rfl), rfl, ?_⟩, ?_⟩
          · exact hob
          · rw [st_n (k := .i64) (n := ((i + 1 : Nat) : Int)) (by simp -implicitDefEqProofs only [go_sem])]; omega
        | succ j =>
          have hj0 : ((j + 1 : Nat) : Int) > 0 := by omega
          have hw2 : IntKind.i64.wrap (((j + 1 : Nat) : Int) - 1) = (j : Int) := by rw [wrap64 (by omega) (by omega)]; omega
          have hg1 : l[j + 1]? = some (l.getD (j + 1) 0) := by rw [List.getD_eq_getElem?_getD, List.getElem?_eq_getElem (by omega)]; rfl
          have hg0 : l[j]? = some (l.getD j 0) := by rw [List.getD_eq_getElem?_getD, List.getElem?_eq_getElem (by omega)]; rfl
          have hj1 : j + 1 < l.length := by omega
          have hj2 : j < l.length := by omega
          simp -implicitDefEqProofs only [go_sem, h0, h1, h2, h6, h7, hob, hj0, hw2, at_encInts hg1, at_encInts hg0, up1_at, hj1, hj2, in_encInts hj1, in_encInts hj2]
          refine run_call (p_less (l.getD (j + 1) 0) (l.getD j 0)) (by simp -implicitDefEqProofs only [go_sem, h0, h1, h2, h6, h7, hob, hj0, hw2]) fun η => ?_
          simp -implicitDefEqProofs only [go_sem, h0, h1, h2, h6, h7, hob, hj0, hw2]
          by_cases hc : l.getD (j + 1) 0 < l.getD j 0
          · have hs2 : j < (l.set (j + 1) (l.getD j 0)).length := by rw [List.length_set]; exact hj2
            have hst : (l.set (j + 1) (l.getD j 0)).set j (l.getD (j + 1) 0) = swp l j := rfl
            simp -implicitDefEqProofs only [go_sem, h0, h1, h2, h6, h7, hob, hj0, hw2, hc, at_encInts hg1, at_encInts hg0, up1_at, hj1, hj2, in_encInts hj1, in_encInts hj2, put_encInts _ hj1, put_encInts _ hs2, in_encInts hs2, hs2, hst]
            refine ⟨⟨swp l j, j, SI_swp hsi (by omega) hc, ?_⟩, ?_⟩
            · refine ⟨rfl, ?_⟩
              simp only [put_o', setO_up1, hob, up1_2]
            · rw [st_n (k := .i64) (n := ((j : Nat) : Int)) (by simp -implicitDefEqProofs only [go_sem])]; omega
          · simp -implicitDefEqProofs only [go_sem, h0, h1, h2, h6, h7, hob, hj0, hw, hc]
            refine ⟨⟨l, i + 1, by omega, .inl (by omega), SI_end hsi (.inr ⟨j, rfl, by omega⟩), rfl, ?_⟩, ?_⟩
            · exact hob
            · rw [st_n (k := .i64) (n := ((i + 1 : Nat) : Int)) (by simp -implicitDefEqProofs only [go_sem])]; omega
    · have hlt' : ¬ (i : Int) < A.length := by omega
      simp -implicitDefEqProofs only [go_sem, h0, h1, h2, h6, hob, hlt']
      exact ⟨l, i, hob, hso, by omega⟩
end Go.Proofs.YtnhdcbhcocgjhaaGreat
set_option linter.unusedSimpArgs false
set_option linter.unusedVariables false
set_option maxRecDepth 100000
namespace Go.Proofs.YtnhdcbhcocgjhaaGreat
open Go.RowKit Go.Sort
theorem inl_mono {P : Program} {f : FuncId} {args : List AV} {o : Nat → Ob} {R R' : AV → (Nat → Ob) → Prop} (h : Inl P f args o R) (hR : ∀ av o', R av o' → R' av o') : Inl P f args o R' :=
  ⟨h.1, fun B w F xs h1 h2 => (h.2 B w F xs h1 h2).mono fun e w' ⟨v, av, o', F', k1, k2, k3, k4⟩ => ⟨v, av, o', F', k1, k2, k3, hR _ _ k4⟩⟩
theorem wp_cf {P : Program} {β : Nat} {s : St} {Q : Ex → St → Prop} {a b : C} : wpC P β (.cond (.c (.bool false)) a b) Q s = wpC P β b Q s := by
  apply propext
  constructor
  · rintro ⟨t, h1, h2, h3⟩
    have : t = false := by cases t <;> first | rfl | cases h1
    exact h3 this
  · exact fun h => ⟨false, rfl, fun h' => (by cases h'), fun _ => h⟩
def lenB (n : Nat) : Int := [0, 1, 2, 2, 3, 3, 3, 3, 4, 4, 4, 4, 4].getD n 0
set_option maxHeartbeats 4000000 in
theorem p_bitsLen64 (n : Nat) (hn : n ≤ 12) : Pure Tryz.prog 224 [.c (.val (.int .u64 n))] (.c (.val (.int .i64 (lenB n)))) := by
  refine pure_fn Tryz.func224 code_math_bits_Len64 (by simp) ?_
  have : n = 0 ∨ n = 1 ∨ n = 2 ∨ n = 3 ∨ n = 4 ∨ n = 5 ∨ n = 6 ∨ n = 7 ∨ n = 8 ∨ n = 9 ∨ n = 10 ∨ n = 11 ∨ n = 12 := by omega
  unfold c_math_bits_Len64
  rcases this with rfl | rfl | rfl | rfl | rfl | rfl | rfl | rfl | rfl | rfl | rfl | rfl | rfl
  all_goals
    simp -implicitDefEqProofs only [go_sem]
    exact ⟨_, rfl, rfl⟩
theorem p_bitsLen (n : Nat) (hn : n ≤ 12) : Pure Tryz.prog 203 [.c (.val (.int .u64 n))] (.c (.val (.int .i64 (lenB n)))) := by
  refine pure_fn Tryz.func203 code_math_bits_Len (by simp) ?_
  unfold c_math_bits_Len
  simp -implicitDefEqProofs only [go_sem, wp_cf]
  refine run_call (p_bitsLen64 n hn) (by simp -implicitDefEqProofs only [go_sem]) fun η => ?_
  simp -implicitDefEqProofs only [go_sem]
set_option maxHeartbeats 4000000 in
theorem inl_pdq (A : List Int) (hA : A.length ≤ 12) (o : Nat → Ob) (g : Nat) (η : Heads) (ho : o g = .loose (encInts A) η) (v : Int) : Inl Tryz.prog 202 [Hd g η, Ni 0, Ni A.length, Ni v] o (fun av o' => av = .tup [] ∧ ∃ (l : List Int) (i : Nat), o' = up1 o g (.loose (encInts l) η) ∧ SO A l i ∧ A.length ≤ i) := by
  refine inl_fn (β := 0) Tryz.func202 code_slices_pdqsortOrdered_int_ (by simp) ?_
  unfold c_slices_pdqsortOrdered_int_
  have h12 : (A.length : Int) ≤ 12 := by omega
  have hw : IntKind.i64.wrap ((A.length : Int) - 0) = (A.length : Int) := by rw [Int.sub_zero]; exact wrap64 (by omega) (by omega)
  simp -implicitDefEqProofs only [go_sem]
  refine wp_unroll 0 ?_
  simp -implicitDefEqProofs only [go_sem, hw, h12]
  refine run_inl (inl_mono (inl_insert A hA o g η ho) ?_)
  rintro av o' ⟨rfl, l, i, rfl, h1, h2⟩
  exact ⟨l, i, rfl, h1, h2⟩
set_option maxHeartbeats 4000000 in
theorem inl_sort (A : List Int) (hA : A.length ≤ 12) (o : Nat → Ob) (g : Nat) (η : Heads) (ho : o g = .loose (encInts A) η) : Inl Tryz.prog 172 [Hd g η] o (fun av o' => av = .tup [] ∧ ∃ (l : List Int) (i : Nat), o' = up1 o g (.loose (encInts l) η) ∧ SO A l i ∧ A.length ≤ i) := by
  refine inl_fn (β := 0) Tryz.func172 code_slices_Sort_int_int_ (by simp) ?_
  unfold c_slices_Sort_int_int_
  have hw : IntKind.u64.wrap (A.length : Int) = (A.length : Int) := by generalize A.length = n at hA; have : n = 0 ∨ n = 1 ∨ n = 2 ∨ n = 3 ∨ n = 4 ∨ n = 5 ∨ n = 6 ∨ n = 7 ∨ n = 8 ∨ n = 9 ∨ n = 10 ∨ n = 11 ∨ n = 12 := (by omega); rcases this with rfl | rfl | rfl | rfl | rfl | rfl | rfl | rfl | rfl | rfl | rfl | rfl | rfl <;> rfl
  simp -implicitDefEqProofs only [go_sem, ho, hw]
  refine run_call (p_bitsLen A.length hA) (by simp -implicitDefEqProofs only [go_sem]) fun η2 => ?_
  simp -implicitDefEqProofs only [go_sem]
  refine run_inl (inl_mono (inl_pdq A hA _ g η (by simp -implicitDefEqProofs only [go_sem, ho]) (lenB A.length)) ?_)
  rintro av o' ⟨rfl, l, i, rfl, h1, h2⟩
  exact ⟨l, i, rfl, h1, h2⟩
end Go.Proofs.YtnhdcbhcocgjhaaGreat
set_option linter.unusedSimpArgs false
set_option linter.unusedVariables false
set_option maxRecDepth 100000
namespace Go.Proofs.YtnhdcbhcocgjhaaGreat
open Go.RowKit Go.Sort
def c_spec_l06Before : C := .seq (.reg [⟨some 2, none, .box 77 5 (.t 0)⟩, ⟨some 4, none, .mov (.c (.slice none 0 0))⟩]) (.seq (.reg [⟨some 8, none, .bsl 3 1 0 [] []⟩, ⟨some 5, none, .mov (.t 8)⟩]) (.seq (.seq (.reg [⟨some 6, none, .mov (.c (.int .i64 0))⟩]) (.blk 0 (.loop (.seq (.seq (.reg [⟨some 9, none, .mov (.t 6)⟩, ⟨some 10, none, .fa 3 (.t 2)⟩, ⟨some 11, none, .ld false 1 (.t 10)⟩, ⟨some 12, none, .bin .lss 3 (.t 9) (.t 11)⟩]) (.cond (.t 12) .skip (.exit 0))) (.seq (.blk 1 (.seq (.reg [⟨some 7, none, .mov (.c (.int .i64 0))⟩]) (.blk 2 (.loop (.seq (.seq (.reg [⟨some 15, none, .mov (.t 7)⟩, ⟨some 16, none, .fa 4 (.t 2)⟩, ⟨some 17, none, .ld false 1 (.t 16)⟩, ⟨some 18, none, .len false (.t 17)⟩, ⟨some 19, none, .bin .lss 3 (.t 15) (.t 18)⟩]) (.cond (.t 19) .skip (.exit 2))) (.seq (.blk 3 (.seq (.reg [⟨some 22, none, .fa 4 (.t 2)⟩, ⟨some 23, none, .ld false 1 (.t 22)⟩, ⟨some 24, none, .mov (.t 7)⟩, ⟨some 25, none, .ia 2 (.t 23) (.t 24)⟩, ⟨some 26, none, .fa 0 (.t 25)⟩, ⟨some 27, none, .ld false 1 (.t 26)⟩, ⟨some 28, none, .mov (.t 6)⟩, ⟨some 29, none, .bin .eql 3 (.t 27) (.t 28)⟩, ⟨some 30, none, .mov (.t 29)⟩, ⟨some 31, some (30, true), .fa 4 (.t 2)⟩, ⟨some 32, some (30, true), .ld false 1 (.t 31)⟩, ⟨some 33, some (30, true), .mov (.t 7)⟩, ⟨some 34, some (30, true), .ia 2 (.t 32) (.t 33)⟩, ⟨some 35, some (30, true), .fa 1 (.t 34)⟩, ⟨some 36, some (30, true), .ld false 1 (.t 35)⟩, ⟨some 37, some (30, true), .mov (.t 1)⟩, ⟨some 38, some (30, true), .bin .eql 3 (.t 36) (.t 37)⟩, ⟨some 39, none, .pick (.t 30) (.t 38) (.c (.bool false))⟩]) (.cond (.t 39) (.reg [⟨some 40, none, .mov (.t 5)⟩, ⟨some 41, none, .mov (.t 6)⟩, ⟨some 42, none, .bsl 3 1 1 [none] [(0, 1, .t 41)]⟩, ⟨some 43, none, .app 3 1 8 (.t 40) (.t 42)⟩, ⟨some 5, none, .mov (.t 43)⟩]) .skip))) (.reg [⟨some 20, none, .mov (.t 7)⟩, ⟨some 21, none, .bin .add 3 (.t 20) (.c (.int .i64 1))⟩, ⟨some 7, none, .mov (.t 21)⟩]))))))) (.reg [⟨some 13, none, .mov (.t 6)⟩, ⟨some 14, none, .bin .add 3 (.t 13) (.c (.int .i64 1))⟩, ⟨some 6, none, .mov (.t 14)⟩])))))) (.seq (.reg [⟨some 44, none, .mov (.t 5)⟩, ⟨some 4, none, .mov (.t 44)⟩]) .ret)))
theorem code_spec_l06Before : fnC Tryz.prog Tryz.f208 = some (c_spec_l06Before, [.t 4], 45) := by kernel_rfl
def c_spec_l06Behind : C := .seq (.reg [⟨some 2, none, .box 77 5 (.t 0)⟩, ⟨some 4, none, .mov (.c (.slice none 0 0))⟩]) (.seq (.reg [⟨some 8, none, .bsl 3 1 0 [] []⟩, ⟨some 5, none, .mov (.t 8)⟩]) (.seq (.seq (.reg [⟨some 6, none, .mov (.c (.int .i64 0))⟩]) (.blk 0 (.loop (.seq (.seq (.reg [⟨some 9, none, .mov (.t 6)⟩, ⟨some 10, none, .fa 3 (.t 2)⟩, ⟨some 11, none, .ld false 1 (.t 10)⟩, ⟨some 12, none, .bin .lss 3 (.t 9) (.t 11)⟩]) (.cond (.t 12) .skip (.exit 0))) (.seq (.blk 1 (.seq (.reg [⟨some 7, none, .mov (.c (.int .i64 0))⟩]) (.blk 2 (.loop (.seq (.seq (.reg [⟨some 15, none, .mov (.t 7)⟩, ⟨some 16, none, .fa 4 (.t 2)⟩, ⟨some 17, none, .ld false 1 (.t 16)⟩, ⟨some 18, none, .len false (.t 17)⟩, ⟨some 19, none, .bin .lss 3 (.t 15) (.t 18)⟩]) (.cond (.t 19) .skip (.exit 2))) (.seq (.blk 3 (.seq (.reg [⟨some 22, none, .fa 4 (.t 2)⟩, ⟨some 23, none, .ld false 1 (.t 22)⟩, ⟨some 24, none, .mov (.t 7)⟩, ⟨some 25, none, .ia 2 (.t 23) (.t 24)⟩, ⟨some 26, none, .fa 0 (.t 25)⟩, ⟨some 27, none, .ld false 1 (.t 26)⟩, ⟨some 28, none, .mov (.t 1)⟩, ⟨some 29, none, .bin .eql 3 (.t 27) (.t 28)⟩, ⟨some 30, none, .mov (.t 29)⟩, ⟨some 31, some (30, true), .fa 4 (.t 2)⟩, ⟨some 32, some (30, true), .ld false 1 (.t 31)⟩, ⟨some 33, some (30, true), .mov (.t 7)⟩, ⟨some 34, some (30, true), .ia 2 (.t 32) (.t 33)⟩, ⟨some 35, some (30, true), .fa 1 (.t 34)⟩, ⟨some 36, some (30, true), .ld false 1 (.t 35)⟩, ⟨some 37, some (30, true), .mov (.t 6)⟩, ⟨some 38, some (30, true), .bin .eql 3 (.t 36) (.t 37)⟩, ⟨some 39, none, .pick (.t 30) (.t 38) (.c (.bool false))⟩]) (.cond (.t 39) (.reg [⟨some 40, none, .mov (.t 5)⟩, ⟨some 41, none, .mov (.t 6)⟩, ⟨some 42, none, .bsl 3 1 1 [none] [(0, 1, .t 41)]⟩, ⟨some 43, none, .app 3 1 8 (.t 40) (.t 42)⟩, ⟨some 5, none, .mov (.t 43)⟩]) .skip))) (.reg [⟨some 20, none, .mov (.t 7)⟩, ⟨some 21, none, .bin .add 3 (.t 20) (.c (.int .i64 1))⟩, ⟨some 7, none, .mov (.t 21)⟩]))))))) (.reg [⟨some 13, none, .mov (.t 6)⟩, ⟨some 14, none, .bin .add 3 (.t 13) (.c (.int .i64 1))⟩, ⟨some 6, none, .mov (.t 14)⟩])))))) (.seq (.reg [⟨some 44, none, .mov (.t 5)⟩, ⟨some 4, none, .mov (.t 44)⟩]) .ret)))
theorem code_spec_l06Behind : fnC Tryz.prog Tryz.f109 = some (c_spec_l06Behind, [.t 4], 45) := by kernel_rfl
def c_impl_BeforeOf : C := .seq (.reg [⟨some 2, none, .box 77 5 (.t 0)⟩, ⟨some 4, none, .mov (.c (.slice none 0 0))⟩]) (.seq (.seq (.reg [⟨some 8, none, .ld true 5 (.t 2)⟩, ⟨some 9, none, .call 171 [.t 8]⟩, ⟨some 10, none, .bin .neq 3 (.t 9) (.c (.int .i64 0))⟩]) (.cond (.t 10) (.seq (.reg [⟨some 4, none, .mov (.c (.slice none 0 0))⟩]) .ret) .skip)) (.seq (.reg [⟨some 5, none, .mov (.c (.slice none 0 0))⟩]) (.seq (.seq (.reg [⟨some 11, none, .fa 4 (.t 2)⟩, ⟨some 12, none, .ld false 1 (.t 11)⟩, ⟨some 13, none, .len false (.t 12)⟩, ⟨some 14, none, .mov (.c (.int .i64 0))⟩]) (.blk 0 (.loop (.seq (.reg [⟨some 15, none, .bin .lss 3 (.t 14) (.t 13)⟩]) (.seq (.cond (.t 15) .skip (.exit 0)) (.seq (.blk 1 (.seq (.reg [⟨some 16, none, .ia 2 (.t 12) (.t 14)⟩, ⟨some 17, none, .ld true 2 (.t 16)⟩, ⟨some 7, none, .alloc 182 [.int .i64 0, .int .i64 0]⟩, ⟨none, none, .st 2 [none, none] (.t 7) (.t 17)⟩]) (.seq (.reg [⟨some 18, none, .fa 1 (.t 7)⟩, ⟨some 19, none, .ld false 1 (.t 18)⟩, ⟨some 20, none, .mov (.t 1)⟩, ⟨some 21, none, .bin .eql 3 (.t 19) (.t 20)⟩]) (.cond (.t 21) (.reg [⟨some 22, none, .mov (.t 5)⟩, ⟨some 23, none, .fa 0 (.t 7)⟩, ⟨some 24, none, .ld false 1 (.t 23)⟩, ⟨some 25, none, .bsl 3 1 1 [none] [(0, 1, .t 24)]⟩, ⟨some 26, none, .app 3 1 8 (.t 22) (.t 25)⟩, ⟨some 5, none, .mov (.t 26)⟩]) .skip)))) (.reg [⟨some 27, none, .bin .add 3 (.t 14) (.c (.int .i64 1))⟩, ⟨some 14, none, .mov (.t 27)⟩]))))))) (.seq (.reg [⟨some 28, none, .mov (.t 5)⟩, ⟨some 29, none, .call 172 [.t 28]⟩]) (.seq (.reg [⟨some 30, none, .mov (.t 5)⟩, ⟨some 4, none, .mov (.t 30)⟩]) .ret)))))
theorem code_impl_BeforeOf : fnC Tryz.prog Tryz.f226 = some (c_impl_BeforeOf, [.t 4], 31) := by kernel_rfl
theorem srtL_le (A : List Int) : ∀ n : Nat, (srtL n A).length ≤ n * A.length
  | 0 => by simp [srtL]
  | n + 1 => by
    rw [srtL_succ, List.length_append, List.length_replicate, Nat.succ_mul]
    have := srtL_le A n
    have := List.count_le_length (a := (n : Int)) (l := A)
    omega
/-- The numbers below x, in order, and x, as often as among the first j. -/
def rowG (F : List Ed → List Int) (es : List Ed) (x j : Nat) : List Int := srtL x (F es) ++ List.replicate ((F (es.take j)).count (x : Int)) (x : Int)
section
variable {F : List Ed → List Int} {es : List Ed} {x j : Nat}
theorem rowG_0 (h : F [] = []) : rowG F es x 0 = srtL x (F es) := by simp [rowG, h]
theorem rowG_end : rowG F es x es.length = srtL (x + 1) (F es) := by simp [rowG, srtL_succ]
theorem rowG_yes (h : (F (es.take (j + 1))).count (x : Int) = (F (es.take j)).count (x : Int) + 1) : rowG F es x (j + 1) = rowG F es x j ++ [(x : Int)] := by simp only [rowG, h, List.replicate_succ', List.append_assoc]
theorem rowG_no (h : (F (es.take (j + 1))).count (x : Int) = (F (es.take j)).count (x : Int)) : rowG F es x (j + 1) = rowG F es x j := by simp only [rowG, h]
theorem rowG_len (hF : ∀ l : List Ed, (F l).length ≤ l.length) (hx : x ≤ 12) (he : es.length ≤ 30) : (rowG F es x j).length ≤ 1000 := by
  have h1 := srtL_le (F es) x
  have h2 := List.count_le_length (a := (x : Int)) (l := F (es.take j))
  have h3 := hF es
  have h4 := hF (es.take j)
  rw [List.length_take] at h4
  have h5 : x * (F es).length ≤ 12 * 30 := Nat.mul_le_mul hx (by omega)
  simp only [rowG, List.length_append, List.length_replicate]
  omega
end
theorem befA_le (l : List Ed) (t : Int) : (befA l t).length ≤ l.length := by simp only [befA, List.length_map]; exact List.length_filter_le _ _
theorem behA_le (l : List Ed) (t : Int) : (behA l t).length ≤ l.length := by simp only [behA, List.length_map]; exact List.length_filter_le _ _
set_option maxHeartbeats 4000000 in
theorem p_spec_l06Before (p : Pl) (t : Int) (n : Nat) (hn : p.tasks = n) (h12 : n ≤ 12) (h30 : p.edges.length ≤ 30) : Pure Tryz.prog 208 [.agg (encPl p), .c (.val (.int .i64 t))] (.c (encInts (befL p t))) := by
  refine pure_fn Tryz.func208 code_spec_l06Before (by simp) ?_
  unfold c_spec_l06Before
  simp -implicitDefEqProofs only [go_sem, encPl]
  intro b η0
  refine wp_loopW (fun i : Nat × Heads => St.of [(1, Ni t), (2, Bx 200 b), (5, Hd 5 i.2), (6, Ni i.1)] [(200, Bi b _ (encPl p)), (5, .loose (encInts (srtL i.1 (befA p.edges t))) i.2)]) (fun i => i.1 ≤ n) (fun i => n - i.1) (0, η0) (by (try dsimp only); first | omega | (simp; done) | (and_intros <;> first | omega | simp)) (wk_of [some 200, some 800] (by simp -implicitDefEqProofs only [go_sem, encPl, srtL_0] <;> and_intros <;> first | rfl | assumption)) ?_
  rintro ⟨x, η1⟩ hx
  dsimp only at hx
  by_cases hlt : x < n
  · have hlt' : (x : Int) < n := by omega
    have hw : IntKind.i64.wrap ((x : Int) + 1) = ((x + 1 : Nat) : Int) := wrap64 (by omega) (by omega)
    have h0 := rowG_0 (F := fun l => befA l t) (es := p.edges) (x := x) rfl
    have he := rowG_end (F := fun l => befA l t) (es := p.edges) (x := x)
    simp -implicitDefEqProofs only [go_sem, encPl, hn, hlt']
    refine wp_loopW (fun i : Nat × Heads => St.of [(1, Ni t), (2, Bx 200 b), (5, Hd 5 i.2), (6, Ni x), (7, Ni i.1)] [(200, Bi b _ (encPl p)), (5, .loose (encInts (rowG (fun l => befA l t) p.edges x i.1)) i.2)]) (fun i => i.1 ≤ p.edges.length) (fun i => p.edges.length - i.1) (0, η1) (by (try dsimp only); first | omega | (simp; done) | (and_intros <;> first | omega | simp)) (wk_of [some 200, some 5] (by simp -implicitDefEqProofs only [go_sem, encPl, hn, h0] <;> and_intros <;> first | rfl | assumption)) ?_
    rintro ⟨j, η2⟩ hj
    dsimp only at hj
    by_cases hjt : j < p.edges.length
    · have hjt' : (j : Int) < p.edges.length := by omega
      obtain ⟨e, hee⟩ := get_some hjt
      have hwj : IntKind.i64.wrap ((j : Int) + 1) = ((j + 1 : Nat) : Int) := wrap64 (by omega) (by omega)
      have hc := befA_count hee x t
      have hle := rowG_len (F := fun l => befA l t) (es := p.edges) (x := x) (j := j) (fun l => befA_le l t) (by omega) h30
      have hm1 : (rowG (fun l => befA l t) p.edges x j).length + 1 ≤ maxLen := by unfold maxLen; omega
      have hm2 : ((rowG (fun l => befA l t) p.edges x j).length + 1) * 8 ≤ 140737488355328 := by omega
      by_cases h1 : e.src = x
      · by_cases h2 : e.dst = t
        · have hs := rowG_yes (F := fun l => befA l t) (es := p.edges) (x := x) (j := j) (by rw [hc, if_pos ⟨h1, h2⟩])
          have h1' : (e.src == (x : Int)) = true := by simpa using h1
          have h2' : (e.dst == t) = true := by simpa using h2
          generalize rowG (fun l => befA l t) p.edges x j = R at *
          simp -implicitDefEqProofs only [go_sem, encPl, hn, hjt, hjt', elem_encEds hee, encEd, h1', h2', hwj, hm1, hm2, ints_snoc1]
          intro η3 η4
          exact ⟨(j + 1, η4), by (try dsimp only); first | omega | assumption | (and_intros <;> first | omega | assumption), (wk_of [some 200, some 4300] (by simp -implicitDefEqProofs only [go_sem, encPl, hn, hs] <;> and_intros <;> first | rfl | assumption)), by (try dsimp only); omega⟩
        · have hs := rowG_no (F := fun l => befA l t) (es := p.edges) (x := x) (j := j) (by rw [hc, if_neg (fun h => h2 h.2)]; rfl)
          have h1' : (e.src == (x : Int)) = true := by simpa using h1
          have h2' : (e.dst == t) = false := by simpa using h2
          simp -implicitDefEqProofs only [go_sem, encPl, hn, hjt, hjt', elem_encEds hee, encEd, h1', h2', hwj]
          exact ⟨(j + 1, η2), by (try dsimp only); first | omega | assumption | (and_intros <;> first | omega | assumption), (wk_of [some 200, some 5] (by simp -implicitDefEqProofs only [go_sem, encPl, hn, hs] <;> and_intros <;> first | rfl | assumption)), by (try dsimp only); omega⟩
      · have hs := rowG_no (F := fun l => befA l t) (es := p.edges) (x := x) (j := j) (by rw [hc, if_neg (fun h => h1 h.1)]; rfl)
        have h1' : (e.src == (x : Int)) = false := by simpa using h1
        simp -implicitDefEqProofs only [go_sem, encPl, hn, hjt, hjt', elem_encEds hee, encEd, h1', hwj]
        exact ⟨(j + 1, η2), by (try dsimp only); first | omega | assumption | (and_intros <;> first | omega | assumption), (wk_of [some 200, some 5] (by simp -implicitDefEqProofs only [go_sem, encPl, hn, hs] <;> and_intros <;> first | rfl | assumption)), by (try dsimp only); omega⟩
    · have hjt' : ¬ (j : Int) < p.edges.length := by omega
      obtain rfl : j = p.edges.length := by omega
      simp -implicitDefEqProofs only [go_sem, encPl, hn, hjt', hw]
      exact ⟨(x + 1, η2), by (try dsimp only); first | omega | assumption | (and_intros <;> first | omega | assumption), (wk_of [some 200, some 5] (by simp -implicitDefEqProofs only [go_sem, encPl, hn, he] <;> and_intros <;> first | rfl | assumption)), by (try dsimp only); omega⟩
  · have hlt' : ¬ (x : Int) < n := by omega
    obtain rfl : x = n := by omega
    simp -implicitDefEqProofs only [go_sem, encPl, hn, hlt', befL, Int.toNat_natCast]
set_option maxHeartbeats 4000000 in
theorem p_spec_l06Behind (p : Pl) (t : Int) (n : Nat) (hn : p.tasks = n) (h12 : n ≤ 12) (h30 : p.edges.length ≤ 30) : Pure Tryz.prog 109 [.agg (encPl p), .c (.val (.int .i64 t))] (.c (encInts (behL p t))) := by
  refine pure_fn Tryz.func109 code_spec_l06Behind (by simp) ?_
  unfold c_spec_l06Behind
  simp -implicitDefEqProofs only [go_sem, encPl]
  intro b η0
  refine wp_loopW (fun i : Nat × Heads => St.of [(1, Ni t), (2, Bx 200 b), (5, Hd 5 i.2), (6, Ni i.1)] [(200, Bi b _ (encPl p)), (5, .loose (encInts (srtL i.1 (behA p.edges t))) i.2)]) (fun i => i.1 ≤ n) (fun i => n - i.1) (0, η0) (by (try dsimp only); first | omega | (simp; done) | (and_intros <;> first | omega | simp)) (wk_of [some 200, some 800] (by simp -implicitDefEqProofs only [go_sem, encPl, srtL_0] <;> and_intros <;> first | rfl | assumption)) ?_
  rintro ⟨x, η1⟩ hx
  dsimp only at hx
  by_cases hlt : x < n
  · have hlt' : (x : Int) < n := by omega
    have hw : IntKind.i64.wrap ((x : Int) + 1) = ((x + 1 : Nat) : Int) := wrap64 (by omega) (by omega)
    have h0 := rowG_0 (F := fun l => behA l t) (es := p.edges) (x := x) rfl
    have he := rowG_end (F := fun l => behA l t) (es := p.edges) (x := x)
    simp -implicitDefEqProofs only [go_sem, encPl, hn, hlt']
    refine wp_loopW (fun i : Nat × Heads => St.of [(1, Ni t), (2, Bx 200 b), (5, Hd 5 i.2), (6, Ni x), (7, Ni i.1)] [(200, Bi b _ (encPl p)), (5, .loose (encInts (rowG (fun l => behA l t) p.edges x i.1)) i.2)]) (fun i => i.1 ≤ p.edges.length) (fun i => p.edges.length - i.1) (0, η1) (by (try dsimp only); first | omega | (simp; done) | (and_intros <;> first | omega | simp)) (wk_of [some 200, some 5] (by simp -implicitDefEqProofs only [go_sem, encPl, hn, h0] <;> and_intros <;> first | rfl | assumption)) ?_
    rintro ⟨j, η2⟩ hj
    dsimp only at hj
    by_cases hjt : j < p.edges.length
    · have hjt' : (j : Int) < p.edges.length := by omega
      obtain ⟨e, hee⟩ := get_some hjt
      have hwj : IntKind.i64.wrap ((j : Int) + 1) = ((j + 1 : Nat) : Int) := wrap64 (by omega) (by omega)
      have hc := behA_count hee x t
      have hle := rowG_len (F := fun l => behA l t) (es := p.edges) (x := x) (j := j) (fun l => behA_le l t) (by omega) h30
      have hm1 : (rowG (fun l => behA l t) p.edges x j).length + 1 ≤ maxLen := by unfold maxLen; omega
      have hm2 : ((rowG (fun l => behA l t) p.edges x j).length + 1) * 8 ≤ 140737488355328 := by omega
      by_cases h1 : e.src = t
      · by_cases h2 : e.dst = x
        · have hs := rowG_yes (F := fun l => behA l t) (es := p.edges) (x := x) (j := j) (by rw [hc, if_pos ⟨h1, h2⟩])
          have h1' : (e.src == t) = true := by simpa using h1
          have h2' : (e.dst == (x : Int)) = true := by simpa using h2
          generalize rowG (fun l => behA l t) p.edges x j = R at *
          simp -implicitDefEqProofs only [go_sem, encPl, hn, hjt, hjt', elem_encEds hee, encEd, h1', h2', hwj, hm1, hm2, ints_snoc1]
          intro η3 η4
          exact ⟨(j + 1, η4), by (try dsimp only); first | omega | assumption | (and_intros <;> first | omega | assumption), (wk_of [some 200, some 4300] (by simp -implicitDefEqProofs only [go_sem, encPl, hn, hs] <;> and_intros <;> first | rfl | assumption)), by (try dsimp only); omega⟩
        · have hs := rowG_no (F := fun l => behA l t) (es := p.edges) (x := x) (j := j) (by rw [hc, if_neg (fun h => h2 h.2)]; rfl)
          have h1' : (e.src == t) = true := by simpa using h1
          have h2' : (e.dst == (x : Int)) = false := by simpa using h2
          simp -implicitDefEqProofs only [go_sem, encPl, hn, hjt, hjt', elem_encEds hee, encEd, h1', h2', hwj]
          exact ⟨(j + 1, η2), by (try dsimp only); first | omega | assumption | (and_intros <;> first | omega | assumption), (wk_of [some 200, some 5] (by simp -implicitDefEqProofs only [go_sem, encPl, hn, hs] <;> and_intros <;> first | rfl | assumption)), by (try dsimp only); omega⟩
      · have hs := rowG_no (F := fun l => behA l t) (es := p.edges) (x := x) (j := j) (by rw [hc, if_neg (fun h => h1 h.1)]; rfl)
        have h1' : (e.src == t) = false := by simpa using h1
        simp -implicitDefEqProofs only [go_sem, encPl, hn, hjt, hjt', elem_encEds hee, encEd, h1', hwj]
        exact ⟨(j + 1, η2), by (try dsimp only); first | omega | assumption | (and_intros <;> first | omega | assumption), (wk_of [some 200, some 5] (by simp -implicitDefEqProofs only [go_sem, encPl, hn, hs] <;> and_intros <;> first | rfl | assumption)), by (try dsimp only); omega⟩
    · have hjt' : ¬ (j : Int) < p.edges.length := by omega
      obtain rfl : j = p.edges.length := by omega
      simp -implicitDefEqProofs only [go_sem, encPl, hn, hjt', hw]
      exact ⟨(x + 1, η2), by (try dsimp only); first | omega | assumption | (and_intros <;> first | omega | assumption), (wk_of [some 200, some 5] (by simp -implicitDefEqProofs only [go_sem, encPl, hn, he] <;> and_intros <;> first | rfl | assumption)), by (try dsimp only); omega⟩
  · have hlt' : ¬ (x : Int) < n := by omega
    obtain rfl : x = n := by omega
    simp -implicitDefEqProofs only [go_sem, encPl, hn, hlt', behL, Int.toNat_natCast]
set_option maxHeartbeats 4000000 in
theorem p_impl_BeforeOf (p : Pl) (t : Int) (h0 : planFault p = 0) : Pure Tryz.prog 226 [.agg (encPl p), .c (.val (.int .i64 t))] (.c (encInts (befL p t))) := by
  obtain ⟨n, hn, hn1, h12, h30, hes, hnd, -⟩ := pf_0 h0
  refine pure_fn Tryz.func226 code_impl_BeforeOf (by simp) ?_
  unfold c_impl_BeforeOf
  simp -implicitDefEqProofs only [go_sem, encPl]
  intro b
  refine run_call (p_impl_PlanFault p (by omega)) (by simp -implicitDefEqProofs only [go_sem, encPl]) fun η => ?_
  simp -implicitDefEqProofs only [go_sem, encPl]
  simp -implicitDefEqProofs only [go_sem, encPl, h0, bne_self_eq_false]
  refine wp_loopW (fun i : Nat × Heads => St.of [(1, Ni t), (5, Hd 5 i.2), (12, Ro (encEds p.edges)), (13, Ni p.edges.length), (14, Ni i.1)] [(5, .loose (encInts (befA (p.edges.take i.1) t)) i.2)]) (fun i => i.1 ≤ p.edges.length) (fun i => p.edges.length - i.1) (0, nilH) (by (try dsimp only); first | omega | (simp; done) | (and_intros <;> first | omega | simp)) (wk_of [none] (by simp -implicitDefEqProofs only [go_sem, encPl] <;> and_intros <;> first | rfl | assumption)) ?_
  rintro ⟨j, η2⟩ hj
  dsimp only at hj
  by_cases hjt : j < p.edges.length
  · have hjt' : (j : Int) < p.edges.length := by omega
    obtain ⟨e, hee⟩ := get_some hjt
    have hwj : IntKind.i64.wrap ((j : Int) + 1) = ((j + 1 : Nat) : Int) := wrap64 (by omega) (by omega)
    have hc := befA_take hee t
    have hle := befA_le (p.edges.take j) t
    rw [List.length_take] at hle
    generalize befA (p.edges.take j) t = R at *
    have hm1 : R.length + 1 ≤ maxLen := by unfold maxLen; omega
    have hm2 : (R.length + 1) * 8 ≤ 140737488355328 := by omega
    by_cases h2 : e.dst = t
    · have h2' : (e.dst == t) = true := by simpa using h2
      rw [if_pos h2] at hc
      simp -implicitDefEqProofs only [go_sem, encPl, hn, hjt, hjt', elem_encEds hee, encEd]
      intro b2
      simp -implicitDefEqProofs only [go_sem, encPl, hn, hjt, hjt', elem_encEds hee, encEd, h2', hwj, hm1, hm2, ints_snoc1]
      intro η3 η4
      exact ⟨(j + 1, η4), by (try dsimp only); first | omega | assumption | (and_intros <;> first | omega | assumption), (wk_of [some 2600] (by simp -implicitDefEqProofs only [go_sem, encPl, hn, hc] <;> and_intros <;> first | rfl | assumption)), by (try dsimp only); omega⟩
    · have h2' : (e.dst == t) = false := by simpa using h2
      rw [if_neg h2, List.append_nil] at hc
      simp -implicitDefEqProofs only [go_sem, encPl, hn, hjt, hjt', elem_encEds hee, encEd]
      intro b2
      simp -implicitDefEqProofs only [go_sem, encPl, hn, hjt, hjt', elem_encEds hee, encEd, h2', hwj]
      exact ⟨(j + 1, η2), by (try dsimp only); first | omega | assumption | (and_intros <;> first | omega | assumption), (wk_of [some 5] (by simp -implicitDefEqProofs only [go_sem, encPl, hn, hc] <;> and_intros <;> first | rfl | assumption)), by (try dsimp only); omega⟩
  · have hjt' : ¬ (j : Int) < p.edges.length := by omega
    rw [List.take_of_length_le (by omega)]
    have hA := befA_len hnd hes t
    simp -implicitDefEqProofs only [go_sem, encPl, hn, hjt']
    refine run_inl (inl_mono (inl_sort (befA p.edges t) (by omega) _ 5 η2 (by simp -implicitDefEqProofs only [go_sem])) ?_)
    rintro av o' ⟨rfl, l, i, rfl, h1, h2⟩
    obtain rfl := srt_of (befA_in hes t) h1 (by rw [h1.1.length_eq]; exact h2)
    simp -implicitDefEqProofs only [go_sem, up1_at, befL, hn, Int.toNat_natCast]
end Go.Proofs.YtnhdcbhcocgjhaaGreat
set_option linter.unusedSimpArgs false
set_option linter.unusedVariables false
set_option maxRecDepth 100000
namespace Go.Proofs.YtnhdcbhcocgjhaaGreat
open Go.RowKit Go.Sort
def c_spec_l09Task : C := .seq (.reg [⟨some 2, none, .box 80 8 (.t 0)⟩, ⟨some 4, none, .mov (.c (.bool false))⟩]) (.seq (.reg [⟨some 9, none, .fa 7 (.t 2)⟩, ⟨some 10, none, .ld false 1 (.t 9)⟩, ⟨some 11, none, .mov (.t 1)⟩, ⟨some 12, none, .ia 4 (.t 10) (.t 11)⟩, ⟨some 13, none, .ld true 4 (.t 12)⟩, ⟨some 5, none, .alloc 98 [.int .i64 0, .int .i64 0, .int .i64 0, .int .i64 0]⟩, ⟨none, none, .st 4 [none, none, none, none] (.t 5) (.t 13)⟩]) (.seq (.reg [⟨some 6, none, .mov (.c (.int .i64 0))⟩]) (.seq (.reg [⟨some 14, none, .fa 1 (.t 2)⟩, ⟨some 15, none, .ld true 5 (.t 14)⟩, ⟨some 16, none, .mov (.t 1)⟩, ⟨some 17, none, .call 208 [.t 15, .t 16]⟩, ⟨some 7, none, .mov (.t 17)⟩]) (.seq (.seq (.reg [⟨some 8, none, .mov (.c (.int .i64 0))⟩]) (.blk 0 (.loop (.seq (.seq (.reg [⟨some 18, none, .mov (.t 8)⟩, ⟨some 19, none, .mov (.t 7)⟩, ⟨some 20, none, .len false (.t 19)⟩, ⟨some 21, none, .bin .lss 3 (.t 18) (.t 20)⟩]) (.cond (.t 21) .skip (.exit 0))) (.seq (.blk 1 (.seq (.dreg (T.pure 0 ⟨some 24, none, .fa 7 (.t 2)⟩ (T.pure 1 ⟨some 25, none, .ld false 1 (.t 24)⟩ (T.pure 2 ⟨some 26, none, .mov (.t 7)⟩ (T.pure 3 ⟨some 27, none, .mov (.t 8)⟩ (T.pure 4 ⟨some 28, none, .ia 1 (.t 26) (.t 27)⟩ (T.pure 5 ⟨some 29, none, .ld false 1 (.t 28)⟩ (T.pure 6 ⟨some 30, none, .ia 4 (.t 25) (.t 29)⟩ (T.pure 7 ⟨some 31, none, .fa 0 (.t 30)⟩ (T.pure 8 ⟨some 32, none, .ld false 1 (.t 31)⟩ (T.pure 9 ⟨some 33, none, .bin .neq 3 (.t 32) (.c (.int .i64 4))⟩ T.done))))))))))) (.cond (.t 33) (.reg [⟨some 34, none, .mov (.t 6)⟩, ⟨some 35, none, .bin .add 3 (.t 34) (.c (.int .i64 1))⟩, ⟨some 6, none, .mov (.t 35)⟩]) .skip))) (.reg [⟨some 22, none, .mov (.t 8)⟩, ⟨some 23, none, .bin .add 3 (.t 22) (.c (.int .i64 1))⟩, ⟨some 8, none, .mov (.t 23)⟩])))))) (.seq (.seq (.reg [⟨some 36, none, .fa 1 (.t 5)⟩, ⟨some 37, none, .ld false 1 (.t 36)⟩, ⟨some 38, none, .mov (.t 6)⟩, ⟨some 39, none, .bin .neq 3 (.t 37) (.t 38)⟩, ⟨some 40, none, .mov (.t 39)⟩, ⟨some 41, some (40, false), .fa 2 (.t 5)⟩, ⟨some 42, some (40, false), .ld false 1 (.t 41)⟩, ⟨some 43, some (40, false), .fa 1 (.t 2)⟩, ⟨some 44, some (40, false), .fa 1 (.t 43)⟩, ⟨some 45, some (40, false), .ld false 1 (.t 44)⟩, ⟨some 46, some (40, false), .call 72 [.t 42, .c (.int .i64 0), .t 45]⟩, ⟨some 47, some (40, false), .un .not (.t 46)⟩, ⟨some 48, none, .pick (.t 40) (.c (.bool true)) (.t 47)⟩]) (.cond (.t 48) (.seq (.reg [⟨some 4, none, .mov (.c (.bool false))⟩]) .ret) .skip)) (.seq (.seq (.reg [⟨some 49, none, .fa 0 (.t 5)⟩, ⟨some 50, none, .ld false 1 (.t 49)⟩, ⟨some 51, none, .bin .eql 3 (.t 50) (.c (.int .i64 3))⟩, ⟨some 52, none, .mov (.t 51)⟩, ⟨some 53, some (52, true), .fa 3 (.t 5)⟩, ⟨some 54, some (52, true), .ld false 1 (.t 53)⟩, ⟨some 55, some (52, true), .call 72 [.t 54, .c (.int .i64 1), .c (.int .i64 1000000000)]⟩, ⟨some 56, some (52, true), .un .not (.t 55)⟩, ⟨some 57, none, .pick (.t 52) (.t 56) (.c (.bool false))⟩, ⟨some 58, none, .mov (.t 57)⟩, ⟨some 59, some (58, false), .fa 0 (.t 5)⟩, ⟨some 60, some (58, false), .ld false 1 (.t 59)⟩, ⟨some 61, some (58, false), .bin .neq 3 (.t 60) (.c (.int .i64 3))⟩, ⟨some 62, some (58, false), .mov (.t 61)⟩, ⟨some 63, some (62, true), .fa 3 (.t 5)⟩, ⟨some 64, some (62, true), .ld false 1 (.t 63)⟩, ⟨some 65, some (62, true), .bin .neq 3 (.t 64) (.c (.int .i64 0))⟩, ⟨some 66, some (58, false), .pick (.t 62) (.t 65) (.c (.bool false))⟩, ⟨some 67, none, .pick (.t 58) (.c (.bool true)) (.t 66)⟩]) (.cond (.t 67) (.seq (.reg [⟨some 4, none, .mov (.c (.bool false))⟩]) .ret) .skip)) (.seq (.seq (.reg [⟨some 68, none, .fa 0 (.t 5)⟩, ⟨some 69, none, .ld false 1 (.t 68)⟩]) (.blk 2 (.seq (.reg [⟨some 71, none, .bin .eql 3 (.t 69) (.c (.int .i64 1))⟩, ⟨some 70, none, .mov (.t 71)⟩]) (.cond (.t 70) (.seq (.reg [⟨some 72, none, .mov (.t 6)⟩, ⟨some 73, none, .bin .gtr 3 (.t 72) (.c (.int .i64 0))⟩, ⟨some 4, none, .mov (.t 73)⟩]) .ret) (.seq (.reg [⟨some 75, none, .bin .eql 3 (.t 69) (.c (.int .i64 2))⟩, ⟨some 74, none, .mov (.t 75)⟩]) (.cond (.t 74) (.seq (.reg [⟨some 76, none, .mov (.t 6)⟩, ⟨some 77, none, .bin .eql 3 (.t 76) (.c (.int .i64 0))⟩, ⟨some 78, none, .mov (.t 77)⟩, ⟨some 79, some (78, true), .fa 2 (.t 5)⟩, ⟨some 80, some (78, true), .ld false 1 (.t 79)⟩, ⟨some 81, some (78, true), .fa 1 (.t 2)⟩, ⟨some 82, some (78, true), .fa 1 (.t 81)⟩, ⟨some 83, some (78, true), .ld false 1 (.t 82)⟩, ⟨some 84, some (78, true), .bin .lss 3 (.t 80) (.t 83)⟩, ⟨some 85, none, .pick (.t 78) (.t 84) (.c (.bool false))⟩, ⟨some 4, none, .mov (.t 85)⟩]) .ret) (.seq (.seq (.reg [⟨some 87, none, .bin .eql 3 (.t 69) (.c (.int .i64 3))⟩, ⟨some 86, none, .mov (.t 87)⟩]) (.cond (.t 86) .skip (.seq (.reg [⟨some 88, none, .bin .eql 3 (.t 69) (.c (.int .i64 4))⟩, ⟨some 86, none, .mov (.t 88)⟩]) (.cond (.t 86) .skip (.reg [⟨some 89, none, .bin .eql 3 (.t 69) (.c (.int .i64 5))⟩, ⟨some 86, none, .mov (.t 89)⟩]))))) (.cond (.t 86) (.seq (.reg [⟨some 90, none, .mov (.t 6)⟩, ⟨some 91, none, .bin .eql 3 (.t 90) (.c (.int .i64 0))⟩, ⟨some 92, none, .mov (.t 91)⟩, ⟨some 93, some (92, true), .fa 2 (.t 5)⟩, ⟨some 94, some (92, true), .ld false 1 (.t 93)⟩, ⟨some 95, some (92, true), .bin .geq 3 (.t 94) (.c (.int .i64 1))⟩, ⟨some 96, none, .pick (.t 92) (.t 95) (.c (.bool false))⟩, ⟨some 4, none, .mov (.t 96)⟩]) .ret) .skip)))))))) (.seq (.reg [⟨some 97, none, .fa 0 (.t 5)⟩, ⟨some 98, none, .ld false 1 (.t 97)⟩, ⟨some 99, none, .bin .eql 3 (.t 98) (.c (.int .i64 6))⟩, ⟨some 4, none, .mov (.t 99)⟩]) .ret))))))))
theorem code_spec_l09Task : fnC Tryz.prog Tryz.f178 = some (c_spec_l09Task, [.t 4], 100) := by kernel_rfl
def c_spec_l09State : C := .seq (.reg [⟨some 1, none, .box 80 8 (.t 0)⟩, ⟨some 2, none, .mov (.c (.int .i64 0))⟩]) (.seq (.reg [⟨some 6, none, .bsl 3 1 7 [none, none, none, none, none, none, none] [(0, 1, .c (.int .i64 0)), (1, 1, .c (.int .i64 0)), (2, 1, .c (.int .i64 0)), (3, 1, .c (.int .i64 0)), (4, 1, .c (.int .i64 0)), (5, 1, .c (.int .i64 0)), (6, 1, .c (.int .i64 0))]⟩, ⟨some 3, none, .mov (.t 6)⟩]) (.seq (.seq (.reg [⟨some 4, none, .mov (.c (.int .i64 0))⟩]) (.blk 0 (.loop (.seq (.seq (.reg [⟨some 7, none, .mov (.t 4)⟩, ⟨some 8, none, .fa 7 (.t 1)⟩, ⟨some 9, none, .ld false 1 (.t 8)⟩, ⟨some 10, none, .len false (.t 9)⟩, ⟨some 11, none, .bin .lss 3 (.t 7) (.t 10)⟩]) (.cond (.t 11) .skip (.exit 0))) (.seq (.blk 1 (.reg [⟨some 14, none, .mov (.t 3)⟩, ⟨some 15, none, .fa 7 (.t 1)⟩, ⟨some 16, none, .ld false 1 (.t 15)⟩, ⟨some 17, none, .mov (.t 4)⟩, ⟨some 18, none, .ia 4 (.t 16) (.t 17)⟩, ⟨some 19, none, .fa 0 (.t 18)⟩, ⟨some 20, none, .ld false 1 (.t 19)⟩, ⟨some 21, none, .ia 1 (.t 14) (.t 20)⟩, ⟨some 22, none, .ld false 1 (.t 21)⟩, ⟨some 23, none, .bin .add 3 (.t 22) (.c (.int .i64 1))⟩, ⟨some 24, none, .ia 1 (.t 14) (.t 20)⟩, ⟨none, none, .st 1 [none] (.t 24) (.t 23)⟩])) (.reg [⟨some 12, none, .mov (.t 4)⟩, ⟨some 13, none, .bin .add 3 (.t 12) (.c (.int .i64 1))⟩, ⟨some 4, none, .mov (.t 13)⟩])))))) (.seq (.dreg (T.pure 0 ⟨some 25, none, .mov (.t 3)⟩ (T.pure 1 ⟨some 26, none, .ia 1 (.t 25) (.c (.int .i64 1))⟩ (T.pure 2 ⟨some 27, none, .ld false 1 (.t 26)⟩ (T.pure 3 ⟨some 28, none, .mov (.t 3)⟩ (T.pure 4 ⟨some 29, none, .ia 1 (.t 28) (.c (.int .i64 2))⟩ (T.pure 5 ⟨some 30, none, .ld false 1 (.t 29)⟩ (T.pure 6 ⟨some 31, none, .bin .add 3 (.t 27) (.t 30)⟩ (T.pure 7 ⟨some 32, none, .mov (.t 3)⟩ (T.pure 8 ⟨some 33, none, .ia 1 (.t 32) (.c (.int .i64 3))⟩ (T.pure 9 ⟨some 34, none, .ld false 1 (.t 33)⟩ (T.pure 10 ⟨some 35, none, .bin .add 3 (.t 31) (.t 34)⟩ (T.pure 11 ⟨some 5, none, .mov (.t 35)⟩ T.done))))))))))))) (.seq (.blk 2 (.seq (.dreg (T.pure 0 ⟨some 37, none, .mov (.t 3)⟩ (T.pure 1 ⟨some 38, none, .ia 1 (.t 37) (.c (.int .i64 4))⟩ (T.pure 2 ⟨some 39, none, .ld false 1 (.t 38)⟩ (T.pure 3 ⟨some 40, none, .fa 7 (.t 1)⟩ (T.pure 4 ⟨some 41, none, .ld false 1 (.t 40)⟩ (T.pure 5 ⟨some 42, none, .len false (.t 41)⟩ (T.pure 6 ⟨some 43, none, .bin .eql 3 (.t 39) (.t 42)⟩ (T.pure 7 ⟨some 36, none, .mov (.t 43)⟩ T.done))))))))) (.cond (.t 36) (.seq (.reg [⟨some 2, none, .mov (.c (.int .i64 2))⟩]) .ret) (.seq (.reg [⟨some 45, none, .mov (.t 3)⟩, ⟨some 46, none, .ia 1 (.t 45) (.c (.int .i64 5))⟩, ⟨some 47, none, .ld false 1 (.t 46)⟩, ⟨some 48, none, .bin .eql 3 (.t 47) (.c (.int .i64 1))⟩, ⟨some 49, none, .mov (.t 48)⟩, ⟨some 50, some (49, true), .mov (.t 5)⟩, ⟨some 51, some (49, true), .bin .eql 3 (.t 50) (.c (.int .i64 0))⟩, ⟨some 52, none, .pick (.t 49) (.t 51) (.c (.bool false))⟩, ⟨some 44, none, .mov (.t 52)⟩]) (.cond (.t 44) (.seq (.reg [⟨some 2, none, .mov (.c (.int .i64 3))⟩]) .ret) (.seq (.reg [⟨some 54, none, .mov (.t 3)⟩, ⟨some 55, none, .ia 1 (.t 54) (.c (.int .i64 5))⟩, ⟨some 56, none, .ld false 1 (.t 55)⟩, ⟨some 57, none, .bin .eql 3 (.t 56) (.c (.int .i64 0))⟩, ⟨some 58, none, .mov (.t 57)⟩, ⟨some 59, some (58, true), .mov (.t 3)⟩, ⟨some 60, some (58, true), .ia 1 (.t 59) (.c (.int .i64 6))⟩, ⟨some 61, some (58, true), .ld false 1 (.t 60)⟩, ⟨some 62, some (58, true), .bin .gtr 3 (.t 61) (.c (.int .i64 0))⟩, ⟨some 63, none, .pick (.t 58) (.t 62) (.c (.bool false))⟩, ⟨some 64, none, .mov (.t 63)⟩, ⟨some 65, some (64, true), .mov (.t 5)⟩, ⟨some 66, some (64, true), .bin .eql 3 (.t 65) (.c (.int .i64 0))⟩, ⟨some 67, none, .pick (.t 64) (.t 66) (.c (.bool false))⟩, ⟨some 53, none, .mov (.t 67)⟩]) (.cond (.t 53) (.seq (.reg [⟨some 2, none, .mov (.c (.int .i64 4))⟩]) .ret) (.seq (.reg [⟨some 69, none, .mov (.t 3)⟩, ⟨some 70, none, .ia 1 (.t 69) (.c (.int .i64 5))⟩, ⟨some 71, none, .ld false 1 (.t 70)⟩, ⟨some 72, none, .bin .eql 3 (.t 71) (.c (.int .i64 0))⟩, ⟨some 73, none, .mov (.t 72)⟩, ⟨some 74, some (73, true), .mov (.t 3)⟩, ⟨some 75, some (73, true), .ia 1 (.t 74) (.c (.int .i64 6))⟩, ⟨some 76, some (73, true), .ld false 1 (.t 75)⟩, ⟨some 77, some (73, true), .bin .eql 3 (.t 76) (.c (.int .i64 0))⟩, ⟨some 78, none, .pick (.t 73) (.t 77) (.c (.bool false))⟩, ⟨some 68, none, .mov (.t 78)⟩]) (.cond (.t 68) (.seq (.reg [⟨some 2, none, .mov (.c (.int .i64 1))⟩]) .ret) .skip))))))))) (.seq (.reg [⟨some 2, none, .mov (.c (.int .i64 0))⟩]) .ret)))))
theorem code_spec_l09State : fnC Tryz.prog Tryz.f110 = some (c_spec_l09State, [.t 2], 79) := by kernel_rfl
def c_spec_RunOk : C := .seq (.reg [⟨some 1, none, .box 80 8 (.t 0)⟩, ⟨some 2, none, .mov (.c (.bool false))⟩]) (.seq (.seq (.reg [⟨some 5, none, .fa 0 (.t 1)⟩, ⟨some 6, none, .ld false 1 (.t 5)⟩, ⟨some 7, none, .call 72 [.t 6, .c (.int .i64 1), .c (.int .i64 9999)]⟩, ⟨some 8, none, .un .not (.t 7)⟩, ⟨some 9, none, .mov (.t 8)⟩, ⟨some 10, some (9, false), .fa 1 (.t 1)⟩, ⟨some 11, some (9, false), .ld true 5 (.t 10)⟩, ⟨some 12, some (9, false), .call 177 [.t 11]⟩, ⟨some 13, some (9, false), .bin .neq 3 (.t 12) (.c (.int .i64 0))⟩, ⟨some 14, none, .pick (.t 9) (.c (.bool true)) (.t 13)⟩, ⟨some 15, none, .mov (.t 14)⟩, ⟨some 16, some (15, false), .fa 7 (.t 1)⟩, ⟨some 17, some (15, false), .ld false 1 (.t 16)⟩, ⟨some 18, some (15, false), .len false (.t 17)⟩, ⟨some 19, some (15, false), .fa 1 (.t 1)⟩, ⟨some 20, some (15, false), .fa 3 (.t 19)⟩, ⟨some 21, some (15, false), .ld false 1 (.t 20)⟩, ⟨some 22, some (15, false), .bin .neq 3 (.t 18) (.t 21)⟩, ⟨some 23, none, .pick (.t 15) (.c (.bool true)) (.t 22)⟩]) (.cond (.t 23) (.seq (.reg [⟨some 2, none, .mov (.c (.bool false))⟩]) .ret) .skip)) (.seq (.seq (.reg [⟨some 3, none, .mov (.c (.int .i64 0))⟩]) (.blk 0 (.loop (.seq (.seq (.reg [⟨some 24, none, .mov (.t 3)⟩, ⟨some 25, none, .fa 7 (.t 1)⟩, ⟨some 26, none, .ld false 1 (.t 25)⟩, ⟨some 27, none, .len false (.t 26)⟩, ⟨some 28, none, .bin .lss 3 (.t 24) (.t 27)⟩]) (.cond (.t 28) .skip (.exit 0))) (.seq (.blk 1 (.seq (.reg [⟨some 31, none, .fa 7 (.t 1)⟩, ⟨some 32, none, .ld false 1 (.t 31)⟩, ⟨some 33, none, .mov (.t 3)⟩, ⟨some 34, none, .ia 4 (.t 32) (.t 33)⟩, ⟨some 35, none, .fa 0 (.t 34)⟩, ⟨some 36, none, .ld false 1 (.t 35)⟩, ⟨some 37, none, .call 72 [.t 36, .c (.int .i64 1), .c (.int .i64 6)]⟩, ⟨some 38, none, .un .not (.t 37)⟩]) (.cond (.t 38) (.seq (.reg [⟨some 2, none, .mov (.c (.bool false))⟩]) .ret) .skip))) (.reg [⟨some 29, none, .mov (.t 3)⟩, ⟨some 30, none, .bin .add 3 (.t 29) (.c (.int .i64 1))⟩, ⟨some 3, none, .mov (.t 30)⟩])))))) (.seq (.seq (.reg [⟨some 4, none, .mov (.c (.int .i64 0))⟩]) (.blk 2 (.loop (.seq (.seq (.reg [⟨some 39, none, .mov (.t 4)⟩, ⟨some 40, none, .fa 7 (.t 1)⟩, ⟨some 41, none, .ld false 1 (.t 40)⟩, ⟨some 42, none, .len false (.t 41)⟩, ⟨some 43, none, .bin .lss 3 (.t 39) (.t 42)⟩]) (.cond (.t 43) .skip (.exit 2))) (.seq (.blk 3 (.seq (.reg [⟨some 46, none, .ld true 8 (.t 1)⟩, ⟨some 47, none, .mov (.t 4)⟩, ⟨some 48, none, .call 178 [.t 46, .t 47]⟩, ⟨some 49, none, .un .not (.t 48)⟩]) (.cond (.t 49) (.seq (.reg [⟨some 2, none, .mov (.c (.bool false))⟩]) .ret) .skip))) (.reg [⟨some 44, none, .mov (.t 4)⟩, ⟨some 45, none, .bin .add 3 (.t 44) (.c (.int .i64 1))⟩, ⟨some 4, none, .mov (.t 45)⟩])))))) (.seq (.dreg (T.pure 0 ⟨some 50, none, .fa 6 (.t 1)⟩ (T.pure 1 ⟨some 51, none, .ld false 1 (.t 50)⟩ (T.pure 2 ⟨some 52, none, .ld true 8 (.t 1)⟩ (T.alt ⟨some 53, none, .call 110 [.t 52]⟩ [1, 0] (T.pure 4 ⟨some 54, none, .bin .eql 3 (.t 51) (.t 53)⟩ (T.pure 5 ⟨some 55, none, .mov (.t 54)⟩ (T.pure 6 ⟨some 56, some (55, true), .fa 6 (.t 1)⟩ (T.pure 7 ⟨some 57, some (55, true), .ld false 1 (.t 56)⟩ (T.pure 8 ⟨some 58, some (55, true), .bin .neq 3 (.t 57) (.c (.int .i64 0))⟩ (T.pure 9 ⟨some 59, none, .pick (.t 55) (.t 58) (.c (.bool false))⟩ (T.pure 10 ⟨some 2, none, .mov (.t 59)⟩ T.done))))))) T.stop))))) .ret))))
theorem code_spec_RunOk : fnC Tryz.prog Tryz.f132 = some (c_spec_RunOk, [.t 2], 60) := by kernel_rfl
def cntL (ts : List Tk) (l : List Int) : Nat := (l.filter fun b => stT ts b != 4).length
theorem cntL_yes {ts : List Tk} {l : List Int} {k : Nat} {v : Int} {y : Tk} (hv : l[k]? = some v) (hy : ts[v.toNat]? = some y) (h : (y.state != 4) = true) : cntL ts (l.take (k + 1)) = cntL ts (l.take k) + 1 := by
  rw [List.take_add_one, hv]
  simp [cntL, List.filter_append, stT_get hy, h]
theorem cntL_no {ts : List Tk} {l : List Int} {k : Nat} {v : Int} {y : Tk} (hv : l[k]? = some v) (hy : ts[v.toNat]? = some y) (h : (y.state != 4) = false) : cntL ts (l.take (k + 1)) = cntL ts (l.take k) := by
  rw [List.take_add_one, hv]
  simp [cntL, List.filter_append, stT_get hy, h]
theorem cntL_le (ts : List Tk) (l : List Int) : cntL ts l ≤ l.length := List.length_filter_le _ _
theorem befL_in {p : Pl} {n : Nat} (hn : p.tasks = n) {t v : Int} (h : v ∈ befL p t) : 0 ≤ v ∧ v < n := by
  have := (srtL_mem h).1
  rw [hn, Int.toNat_natCast] at this
  exact this
theorem befL_len {p : Pl} {n : Nat} (hn : p.tasks = n) (h12 : n ≤ 12) (h30 : p.edges.length ≤ 30) (t : Int) : (befL p t).length ≤ 1000 := by
  have h1 := srtL_le (befA p.edges t) p.tasks.toNat
  have h3 := befA_le p.edges t
  have h5 : p.tasks.toNat * (befA p.edges t).length ≤ 12 * 30 := Nat.mul_le_mul (by omega) (by omega)
  unfold befL; omega
theorem behL_in {p : Pl} {n : Nat} (hn : p.tasks = n) {t v : Int} (h : v ∈ behL p t) : 0 ≤ v ∧ v < n := by
  have := (srtL_mem h).1
  rw [hn, Int.toNat_natCast] at this
  exact this
theorem behL_len {p : Pl} {n : Nat} (hn : p.tasks = n) (h12 : n ≤ 12) (h30 : p.edges.length ≤ 30) (t : Int) : (behL p t).length ≤ 1000 := by
  have h1 := srtL_le (behA p.edges t) p.tasks.toNat
  have h3 := behA_le p.edges t
  have h5 : p.tasks.toNat * (behA p.edges t).length ≤ 12 * 30 := Nat.mul_le_mul (by omega) (by omega)
  unfold behL; omega
theorem stcases (s : Int) : s = 1 ∨ s = 2 ∨ s = 3 ∨ s = 4 ∨ s = 5 ∨ s = 6 ∨ ((s == 1) = false ∧ (s == 2) = false ∧ (s == 3) = false ∧ (s == 4) = false ∧ (s == 5) = false ∧ (s == 6) = false) := by
  by_cases h1 : s = 1; · simp [h1]
  by_cases h2 : s = 2; · simp [h2]
  by_cases h3 : s = 3; · simp [h3]
  by_cases h4 : s = 4; · simp [h4]
  by_cases h5 : s = 5; · simp [h5]
  by_cases h6 : s = 6; · simp [h6]
  simp [h1, h2, h3, h4, h5, h6]
set_option maxHeartbeats 8000000 in
theorem p_spec_l09Task (r : Rn) (t : Nat) (x : Tk) (hx : r.tasks[t]? = some x) (h0 : planFault r.plan = 0) (hlen : (r.tasks.length : Int) = r.plan.tasks) : Pure Tryz.prog 178 [.agg (encRn r), .c (.val (.int .i64 t))] (.c (.val (.bool (taskB r.plan r.tasks t x)))) := by
  obtain ⟨n, hn, hn1, h12, h30, hes, hnd, -⟩ := pf_0 h0
  have htl := (List.getElem?_eq_some_iff.1 hx).1
  refine pure_fn Tryz.func178 code_spec_l09Task (by simp) ?_
  unfold c_spec_l09Task
  have hbl := befL_len hn h12 h30 t
  have h0t : (t : Int) ≥ 0 := by omega
  simp -implicitDefEqProofs only [go_sem, encRn, encPl, htl, h0t, elem_encTks hx, encTk]
  intro b b2
  refine run_call (p_spec_l06Before r.plan t n hn h12 h30) (by simp -implicitDefEqProofs only [go_sem, encRn, encPl]) fun η => ?_
  simp -implicitDefEqProofs only [go_sem, encRn, encPl]
  refine wp_loopW (fun i : Nat => St.of [(2, Bx 200 b), (5, Bx 500 b2), (6, Ni (cntL r.tasks ((befL r.plan t).take i))), (7, Hd 7 (η 0)), (8, Ni i)] [(200, Bi b _ (encRn r)), (500, Bi b2 _ (encTk x)), (7, .loose (encInts (befL r.plan t)) (η 0))]) (fun i => i ≤ (befL r.plan t).length) (fun i => (befL r.plan t).length - i) 0 (by (try dsimp only); first | omega | (simp; done) | (and_intros <;> first | omega | simp)) (wk_of [some 200, some 500, some 1700] (by simp -implicitDefEqProofs only [go_sem, encRn, encPl, encTk, List.take_zero, cntL, List.filter_nil, List.length_nil] <;> and_intros <;> first | rfl | assumption)) ?_
  rintro k hk
  by_cases hlt : k < (befL r.plan t).length
  · have hlt' : (k : Int) < (befL r.plan t).length := by omega
    obtain ⟨v, hv⟩ := get_some hlt
    have hvb := befL_in hn (List.mem_of_getElem? hv)
    have hvl : v.toNat < r.tasks.length := by omega
    have hv0 := hvb.1
    obtain ⟨y, hy⟩ := get_some hvl
    have hw : IntKind.i64.wrap ((k : Int) + 1) = ((k + 1 : Nat) : Int) := wrap64 (by omega) (by omega)
    have hcl := cntL_le r.tasks ((befL r.plan t).take k)
    rw [List.length_take] at hcl
    have hw2 : IntKind.i64.wrap ((cntL r.tasks ((befL r.plan t).take k) : Int) + 1) = ((cntL r.tasks ((befL r.plan t).take k) + 1 : Nat) : Int) := wrap64 (by omega) (by omega)
    cases hc : y.state != 4
    · have hs := cntL_no hv hy hc
      simp -implicitDefEqProofs only [go_sem, encRn, encPl, hlt, hlt', at_encInts hv, in_encInts hlt, hvl, hv0, elem_encTks hy, encTk, hc, hw]
      exact ⟨k + 1, by (try dsimp only); first | omega | assumption | (and_intros <;> first | omega | assumption), (wk_of [some 200, some 500, some 7] (by simp -implicitDefEqProofs only [go_sem, encRn, encPl, encTk, hs] <;> and_intros <;> first | rfl | assumption)), by (try dsimp only); omega⟩
    · have hs := cntL_yes hv hy hc
      simp -implicitDefEqProofs only [go_sem, encRn, encPl, hlt, hlt', at_encInts hv, in_encInts hlt, hvl, hv0, elem_encTks hy, encTk, hc, hw, hw2]
      exact ⟨k + 1, by (try dsimp only); first | omega | assumption | (and_intros <;> first | omega | assumption), (wk_of [some 200, some 500, some 7] (by simp -implicitDefEqProofs only [go_sem, encRn, encPl, encTk, hs] <;> and_intros <;> first | rfl | assumption)), by (try dsimp only); omega⟩
  have hlt' : ¬ (k : Int) < (befL r.plan t).length := by omega
  rw [List.take_of_length_le (by omega)]
  have hnd : needL r.plan r.tasks t = (cntL r.tasks (befL r.plan t) : Int) := rfl
  generalize cntL r.tasks (befL r.plan t) = N at *
  cases hne : x.need != (N : Int)
  rotate_left
  · have hb : taskB r.plan r.tasks t x = false := by
      have : ¬ x.need = N := by simpa using hne
      simp [taskB, hnd, this]
    simp -implicitDefEqProofs only [go_sem, encRn, encPl, encTk, hlt', hne, hb]
  have hne' : x.need = N := by simpa using hne
  simp -implicitDefEqProofs only [go_sem, encRn, encPl, encTk, hlt', hne]
  refine run_call (p_spec_l01In x.tri 0 r.plan.most) (by simp -implicitDefEqProofs only [go_sem, encRn, encPl, encTk]) fun η => ?_
  simp -implicitDefEqProofs only [go_sem, encRn, encPl, encTk]
  cases htr : decide (0 ≤ x.tri ∧ x.tri ≤ r.plan.most)
  · have hb : taskB r.plan r.tasks t x = false := by simp [taskB, inB, htr]
    simp -implicitDefEqProofs only [go_sem, encRn, encPl, encTk, hb]
  have htr' : 0 ≤ x.tri ∧ x.tri ≤ r.plan.most := by simpa using htr
  rcases stcases x.state with hs | hs | hs | hs | hs | hs | ⟨s1, s2, s3, s4, s5, s6⟩
  · cases ht : x.til != 0
    rotate_left
    · have hb : taskB r.plan r.tasks t x = false := by
        have : ¬ x.til = 0 := by simpa using ht
        simp [taskB, tilB, hs, this]
      simp -implicitDefEqProofs only [go_sem, encRn, encPl, encTk, htr, hs, ht, hb]
    have ht' : x.til = 0 := by simpa using ht
    have hb : taskB r.plan r.tasks t x = decide ((N : Int) > 0) := by simp [taskB, tilB, lastB, inB, hs, hnd, hne', ht', htr']
    simp -implicitDefEqProofs only [go_sem, encRn, encPl, encTk, htr, hs, ht, hb]
  · cases ht : x.til != 0
    rotate_left
    · have hb : taskB r.plan r.tasks t x = false := by
        have : ¬ x.til = 0 := by simpa using ht
        simp [taskB, tilB, hs, this]
      simp -implicitDefEqProofs only [go_sem, encRn, encPl, encTk, htr, hs, ht, hb]
    have ht' : x.til = 0 := by simpa using ht
    cases hz : (N : Int) == 0
    · have hz' : ¬ N = 0 := by simpa using hz
      have hb : taskB r.plan r.tasks t x = false := by simp [taskB, tilB, lastB, inB, hs, hnd, hne', ht', htr', hz']
      simp -implicitDefEqProofs only [go_sem, encRn, encPl, encTk, htr, hs, ht, hz, hb]
    · have hz' : N = 0 := by simpa using hz
      have hb : taskB r.plan r.tasks t x = decide (x.tri < r.plan.most) := by simp [taskB, tilB, lastB, inB, hs, hnd, hne', ht', htr', hz']
      simp -implicitDefEqProofs only [go_sem, encRn, encPl, encTk, htr, hs, ht, hz, hb]
  · simp -implicitDefEqProofs only [go_sem, encRn, encPl, encTk, htr, hs]
    refine run_call (p_spec_l01In x.til 1 1000000000) (by simp -implicitDefEqProofs only [go_sem, encRn, encPl, encTk, hs]) fun η => ?_
    simp -implicitDefEqProofs only [go_sem, encRn, encPl, encTk, hs]
    cases ht : decide (1 ≤ x.til ∧ x.til ≤ 1000000000)
    · have hb : taskB r.plan r.tasks t x = false := by simp [taskB, tilB, inB, hs, ht]
      simp -implicitDefEqProofs only [go_sem, encRn, encPl, encTk, htr, hs, hb]
    have ht' : 1 ≤ x.til ∧ x.til ≤ 1000000000 := by simpa using ht
    cases hz : (N : Int) == 0
    · have hz' : ¬ N = 0 := by simpa using hz
      have hb : taskB r.plan r.tasks t x = false := by simp [taskB, tilB, lastB, inB, hs, hnd, hne', ht', htr', hz']
      simp -implicitDefEqProofs only [go_sem, encRn, encPl, encTk, htr, hs, ht, hz, hb]
    · have hz' : N = 0 := by simpa using hz
      have hb : taskB r.plan r.tasks t x = decide (x.tri ≥ 1) := by simp [taskB, tilB, lastB, inB, hs, hnd, hne', ht', htr', hz']
      simp -implicitDefEqProofs only [go_sem, encRn, encPl, encTk, htr, hs, ht, hz, hb]
  · cases ht : x.til != 0
    rotate_left
    · have hb : taskB r.plan r.tasks t x = false := by
        have : ¬ x.til = 0 := by simpa using ht
        simp [taskB, tilB, hs, this]
      simp -implicitDefEqProofs only [go_sem, encRn, encPl, encTk, htr, hs, ht, hb]
    have ht' : x.til = 0 := by simpa using ht
    cases hz : (N : Int) == 0
    · have hz' : ¬ N = 0 := by simpa using hz
      have hb : taskB r.plan r.tasks t x = false := by simp [taskB, tilB, lastB, inB, hs, hnd, hne', ht', htr', hz']
      simp -implicitDefEqProofs only [go_sem, encRn, encPl, encTk, htr, hs, ht, hz, hb]
    · have hz' : N = 0 := by simpa using hz
      have hb : taskB r.plan r.tasks t x = decide (x.tri ≥ 1) := by simp [taskB, tilB, lastB, inB, hs, hnd, hne', ht', htr', hz']
      simp -implicitDefEqProofs only [go_sem, encRn, encPl, encTk, htr, hs, ht, hz, hb]
  · cases ht : x.til != 0
    rotate_left
    · have hb : taskB r.plan r.tasks t x = false := by
        have : ¬ x.til = 0 := by simpa using ht
        simp [taskB, tilB, hs, this]
      simp -implicitDefEqProofs only [go_sem, encRn, encPl, encTk, htr, hs, ht, hb]
    have ht' : x.til = 0 := by simpa using ht
    cases hz : (N : Int) == 0
    · have hz' : ¬ N = 0 := by simpa using hz
      have hb : taskB r.plan r.tasks t x = false := by simp [taskB, tilB, lastB, inB, hs, hnd, hne', ht', htr', hz']
      simp -implicitDefEqProofs only [go_sem, encRn, encPl, encTk, htr, hs, ht, hz, hb]
    · have hz' : N = 0 := by simpa using hz
      have hb : taskB r.plan r.tasks t x = decide (x.tri ≥ 1) := by simp [taskB, tilB, lastB, inB, hs, hnd, hne', ht', htr', hz']
      simp -implicitDefEqProofs only [go_sem, encRn, encPl, encTk, htr, hs, ht, hz, hb]
  · cases ht : x.til != 0
    rotate_left
    · have hb : taskB r.plan r.tasks t x = false := by
        have : ¬ x.til = 0 := by simpa using ht
        simp [taskB, tilB, hs, this]
      simp -implicitDefEqProofs only [go_sem, encRn, encPl, encTk, htr, hs, ht, hb]
    have ht' : x.til = 0 := by simpa using ht
    have hb : taskB r.plan r.tasks t x = true := by simp [taskB, tilB, lastB, inB, hs, hnd, hne', ht', htr']
    simp -implicitDefEqProofs only [go_sem, encRn, encPl, encTk, htr, hs, ht, hb]
  · have hb : taskB r.plan r.tasks t x = false := by
      have h1 : ¬ x.state = 1 := by simpa using s1
      have h2 : ¬ x.state = 2 := by simpa using s2
      have h3 : ¬ x.state = 3 := by simpa using s3
      have h4 : ¬ x.state = 4 := by simpa using s4
      have h5 : ¬ x.state = 5 := by simpa using s5
      have h6 : ¬ x.state = 6 := by simpa using s6
      have : ¬ (1 ≤ x.state ∧ x.state ≤ 6) := by omega
      simp [taskB, inB, this]
    have s3' : (x.state != 3) = true := by simp [bne, s3]
    cases ht : x.til != 0
    · simp -implicitDefEqProofs only [go_sem, encRn, encPl, encTk, htr, s1, s2, s3, s3', s4, s5, s6, ht, hb]
    · simp -implicitDefEqProofs only [go_sem, encRn, encPl, encTk, htr, s1, s2, s3, s3', s4, s5, s6, ht, hb]
end Go.Proofs.YtnhdcbhcocgjhaaGreat
set_option linter.unusedSimpArgs false
set_option linter.unusedVariables false
set_option maxRecDepth 100000
namespace Go.Proofs.YtnhdcbhcocgjhaaGreat
open Go.RowKit Go.Sort
theorem ib_t {a b : Nat} (h : ((a : Int) == (b : Int)) = true) : a = b := by have := eq_of_beq h; omega
theorem ib_f {a b : Nat} (h : ((a : Int) == (b : Int)) = false) : ¬ a = b := by have := ne_of_beq_false h; omega
/-- How many tasks of each state there are among the first k. -/
def cN (ts : List Tk) (k : Nat) : List Int := (List.range 7).map fun (s : Nat) => (((tinF (s : Int) ts k).length : Nat) : Int)
theorem cN_len (ts : List Tk) (k : Nat) : (cN ts k).length = 7 := by simp [cN]
theorem cN_get {ts : List Tk} {k s : Nat} (h : s < 7) : (cN ts k)[s]? = some (((tinF (s : Int) ts k).length : Nat) : Int) := by simp [cN, h]
theorem cN_succ {ts : List Tk} {k : Nat} {x : Tk} (hx : ts[k]? = some x) (h : 1 ≤ x.state ∧ x.state ≤ 6) : (cN ts k).set x.state.toNat (((tinF x.state ts k).length + 1 : Nat) : Int) = cN ts (k + 1) := by
  apply List.ext_getElem?
  intro s
  rw [List.getElem?_set, cN_len]
  by_cases e : x.state.toNat = s
  · subst e
    rw [if_pos rfl, if_pos (by omega), cN_get (by omega), tinF_succ hx]
    have : ((x.state.toNat : Nat) : Int) = x.state := by omega
    simp [this]
  · rw [if_neg e]
    by_cases hs : s < 7
    · rw [cN_get hs, cN_get hs, tinF_succ hx, if_neg (by omega)]; simp
    · rw [List.getElem?_eq_none (by rw [cN_len]; omega), List.getElem?_eq_none (by rw [cN_len]; omega)]
set_option maxHeartbeats 8000000 in
theorem p_spec_l09State (r : Rn) (hst : ∀ x ∈ r.tasks, 1 ≤ x.state ∧ x.state ≤ 6) (hl : r.tasks.length ≤ 2000000) : Pure Tryz.prog 110 [.agg (encRn r)] (.c (.val (.int .i64 (stOf r.tasks)))) := by
  refine pure_fn Tryz.func110 code_spec_l09State (by simp) ?_
  unfold c_spec_l09State
  have hz : D.sl 1 tInt [.val (.int .i64 0), .val (.int .i64 0), .val (.int .i64 0), .val (.int .i64 0), .val (.int .i64 0), .val (.int .i64 0), .val (.int .i64 0)] = encInts (cN r.tasks 0) := rfl
  simp -implicitDefEqProofs only [go_sem, encRn, encPl, hz]
  intro b η0
  refine wp_loopW (fun i : Nat × Heads => St.of [(1, Bx 100 b), (3, Hd 3 i.2), (4, Ni i.1)] [(100, Bi b _ (encRn r)), (3, .loose (encInts (cN r.tasks i.1)) i.2)]) (fun i => i.1 ≤ r.tasks.length) (fun i => r.tasks.length - i.1) (0, η0) (by (try dsimp only); first | omega | (simp; done) | (and_intros <;> first | omega | simp)) (wk_of [some 100, some 600] (by simp -implicitDefEqProofs only [go_sem, encRn, encPl] <;> and_intros <;> first | rfl | assumption)) ?_
  rintro ⟨k, η⟩ hk
  dsimp only at hk
  by_cases hlt : k < r.tasks.length
  · have hlt' : (k : Int) < r.tasks.length := by omega
    obtain ⟨x, hx⟩ := get_some hlt
    have hs := hst x (List.mem_of_getElem? hx)
    have hs0 := hs.1
    have hs1 : x.state ≥ 0 := by omega
    have hs2 : 0 ≤ x.state := by omega
    have hs7 : x.state.toNat < 7 := by omega
    have hsn : x.state.toNat < (cN r.tasks k).length := by rw [cN_len]; exact hs7
    have hw : IntKind.i64.wrap ((k : Int) + 1) = ((k + 1 : Nat) : Int) := wrap64 (by omega) (by omega)
    have hg := cN_get (ts := r.tasks) (k := k) hs7
    rw [show ((x.state.toNat : Nat) : Int) = x.state by omega] at hg
    have hle := tinF_len x.state r.tasks k
    have hw2 : IntKind.i64.wrap (((tinF x.state r.tasks k).length : Int) + 1) = (((tinF x.state r.tasks k).length + 1 : Nat) : Int) := wrap64 (by omega) (by omega)
    have hset := cN_succ hx hs
    generalize cN r.tasks k = L at *
    simp -implicitDefEqProofs only [go_sem, encRn, encPl, hlt, hlt', elem_encTks hx, encTk, hs1, hs2, hsn, at_encInts hg, in_encInts hsn, hw2, put_encInts _ hsn, hset, hw]
    exact ⟨(k + 1, η), by (try dsimp only); first | omega | assumption | (and_intros <;> first | omega | assumption), (wk_of [some 100, some 3] (by simp -implicitDefEqProofs only [go_sem, encRn, encPl] <;> and_intros <;> first | rfl | assumption)), by (try dsimp only); omega⟩
  have hlt' : ¬ (k : Int) < r.tasks.length := by omega
  obtain rfl : k = r.tasks.length := by omega
  have hsum := tin_sum hst r.tasks.length (Nat.le_refl _)
  have hdef : stOf r.tasks = if (tinF 4 r.tasks r.tasks.length).length = r.tasks.length then 2 else if (tinF 5 r.tasks r.tasks.length).length = 1 ∧ (tinF 4 r.tasks r.tasks.length).length + (tinF 5 r.tasks r.tasks.length).length + (tinF 6 r.tasks r.tasks.length).length = r.tasks.length then 3 else if (tinF 5 r.tasks r.tasks.length).length = 0 ∧ 0 < (tinF 6 r.tasks r.tasks.length).length ∧ (tinF 4 r.tasks r.tasks.length).length + (tinF 5 r.tasks r.tasks.length).length + (tinF 6 r.tasks r.tasks.length).length = r.tasks.length then 4 else if (tinF 5 r.tasks r.tasks.length).length = 0 ∧ (tinF 6 r.tasks r.tasks.length).length = 0 then 1 else 0 := rfl
  have g1 : (cN r.tasks r.tasks.length)[1]? = some (((tinF 1 r.tasks r.tasks.length).length : Nat) : Int) := cN_get (s := 1) (by omega)
  have g2 : (cN r.tasks r.tasks.length)[2]? = some (((tinF 2 r.tasks r.tasks.length).length : Nat) : Int) := cN_get (s := 2) (by omega)
  have g3 : (cN r.tasks r.tasks.length)[3]? = some (((tinF 3 r.tasks r.tasks.length).length : Nat) : Int) := cN_get (s := 3) (by omega)
  have g4 : (cN r.tasks r.tasks.length)[4]? = some (((tinF 4 r.tasks r.tasks.length).length : Nat) : Int) := cN_get (s := 4) (by omega)
  have g5 : (cN r.tasks r.tasks.length)[5]? = some (((tinF 5 r.tasks r.tasks.length).length : Nat) : Int) := cN_get (s := 5) (by omega)
  have g6 : (cN r.tasks r.tasks.length)[6]? = some (((tinF 6 r.tasks r.tasks.length).length : Nat) : Int) := cN_get (s := 6) (by omega)
  have hcl := cN_len r.tasks r.tasks.length
  rw [hdef]
  generalize hL : r.tasks.length = len at *
  generalize (tinF 1 r.tasks len).length = c1 at *
  generalize (tinF 2 r.tasks len).length = c2 at *
  generalize (tinF 3 r.tasks len).length = c3 at *
  generalize (tinF 4 r.tasks len).length = c4 at *
  generalize (tinF 5 r.tasks len).length = c5 at *
  generalize (tinF 6 r.tasks len).length = c6 at *
  generalize cN r.tasks len = L at *
  clear hdef
  have i1 : 1 < L.length := by omega
  have i2 : 2 < L.length := by omega
  have i3 : 3 < L.length := by omega
  have i4 : 4 < L.length := by omega
  have i5 : 5 < L.length := by omega
  have i6 : 6 < L.length := by omega
  have w12 : IntKind.i64.wrap ((c1 : Int) + c2) = ((c1 + c2 : Nat) : Int) := by rw [wrap64 (by omega) (by omega)]; omega
  have w123 : IntKind.i64.wrap (((c1 + c2 : Nat) : Int) + c3) = ((c1 + c2 + c3 : Nat) : Int) := by rw [wrap64 (by omega) (by omega)]; omega
  simp -implicitDefEqProofs only [go_sem, encRn, encPl, hL, hlt', i1, i2, i3, i4, i5, i6, at_encInts g1, at_encInts g2, at_encInts g3, at_encInts g4, at_encInts g5, at_encInts g6, in_encInts i1, in_encInts i2, in_encInts i3, in_encInts i4, in_encInts i5, in_encInts i6, w12, w123]
  cases hA : (c4 : Int) == len
  rotate_left
  · have hA' : c4 = len := ib_t hA
    rw [if_pos (by omega)]
    simp -implicitDefEqProofs only [go_sem, encRn, encPl, hL, i1, i2, i3, i4, i5, i6, at_encInts g1, at_encInts g2, at_encInts g3, at_encInts g4, at_encInts g5, at_encInts g6, in_encInts i1, in_encInts i2, in_encInts i3, in_encInts i4, in_encInts i5, in_encInts i6, w12, w123, hA]
  have hA' : ¬ c4 = len := ib_f hA
  cases hB : (c5 : Int) == 1
  rotate_left
  · have hB' : c5 = 1 := ib_t hB
    have hB0 : ((c5 : Int) == 0) = false := by rw [hB']; rfl
    cases hR : ((c1 + c2 + c3 : Nat) : Int) == 0
    · have hR' : ¬ c1 + c2 + c3 = 0 := ib_f hR
      rw [if_neg (by omega), if_neg (by omega), if_neg (by omega), if_neg (by omega)]
      simp -implicitDefEqProofs only [go_sem, encRn, encPl, hL, i1, i2, i3, i4, i5, i6, at_encInts g1, at_encInts g2, at_encInts g3, at_encInts g4, at_encInts g5, at_encInts g6, in_encInts i1, in_encInts i2, in_encInts i3, in_encInts i4, in_encInts i5, in_encInts i6, w12, w123, hA, hB, hB0, hR]
    · have hR' : c1 + c2 + c3 = 0 := ib_t hR
      rw [if_neg (by omega), if_pos (by omega)]
      simp -implicitDefEqProofs only [go_sem, encRn, encPl, hL, i1, i2, i3, i4, i5, i6, at_encInts g1, at_encInts g2, at_encInts g3, at_encInts g4, at_encInts g5, at_encInts g6, in_encInts i1, in_encInts i2, in_encInts i3, in_encInts i4, in_encInts i5, in_encInts i6, w12, w123, hA, hB, hR]
  have hB' : ¬ c5 = 1 := ib_f hB
  cases hC : (c5 : Int) == 0
  · have hC' : ¬ c5 = 0 := ib_f hC
    rw [if_neg (by omega), if_neg (by omega), if_neg (by omega), if_neg (by omega)]
    simp -implicitDefEqProofs only [go_sem, encRn, encPl, hL, i1, i2, i3, i4, i5, i6, at_encInts g1, at_encInts g2, at_encInts g3, at_encInts g4, at_encInts g5, at_encInts g6, in_encInts i1, in_encInts i2, in_encInts i3, in_encInts i4, in_encInts i5, in_encInts i6, w12, w123, hA, hB, hC]
  have hC' : c5 = 0 := ib_t hC
  by_cases h6 : 0 < c6
  · have h6' : (c6 : Int) > 0 := by omega
    have h60 : ((c6 : Int) == 0) = false := by simp only [beq_eq_false_iff_ne, ne_eq]; omega
    cases hR : ((c1 + c2 + c3 : Nat) : Int) == 0
    · have hR' : ¬ c1 + c2 + c3 = 0 := ib_f hR
      rw [if_neg (by omega), if_neg (by omega), if_neg (by omega), if_neg (by omega)]
      simp -implicitDefEqProofs only [go_sem, encRn, encPl, hL, i1, i2, i3, i4, i5, i6, at_encInts g1, at_encInts g2, at_encInts g3, at_encInts g4, at_encInts g5, at_encInts g6, in_encInts i1, in_encInts i2, in_encInts i3, in_encInts i4, in_encInts i5, in_encInts i6, w12, w123, hA, hB, hC, h6', h60, hR]
    · have hR' : c1 + c2 + c3 = 0 := ib_t hR
      rw [if_neg (by omega), if_neg (by omega), if_pos (by omega)]
      simp -implicitDefEqProofs only [go_sem, encRn, encPl, hL, i1, i2, i3, i4, i5, i6, at_encInts g1, at_encInts g2, at_encInts g3, at_encInts g4, at_encInts g5, at_encInts g6, in_encInts i1, in_encInts i2, in_encInts i3, in_encInts i4, in_encInts i5, in_encInts i6, w12, w123, hA, hB, hC, h6', hR]
  · have h6' : ¬ (c6 : Int) > 0 := by omega
    have h60 : ((c6 : Int) == 0) = true := by simp only [beq_iff_eq]; omega
    rw [if_neg (by omega), if_neg (by omega), if_neg (by omega), if_pos (by omega)]
    simp -implicitDefEqProofs only [go_sem, encRn, encPl, hL, i1, i2, i3, i4, i5, i6, at_encInts g1, at_encInts g2, at_encInts g3, at_encInts g4, at_encInts g5, at_encInts g6, in_encInts i1, in_encInts i2, in_encInts i3, in_encInts i4, in_encInts i5, in_encInts i6, w12, w123, hA, hB, hC, h6', h60]
end Go.Proofs.YtnhdcbhcocgjhaaGreat
set_option linter.unusedSimpArgs false
set_option linter.unusedVariables false
set_option maxRecDepth 100000
namespace Go.Proofs.YtnhdcbhcocgjhaaGreat
open Go.RowKit Go.Sort
theorem runOk_yes {r : Rn} (h1 : inB r.id 1 9999 = true) (h2 : planFault r.plan = 0) (h3 : (r.tasks.length : Int) = r.plan.tasks) (h4 : ∀ (t : Nat) (x : Tk), r.tasks[t]? = some x → taskB r.plan r.tasks t x = true) (h5 : r.state = stOf r.tasks) (h6 : r.state ≠ 0) : runOkB r = true := runOk_iff.2 ⟨h1, h2, h3, h4, h5, h6⟩
theorem taskB_st {p : Pl} {ts : List Tk} {t : Nat} {x : Tk} (h : ¬ (1 ≤ x.state ∧ x.state ≤ 6)) : taskB p ts t x = false := by simp [taskB, inB, h]
set_option maxHeartbeats 8000000 in
theorem p_spec_RunOk (r : Rn) : Pure Tryz.prog 132 [.agg (encRn r)] (.c (.val (.bool (runOkB r)))) := by
  refine pure_fn Tryz.func132 code_spec_RunOk (by simp) ?_
  unfold c_spec_RunOk
  simp -implicitDefEqProofs only [go_sem, encRn, encPl]
  intro b
  refine run_call (p_spec_l01In r.id 1 9999) (by simp -implicitDefEqProofs only [go_sem, encRn, encPl]) fun η => ?_
  simp -implicitDefEqProofs only [go_sem, encRn, encPl]
  cases h1 : decide (1 ≤ r.id ∧ r.id ≤ 9999)
  · have hb : runOkB r = false := runOk_no fun h => by have := h.id; simp [inB, h1] at this
    simp -implicitDefEqProofs only [go_sem, encRn, encPl, h1, hb]
  simp -implicitDefEqProofs only [go_sem, encRn, encPl, h1]
  refine run_call (p_spec_PlanFault r.plan) (by simp -implicitDefEqProofs only [go_sem, encRn, encPl]) fun η => ?_
  simp -implicitDefEqProofs only [go_sem, encRn, encPl]
  cases h2 : planFault r.plan != 0
  rotate_left
  · have hb : runOkB r = false := runOk_no fun h => by have := h.plan; simp [this] at h2
    simp -implicitDefEqProofs only [go_sem, encRn, encPl, h2, hb]
  have h0 : planFault r.plan = 0 := by simpa using h2
  obtain ⟨n, hn, hn1, h12, h30, hes, hnd, -⟩ := pf_0 h0
  simp -implicitDefEqProofs only [go_sem, encRn, encPl, h2]
  cases h3 : (r.tasks.length : Int) != r.plan.tasks
  rotate_left
  · have hb : runOkB r = false := runOk_no fun h => by have := h.len; simp [this] at h3
    simp -implicitDefEqProofs only [go_sem, encRn, encPl, h3, hb]
  have hlen : (r.tasks.length : Int) = r.plan.tasks := by simpa using h3
  have hlb : r.tasks.length ≤ 12 := by omega
  simp -implicitDefEqProofs only [go_sem, encRn, encPl, h3]
  refine wp_loopW (fun i : Nat => St.of [(1, Bx 100 b), (3, Ni i)] [(100, Bi b _ (encRn r))]) (fun i => i ≤ r.tasks.length ∧ ∀ x ∈ r.tasks.take i, 1 ≤ x.state ∧ x.state ≤ 6) (fun i => r.tasks.length - i) 0 (by (try dsimp only); first | omega | (simp; done) | (and_intros <;> first | omega | simp)) (wk_of [some 100] (by simp -implicitDefEqProofs only [go_sem, encRn, encPl] <;> and_intros <;> first | rfl | assumption)) ?_
  rintro k ⟨hk, hko⟩
  by_cases hlt : k < r.tasks.length
  · have hlt' : (k : Int) < r.tasks.length := by omega
    obtain ⟨x, hx⟩ := get_some hlt
    have hw : IntKind.i64.wrap ((k : Int) + 1) = ((k + 1 : Nat) : Int) := wrap64 (by omega) (by omega)
    simp -implicitDefEqProofs only [go_sem, encRn, encPl, hlt, hlt', elem_encTks hx, encTk]
    refine run_call (p_spec_l01In x.state 1 6) (by simp -implicitDefEqProofs only [go_sem, encRn, encPl]) fun η => ?_
    simp -implicitDefEqProofs only [go_sem, encRn, encPl]
    cases hs : decide (1 ≤ x.state ∧ x.state ≤ 6)
    · have hb : runOkB r = false := runOk_no fun h => by have := h.tasks k x hx; rw [taskB_st (by simpa using hs)] at this; cases this
      simp -implicitDefEqProofs only [go_sem, encRn, encPl, hs, hb]
    · have hs' : 1 ≤ x.state ∧ x.state ≤ 6 := by simpa using hs
      simp -implicitDefEqProofs only [go_sem, encRn, encPl, hs, hw]
      exact ⟨k + 1, ⟨hlt, fun y hy => by rw [List.take_add_one, hx] at hy; simp at hy; rcases hy with hy | hy; exact hko y hy; exact hy ▸ hs'⟩, (wk_of [some 100] (by simp -implicitDefEqProofs only [go_sem, encRn, encPl] <;> and_intros <;> first | rfl | assumption)), by (try dsimp only); omega⟩
  have hlt' : ¬ (k : Int) < r.tasks.length := by omega
  rw [List.take_of_length_le (by omega)] at hko
  simp -implicitDefEqProofs only [go_sem, encRn, encPl, hlt']
  refine wp_loopW (fun i : Nat => St.of [(1, Bx 100 b), (4, Ni i)] [(100, Bi b _ (encRn r))]) (fun i => i ≤ r.tasks.length ∧ ∀ (t : Nat) (x : Tk), t < i → r.tasks[t]? = some x → taskB r.plan r.tasks t x = true) (fun i => r.tasks.length - i) 0 (by (try dsimp only); first | omega | (simp; done) | (and_intros <;> first | omega | simp)) (wk_of [some 100] (by simp -implicitDefEqProofs only [go_sem, encRn, encPl] <;> and_intros <;> first | rfl | assumption)) ?_
  rintro j ⟨hj, hjo⟩
  by_cases hjl : j < r.tasks.length
  · have hjl' : (j : Int) < r.tasks.length := by omega
    obtain ⟨x, hx⟩ := get_some hjl
    have hw : IntKind.i64.wrap ((j : Int) + 1) = ((j + 1 : Nat) : Int) := wrap64 (by omega) (by omega)
    simp -implicitDefEqProofs only [go_sem, encRn, encPl, hjl']
    refine run_call (p_spec_l09Task r j x hx h0 hlen) (by simp -implicitDefEqProofs only [go_sem, encRn, encPl]) fun η => ?_
    simp -implicitDefEqProofs only [go_sem, encRn, encPl]
    cases hs : taskB r.plan r.tasks j x
    · have hb : runOkB r = false := runOk_no fun h => by have := h.tasks j x hx; rw [hs] at this; cases this
      simp -implicitDefEqProofs only [go_sem, encRn, encPl, hs, hb]
    · simp -implicitDefEqProofs only [go_sem, encRn, encPl, hs, hw]
      exact ⟨j + 1, ⟨hjl, fun t y ht hy => by rcases Nat.lt_or_ge t j with h' | h'; exact hjo t y h' hy; obtain rfl : t = j := (by omega); rw [hx] at hy; cases hy; exact hs⟩, (wk_of [some 100] (by simp -implicitDefEqProofs only [go_sem, encRn, encPl] <;> and_intros <;> first | rfl | assumption)), by (try dsimp only); omega⟩
  have hjl' : ¬ (j : Int) < r.tasks.length := by omega
  have hall : ∀ (t : Nat) (x : Tk), r.tasks[t]? = some x → taskB r.plan r.tasks t x = true := fun t x hx => hjo t x (by have := (List.getElem?_eq_some_iff.1 hx).1; omega) hx
  simp -implicitDefEqProofs only [go_sem, encRn, encPl, hjl']
  refine run_call (p_spec_l09State r hko (by omega)) (by simp -implicitDefEqProofs only [go_sem, encRn, encPl]) fun η => ?_
  simp -implicitDefEqProofs only [go_sem, encRn, encPl]
  cases h5 : r.state == stOf r.tasks
  · have hb : runOkB r = false := runOk_no fun h => by have := h.state; simp [← this] at h5
    simp -implicitDefEqProofs only [go_sem, encRn, encPl, h5, hb]
  cases h6 : r.state != 0
  · have hb : runOkB r = false := runOk_no fun h => h.live (by simpa using h6)
    simp -implicitDefEqProofs only [go_sem, encRn, encPl, h5, h6, hb]
  · have hb : runOkB r = true := runOk_yes (by simpa [inB] using h1) h0 hlen hall (by simpa using h5) (by simpa using h6)
    simp -implicitDefEqProofs only [go_sem, encRn, encPl, h5, h6, hb]
end Go.Proofs.YtnhdcbhcocgjhaaGreat
set_option linter.unusedSimpArgs false
set_option linter.unusedVariables false
set_option maxRecDepth 100000
namespace Go.Proofs.YtnhdcbhcocgjhaaGreat
open Go.RowKit Go.Sort
def c_impl_needOf : C := .seq (.reg [⟨some 2, none, .box 80 8 (.t 0)⟩, ⟨some 4, none, .mov (.c (.int .i64 0))⟩]) (.seq (.reg [⟨some 5, none, .mov (.c (.int .i64 0))⟩]) (.seq (.seq (.reg [⟨some 8, none, .fa 1 (.t 2)⟩, ⟨some 9, none, .ld true 5 (.t 8)⟩, ⟨some 10, none, .mov (.t 1)⟩, ⟨some 11, none, .call 226 [.t 9, .t 10]⟩, ⟨some 12, none, .len false (.t 11)⟩, ⟨some 13, none, .mov (.c (.int .i64 0))⟩]) (.blk 0 (.loop (.seq (.reg [⟨some 14, none, .bin .lss 3 (.t 13) (.t 12)⟩]) (.seq (.cond (.t 14) .skip (.exit 0)) (.seq (.blk 1 (.seq (.reg [⟨some 15, none, .ia 1 (.t 11) (.t 13)⟩, ⟨some 16, none, .ld false 1 (.t 15)⟩, ⟨some 7, none, .mov (.t 16)⟩]) (.seq (.reg [⟨some 17, none, .fa 7 (.t 2)⟩, ⟨some 18, none, .ld false 1 (.t 17)⟩, ⟨some 19, none, .mov (.t 7)⟩, ⟨some 20, none, .ia 4 (.t 18) (.t 19)⟩, ⟨some 21, none, .fa 0 (.t 20)⟩, ⟨some 22, none, .ld false 1 (.t 21)⟩, ⟨some 23, none, .bin .neq 3 (.t 22) (.c (.int .i64 4))⟩]) (.cond (.t 23) (.reg [⟨some 24, none, .mov (.t 5)⟩, ⟨some 25, none, .bin .add 3 (.t 24) (.c (.int .i64 1))⟩, ⟨some 5, none, .mov (.t 25)⟩]) .skip)))) (.reg [⟨some 26, none, .bin .add 3 (.t 13) (.c (.int .i64 1))⟩, ⟨some 13, none, .mov (.t 26)⟩]))))))) (.seq (.reg [⟨some 27, none, .mov (.t 5)⟩, ⟨some 4, none, .mov (.t 27)⟩]) .ret)))
theorem code_impl_needOf : fnC Tryz.prog Tryz.f209 = some (c_impl_needOf, [.t 4], 28) := by kernel_rfl
def c_impl_taskOk : C := .seq (.reg [⟨some 2, none, .box 80 8 (.t 0)⟩, ⟨some 4, none, .mov (.c (.bool false))⟩]) (.seq (.reg [⟨some 6, none, .fa 7 (.t 2)⟩, ⟨some 7, none, .ld false 1 (.t 6)⟩, ⟨some 8, none, .mov (.t 1)⟩, ⟨some 9, none, .ia 4 (.t 7) (.t 8)⟩, ⟨some 10, none, .ld true 4 (.t 9)⟩, ⟨some 5, none, .alloc 98 [.int .i64 0, .int .i64 0, .int .i64 0, .int .i64 0]⟩, ⟨none, none, .st 4 [none, none, none, none] (.t 5) (.t 10)⟩]) (.seq (.seq (.dreg (T.pure 0 ⟨some 11, none, .fa 0 (.t 5)⟩ (T.pure 1 ⟨some 12, none, .ld false 1 (.t 11)⟩ (T.alt ⟨some 13, none, .call 79 [.t 12, .c (.int .i64 1), .c (.int .i64 6)]⟩ [] (T.pure 3 ⟨some 14, none, .un .not (.t 13)⟩ (T.pure 4 ⟨some 15, none, .mov (.t 14)⟩ (T.pure 5 ⟨some 16, some (15, false), .fa 1 (.t 5)⟩ (T.pure 6 ⟨some 17, some (15, false), .ld false 1 (.t 16)⟩ (T.pure 7 ⟨some 18, some (15, false), .ld true 8 (.t 2)⟩ (T.pure 8 ⟨some 19, some (15, false), .mov (.t 1)⟩ (T.alt ⟨some 20, some (15, false), .call 209 [.t 18, .t 19]⟩ [6, 5] (T.pure 10 ⟨some 21, some (15, false), .bin .neq 3 (.t 17) (.t 20)⟩ (T.pure 11 ⟨some 22, none, .pick (.t 15) (.c (.bool true)) (.t 21)⟩ (T.pure 12 ⟨some 23, none, .mov (.t 22)⟩ (T.pure 13 ⟨some 24, some (23, false), .fa 2 (.t 5)⟩ (T.pure 14 ⟨some 25, some (23, false), .ld false 1 (.t 24)⟩ (T.pure 15 ⟨some 26, some (23, false), .fa 1 (.t 2)⟩ (T.pure 16 ⟨some 27, some (23, false), .fa 1 (.t 26)⟩ (T.pure 17 ⟨some 28, some (23, false), .ld false 1 (.t 27)⟩ (T.alt ⟨some 29, some (23, false), .call 79 [.t 25, .c (.int .i64 0), .t 28]⟩ [] (T.pure 19 ⟨some 30, some (23, false), .un .not (.t 29)⟩ (T.pure 20 ⟨some 31, none, .pick (.t 23) (.c (.bool true)) (.t 30)⟩ T.done)) T.stop))))))))) T.stop))))))) T.stop)))) (.cond (.t 31) (.seq (.reg [⟨some 4, none, .mov (.c (.bool false))⟩]) .ret) .skip)) (.seq (.seq (.reg [⟨some 32, none, .fa 0 (.t 5)⟩, ⟨some 33, none, .ld false 1 (.t 32)⟩, ⟨some 34, none, .bin .eql 3 (.t 33) (.c (.int .i64 3))⟩, ⟨some 35, none, .mov (.t 34)⟩, ⟨some 36, some (35, true), .fa 3 (.t 5)⟩, ⟨some 37, some (35, true), .ld false 1 (.t 36)⟩, ⟨some 38, some (35, true), .call 79 [.t 37, .c (.int .i64 1), .c (.int .i64 1000000000)]⟩, ⟨some 39, some (35, true), .un .not (.t 38)⟩, ⟨some 40, none, .pick (.t 35) (.t 39) (.c (.bool false))⟩, ⟨some 41, none, .mov (.t 40)⟩, ⟨some 42, some (41, false), .fa 0 (.t 5)⟩, ⟨some 43, some (41, false), .ld false 1 (.t 42)⟩, ⟨some 44, some (41, false), .bin .neq 3 (.t 43) (.c (.int .i64 3))⟩, ⟨some 45, some (41, false), .mov (.t 44)⟩, ⟨some 46, some (45, true), .fa 3 (.t 5)⟩, ⟨some 47, some (45, true), .ld false 1 (.t 46)⟩, ⟨some 48, some (45, true), .bin .neq 3 (.t 47) (.c (.int .i64 0))⟩, ⟨some 49, some (41, false), .pick (.t 45) (.t 48) (.c (.bool false))⟩, ⟨some 50, none, .pick (.t 41) (.c (.bool true)) (.t 49)⟩]) (.cond (.t 50) (.seq (.reg [⟨some 4, none, .mov (.c (.bool false))⟩]) .ret) .skip)) (.seq (.seq (.reg [⟨some 51, none, .fa 0 (.t 5)⟩, ⟨some 52, none, .ld false 1 (.t 51)⟩]) (.blk 0 (.seq (.reg [⟨some 54, none, .bin .eql 3 (.t 52) (.c (.int .i64 1))⟩, ⟨some 53, none, .mov (.t 54)⟩]) (.cond (.t 53) (.seq (.reg [⟨some 55, none, .fa 1 (.t 5)⟩, ⟨some 56, none, .ld false 1 (.t 55)⟩, ⟨some 57, none, .bin .gtr 3 (.t 56) (.c (.int .i64 0))⟩, ⟨some 4, none, .mov (.t 57)⟩]) .ret) (.seq (.reg [⟨some 59, none, .bin .eql 3 (.t 52) (.c (.int .i64 2))⟩, ⟨some 58, none, .mov (.t 59)⟩]) (.cond (.t 58) (.seq (.reg [⟨some 60, none, .fa 1 (.t 5)⟩, ⟨some 61, none, .ld false 1 (.t 60)⟩, ⟨some 62, none, .bin .eql 3 (.t 61) (.c (.int .i64 0))⟩, ⟨some 63, none, .mov (.t 62)⟩, ⟨some 64, some (63, true), .fa 2 (.t 5)⟩, ⟨some 65, some (63, true), .ld false 1 (.t 64)⟩, ⟨some 66, some (63, true), .fa 1 (.t 2)⟩, ⟨some 67, some (63, true), .fa 1 (.t 66)⟩, ⟨some 68, some (63, true), .ld false 1 (.t 67)⟩, ⟨some 69, some (63, true), .bin .lss 3 (.t 65) (.t 68)⟩, ⟨some 70, none, .pick (.t 63) (.t 69) (.c (.bool false))⟩, ⟨some 4, none, .mov (.t 70)⟩]) .ret) (.seq (.seq (.reg [⟨some 72, none, .bin .eql 3 (.t 52) (.c (.int .i64 3))⟩, ⟨some 71, none, .mov (.t 72)⟩]) (.cond (.t 71) .skip (.seq (.reg [⟨some 73, none, .bin .eql 3 (.t 52) (.c (.int .i64 4))⟩, ⟨some 71, none, .mov (.t 73)⟩]) (.cond (.t 71) .skip (.reg [⟨some 74, none, .bin .eql 3 (.t 52) (.c (.int .i64 5))⟩, ⟨some 71, none, .mov (.t 74)⟩]))))) (.cond (.t 71) (.seq (.reg [⟨some 75, none, .fa 1 (.t 5)⟩, ⟨some 76, none, .ld false 1 (.t 75)⟩, ⟨some 77, none, .bin .eql 3 (.t 76) (.c (.int .i64 0))⟩, ⟨some 78, none, .mov (.t 77)⟩, ⟨some 79, some (78, true), .fa 2 (.t 5)⟩, ⟨some 80, some (78, true), .ld false 1 (.t 79)⟩, ⟨some 81, some (78, true), .bin .geq 3 (.t 80) (.c (.int .i64 1))⟩, ⟨some 82, none, .pick (.t 78) (.t 81) (.c (.bool false))⟩, ⟨some 4, none, .mov (.t 82)⟩]) .ret) .skip)))))))) (.seq (.reg [⟨some 4, none, .mov (.c (.bool true))⟩]) .ret)))))
theorem code_impl_taskOk : fnC Tryz.prog Tryz.f180 = some (c_impl_taskOk, [.t 4], 83) := by kernel_rfl
def c_impl_TasksIn : C := .seq (.reg [⟨some 2, none, .box 80 8 (.t 0)⟩, ⟨some 4, none, .mov (.c (.slice none 0 0))⟩]) (.seq (.reg [⟨some 5, none, .mov (.c (.slice none 0 0))⟩]) (.seq (.seq (.reg [⟨some 8, none, .fa 7 (.t 2)⟩, ⟨some 9, none, .ld false 1 (.t 8)⟩, ⟨some 10, none, .len false (.t 9)⟩, ⟨some 11, none, .mov (.c (.int .i64 0))⟩]) (.blk 0 (.loop (.seq (.reg [⟨some 12, none, .bin .lss 3 (.t 11) (.t 10)⟩]) (.seq (.cond (.t 12) .skip (.exit 0)) (.seq (.blk 1 (.seq (.reg [⟨some 13, none, .mov (.t 11)⟩, ⟨some 14, none, .ia 4 (.t 9) (.t 11)⟩, ⟨some 15, none, .ld true 4 (.t 14)⟩, ⟨some 7, none, .alloc 98 [.int .i64 0, .int .i64 0, .int .i64 0, .int .i64 0]⟩, ⟨some 6, none, .mov (.t 13)⟩, ⟨none, none, .st 4 [none, none, none, none] (.t 7) (.t 15)⟩]) (.seq (.reg [⟨some 16, none, .fa 0 (.t 7)⟩, ⟨some 17, none, .ld false 1 (.t 16)⟩, ⟨some 18, none, .mov (.t 1)⟩, ⟨some 19, none, .bin .eql 3 (.t 17) (.t 18)⟩]) (.cond (.t 19) (.reg [⟨some 20, none, .mov (.t 5)⟩, ⟨some 21, none, .mov (.t 6)⟩, ⟨some 22, none, .bsl 3 1 1 [none] [(0, 1, .t 21)]⟩, ⟨some 23, none, .app 3 1 8 (.t 20) (.t 22)⟩, ⟨some 5, none, .mov (.t 23)⟩]) .skip)))) (.reg [⟨some 24, none, .bin .add 3 (.t 11) (.c (.int .i64 1))⟩, ⟨some 11, none, .mov (.t 24)⟩]))))))) (.seq (.reg [⟨some 25, none, .mov (.t 5)⟩, ⟨some 4, none, .mov (.t 25)⟩]) .ret)))
theorem code_impl_TasksIn : fnC Tryz.prog Tryz.f115 = some (c_impl_TasksIn, [.t 4], 26) := by kernel_rfl
def c_impl_RunOk : C := .seq (.reg [⟨some 1, none, .box 80 8 (.t 0)⟩, ⟨some 2, none, .mov (.c (.bool false))⟩]) (.seq (.seq (.reg [⟨some 8, none, .fa 0 (.t 1)⟩, ⟨some 9, none, .ld false 1 (.t 8)⟩, ⟨some 10, none, .call 79 [.t 9, .c (.int .i64 1), .c (.int .i64 9999)]⟩, ⟨some 11, none, .un .not (.t 10)⟩, ⟨some 12, none, .mov (.t 11)⟩, ⟨some 13, some (12, false), .fa 1 (.t 1)⟩, ⟨some 14, some (12, false), .ld true 5 (.t 13)⟩, ⟨some 15, some (12, false), .call 171 [.t 14]⟩, ⟨some 16, some (12, false), .bin .neq 3 (.t 15) (.c (.int .i64 0))⟩, ⟨some 17, none, .pick (.t 12) (.c (.bool true)) (.t 16)⟩, ⟨some 18, none, .mov (.t 17)⟩, ⟨some 19, some (18, false), .fa 7 (.t 1)⟩, ⟨some 20, some (18, false), .ld false 1 (.t 19)⟩, ⟨some 21, some (18, false), .len false (.t 20)⟩, ⟨some 22, some (18, false), .fa 1 (.t 1)⟩, ⟨some 23, some (18, false), .fa 3 (.t 22)⟩, ⟨some 24, some (18, false), .ld false 1 (.t 23)⟩, ⟨some 25, some (18, false), .bin .neq 3 (.t 21) (.t 24)⟩, ⟨some 26, none, .pick (.t 18) (.c (.bool true)) (.t 25)⟩]) (.cond (.t 26) (.seq (.reg [⟨some 2, none, .mov (.c (.bool false))⟩]) .ret) .skip)) (.seq (.seq (.reg [⟨some 27, none, .fa 7 (.t 1)⟩, ⟨some 28, none, .ld false 1 (.t 27)⟩, ⟨some 29, none, .len false (.t 28)⟩, ⟨some 30, none, .mov (.c (.int .i64 0))⟩]) (.blk 0 (.loop (.seq (.reg [⟨some 31, none, .bin .lss 3 (.t 30) (.t 29)⟩]) (.seq (.cond (.t 31) .skip (.exit 0)) (.seq (.blk 1 (.seq (.reg [⟨some 32, none, .mov (.t 30)⟩, ⟨some 3, none, .mov (.t 32)⟩]) (.seq (.reg [⟨some 33, none, .ld true 8 (.t 1)⟩, ⟨some 34, none, .mov (.t 3)⟩, ⟨some 35, none, .call 180 [.t 33, .t 34]⟩, ⟨some 36, none, .un .not (.t 35)⟩]) (.cond (.t 36) (.seq (.reg [⟨some 2, none, .mov (.c (.bool false))⟩]) .ret) .skip)))) (.reg [⟨some 37, none, .bin .add 3 (.t 30) (.c (.int .i64 1))⟩, ⟨some 30, none, .mov (.t 37)⟩]))))))) (.seq (.dreg (T.pure 0 ⟨some 38, none, .ld true 8 (.t 1)⟩ (T.pure 3 ⟨some 41, none, .ld true 8 (.t 1)⟩ (T.pure 6 ⟨some 44, none, .ld true 8 (.t 1)⟩ (T.alt ⟨some 39, none, .call 115 [.t 38, .c (.int .i64 4)]⟩ [6, 3] (T.pure 2 ⟨some 40, none, .len false (.t 39)⟩ (T.alt ⟨some 42, none, .call 115 [.t 41, .c (.int .i64 5)]⟩ [2, 6] (T.pure 5 ⟨some 43, none, .len false (.t 42)⟩ (T.alt ⟨some 45, none, .call 115 [.t 44, .c (.int .i64 6)]⟩ [5, 2] (T.pure 8 ⟨some 46, none, .len false (.t 45)⟩ (T.pure 9 ⟨some 4, none, .mov (.t 40)⟩ (T.pure 10 ⟨some 5, none, .mov (.t 43)⟩ (T.pure 11 ⟨some 6, none, .mov (.t 46)⟩ T.done)))) T.stop)) T.stop)) T.stop))))) (.seq (.reg [⟨some 47, none, .mov (.t 4)⟩, ⟨some 48, none, .mov (.t 5)⟩, ⟨some 49, none, .bin .add 3 (.t 47) (.t 48)⟩, ⟨some 50, none, .mov (.t 6)⟩, ⟨some 51, none, .bin .add 3 (.t 49) (.t 50)⟩, ⟨some 52, none, .fa 7 (.t 1)⟩, ⟨some 53, none, .ld false 1 (.t 52)⟩, ⟨some 54, none, .len false (.t 53)⟩, ⟨some 55, none, .bin .eql 3 (.t 51) (.t 54)⟩, ⟨some 7, none, .mov (.t 55)⟩]) (.seq (.blk 2 (.seq (.reg [⟨some 57, none, .mov (.t 4)⟩, ⟨some 58, none, .fa 7 (.t 1)⟩, ⟨some 59, none, .ld false 1 (.t 58)⟩, ⟨some 60, none, .len false (.t 59)⟩, ⟨some 61, none, .bin .eql 3 (.t 57) (.t 60)⟩, ⟨some 56, none, .mov (.t 61)⟩]) (.cond (.t 56) (.seq (.reg [⟨some 62, none, .fa 6 (.t 1)⟩, ⟨some 63, none, .ld false 1 (.t 62)⟩, ⟨some 64, none, .bin .eql 3 (.t 63) (.c (.int .i64 2))⟩, ⟨some 2, none, .mov (.t 64)⟩]) .ret) (.seq (.reg [⟨some 66, none, .mov (.t 5)⟩, ⟨some 67, none, .bin .eql 3 (.t 66) (.c (.int .i64 1))⟩, ⟨some 68, none, .mov (.t 67)⟩, ⟨some 69, some (68, true), .mov (.t 7)⟩, ⟨some 70, none, .pick (.t 68) (.t 69) (.c (.bool false))⟩, ⟨some 65, none, .mov (.t 70)⟩]) (.cond (.t 65) (.seq (.reg [⟨some 71, none, .fa 6 (.t 1)⟩, ⟨some 72, none, .ld false 1 (.t 71)⟩, ⟨some 73, none, .bin .eql 3 (.t 72) (.c (.int .i64 3))⟩, ⟨some 2, none, .mov (.t 73)⟩]) .ret) (.seq (.reg [⟨some 75, none, .mov (.t 5)⟩, ⟨some 76, none, .bin .eql 3 (.t 75) (.c (.int .i64 0))⟩, ⟨some 77, none, .mov (.t 76)⟩, ⟨some 78, some (77, true), .mov (.t 6)⟩, ⟨some 79, some (77, true), .bin .gtr 3 (.t 78) (.c (.int .i64 0))⟩, ⟨some 80, none, .pick (.t 77) (.t 79) (.c (.bool false))⟩, ⟨some 81, none, .mov (.t 80)⟩, ⟨some 82, some (81, true), .mov (.t 7)⟩, ⟨some 83, none, .pick (.t 81) (.t 82) (.c (.bool false))⟩, ⟨some 74, none, .mov (.t 83)⟩]) (.cond (.t 74) (.seq (.reg [⟨some 84, none, .fa 6 (.t 1)⟩, ⟨some 85, none, .ld false 1 (.t 84)⟩, ⟨some 86, none, .bin .eql 3 (.t 85) (.c (.int .i64 4))⟩, ⟨some 2, none, .mov (.t 86)⟩]) .ret) .skip))))))) (.seq (.reg [⟨some 87, none, .fa 6 (.t 1)⟩, ⟨some 88, none, .ld false 1 (.t 87)⟩, ⟨some 89, none, .bin .eql 3 (.t 88) (.c (.int .i64 1))⟩, ⟨some 90, none, .mov (.t 89)⟩, ⟨some 91, some (90, true), .mov (.t 5)⟩, ⟨some 92, some (90, true), .bin .eql 3 (.t 91) (.c (.int .i64 0))⟩, ⟨some 93, none, .pick (.t 90) (.t 92) (.c (.bool false))⟩, ⟨some 94, none, .mov (.t 93)⟩, ⟨some 95, some (94, true), .mov (.t 6)⟩, ⟨some 96, some (94, true), .bin .eql 3 (.t 95) (.c (.int .i64 0))⟩, ⟨some 97, none, .pick (.t 94) (.t 96) (.c (.bool false))⟩, ⟨some 2, none, .mov (.t 97)⟩]) .ret))))))
theorem code_impl_RunOk : fnC Tryz.prog Tryz.f138 = some (c_impl_RunOk, [.t 2], 98) := by kernel_rfl
set_option maxHeartbeats 4000000 in
theorem p_impl_needOf (r : Rn) (t : Nat) (h0 : planFault r.plan = 0) (hlen : (r.tasks.length : Int) = r.plan.tasks) : Pure Tryz.prog 209 [.agg (encRn r), .c (.val (.int .i64 t))] (.c (.val (.int .i64 (cntL r.tasks (befL r.plan t))))) := by
  obtain ⟨n, hn, hn1, h12, h30, hes, hnd, -⟩ := pf_0 h0
  refine pure_fn Tryz.func209 code_impl_needOf (by simp) ?_
  unfold c_impl_needOf
  have hbl := befL_len hn h12 h30 t
  simp -implicitDefEqProofs only [go_sem, encRn, encPl]
  intro b
  refine run_call (p_impl_BeforeOf r.plan t h0) (by simp -implicitDefEqProofs only [go_sem, encRn, encPl]) fun η => ?_
  simp -implicitDefEqProofs only [go_sem, encRn, encPl]
  refine wp_loopW (fun i : Nat => St.of [(2, Bx 200 b), (5, Ni (cntL r.tasks ((befL r.plan t).take i))), (11, Hd 11 (η 0)), (12, Ni (befL r.plan t).length), (13, Ni i)] [(200, Bi b _ (encRn r)), (11, .loose (encInts (befL r.plan t)) (η 0))]) (fun i => i ≤ (befL r.plan t).length) (fun i => (befL r.plan t).length - i) 0 (by (try dsimp only); first | omega | (simp; done) | (and_intros <;> first | omega | simp)) (wk_of [some 200, some 1100] (by simp -implicitDefEqProofs only [go_sem, encRn, encPl, encTk, List.take_zero, cntL, List.filter_nil, List.length_nil] <;> and_intros <;> first | rfl | assumption)) ?_
  rintro k hk
  by_cases hlt : k < (befL r.plan t).length
  · have hlt' : (k : Int) < (befL r.plan t).length := by omega
    obtain ⟨v, hv⟩ := get_some hlt
    have hvb := befL_in hn (List.mem_of_getElem? hv)
    have hvl : v.toNat < r.tasks.length := by omega
    have hv0 := hvb.1
    obtain ⟨y, hy⟩ := get_some hvl
    have hw : IntKind.i64.wrap ((k : Int) + 1) = ((k + 1 : Nat) : Int) := wrap64 (by omega) (by omega)
    have hcl := cntL_le r.tasks ((befL r.plan t).take k)
    rw [List.length_take] at hcl
    have hw2 : IntKind.i64.wrap ((cntL r.tasks ((befL r.plan t).take k) : Int) + 1) = ((cntL r.tasks ((befL r.plan t).take k) + 1 : Nat) : Int) := wrap64 (by omega) (by omega)
    cases hc : y.state != 4
    · have hs := cntL_no hv hy hc
      simp -implicitDefEqProofs only [go_sem, encRn, encPl, hlt, hlt', at_encInts hv, in_encInts hlt, hvl, hv0, elem_encTks hy, encTk, hc, hw]
      exact ⟨k + 1, by (try dsimp only); first | omega | assumption | (and_intros <;> first | omega | assumption), (wk_of [some 200, some 11] (by simp -implicitDefEqProofs only [go_sem, encRn, encPl, encTk, hs] <;> and_intros <;> first | rfl | assumption)), by (try dsimp only); omega⟩
    · have hs := cntL_yes hv hy hc
      simp -implicitDefEqProofs only [go_sem, encRn, encPl, hlt, hlt', at_encInts hv, in_encInts hlt, hvl, hv0, elem_encTks hy, encTk, hc, hw, hw2]
      exact ⟨k + 1, by (try dsimp only); first | omega | assumption | (and_intros <;> first | omega | assumption), (wk_of [some 200, some 11] (by simp -implicitDefEqProofs only [go_sem, encRn, encPl, encTk, hs] <;> and_intros <;> first | rfl | assumption)), by (try dsimp only); omega⟩
  have hlt' : ¬ (k : Int) < (befL r.plan t).length := by omega
  rw [List.take_of_length_le (by omega)]
  simp -implicitDefEqProofs only [go_sem, hlt']
set_option maxHeartbeats 4000000 in
theorem p_impl_TasksIn (r : Rn) (s : Int) (hl : r.tasks.length ≤ 2000000) : Pure Tryz.prog 115 [.agg (encRn r), .c (.val (.int .i64 s))] (.c (encInts (tinL s r.tasks))) := by
  refine pure_fn Tryz.func115 code_impl_TasksIn (by simp) ?_
  unfold c_impl_TasksIn
  simp -implicitDefEqProofs only [go_sem, encRn, encPl]
  intro b
  refine wp_loopW (fun i : Nat × Heads => St.of [(1, Ni s), (5, Hd 5 i.2), (9, Ro (encTks r.tasks)), (10, Ni r.tasks.length), (11, Ni i.1)] [(5, .loose (encInts (tinF s r.tasks i.1)) i.2)]) (fun i => i.1 ≤ r.tasks.length) (fun i => r.tasks.length - i.1) (0, nilH) (by (try dsimp only); first | omega | (simp; done) | (and_intros <;> first | omega | simp)) (wk_of [none] (by simp -implicitDefEqProofs only [go_sem, encRn, encPl, tinF_0] <;> and_intros <;> first | rfl | assumption)) ?_
  rintro ⟨k, η⟩ hk
  dsimp only at hk
  by_cases hlt : k < r.tasks.length
  · have hlt' : (k : Int) < r.tasks.length := by omega
    obtain ⟨x, hx⟩ := get_some hlt
    have hw : IntKind.i64.wrap ((k : Int) + 1) = ((k + 1 : Nat) : Int) := wrap64 (by omega) (by omega)
    have hc := tinF_succ hx s
    have hle := tinF_len s r.tasks k
    generalize tinF s r.tasks k = R at *
    have hm1 : R.length + 1 ≤ maxLen := by unfold maxLen; omega
    have hm2 : (R.length + 1) * 8 ≤ 140737488355328 := by omega
    by_cases h2 : x.state = s
    · have h2' : (x.state == s) = true := by simpa using h2
      rw [if_pos h2] at hc
      simp -implicitDefEqProofs only [go_sem, encRn, encPl, hlt, hlt', elem_encTks hx, encTk]
      intro b2
      simp -implicitDefEqProofs only [go_sem, encTk, h2', hw, hm1, hm2, ints_snoc1]
      intro η3 η4
      exact ⟨(k + 1, η4), by (try dsimp only); first | omega | assumption | (and_intros <;> first | omega | assumption), (wk_of [some 2300] (by simp -implicitDefEqProofs only [go_sem, hc] <;> and_intros <;> first | rfl | assumption)), by (try dsimp only); omega⟩
    · have h2' : (x.state == s) = false := by simpa using h2
      rw [if_neg h2, List.append_nil] at hc
      simp -implicitDefEqProofs only [go_sem, encRn, encPl, hlt, hlt', elem_encTks hx, encTk]
      intro b2
      simp -implicitDefEqProofs only [go_sem, encTk, h2', hw]
      exact ⟨(k + 1, η), by (try dsimp only); first | omega | assumption | (and_intros <;> first | omega | assumption), (wk_of [some 5] (by simp -implicitDefEqProofs only [go_sem, hc] <;> and_intros <;> first | rfl | assumption)), by (try dsimp only); omega⟩
  have hlt' : ¬ (k : Int) < r.tasks.length := by omega
  obtain rfl : k = r.tasks.length := by omega
  simp -implicitDefEqProofs only [go_sem, hlt', tinL]
set_option maxHeartbeats 8000000 in
theorem p_impl_taskOk (r : Rn) (t : Nat) (x : Tk) (hx : r.tasks[t]? = some x) (h0 : planFault r.plan = 0) (hlen : (r.tasks.length : Int) = r.plan.tasks) : Pure Tryz.prog 180 [.agg (encRn r), .c (.val (.int .i64 t))] (.c (.val (.bool (taskB r.plan r.tasks t x)))) := by
  have htl := (List.getElem?_eq_some_iff.1 hx).1
  refine pure_fn Tryz.func180 code_impl_taskOk (by simp) ?_
  unfold c_impl_taskOk
  have h0t : (t : Int) ≥ 0 := by omega
  simp -implicitDefEqProofs only [go_sem, encRn, encPl, htl, h0t, elem_encTks hx, encTk]
  intro b b2
  refine run_call (p_impl_within x.state 1 6) (by simp -implicitDefEqProofs only [go_sem, encRn, encPl, encTk]) fun η => ?_
  simp -implicitDefEqProofs only [go_sem, encRn, encPl, encTk]
  cases hsr : decide (1 ≤ x.state ∧ x.state ≤ 6)
  · have hb : taskB r.plan r.tasks t x = false := taskB_st (by simpa using hsr)
    simp -implicitDefEqProofs only [go_sem, encRn, encPl, encTk, hsr, hb]
  simp -implicitDefEqProofs only [go_sem, encRn, encPl, encTk, hsr]
  refine run_call (p_impl_needOf r t h0 hlen) (by simp -implicitDefEqProofs only [go_sem, encRn, encPl, encTk]) fun η => ?_
  simp -implicitDefEqProofs only [go_sem, encRn, encPl, encTk]
  have hnd : needL r.plan r.tasks t = (cntL r.tasks (befL r.plan t) : Int) := rfl
  generalize cntL r.tasks (befL r.plan t) = N at *
  cases hne : x.need != (N : Int)
  rotate_left
  · have hb : taskB r.plan r.tasks t x = false := by
      have : ¬ x.need = N := by simpa using hne
      simp [taskB, hnd, this]
    simp -implicitDefEqProofs only [go_sem, encRn, encPl, encTk, hne, hb]
  have hne' : x.need = N := by simpa using hne
  simp -implicitDefEqProofs only [go_sem, encRn, encPl, encTk, hne]
  refine run_call (p_impl_within x.tri 0 r.plan.most) (by simp -implicitDefEqProofs only [go_sem, encRn, encPl, encTk]) fun η => ?_
  simp -implicitDefEqProofs only [go_sem, encRn, encPl, encTk]
  cases htr : decide (0 ≤ x.tri ∧ x.tri ≤ r.plan.most)
  · have hb : taskB r.plan r.tasks t x = false := by simp [taskB, inB, htr]
    simp -implicitDefEqProofs only [go_sem, encRn, encPl, encTk, hb]
  have htr' : 0 ≤ x.tri ∧ x.tri ≤ r.plan.most := by simpa using htr
  rcases stcases x.state with hs | hs | hs | hs | hs | hs | ⟨s1, s2, s3, s4, s5, s6⟩
  · cases ht : x.til != 0
    rotate_left
    · have hb : taskB r.plan r.tasks t x = false := by
        have : ¬ x.til = 0 := by simpa using ht
        simp [taskB, tilB, hs, this]
      simp -implicitDefEqProofs only [go_sem, encRn, encPl, encTk, htr, hs, ht, hb]
    have ht' : x.til = 0 := by simpa using ht
    have hb : taskB r.plan r.tasks t x = decide ((N : Int) > 0) := by simp [taskB, tilB, lastB, inB, hs, hnd, hne', ht', htr']
    simp -implicitDefEqProofs only [go_sem, encRn, encPl, encTk, htr, hs, ht, hb, hne']
  · cases ht : x.til != 0
    rotate_left
    · have hb : taskB r.plan r.tasks t x = false := by
        have : ¬ x.til = 0 := by simpa using ht
        simp [taskB, tilB, hs, this]
      simp -implicitDefEqProofs only [go_sem, encRn, encPl, encTk, htr, hs, ht, hb]
    have ht' : x.til = 0 := by simpa using ht
    cases hz : (N : Int) == 0
    · have hz' : ¬ N = 0 := by simpa using hz
      have hb : taskB r.plan r.tasks t x = false := by simp [taskB, tilB, lastB, inB, hs, hnd, hne', ht', htr', hz']
      simp -implicitDefEqProofs only [go_sem, encRn, encPl, encTk, htr, hs, ht, hz, hb, hne']
    · have hz' : N = 0 := by simpa using hz
      have hb : taskB r.plan r.tasks t x = decide (x.tri < r.plan.most) := by simp [taskB, tilB, lastB, inB, hs, hnd, hne', ht', htr', hz']
      simp -implicitDefEqProofs only [go_sem, encRn, encPl, encTk, htr, hs, ht, hz, hb, hne']
  · simp -implicitDefEqProofs only [go_sem, encRn, encPl, encTk, htr, hs]
    refine run_call (p_impl_within x.til 1 1000000000) (by simp -implicitDefEqProofs only [go_sem, encRn, encPl, encTk, hs]) fun η => ?_
    simp -implicitDefEqProofs only [go_sem, encRn, encPl, encTk, hs]
    cases ht : decide (1 ≤ x.til ∧ x.til ≤ 1000000000)
    · have hb : taskB r.plan r.tasks t x = false := by simp [taskB, tilB, inB, hs, ht]
      simp -implicitDefEqProofs only [go_sem, encRn, encPl, encTk, htr, hs, hb]
    have ht' : 1 ≤ x.til ∧ x.til ≤ 1000000000 := by simpa using ht
    cases hz : (N : Int) == 0
    · have hz' : ¬ N = 0 := by simpa using hz
      have hb : taskB r.plan r.tasks t x = false := by simp [taskB, tilB, lastB, inB, hs, hnd, hne', ht', htr', hz']
      simp -implicitDefEqProofs only [go_sem, encRn, encPl, encTk, htr, hs, ht, hz, hb, hne']
    · have hz' : N = 0 := by simpa using hz
      have hb : taskB r.plan r.tasks t x = decide (x.tri ≥ 1) := by simp [taskB, tilB, lastB, inB, hs, hnd, hne', ht', htr', hz']
      simp -implicitDefEqProofs only [go_sem, encRn, encPl, encTk, htr, hs, ht, hz, hb, hne']
  · cases ht : x.til != 0
    rotate_left
    · have hb : taskB r.plan r.tasks t x = false := by
        have : ¬ x.til = 0 := by simpa using ht
        simp [taskB, tilB, hs, this]
      simp -implicitDefEqProofs only [go_sem, encRn, encPl, encTk, htr, hs, ht, hb]
    have ht' : x.til = 0 := by simpa using ht
    cases hz : (N : Int) == 0
    · have hz' : ¬ N = 0 := by simpa using hz
      have hb : taskB r.plan r.tasks t x = false := by simp [taskB, tilB, lastB, inB, hs, hnd, hne', ht', htr', hz']
      simp -implicitDefEqProofs only [go_sem, encRn, encPl, encTk, htr, hs, ht, hz, hb, hne']
    · have hz' : N = 0 := by simpa using hz
      have hb : taskB r.plan r.tasks t x = decide (x.tri ≥ 1) := by simp [taskB, tilB, lastB, inB, hs, hnd, hne', ht', htr', hz']
      simp -implicitDefEqProofs only [go_sem, encRn, encPl, encTk, htr, hs, ht, hz, hb, hne']
  · cases ht : x.til != 0
    rotate_left
    · have hb : taskB r.plan r.tasks t x = false := by
        have : ¬ x.til = 0 := by simpa using ht
        simp [taskB, tilB, hs, this]
      simp -implicitDefEqProofs only [go_sem, encRn, encPl, encTk, htr, hs, ht, hb]
    have ht' : x.til = 0 := by simpa using ht
    cases hz : (N : Int) == 0
    · have hz' : ¬ N = 0 := by simpa using hz
      have hb : taskB r.plan r.tasks t x = false := by simp [taskB, tilB, lastB, inB, hs, hnd, hne', ht', htr', hz']
      simp -implicitDefEqProofs only [go_sem, encRn, encPl, encTk, htr, hs, ht, hz, hb, hne']
    · have hz' : N = 0 := by simpa using hz
      have hb : taskB r.plan r.tasks t x = decide (x.tri ≥ 1) := by simp [taskB, tilB, lastB, inB, hs, hnd, hne', ht', htr', hz']
      simp -implicitDefEqProofs only [go_sem, encRn, encPl, encTk, htr, hs, ht, hz, hb, hne']
  · cases ht : x.til != 0
    rotate_left
    · have hb : taskB r.plan r.tasks t x = false := by
        have : ¬ x.til = 0 := by simpa using ht
        simp [taskB, tilB, hs, this]
      simp -implicitDefEqProofs only [go_sem, encRn, encPl, encTk, htr, hs, ht, hb]
    have ht' : x.til = 0 := by simpa using ht
    have hb : taskB r.plan r.tasks t x = true := by simp [taskB, tilB, lastB, inB, hs, hnd, hne', ht', htr']
    simp -implicitDefEqProofs only [go_sem, encRn, encPl, encTk, htr, hs, ht, hb]
  · have := of_decide_eq_true hsr
    have h1 : ¬ x.state = 1 := by simpa using s1
    have h2 : ¬ x.state = 2 := by simpa using s2
    have h3 : ¬ x.state = 3 := by simpa using s3
    have h4 : ¬ x.state = 4 := by simpa using s4
    have h5 : ¬ x.state = 5 := by simpa using s5
    have h6 : ¬ x.state = 6 := by simpa using s6
    omega
end Go.Proofs.YtnhdcbhcocgjhaaGreat
set_option linter.unusedSimpArgs false
set_option linter.unusedVariables false
set_option maxRecDepth 100000
namespace Go.Proofs.YtnhdcbhcocgjhaaGreat
open Go.RowKit Go.Sort
theorem runOk_last {r : Rn} {v : Int} (h1 : inB r.id 1 9999 = true) (h2 : planFault r.plan = 0) (h3 : (r.tasks.length : Int) = r.plan.tasks) (h4 : ∀ (t : Nat) (x : Tk), r.tasks[t]? = some x → taskB r.plan r.tasks t x = true) (hv : stOf r.tasks = v) (h0 : v ≠ 0) : runOkB r = (r.state == v) := by
  by_cases h : r.state = v
  · rw [runOk_yes h1 h2 h3 h4 (h.trans hv.symm) (h ▸ h0)]; simp [h]
  · rw [runOk_no fun h' => h (h'.state.trans hv)]; simp [h]
set_option maxHeartbeats 8000000 in
theorem p_impl_RunOk (r : Rn) (hsz : r.plan.edges.length ≤ 4000000) : Pure Tryz.prog 138 [.agg (encRn r)] (.c (.val (.bool (runOkB r)))) := by
  refine pure_fn Tryz.func138 code_impl_RunOk (by simp) ?_
  unfold c_impl_RunOk
  simp -implicitDefEqProofs only [go_sem, encRn, encPl]
  intro b
  refine run_call (p_impl_within r.id 1 9999) (by simp -implicitDefEqProofs only [go_sem, encRn, encPl]) fun η => ?_
  simp -implicitDefEqProofs only [go_sem, encRn, encPl]
  cases h1 : decide (1 ≤ r.id ∧ r.id ≤ 9999)
  · have hb : runOkB r = false := runOk_no fun h => by have := h.id; simp [inB, h1] at this
    simp -implicitDefEqProofs only [go_sem, encRn, encPl, h1, hb]
  simp -implicitDefEqProofs only [go_sem, encRn, encPl, h1]
  refine run_call (p_impl_PlanFault r.plan hsz) (by simp -implicitDefEqProofs only [go_sem, encRn, encPl]) fun η => ?_
  simp -implicitDefEqProofs only [go_sem, encRn, encPl]
  cases h2 : planFault r.plan != 0
  rotate_left
  · have hb : runOkB r = false := runOk_no fun h => by have := h.plan; simp [this] at h2
    simp -implicitDefEqProofs only [go_sem, encRn, encPl, h2, hb]
  have h0 : planFault r.plan = 0 := by simpa using h2
  obtain ⟨n, hn, hn1, h12, h30, hes, hnd, -⟩ := pf_0 h0
  simp -implicitDefEqProofs only [go_sem, encRn, encPl, h2]
  cases h3 : (r.tasks.length : Int) != r.plan.tasks
  rotate_left
  · have hb : runOkB r = false := runOk_no fun h => by have := h.len; simp [this] at h3
    simp -implicitDefEqProofs only [go_sem, encRn, encPl, h3, hb]
  have hlen : (r.tasks.length : Int) = r.plan.tasks := by simpa using h3
  have hlb : r.tasks.length ≤ 12 := by omega
  simp -implicitDefEqProofs only [go_sem, encRn, encPl, h3]
  refine wp_loopW (fun i : Nat => St.of [(1, Bx 100 b), (29, Ni r.tasks.length), (30, Ni i)] [(100, Bi b _ (encRn r))]) (fun i => i ≤ r.tasks.length ∧ ∀ (t : Nat) (x : Tk), t < i → r.tasks[t]? = some x → taskB r.plan r.tasks t x = true) (fun i => r.tasks.length - i) 0 (by (try dsimp only); first | omega | (simp; done) | (and_intros <;> first | omega | simp)) (wk_of [some 100] (by simp -implicitDefEqProofs only [go_sem, encRn, encPl] <;> and_intros <;> first | rfl | assumption)) ?_
  rintro j ⟨hj, hjo⟩
  by_cases hjl : j < r.tasks.length
  · have hjl' : (j : Int) < r.tasks.length := by omega
    obtain ⟨x, hx⟩ := get_some hjl
    have hw : IntKind.i64.wrap ((j : Int) + 1) = ((j + 1 : Nat) : Int) := wrap64 (by omega) (by omega)
    simp -implicitDefEqProofs only [go_sem, encRn, encPl, hjl']
    refine run_call (p_impl_taskOk r j x hx h0 hlen) (by simp -implicitDefEqProofs only [go_sem, encRn, encPl]) fun η => ?_
    simp -implicitDefEqProofs only [go_sem, encRn, encPl]
    cases hs : taskB r.plan r.tasks j x
    · have hb : runOkB r = false := runOk_no fun h => by have := h.tasks j x hx; rw [hs] at this; cases this
      simp -implicitDefEqProofs only [go_sem, encRn, encPl, hs, hb]
    · simp -implicitDefEqProofs only [go_sem, encRn, encPl, hs, hw]
      exact ⟨j + 1, ⟨hjl, fun t y ht hy => by rcases Nat.lt_or_ge t j with h' | h'; exact hjo t y h' hy; obtain rfl : t = j := (by omega); rw [hx] at hy; cases hy; exact hs⟩, (wk_of [some 100] (by simp -implicitDefEqProofs only [go_sem, encRn, encPl] <;> and_intros <;> first | rfl | assumption)), by (try dsimp only); omega⟩
  have hjl' : ¬ (j : Int) < r.tasks.length := by omega
  have hall : ∀ (t : Nat) (x : Tk), r.tasks[t]? = some x → taskB r.plan r.tasks t x = true := fun t x hx => hjo t x (by have := (List.getElem?_eq_some_iff.1 hx).1; omega) hx
  simp -implicitDefEqProofs only [go_sem, encRn, encPl, hjl']
  refine run_call (p_impl_TasksIn r 4 (by omega)) (by simp -implicitDefEqProofs only [go_sem, encRn, encPl]) fun η => ?_
  simp -implicitDefEqProofs only [go_sem, encRn, encPl]
  refine run_call (p_impl_TasksIn r 5 (by omega)) (by simp -implicitDefEqProofs only [go_sem, encRn, encPl]) fun η => ?_
  simp -implicitDefEqProofs only [go_sem, encRn, encPl]
  refine run_call (p_impl_TasksIn r 6 (by omega)) (by simp -implicitDefEqProofs only [go_sem, encRn, encPl]) fun η => ?_
  simp -implicitDefEqProofs only [go_sem, encRn, encPl]
  have hyes : ∀ v : Int, stOf r.tasks = v → v ≠ 0 → runOkB r = (r.state == v) := fun v hv h0' => runOk_last (by simpa [inB] using h1) h0 hlen hall hv h0'
  have hdef : stOf r.tasks = if (tinL 4 r.tasks).length = r.tasks.length then 2 else if (tinL 5 r.tasks).length = 1 ∧ (tinL 4 r.tasks).length + (tinL 5 r.tasks).length + (tinL 6 r.tasks).length = r.tasks.length then 3 else if (tinL 5 r.tasks).length = 0 ∧ 0 < (tinL 6 r.tasks).length ∧ (tinL 4 r.tasks).length + (tinL 5 r.tasks).length + (tinL 6 r.tasks).length = r.tasks.length then 4 else if (tinL 5 r.tasks).length = 0 ∧ (tinL 6 r.tasks).length = 0 then 1 else 0 := rfl
  have b4 := tinF_len 4 r.tasks r.tasks.length
  have b5 := tinF_len 5 r.tasks r.tasks.length
  have b6 := tinF_len 6 r.tasks r.tasks.length
  change (tinL 4 r.tasks).length ≤ _ at b4
  change (tinL 5 r.tasks).length ≤ _ at b5
  change (tinL 6 r.tasks).length ≤ _ at b6
  generalize (tinL 4 r.tasks).length = c4 at *
  generalize (tinL 5 r.tasks).length = c5 at *
  generalize (tinL 6 r.tasks).length = c6 at *
  generalize r.tasks.length = L at *
  have w45 : IntKind.i64.wrap ((c4 : Int) + c5) = ((c4 + c5 : Nat) : Int) := by rw [wrap64 (by omega) (by omega)]; omega
  have w456 : IntKind.i64.wrap (((c4 + c5 : Nat) : Int) + c6) = ((c4 + c5 + c6 : Nat) : Int) := by rw [wrap64 (by omega) (by omega)]; omega
  simp -implicitDefEqProofs only [go_sem, encRn, encPl, w45, w456]
  cases hA : (c4 : Int) == L
  rotate_left
  · have hA' : c4 = L := ib_t hA
    have hst : stOf r.tasks = 2 := by rw [hdef, if_pos (by omega)]
    have hb : runOkB r = (r.state == 2) := hyes _ hst (by decide)
    simp -implicitDefEqProofs only [go_sem, encRn, encPl, hA, hb]
  have hA' : ¬ c4 = L := ib_f hA
  cases hB : (c5 : Int) == 1
  rotate_left
  · have hB' : c5 = 1 := ib_t hB
    have hB0 : ((c5 : Int) == 0) = false := by rw [hB']; rfl
    cases hR : ((c4 + c5 + c6 : Nat) : Int) == L
    · have hR' : ¬ c4 + c5 + c6 = L := ib_f hR
      have hst : stOf r.tasks = 0 := by rw [hdef, if_neg (by omega), if_neg (by omega), if_neg (by omega), if_neg (by omega)]
      have hb : runOkB r = false := runOk_no fun h => h.live (h.state.trans hst)
      simp -implicitDefEqProofs only [go_sem, encRn, encPl, hA, hB, hB0, hR, hb]
      cases hs1 : r.state == 1
      · simp -implicitDefEqProofs only [go_sem, encRn, encPl, hA, hB, hB0, hR, hs1, hb]
      · simp -implicitDefEqProofs only [go_sem, encRn, encPl, hA, hB, hB0, hR, hs1, hb]
    · have hR' : c4 + c5 + c6 = L := ib_t hR
      have hst : stOf r.tasks = 3 := by rw [hdef, if_neg (by omega), if_pos (by omega)]
      have hb : runOkB r = (r.state == 3) := hyes _ hst (by decide)
      simp -implicitDefEqProofs only [go_sem, encRn, encPl, hA, hB, hR, hb]
  have hB' : ¬ c5 = 1 := ib_f hB
  cases hC : (c5 : Int) == 0
  · have hC' : ¬ c5 = 0 := ib_f hC
    have hst : stOf r.tasks = 0 := by rw [hdef, if_neg (by omega), if_neg (by omega), if_neg (by omega), if_neg (by omega)]
    have hb : runOkB r = false := runOk_no fun h => h.live (h.state.trans hst)
    simp -implicitDefEqProofs only [go_sem, encRn, encPl, hA, hB, hC, hb]
    cases hs1 : r.state == 1
    · simp -implicitDefEqProofs only [go_sem, encRn, encPl, hA, hB, hC, hs1, hb]
    · simp -implicitDefEqProofs only [go_sem, encRn, encPl, hA, hB, hC, hs1, hb]
  have hC' : c5 = 0 := ib_t hC
  by_cases h6 : 0 < c6
  · have h6' : (c6 : Int) > 0 := by omega
    have h60 : ((c6 : Int) == 0) = false := by simp only [beq_eq_false_iff_ne, ne_eq]; omega
    cases hR : ((c4 + c5 + c6 : Nat) : Int) == L
    · have hR' : ¬ c4 + c5 + c6 = L := ib_f hR
      have hst : stOf r.tasks = 0 := by rw [hdef, if_neg (by omega), if_neg (by omega), if_neg (by omega), if_neg (by omega)]
      have hb : runOkB r = false := runOk_no fun h => h.live (h.state.trans hst)
      simp -implicitDefEqProofs only [go_sem, encRn, encPl, hA, hB, hC, h6', h60, hR, hb]
      cases hs1 : r.state == 1
      · simp -implicitDefEqProofs only [go_sem, encRn, encPl, hA, hB, hC, h6', h60, hR, hs1, hb]
      · simp -implicitDefEqProofs only [go_sem, encRn, encPl, hA, hB, hC, h6', h60, hR, hs1, hb]
    · have hR' : c4 + c5 + c6 = L := ib_t hR
      have hst : stOf r.tasks = 4 := by rw [hdef, if_neg (by omega), if_neg (by omega), if_pos (by omega)]
      have hb : runOkB r = (r.state == 4) := hyes _ hst (by decide)
      simp -implicitDefEqProofs only [go_sem, encRn, encPl, hA, hB, hC, h6', hR, hb]
  · have h6' : ¬ (c6 : Int) > 0 := by omega
    have h60 : ((c6 : Int) == 0) = true := by simp only [beq_iff_eq]; omega
    have hst : stOf r.tasks = 1 := by rw [hdef, if_neg (by omega), if_neg (by omega), if_neg (by omega), if_pos (by omega)]
    have hb : runOkB r = (r.state == 1) := hyes _ hst (by decide)
    simp -implicitDefEqProofs only [go_sem, encRn, encPl, hA, hB, hC, h6', h60, hb]
    cases hs1 : r.state == 1
    · rw [hs1] at hb
      simp -implicitDefEqProofs only [go_sem, encRn, encPl, hA, hB, hC, h6', h60, hs1, hb]
    · rw [hs1] at hb
      simp -implicitDefEqProofs only [go_sem, encRn, encPl, hA, hB, hC, h6', h60, hs1, hb]
end Go.Proofs.YtnhdcbhcocgjhaaGreat
set_option linter.unusedSimpArgs false
set_option linter.unusedVariables false
set_option maxRecDepth 100000
namespace Go.Proofs.YtnhdcbhcocgjhaaGreat
open Go.RowKit Go.Sort
def c_spec_l06Copy : C := .seq (.reg [⟨some 1, none, .box 77 5 (.t 0)⟩, ⟨some 2, none, .alloc 77 [.int .i64 0, .int .i64 0, .int .i64 0, .int .i64 0, .slice none 0 0]⟩]) (.seq (.reg [⟨some 3, none, .bsl 182 2 0 [] []⟩, ⟨some 4, none, .fa 4 (.t 1)⟩, ⟨some 5, none, .ld false 1 (.t 4)⟩, ⟨some 6, none, .app 182 2 16 (.t 3) (.t 5)⟩, ⟨some 7, none, .fa 4 (.t 1)⟩, ⟨none, none, .st 1 [some (2, 182)] (.t 7) (.t 6)⟩]) (.seq (.reg [⟨some 8, none, .ld true 5 (.t 1)⟩, ⟨none, none, .st 5 [none, none, none, none, some (2, 182)] (.t 2) (.t 8)⟩]) .ret))
theorem code_spec_l06Copy : fnC Tryz.prog Tryz.f163 = some (c_spec_l06Copy, [.cell 2 true 5], 9) := by kernel_rfl
def c_impl_copyPlan : C := .seq (.reg [⟨some 1, none, .box 77 5 (.t 0)⟩, ⟨some 2, none, .alloc 77 [.int .i64 0, .int .i64 0, .int .i64 0, .int .i64 0, .slice none 0 0]⟩]) (.seq (.reg [⟨some 3, none, .fa 4 (.t 1)⟩, ⟨some 4, none, .ld false 1 (.t 3)⟩, ⟨some 5, none, .app 182 2 16 (.c (.slice none 0 0)) (.t 4)⟩, ⟨some 6, none, .fa 4 (.t 1)⟩, ⟨none, none, .st 1 [some (2, 182)] (.t 6) (.t 5)⟩]) (.seq (.reg [⟨some 7, none, .ld true 5 (.t 1)⟩, ⟨none, none, .st 5 [none, none, none, none, some (2, 182)] (.t 2) (.t 7)⟩]) .ret))
theorem code_impl_copyPlan : fnC Tryz.prog Tryz.f168 = some (c_impl_copyPlan, [.cell 2 true 5], 8) := by kernel_rfl
theorem p_spec_l06Copy (p : Pl) (hb : p.edges.length ≤ 4000000) : Pure Tryz.prog 163 [.agg (encPl p)] (.agg (encPl p)) := by
  refine pure_fn Tryz.func163 code_spec_l06Copy (by simp) ?_
  unfold c_spec_l06Copy
  have h1 : p.edges.length ≤ maxLen := by unfold maxLen; omega
  have h2 : p.edges.length * 16 ≤ 140737488355328 := by omega
  simp -implicitDefEqProofs only [go_sem, encPl, h1, h2, fold_encEds]
theorem p_impl_copyPlan (p : Pl) (hb : p.edges.length ≤ 4000000) : Pure Tryz.prog 168 [.agg (encPl p)] (.agg (encPl p)) := by
  refine pure_fn Tryz.func168 code_impl_copyPlan (by simp) ?_
  unfold c_impl_copyPlan
  have h1 : p.edges.length ≤ maxLen := by unfold maxLen; omega
  have h2 : p.edges.length * 16 ≤ 140737488355328 := by omega
  simp -implicitDefEqProofs only [go_sem, encPl, h1, h2, fold_encEds]
end Go.Proofs.YtnhdcbhcocgjhaaGreat
