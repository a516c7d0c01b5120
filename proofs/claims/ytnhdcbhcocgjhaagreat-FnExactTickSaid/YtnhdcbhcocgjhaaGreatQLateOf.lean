/- Texts for laws: LateOf. -/
import Derived.Test.YtnhdcbhcocgjhaaGreatQAb
import Derived.Test.YtnhdcbhcocgjhaaGreatQLateP
import Derived.Test.YtnhdcbhcocgjhaaGreatQOpen
import Derived.Test.YtnhdcbhcocgjhaaGreatProg
set_option linter.unusedSimpArgs false
set_option linter.unusedVariables false
set_option maxRecDepth 100000
namespace Go.Proofs.YtnhdcbhcocgjhaaGreat
open Go.RowKit Go.Sort
def c_spec_LateOf : C := .seq (.reg [⟨some 1, none, .box 30 4 (.t 0)⟩, ⟨some 2, none, .mov (.c (.slice none 0 0))⟩]) (.seq (.reg [⟨some 7, none, .bsl 96 1 0 [] []⟩, ⟨some 3, none, .mov (.t 7)⟩]) (.seq (.seq (.reg [⟨some 4, none, .mov (.c (.int .i64 0))⟩]) (.blk 0 (.loop (.seq (.seq (.reg [⟨some 8, none, .mov (.t 4)⟩, ⟨some 9, none, .fa 3 (.t 1)⟩, ⟨some 10, none, .ld false 1 (.t 9)⟩, ⟨some 11, none, .len false (.t 10)⟩, ⟨some 12, none, .bin .lss 3 (.t 8) (.t 11)⟩]) (.cond (.t 12) .skip (.exit 0))) (.seq (.blk 1 (.seq (.reg [⟨some 5, none, .mov (.c (.int .i64 0))⟩]) (.blk 2 (.loop (.seq (.seq (.reg [⟨some 15, none, .mov (.t 5)⟩, ⟨some 16, none, .fa 3 (.t 1)⟩, ⟨some 17, none, .ld false 1 (.t 16)⟩, ⟨some 18, none, .mov (.t 4)⟩, ⟨some 19, none, .ia 8 (.t 17) (.t 18)⟩, ⟨some 20, none, .fa 7 (.t 19)⟩, ⟨some 21, none, .ld false 1 (.t 20)⟩, ⟨some 22, none, .len false (.t 21)⟩, ⟨some 23, none, .bin .lss 3 (.t 15) (.t 22)⟩]) (.cond (.t 23) .skip (.exit 2))) (.seq (.blk 3 (.seq (.reg [⟨some 26, none, .fa 3 (.t 1)⟩, ⟨some 27, none, .ld false 1 (.t 26)⟩, ⟨some 28, none, .mov (.t 4)⟩, ⟨some 29, none, .ia 8 (.t 27) (.t 28)⟩, ⟨some 30, none, .fa 7 (.t 29)⟩, ⟨some 31, none, .ld false 1 (.t 30)⟩, ⟨some 32, none, .mov (.t 5)⟩, ⟨some 33, none, .ia 4 (.t 31) (.t 32)⟩, ⟨some 34, none, .ld true 4 (.t 33)⟩, ⟨some 6, none, .alloc 98 [.int .i64 0, .int .i64 0, .int .i64 0, .int .i64 0]⟩, ⟨none, none, .st 4 [none, none, none, none] (.t 6) (.t 34)⟩]) (.seq (.reg [⟨some 35, none, .fa 0 (.t 6)⟩, ⟨some 36, none, .ld false 1 (.t 35)⟩, ⟨some 37, none, .bin .eql 3 (.t 36) (.c (.int .i64 3))⟩, ⟨some 38, none, .mov (.t 37)⟩, ⟨some 39, some (38, true), .fa 3 (.t 6)⟩, ⟨some 40, some (38, true), .ld false 1 (.t 39)⟩, ⟨some 41, some (38, true), .fa 0 (.t 1)⟩, ⟨some 42, some (38, true), .ld false 1 (.t 41)⟩, ⟨some 43, some (38, true), .bin .leq 3 (.t 40) (.t 42)⟩, ⟨some 44, some (38, true), .mov (.t 43)⟩, ⟨some 45, some (44, false), .fa 3 (.t 6)⟩, ⟨some 46, some (44, false), .ld false 1 (.t 45)⟩, ⟨some 47, some (44, false), .bin .sub 3 (.t 46) (.c (.int .i64 1))⟩, ⟨some 48, some (44, false), .fa 0 (.t 1)⟩, ⟨some 49, some (44, false), .ld false 1 (.t 48)⟩, ⟨some 50, some (44, false), .bin .leq 3 (.t 47) (.t 49)⟩, ⟨some 51, some (38, true), .pick (.t 44) (.c (.bool true)) (.t 50)⟩, ⟨some 52, none, .pick (.t 38) (.t 51) (.c (.bool false))⟩]) (.cond (.t 52) (.dreg (T.pure 0 ⟨some 53, none, .mov (.t 3)⟩ (T.pure 1 ⟨some 54, none, .fa 3 (.t 1)⟩ (T.pure 2 ⟨some 55, none, .ld false 1 (.t 54)⟩ (T.pure 3 ⟨some 56, none, .mov (.t 4)⟩ (T.pure 4 ⟨some 57, none, .ia 8 (.t 55) (.t 56)⟩ (T.pure 5 ⟨some 58, none, .fa 0 (.t 57)⟩ (T.pure 6 ⟨some 59, none, .ld false 1 (.t 58)⟩ (T.pure 7 ⟨some 60, none, .mov (.t 5)⟩ (T.pure 8 ⟨some 61, none, .fa 2 (.t 6)⟩ (T.pure 9 ⟨some 62, none, .ld false 1 (.t 61)⟩ (T.alt ⟨some 63, none, .bsl 3 1 3 [none, none, none] [(0, 1, .t 59), (1, 1, .t 60), (2, 1, .t 62)]⟩ [0] (T.alt ⟨some 64, none, .bsl 96 1 1 [some (1, 3)] [(0, 1, .t 63)]⟩ [0] (T.alt ⟨some 65, none, .app 96 1 24 (.t 53) (.t 64)⟩ [] (T.pure 13 ⟨some 3, none, .mov (.t 65)⟩ T.done) T.stop) T.stop) T.stop)))))))))))) .skip)))) (.reg [⟨some 24, none, .mov (.t 5)⟩, ⟨some 25, none, .bin .add 3 (.t 24) (.c (.int .i64 1))⟩, ⟨some 5, none, .mov (.t 25)⟩]))))))) (.reg [⟨some 13, none, .mov (.t 4)⟩, ⟨some 14, none, .bin .add 3 (.t 13) (.c (.int .i64 1))⟩, ⟨some 4, none, .mov (.t 14)⟩])))))) (.seq (.reg [⟨some 66, none, .mov (.t 3)⟩, ⟨some 2, none, .mov (.t 66)⟩]) .ret)))
theorem code_spec_LateOf : fnC Tryz.prog Tryz.f66 = some (c_spec_LateOf, [.t 2], 67) := by kernel_rfl
def c_impl_LateOf : C := .seq (.reg [⟨some 1, none, .box 30 4 (.t 0)⟩, ⟨some 2, none, .mov (.c (.slice none 0 0))⟩]) (.seq (.reg [⟨some 3, none, .mov (.c (.slice none 0 0))⟩]) (.seq (.seq (.reg [⟨some 8, none, .fa 3 (.t 1)⟩, ⟨some 9, none, .ld false 1 (.t 8)⟩, ⟨some 10, none, .len false (.t 9)⟩, ⟨some 11, none, .mov (.c (.int .i64 0))⟩]) (.blk 0 (.loop (.seq (.reg [⟨some 12, none, .bin .lss 3 (.t 11) (.t 10)⟩]) (.seq (.cond (.t 12) .skip (.exit 0)) (.seq (.blk 1 (.seq (.reg [⟨some 13, none, .ia 8 (.t 9) (.t 11)⟩, ⟨some 14, none, .ld true 8 (.t 13)⟩, ⟨some 5, none, .alloc 80 [.int .i64 0, .int .i64 0, .int .i64 0, .int .i64 0, .int .i64 0, .slice none 0 0, .int .i64 0, .slice none 0 0]⟩, ⟨none, none, .st 8 [none, none, none, none, none, some (2, 182), none, some (4, 98)] (.t 5) (.t 14)⟩]) (.seq (.reg [⟨some 15, none, .fa 7 (.t 5)⟩, ⟨some 16, none, .ld false 1 (.t 15)⟩, ⟨some 17, none, .len false (.t 16)⟩, ⟨some 18, none, .mov (.c (.int .i64 0))⟩]) (.blk 2 (.loop (.seq (.reg [⟨some 19, none, .bin .lss 3 (.t 18) (.t 17)⟩]) (.seq (.cond (.t 19) .skip (.exit 2)) (.seq (.blk 3 (.seq (.reg [⟨some 20, none, .mov (.t 18)⟩, ⟨some 21, none, .ia 4 (.t 16) (.t 18)⟩, ⟨some 22, none, .ld true 4 (.t 21)⟩, ⟨some 7, none, .alloc 98 [.int .i64 0, .int .i64 0, .int .i64 0, .int .i64 0]⟩, ⟨some 6, none, .mov (.t 20)⟩, ⟨none, none, .st 4 [none, none, none, none] (.t 7) (.t 22)⟩]) (.seq (.reg [⟨some 23, none, .fa 0 (.t 7)⟩, ⟨some 24, none, .ld false 1 (.t 23)⟩, ⟨some 25, none, .bin .eql 3 (.t 24) (.c (.int .i64 3))⟩, ⟨some 26, none, .mov (.t 25)⟩, ⟨some 27, some (26, true), .fa 3 (.t 7)⟩, ⟨some 28, some (26, true), .ld false 1 (.t 27)⟩, ⟨some 29, some (26, true), .fa 0 (.t 1)⟩, ⟨some 30, some (26, true), .ld false 1 (.t 29)⟩, ⟨some 31, some (26, true), .bin .leq 3 (.t 28) (.t 30)⟩, ⟨some 32, some (26, true), .mov (.t 31)⟩, ⟨some 33, some (32, false), .fa 3 (.t 7)⟩, ⟨some 34, some (32, false), .ld false 1 (.t 33)⟩, ⟨some 35, some (32, false), .bin .sub 3 (.t 34) (.c (.int .i64 1))⟩, ⟨some 36, some (32, false), .fa 0 (.t 1)⟩, ⟨some 37, some (32, false), .ld false 1 (.t 36)⟩, ⟨some 38, some (32, false), .bin .eql 3 (.t 35) (.t 37)⟩, ⟨some 39, some (26, true), .pick (.t 32) (.c (.bool true)) (.t 38)⟩, ⟨some 40, none, .pick (.t 26) (.t 39) (.c (.bool false))⟩]) (.cond (.t 40) (.reg [⟨some 41, none, .mov (.t 3)⟩, ⟨some 42, none, .fa 0 (.t 5)⟩, ⟨some 43, none, .ld false 1 (.t 42)⟩, ⟨some 44, none, .mov (.t 6)⟩, ⟨some 45, none, .fa 2 (.t 7)⟩, ⟨some 46, none, .ld false 1 (.t 45)⟩, ⟨some 47, none, .bsl 3 1 3 [none, none, none] [(0, 1, .t 43), (1, 1, .t 44), (2, 1, .t 46)]⟩, ⟨some 48, none, .bsl 96 1 1 [some (1, 3)] [(0, 1, .t 47)]⟩, ⟨some 49, none, .app 96 1 24 (.t 41) (.t 48)⟩, ⟨some 3, none, .mov (.t 49)⟩]) .skip)))) (.reg [⟨some 50, none, .bin .add 3 (.t 18) (.c (.int .i64 1))⟩, ⟨some 18, none, .mov (.t 50)⟩]))))))))) (.reg [⟨some 51, none, .bin .add 3 (.t 11) (.c (.int .i64 1))⟩, ⟨some 11, none, .mov (.t 51)⟩]))))))) (.seq (.reg [⟨some 52, none, .mov (.t 3)⟩, ⟨some 2, none, .mov (.t 52)⟩]) .ret)))
theorem code_impl_LateOf : fnC Tryz.prog Tryz.f68 = some (c_impl_LateOf, [.t 2], 53) := by kernel_rfl
theorem iss_snoc3 (l : List (List Int)) (a b c : Int) : D.sl 1 tIs (l.flatMap (fun es => [encInts es]) ++ [D.sl 1 tInt [iv a, iv b, iv c]]) = encIss (l ++ [[a, b, c]]) := by simp [encIss, encInts]
set_option maxHeartbeats 4000000 in
theorem p_spec_LateOf (y : Yd) (ht : totYd y ≤ 2000000) (wf : y.wf) : Pure Tryz.prog 66 [.agg (encYd y)] (.c (encIss (lateL y))) := by
  refine pure_fn Tryz.func66 code_spec_LateOf (by simp) ?_
  unfold c_spec_LateOf
  have hl := runs_le ht
  have htr : tsum totRn y.runs ≤ 2000000 := by simp only [totYd, totRns] at ht; omega
  rw [lateL_eq]
  simp -implicitDefEqProofs only [go_sem, encYd]
  intro b η0
  refine wp_loopW (fun i : Nat × Heads => St.of [(1, Bx 100 b), (3, Hd 700 i.2), (4, Ni i.1)] [(100, Bi b _ (encYd y)), (700, .loose (encIss ((y.runs.take i.1).flatMap (lateF y.now))) i.2)]) (fun i => i.1 ≤ y.runs.length) (fun i => y.runs.length - i.1) (0, η0) (Nat.zero_le _) (wk_of [some 100, some 700] (by simp -implicitDefEqProofs only [go_sem, encYd] <;> and_intros <;> rfl)) ?_
  rintro ⟨i, η⟩ hi
  dsimp only at hi
  by_cases hlt : i < y.runs.length
  · have hlt' : (i : Int) < y.runs.length := by omega
    obtain ⟨r, hr⟩ := get_some hlt
    have hrw : r.wf := wf.2.2.2 r (List.mem_of_getElem? hr)
    have hwi : IntKind.i64.wrap ((i : Int) + 1) = ((i + 1 : Nat) : Int) := wrap64 (by omega) (by omega)
    have hbi := late_le y.now (y.runs.take i)
    have hts := tsum_succ (tot := totRn) hr
    have htl := tsum_le totRn y.runs (i + 1)
    have hrt : r.tasks.length ≤ totRn r := by simp only [totRn]; omega
    have hnx := late_take (now := y.now) hr
    simp -implicitDefEqProofs only [go_sem, encYd, hlt, hlt']
    generalize hL : (y.runs.take i).flatMap (lateF y.now) = L at *
    refine wp_loopW (fun k : Nat × Heads => St.of [(1, Bx 100 b), (3, Hd 700 k.2), (4, Ni i), (5, Ni k.1)] [(100, Bi b _ (encYd y)), (700, .loose (encIss (L ++ lateR y.now r 0 (r.tasks.take k.1))) k.2)]) (fun k => k.1 ≤ r.tasks.length) (fun k => r.tasks.length - k.1) (0, η) (Nat.zero_le _) (wk_of [some 100, some 700] (by simp -implicitDefEqProofs only [go_sem, encYd, List.take_zero, lateR, List.append_nil] <;> and_intros <;> rfl)) ?_
    rintro ⟨j, η1⟩ hj
    dsimp only at hj
    by_cases hjt : j < r.tasks.length
    · have hjt' : (j : Int) < r.tasks.length := by omega
      obtain ⟨x, hx⟩ := get_some hjt
      have hxw : x.wf := hrw.2.2.2 x (List.mem_of_getElem? hx)
      have hwj : IntKind.i64.wrap ((j : Int) + 1) = ((j + 1 : Nat) : Int) := wrap64 (by omega) (by omega)
      have hlr := lateR_le y.now r (r.tasks.take j) 0
      have hn := lateR_take (now := y.now) (r := r) hx
      rw [List.length_take] at hlr
      obtain ⟨-, -, -, hx1, hx2⟩ := hxw
      obtain ⟨⟨hy1, hy2⟩, -⟩ := wf
      simp -implicitDefEqProofs only [go_sem, encYd, hlt, hlt', hjt, hjt', elem_encRns hr, encRn, encPl, elem_encTks hx, encTk]
      generalize hM : lateR y.now r 0 (r.tasks.take j) = M at *
      have hone : 1 ≤ maxLen := by unfold maxLen; omega
      have h3m : 3 ≤ maxLen := by unfold maxLen; omega
      have hm1 : (L ++ M).length + 1 ≤ maxLen := by rw [List.length_append]; unfold maxLen; omega
      have hm2 : ((L ++ M).length + 1) * 24 ≤ 140737488355328 := by rw [List.length_append]; omega
      intro b2
      by_cases hs : x.state = 3
      · by_cases hle : x.til ≤ y.now
        · have hlate : lateT y.now r.id x j = some [r.id, j, x.tri] := by simp [lateT, hs, hle]
          rw [hlate] at hn
          simp -implicitDefEqProofs only [go_sem, encYd, encTk, hs, hle, beq_self_eq_true, elem_encRns hr, hlt, hlt', encRn, encPl, hm1, hm2, iss_snoc3, hwj]
          intro η2 η3 η4
          exact ⟨(j + 1, η4), by dsimp only; omega, wk_of [some 100, some 6500] (by simp -implicitDefEqProofs only [go_sem, encYd, hn, Option.toList, List.append_assoc] <;> and_intros <;> rfl), by dsimp only; omega⟩
        · by_cases heq : x.til - 1 = y.now
          · have hlate : lateT y.now r.id x j = some [r.id, j, x.tri] := by simp [lateT, hs, heq]
            have hsub : IntKind.i64.wrap (x.til - 1) = x.til - 1 := wrap64 (by omega) (by omega)
            have hle2 : x.til - 1 ≤ y.now := by omega
            rw [hlate] at hn
            simp -implicitDefEqProofs only [go_sem, encYd, encTk, hs, hle, hsub, hle2, beq_self_eq_true, elem_encRns hr, hlt, hlt', encRn, encPl, hm1, hm2, iss_snoc3, hwj]
            intro η2 η3 η4
            exact ⟨(j + 1, η4), by dsimp only; omega, wk_of [some 100, some 6500] (by simp -implicitDefEqProofs only [go_sem, encYd, hn, Option.toList, List.append_assoc] <;> and_intros <;> rfl), by dsimp only; omega⟩
          · have hlate : lateT y.now r.id x j = none := by simp [lateT, hle, heq]
            have hsub : IntKind.i64.wrap (x.til - 1) = x.til - 1 := wrap64 (by omega) (by omega)
            have hle2 : ¬ x.til - 1 ≤ y.now := by omega
            rw [hlate] at hn
            simp -implicitDefEqProofs only [go_sem, encYd, encTk, hs, hle, hsub, hle2, beq_self_eq_true, hlt, hlt', hwj]
            exact ⟨(j + 1, η1), by dsimp only; omega, wk_of [some 100, some 700] (by simp -implicitDefEqProofs only [go_sem, encYd, hn, Option.toList, List.append_nil] <;> and_intros <;> rfl), by dsimp only; omega⟩
      · have hlate : lateT y.now r.id x j = none := by simp [lateT, hs]
        have hs' : (x.state == 3) = false := by simpa using hs
        rw [hlate] at hn
        simp -implicitDefEqProofs only [go_sem, encYd, encTk, hs', hwj]
        exact ⟨(j + 1, η1), by dsimp only; omega, wk_of [some 100, some 700] (by simp -implicitDefEqProofs only [go_sem, encYd, hn, Option.toList, List.append_nil] <;> and_intros <;> rfl), by dsimp only; omega⟩
    · have hjt' : ¬ (j : Int) < r.tasks.length := by omega
      rw [List.take_of_length_le (by omega)]
      simp -implicitDefEqProofs only [go_sem, encYd, hlt, hlt', elem_encRns hr, encRn, encPl, hjt', hwi]
      exact ⟨(i + 1, η1), by dsimp only; omega, wk_of [some 100, some 700] (by simp -implicitDefEqProofs only [go_sem, encYd, hnx] <;> and_intros <;> rfl), by dsimp only; omega⟩
  · have hlt' : ¬ (i : Int) < y.runs.length := by omega
    rw [List.take_of_length_le (by omega)]
    simp -implicitDefEqProofs only [go_sem, encYd, hlt']
set_option maxHeartbeats 4000000 in
theorem p_impl_LateOf (y : Yd) (ht : totYd y ≤ 2000000) (wf : y.wf) : Pure Tryz.prog 68 [.agg (encYd y)] (.c (encIss (lateL y))) := by
  refine pure_fn Tryz.func68 code_impl_LateOf (by simp) ?_
  unfold c_impl_LateOf
  have hl := runs_le ht
  have htr : tsum totRn y.runs ≤ 2000000 := by simp only [totYd, totRns] at ht; omega
  rw [lateL_eq]
  simp -implicitDefEqProofs only [go_sem, encYd]
  intro b
  refine wp_loopW (fun i : Nat × Heads => St.of [(1, Bx 100 b), (3, Hd 7 i.2), (9, Ro (encRns y.runs)), (10, Ni y.runs.length), (11, Ni i.1)] [(100, Bi b _ (encYd y)), (7, .loose (encIss ((y.runs.take i.1).flatMap (lateF y.now))) i.2)]) (fun i => i.1 ≤ y.runs.length) (fun i => y.runs.length - i.1) (0, nilH) (by (try dsimp only); first | omega | (simp; done) | (and_intros <;> first | omega | simp)) (wk_of [some 100, none] (by simp -implicitDefEqProofs only [go_sem, encYd] <;> and_intros <;> first | rfl | assumption)) ?_
  rintro ⟨i0, η⟩ hi
  dsimp only at hi
  by_cases hlt : i0 < y.runs.length
  · have hlt' : (i0 : Int) < y.runs.length := by omega
    obtain ⟨r, hr⟩ := get_some hlt
    have hrw : r.wf := wf.2.2.2 r (List.mem_of_getElem? hr)
    have hwi : IntKind.i64.wrap ((i0 : Int) + 1) = ((i0 + 1 : Nat) : Int) := wrap64 (by omega) (by omega)
    have hbi := late_le y.now (y.runs.take i0)
    have hts := tsum_succ (tot := totRn) hr
    have htl := tsum_le totRn y.runs (i0 + 1)
    have hrt : r.tasks.length ≤ totRn r := by simp only [totRn]; omega
    have hnx := late_take (now := y.now) hr
    simp -implicitDefEqProofs only [go_sem, encYd, hlt, hlt', elem_encRns hr, encRn, encPl]
    generalize hL : (y.runs.take i0).flatMap (lateF y.now) = L at *
    intro b2
    refine wp_loopW (fun i : Nat × Heads => St.of [(1, Bx 100 b), (3, Hd 7 i.2), (5, Bx 500 b2), (9, Ro (encRns y.runs)), (10, Ni y.runs.length), (11, Ni i0), (16, Ro (encTks r.tasks)), (17, Ni r.tasks.length), (18, Ni i.1)] [(100, Bi b _ (encYd y)), (500, Bi b2 _ (encRn r)), (7, .loose (encIss (L ++ lateR y.now r 0 (r.tasks.take i.1))) i.2)]) (fun i => i.1 ≤ r.tasks.length) (fun i => r.tasks.length - i.1) (0, η) (by (try dsimp only); first | omega | (simp; done) | (and_intros <;> first | omega | simp)) (wk_of [some 100, some 500, some 7] (by simp -implicitDefEqProofs only [go_sem, encYd, encRn, encPl, List.take_zero, lateR, List.append_nil] <;> and_intros <;> first | rfl | assumption)) ?_
    rintro ⟨j, η1⟩ hj
    dsimp only at hj
    by_cases hjt : j < r.tasks.length
    · have hjt' : (j : Int) < r.tasks.length := by omega
      obtain ⟨x, hx⟩ := get_some hjt
      have hxw : x.wf := hrw.2.2.2 x (List.mem_of_getElem? hx)
      have hwj : IntKind.i64.wrap ((j : Int) + 1) = ((j + 1 : Nat) : Int) := wrap64 (by omega) (by omega)
      have hlr := lateR_le y.now r (r.tasks.take j) 0
      have hn := lateR_take (now := y.now) (r := r) hx
      rw [List.length_take] at hlr
      obtain ⟨-, -, -, hx1, hx2⟩ := hxw
      obtain ⟨⟨hy1, hy2⟩, -⟩ := wf
      simp -implicitDefEqProofs only [go_sem, encYd, hjt, hjt', elem_encTks hx, encTk]
      generalize hM : lateR y.now r 0 (r.tasks.take j) = M at *
      have hm1 : (L ++ M).length + 1 ≤ maxLen := by rw [List.length_append]; unfold maxLen; omega
      have hm2 : ((L ++ M).length + 1) * 24 ≤ 140737488355328 := by rw [List.length_append]; omega
      intro b3
      by_cases hs : x.state = 3
      · by_cases hle : x.til ≤ y.now
        · have hlate : lateT y.now r.id x j = some [r.id, j, x.tri] := by simp [lateT, hs, hle]
          rw [hlate] at hn
          simp -implicitDefEqProofs only [go_sem, encYd, encTk, encRn, encPl, hs, hle, beq_self_eq_true, hm1, hm2, iss_snoc3, hwj]
          intro η2 η3 η4
          exact ⟨(j + 1, η4), by (try dsimp only); first | omega | assumption | (and_intros <;> first | omega | assumption), (wk_of [some 100, some 500, some 4900] (by simp -implicitDefEqProofs only [go_sem, encYd, encRn, encPl, hn, Option.toList, List.append_assoc] <;> and_intros <;> first | rfl | assumption)), by (try dsimp only); omega⟩
        · by_cases heq : x.til - 1 = y.now
          · have hlate : lateT y.now r.id x j = some [r.id, j, x.tri] := by simp [lateT, hs, heq]
            have heq' : (x.til - 1 == y.now) = true := by simpa using heq
            have hsub : IntKind.i64.wrap (x.til - 1) = x.til - 1 := wrap64 (by omega) (by omega)
            rw [hlate] at hn
            simp -implicitDefEqProofs only [go_sem, encYd, encTk, encRn, encPl, hs, hle, hsub, heq', beq_self_eq_true, hm1, hm2, iss_snoc3, hwj]
            intro η2 η3 η4
            exact ⟨(j + 1, η4), by (try dsimp only); first | omega | assumption | (and_intros <;> first | omega | assumption), (wk_of [some 100, some 500, some 4900] (by simp -implicitDefEqProofs only [go_sem, encYd, encRn, encPl, hn, Option.toList, List.append_assoc] <;> and_intros <;> first | rfl | assumption)), by (try dsimp only); omega⟩
          · have hlate : lateT y.now r.id x j = none := by simp [lateT, hle, heq]
            have hsub : IntKind.i64.wrap (x.til - 1) = x.til - 1 := wrap64 (by omega) (by omega)
            have heq' : (x.til - 1 == y.now) = false := by simpa using heq
            rw [hlate] at hn
            simp -implicitDefEqProofs only [go_sem, encYd, encTk, hs, hle, hsub, heq', beq_self_eq_true, hwj]
            exact ⟨(j + 1, η1), by (try dsimp only); first | omega | assumption | (and_intros <;> first | omega | assumption), (wk_of [some 100, some 500, some 7] (by simp -implicitDefEqProofs only [go_sem, encYd, encRn, encPl, hn, Option.toList, List.append_nil] <;> and_intros <;> first | rfl | assumption)), by (try dsimp only); omega⟩
      · have hlate : lateT y.now r.id x j = none := by simp [lateT, hs]
        have hs' : (x.state == 3) = false := by simpa using hs
        rw [hlate] at hn
        simp -implicitDefEqProofs only [go_sem, encYd, encTk, hs', hwj]
        exact ⟨(j + 1, η1), by (try dsimp only); first | omega | assumption | (and_intros <;> first | omega | assumption), (wk_of [some 100, some 500, some 7] (by simp -implicitDefEqProofs only [go_sem, encYd, encRn, encPl, hn, Option.toList, List.append_nil] <;> and_intros <;> first | rfl | assumption)), by (try dsimp only); omega⟩
    · have hjt' : ¬ (j : Int) < r.tasks.length := by omega
      rw [List.take_of_length_le (by omega)]
      simp -implicitDefEqProofs only [go_sem, hjt', hwi]
      exact ⟨(i0 + 1, η1), by (try dsimp only); first | omega | assumption | (and_intros <;> first | omega | assumption), (wk_of [some 100, some 7] (by simp -implicitDefEqProofs only [go_sem, encYd, hnx, lateF] <;> and_intros <;> first | rfl | assumption)), by (try dsimp only); omega⟩
  · have hlt' : ¬ (i0 : Int) < y.runs.length := by omega
    rw [List.take_of_length_le (by omega)]
    simp -implicitDefEqProofs only [go_sem, encYd, hlt']
end Go.Proofs.YtnhdcbhcocgjhaaGreat
