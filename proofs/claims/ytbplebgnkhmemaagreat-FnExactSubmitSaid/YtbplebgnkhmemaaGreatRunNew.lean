/- A new run; both. -/
import Derived.Test.YtbplebgnkhmemaaGreatRet2
set_option linter.unusedSimpArgs false
set_option linter.unusedVariables false
set_option maxRecDepth 100000
namespace Go.Proofs.YtbplebgnkhmemaaGreat
open Go.RowKit Go.Sort
def newT (p : Pl) (t : Nat) : Tk := ⟨if 0 < (befL p t).length then 1 else 2, ((befL p t).length : Int), 0, 0⟩
def newTs (p : Pl) (k : Nat) : List Tk := (List.range k).map (newT p)
def runNew (id : Int) (p : Pl) : Rn := ⟨id, p, 1, newTs p p.tasks.toNat⟩
theorem newTs_0 (p : Pl) : newTs p 0 = [] := rfl
theorem newTs_s (p : Pl) (k : Nat) : newTs p (k + 1) = newTs p k ++ [newT p k] := by simp [newTs, List.range_succ]
theorem newTs_len (p : Pl) (k : Nat) : (newTs p k).length = k := by simp [newTs]
theorem tks_snoc1 (l : List Tk) (a b c d : Int) : D.sl 4 tTk (l.flatMap encTk ++ [.val (.int .i64 a), .val (.int .i64 b), .val (.int .i64 c), .val (.int .i64 d)]) = encTks (l ++ [⟨a, b, c, d⟩]) := by simp [encTks, encTk]
theorem nat_pos_int {n : Nat} : ((n : Int) > 0) = (0 < n) := by apply propext; omega
def c_spec_RunNew : C := .seq (.reg [⟨some 3, none, .box 48 5 (.t 1)⟩, ⟨some 4, none, .alloc 70 [.int .i64 0, .int .i64 0, .int .i64 0, .int .i64 0, .int .i64 0, .slice none 0 0, .int .i64 0, .slice none 0 0]⟩, ⟨some 5, none, .mov (.c (.bool false))⟩]) (.seq (.seq (.reg [⟨some 9, none, .mov (.t 0)⟩, ⟨some 10, none, .call 66 [.t 9, .c (.int .i64 1), .c (.int .i64 9999)]⟩, ⟨some 11, none, .un .not (.t 10)⟩, ⟨some 12, none, .mov (.t 11)⟩, ⟨some 13, some (12, false), .ld true 5 (.t 3)⟩, ⟨some 14, some (12, false), .call 67 [.t 13]⟩, ⟨some 15, some (12, false), .bin .neq 3 (.t 14) (.c (.int .i64 0))⟩, ⟨some 16, none, .pick (.t 12) (.c (.bool true)) (.t 15)⟩]) (.cond (.t 16) (.seq (.reg [⟨some 17, none, .bld [.int .i64 0, .int .i64 0, .int .i64 0, .int .i64 0, .int .i64 0, .slice none 0 0, .int .i64 0, .slice none 0 0] []⟩, ⟨none, none, .st 8 [none, none, none, none, none, some (2, 131), none, some (4, 75)] (.t 4) (.t 17)⟩, ⟨some 5, none, .mov (.c (.bool false))⟩]) .ret) .skip)) (.seq (.reg [⟨some 18, none, .mov (.t 0)⟩, ⟨some 19, none, .ld true 5 (.t 3)⟩, ⟨some 20, none, .call 124 [.t 19]⟩, ⟨some 21, none, .bld [.int .i64 0, .int .i64 0, .int .i64 0, .int .i64 0, .int .i64 0, .slice none 0 0, .int .i64 0, .slice none 0 0] [(0, 1, .t 18), (1, 5, .t 20), (6, 1, .c (.int .i64 1))]⟩, ⟨some 6, none, .alloc 70 [.int .i64 0, .int .i64 0, .int .i64 0, .int .i64 0, .int .i64 0, .slice none 0 0, .int .i64 0, .slice none 0 0]⟩, ⟨none, none, .st 8 [none, none, none, none, none, some (2, 131), none, some (4, 75)] (.t 6) (.t 21)⟩]) (.seq (.seq (.reg [⟨some 7, none, .mov (.c (.int .i64 0))⟩]) (.blk 0 (.loop (.seq (.seq (.reg [⟨some 22, none, .mov (.t 7)⟩, ⟨some 23, none, .fa 3 (.t 3)⟩, ⟨some 24, none, .ld false 1 (.t 23)⟩, ⟨some 25, none, .bin .lss 3 (.t 22) (.t 24)⟩]) (.cond (.t 25) .skip (.exit 0))) (.seq (.blk 1 (.seq (.reg [⟨some 28, none, .ld true 5 (.t 3)⟩, ⟨some 29, none, .mov (.t 7)⟩, ⟨some 30, none, .call 125 [.t 28, .t 29]⟩, ⟨some 31, none, .len false (.t 30)⟩, ⟨some 32, none, .bld [.int .i64 0, .int .i64 0, .int .i64 0, .int .i64 0] [(0, 1, .c (.int .i64 2)), (1, 1, .t 31)]⟩, ⟨some 8, none, .alloc 75 [.int .i64 0, .int .i64 0, .int .i64 0, .int .i64 0]⟩, ⟨none, none, .st 4 [none, none, none, none] (.t 8) (.t 32)⟩]) (.seq (.seq (.reg [⟨some 33, none, .fa 1 (.t 8)⟩, ⟨some 34, none, .ld false 1 (.t 33)⟩, ⟨some 35, none, .bin .gtr 3 (.t 34) (.c (.int .i64 0))⟩]) (.cond (.t 35) (.reg [⟨some 36, none, .fa 0 (.t 8)⟩, ⟨none, none, .st 1 [none] (.t 36) (.c (.int .i64 1))⟩]) .skip)) (.reg [⟨some 37, none, .fa 7 (.t 6)⟩, ⟨some 38, none, .ld false 1 (.t 37)⟩, ⟨some 39, none, .ld true 4 (.t 8)⟩, ⟨some 40, none, .bsl 75 4 1 [none, none, none, none] [(0, 4, .t 39)]⟩, ⟨some 41, none, .app 75 4 32 (.t 38) (.t 40)⟩, ⟨some 42, none, .fa 7 (.t 6)⟩, ⟨none, none, .st 1 [some (4, 75)] (.t 42) (.t 41)⟩])))) (.reg [⟨some 26, none, .mov (.t 7)⟩, ⟨some 27, none, .bin .add 3 (.t 26) (.c (.int .i64 1))⟩, ⟨some 7, none, .mov (.t 27)⟩])))))) (.seq (.reg [⟨some 43, none, .ld true 8 (.t 6)⟩, ⟨none, none, .st 8 [none, none, none, none, none, some (2, 131), none, some (4, 75)] (.t 4) (.t 43)⟩, ⟨some 5, none, .mov (.c (.bool true))⟩]) .ret))))
theorem code_spec_RunNew : fnC Tryz.prog Tryz.f69 = some (c_spec_RunNew, [.cell 4 true 8, .t 5], 44) := by kernel_rfl
def c_impl_RunNew : C := .seq (.reg [⟨some 3, none, .box 48 5 (.t 1)⟩, ⟨some 4, none, .alloc 70 [.int .i64 0, .int .i64 0, .int .i64 0, .int .i64 0, .int .i64 0, .slice none 0 0, .int .i64 0, .slice none 0 0]⟩, ⟨some 5, none, .mov (.c (.bool false))⟩]) (.seq (.seq (.reg [⟨some 9, none, .mov (.t 0)⟩, ⟨some 10, none, .call 42 [.t 9, .c (.int .i64 1), .c (.int .i64 9999)]⟩, ⟨some 11, none, .un .not (.t 10)⟩, ⟨some 12, none, .mov (.t 11)⟩, ⟨some 13, some (12, false), .ld true 5 (.t 3)⟩, ⟨some 14, some (12, false), .call 72 [.t 13]⟩, ⟨some 15, some (12, false), .bin .neq 3 (.t 14) (.c (.int .i64 0))⟩, ⟨some 16, none, .pick (.t 12) (.c (.bool true)) (.t 15)⟩]) (.cond (.t 16) (.seq (.reg [⟨some 17, none, .bld [.int .i64 0, .int .i64 0, .int .i64 0, .int .i64 0, .int .i64 0, .slice none 0 0, .int .i64 0, .slice none 0 0] []⟩, ⟨none, none, .st 8 [none, none, none, none, none, some (2, 131), none, some (4, 75)] (.t 4) (.t 17)⟩, ⟨some 5, none, .mov (.c (.bool false))⟩]) .ret) .skip)) (.seq (.reg [⟨some 18, none, .mov (.t 0)⟩, ⟨some 19, none, .ld true 5 (.t 3)⟩, ⟨some 20, none, .call 131 [.t 19]⟩, ⟨some 21, none, .bld [.int .i64 0, .int .i64 0, .int .i64 0, .int .i64 0, .int .i64 0, .slice none 0 0, .int .i64 0, .slice none 0 0] [(0, 1, .t 18), (1, 5, .t 20), (6, 1, .c (.int .i64 1))]⟩, ⟨some 6, none, .alloc 70 [.int .i64 0, .int .i64 0, .int .i64 0, .int .i64 0, .int .i64 0, .slice none 0 0, .int .i64 0, .slice none 0 0]⟩, ⟨none, none, .st 8 [none, none, none, none, none, some (2, 131), none, some (4, 75)] (.t 6) (.t 21)⟩]) (.seq (.seq (.reg [⟨some 7, none, .mov (.c (.int .i64 0))⟩]) (.blk 0 (.loop (.seq (.seq (.reg [⟨some 22, none, .mov (.t 7)⟩, ⟨some 23, none, .fa 3 (.t 3)⟩, ⟨some 24, none, .ld false 1 (.t 23)⟩, ⟨some 25, none, .bin .lss 3 (.t 22) (.t 24)⟩]) (.cond (.t 25) .skip (.exit 0))) (.seq (.blk 1 (.seq (.reg [⟨some 28, none, .ld true 5 (.t 3)⟩, ⟨some 29, none, .mov (.t 7)⟩, ⟨some 30, none, .call 132 [.t 28, .t 29]⟩, ⟨some 31, none, .len false (.t 30)⟩, ⟨some 32, none, .bld [.int .i64 0, .int .i64 0, .int .i64 0, .int .i64 0] [(0, 1, .c (.int .i64 1)), (1, 1, .t 31)]⟩, ⟨some 8, none, .alloc 75 [.int .i64 0, .int .i64 0, .int .i64 0, .int .i64 0]⟩, ⟨none, none, .st 4 [none, none, none, none] (.t 8) (.t 32)⟩]) (.seq (.seq (.reg [⟨some 33, none, .fa 1 (.t 8)⟩, ⟨some 34, none, .ld false 1 (.t 33)⟩, ⟨some 35, none, .bin .eql 3 (.t 34) (.c (.int .i64 0))⟩]) (.cond (.t 35) (.reg [⟨some 36, none, .fa 0 (.t 8)⟩, ⟨none, none, .st 1 [none] (.t 36) (.c (.int .i64 2))⟩]) .skip)) (.reg [⟨some 37, none, .fa 7 (.t 6)⟩, ⟨some 38, none, .ld false 1 (.t 37)⟩, ⟨some 39, none, .ld true 4 (.t 8)⟩, ⟨some 40, none, .bsl 75 4 1 [none, none, none, none] [(0, 4, .t 39)]⟩, ⟨some 41, none, .app 75 4 32 (.t 38) (.t 40)⟩, ⟨some 42, none, .fa 7 (.t 6)⟩, ⟨none, none, .st 1 [some (4, 75)] (.t 42) (.t 41)⟩])))) (.reg [⟨some 26, none, .mov (.t 7)⟩, ⟨some 27, none, .bin .add 3 (.t 26) (.c (.int .i64 1))⟩, ⟨some 7, none, .mov (.t 27)⟩])))))) (.seq (.reg [⟨some 43, none, .ld true 8 (.t 6)⟩, ⟨none, none, .st 8 [none, none, none, none, none, some (2, 131), none, some (4, 75)] (.t 4) (.t 43)⟩, ⟨some 5, none, .mov (.c (.bool true))⟩]) .ret))))
theorem code_impl_RunNew : fnC Tryz.prog Tryz.f74 = some (c_impl_RunNew, [.cell 4 true 8, .t 5], 44) := by kernel_rfl
set_option maxHeartbeats 8000000 in
theorem p_spec_RunNew (id : Int) (p : Pl) (hid : 1 ≤ id ∧ id ≤ 9999) (hp : planFault p = 0) : Pure Tryz.prog 69 [.c (.val (.int .i64 id)), .agg (encPl p)] (.tup [(true, encRn (runNew id p)), (false, [.val (.bool true)])]) := by
  refine pure_fn Tryz.func69 code_spec_RunNew (by simp) ?_
  unfold c_spec_RunNew
  obtain ⟨n, hn, hn1, h12, h30, hes, hnd, -⟩ := pf_0 hp
  have hi : decide (1 ≤ id ∧ id ≤ 9999) = true := decide_eq_true hid
  have hp0 : (planFault p != 0) = false := by simp [hp]
  simp -implicitDefEqProofs only [go_sem, encPl]
  intro b3 b4
  refine run_call (p_spec_l01In id 1 9999) (by simp -implicitDefEqProofs only [go_sem, encPl]) fun η => ?_
  simp -implicitDefEqProofs only [go_sem, encPl]
  simp -implicitDefEqProofs only [go_sem, encPl, hi]
  refine run_call (p_spec_PlanFault p) (by simp -implicitDefEqProofs only [go_sem, encPl]) fun η => ?_
  simp -implicitDefEqProofs only [go_sem, encPl]
  simp -implicitDefEqProofs only [go_sem, encPl, hp0]
  refine run_call (p_spec_l06Copy p (by omega)) (by simp -implicitDefEqProofs only [go_sem, encPl]) fun ηc => ?_
  simp -implicitDefEqProofs only [go_sem, encPl]
  intro b6
  refine wp_loopW (fun i : Nat × Heads => St.of [(3, Bx 300 b3), (4, Bx 400 b4), (6, Bx 600 b6), (7, Ni i.1)] [(300, Bi b3 _ (encPl p)), (400, ZRn b4 tRn), (600, RnBox b6 tRn ⟨id, p, 1, newTs p i.1⟩ (ηc 4) i.2)]) (fun i => i.1 ≤ n) (fun i => n - i.1) (0, nilH) (by (try dsimp only); first | omega | (simp; done) | (and_intros <;> first | omega | simp)) (wk_of [some 300, some 400, some 600] (by simp -implicitDefEqProofs only [go_sem, encPl, encRn, newTs_0] <;> and_intros <;> first | rfl | assumption)) ?_
  rintro ⟨k, η⟩ hk
  dsimp only at hk
  by_cases hlt : k < n
  · have hlt' : (k : Int) < p.tasks := by omega
    have hw : IntKind.i64.wrap ((k : Int) + 1) = ((k + 1 : Nat) : Int) := wrap64 (by omega) (by omega)
    have hnx := newTs_s p k
    have hnl := newTs_len p k
    generalize newTs p k = M at *
    have m1 : M.length + 1 ≤ maxLen := by unfold maxLen; omega
    have m2 : (M.length + 1) * 32 ≤ 140737488355328 := by omega
    simp -implicitDefEqProofs only [go_sem, encPl, hlt']
    refine run_call (p_spec_l06Before p k n hn h12 h30) (by simp -implicitDefEqProofs only [go_sem, encPl]) fun η => ?_
    simp -implicitDefEqProofs only [go_sem, encPl]
    generalize hL : (befL p k).length = L at *
    intro b8
    by_cases h0 : 0 < L
    · have h0' : (0 : Int) < (L : Int) := by omega
      have hT : newT p k = ⟨1, (L : Int), 0, 0⟩ := by simp [newT, hL, h0]
      rw [hT] at hnx
      simp -implicitDefEqProofs only [go_sem, encPl, encTk, encRn, h0', m1, m2, tks_snoc1, hw]
      intro η40 η41
      exact ⟨(k + 1, η41), by (try dsimp only); first | omega | assumption | (and_intros <;> first | omega | assumption), (wk_of [some 300, some 400, some 600] (by simp -implicitDefEqProofs only [go_sem, encPl, encRn, hnx] <;> and_intros <;> first | rfl | assumption)), by (try dsimp only); omega⟩
    · have h0' : ¬ (0 : Int) < (L : Int) := by omega
      have hT : newT p k = ⟨2, (L : Int), 0, 0⟩ := by simp [newT, hL, h0]
      rw [hT] at hnx
      simp -implicitDefEqProofs only [go_sem, encPl, encTk, encRn, h0', m1, m2, tks_snoc1, hw]
      intro η40 η41
      exact ⟨(k + 1, η41), by (try dsimp only); first | omega | assumption | (and_intros <;> first | omega | assumption), (wk_of [some 300, some 400, some 600] (by simp -implicitDefEqProofs only [go_sem, encPl, encRn, hnx] <;> and_intros <;> first | rfl | assumption)), by (try dsimp only); omega⟩
  have hlt' : ¬ (k : Int) < p.tasks := by omega
  obtain rfl : k = n := by omega
  have hr : runNew id p = ⟨id, p, 1, newTs p k⟩ := by rw [runNew, hn, Int.toNat_natCast]
  rw [hr]
  generalize newTs p k = M at *
  simp -implicitDefEqProofs only [go_sem, encPl, encRn, hlt']
  refine ret2_ _ _ _ _ _ ?_
  simp -implicitDefEqProofs only [go_sem, encPl, encRn]
set_option maxHeartbeats 8000000 in
theorem p_impl_RunNew (id : Int) (p : Pl) (hid : 1 ≤ id ∧ id ≤ 9999) (hp : planFault p = 0) : Pure Tryz.prog 74 [.c (.val (.int .i64 id)), .agg (encPl p)] (.tup [(true, encRn (runNew id p)), (false, [.val (.bool true)])]) := by
  refine pure_fn Tryz.func74 code_impl_RunNew (by simp) ?_
  unfold c_impl_RunNew
  obtain ⟨n, hn, hn1, h12, h30, hes, hnd, -⟩ := pf_0 hp
  have hi : decide (1 ≤ id ∧ id ≤ 9999) = true := decide_eq_true hid
  have hp0 : (planFault p != 0) = false := by simp [hp]
  simp -implicitDefEqProofs only [go_sem, encPl]
  intro b3 b4
  refine run_call (p_impl_within id 1 9999) (by simp -implicitDefEqProofs only [go_sem, encPl]) fun η => ?_
  simp -implicitDefEqProofs only [go_sem, encPl]
  simp -implicitDefEqProofs only [go_sem, encPl, hi]
  refine run_call (p_impl_PlanFault p (by omega)) (by simp -implicitDefEqProofs only [go_sem, encPl]) fun η => ?_
  simp -implicitDefEqProofs only [go_sem, encPl]
  simp -implicitDefEqProofs only [go_sem, encPl, hp0]
  refine run_call (p_impl_copyPlan p (by omega)) (by simp -implicitDefEqProofs only [go_sem, encPl]) fun ηc => ?_
  simp -implicitDefEqProofs only [go_sem, encPl]
  intro b6
  refine wp_loopW (fun i : Nat × Heads => St.of [(3, Bx 300 b3), (4, Bx 400 b4), (6, Bx 600 b6), (7, Ni i.1)] [(300, Bi b3 _ (encPl p)), (400, ZRn b4 tRn), (600, RnBox b6 tRn ⟨id, p, 1, newTs p i.1⟩ (ηc 4) i.2)]) (fun i => i.1 ≤ n) (fun i => n - i.1) (0, nilH) (by (try dsimp only); first | omega | (simp; done) | (and_intros <;> first | omega | simp)) (wk_of [some 300, some 400, some 600] (by simp -implicitDefEqProofs only [go_sem, encPl, encRn, newTs_0] <;> and_intros <;> first | rfl | assumption)) ?_
  rintro ⟨k, η⟩ hk
  dsimp only at hk
  by_cases hlt : k < n
  · have hlt' : (k : Int) < p.tasks := by omega
    have hw : IntKind.i64.wrap ((k : Int) + 1) = ((k + 1 : Nat) : Int) := wrap64 (by omega) (by omega)
    have hnx := newTs_s p k
    have hnl := newTs_len p k
    generalize newTs p k = M at *
    have m1 : M.length + 1 ≤ maxLen := by unfold maxLen; omega
    have m2 : (M.length + 1) * 32 ≤ 140737488355328 := by omega
    simp -implicitDefEqProofs only [go_sem, encPl, hlt']
    refine run_call (p_impl_BeforeOf p k hp) (by simp -implicitDefEqProofs only [go_sem, encPl]) fun η => ?_
    simp -implicitDefEqProofs only [go_sem, encPl]
    generalize hL : (befL p k).length = L at *
    intro b8
    cases h0 : ((L : Int) == 0)
    · have h0' : 0 < L := by have : ¬ (L : Int) = 0 := by simpa using h0
                             omega
      have hT : newT p k = ⟨1, (L : Int), 0, 0⟩ := by simp [newT, hL, h0']
      rw [hT] at hnx
      simp -implicitDefEqProofs only [go_sem, encPl, encTk, encRn, h0, m1, m2, tks_snoc1, hw]
      intro η40 η41
      exact ⟨(k + 1, η41), by (try dsimp only); first | omega | assumption | (and_intros <;> first | omega | assumption), (wk_of [some 300, some 400, some 600] (by simp -implicitDefEqProofs only [go_sem, encPl, encRn, hnx] <;> and_intros <;> first | rfl | assumption)), by (try dsimp only); omega⟩
    · have h0' : ¬ 0 < L := by have : (L : Int) = 0 := by simpa using h0
                               omega
      have hT : newT p k = ⟨2, (L : Int), 0, 0⟩ := by simp [newT, hL, h0']
      rw [hT] at hnx
      simp -implicitDefEqProofs only [go_sem, encPl, encTk, encRn, h0, m1, m2, tks_snoc1, hw]
      intro η40 η41
      exact ⟨(k + 1, η41), by (try dsimp only); first | omega | assumption | (and_intros <;> first | omega | assumption), (wk_of [some 300, some 400, some 600] (by simp -implicitDefEqProofs only [go_sem, encPl, encRn, hnx] <;> and_intros <;> first | rfl | assumption)), by (try dsimp only); omega⟩
  have hlt' : ¬ (k : Int) < p.tasks := by omega
  obtain rfl : k = n := by omega
  have hr : runNew id p = ⟨id, p, 1, newTs p k⟩ := by rw [runNew, hn, Int.toNat_natCast]
  rw [hr]
  generalize newTs p k = M at *
  simp -implicitDefEqProofs only [go_sem, encPl, encRn, hlt']
  refine ret2_ _ _ _ _ _ ?_
  simp -implicitDefEqProofs only [go_sem, encPl, encRn]
end Go.Proofs.YtbplebgnkhmemaaGreat
