/- Texts for laws: DatB, DatS. -/
import Derived.Test.YtnhdcbhcocgjhaaGreatQCopyY
import Derived.Test.YtnhdcbhcocgjhaaGreatQDatE
import Derived.Test.YtnhdcbhcocgjhaaGreatQDatM
import Derived.Test.YtnhdcbhcocgjhaaGreatQHole
set_option linter.unusedSimpArgs false
set_option linter.unusedVariables false
set_option maxRecDepth 100000
namespace Go.Proofs.YtnhdcbhcocgjhaaGreat
open Go.RowKit Go.Sort
def c_impl_copyDisk : C := .seq (.reg [⟨some 1, none, .box 57 1 (.t 0)⟩, ⟨some 2, none, .alloc 57 [.slice none 0 0]⟩]) (.seq (.reg [⟨some 3, none, .fa 0 (.t 1)⟩, ⟨some 4, none, .ld false 1 (.t 3)⟩, ⟨some 5, none, .app 176 3 40 (.c (.slice none 0 0)) (.t 4)⟩, ⟨some 6, none, .bld [.slice none 0 0] [(0, 1, .t 5)]⟩, ⟨none, none, .st 1 [some (3, 176)] (.t 2) (.t 6)⟩]) .ret)
theorem code_impl_copyDisk : fnC Tryz.prog Tryz.f154 = some (c_impl_copyDisk, [.cell 2 true 1], 7) := by kernel_rfl
def c_spec_l04Copy : C := .seq (.reg [⟨some 1, none, .box 57 1 (.t 0)⟩, ⟨some 2, none, .alloc 57 [.slice none 0 0]⟩]) (.seq (.reg [⟨some 3, none, .bsl 176 3 0 [] []⟩, ⟨some 4, none, .fa 0 (.t 1)⟩, ⟨some 5, none, .ld false 1 (.t 4)⟩, ⟨some 6, none, .app 176 3 40 (.t 3) (.t 5)⟩, ⟨some 7, none, .bld [.slice none 0 0] [(0, 1, .t 6)]⟩, ⟨none, none, .st 1 [some (3, 176)] (.t 2) (.t 7)⟩]) .ret)
theorem code_spec_l04Copy : fnC Tryz.prog Tryz.f150 = some (c_spec_l04Copy, [.cell 2 true 1], 8) := by kernel_rfl
def c_impl_copyEngine : C := .seq (.reg [⟨some 1, none, .box 60 10 (.t 0)⟩, ⟨some 2, none, .alloc 60 [.int .i64 0, .int .i64 0, .slice none 0 0, .slice none 0 0, .slice none 0 0, .int .i64 0, .int .i64 0, .slice none 0 0, .int .i64 0, .bool false]⟩]) (.seq (.reg [⟨some 3, none, .fa 0 (.t 1)⟩, ⟨some 4, none, .ld true 4 (.t 3)⟩, ⟨some 5, none, .call 50 [.t 4]⟩, ⟨some 6, none, .fa 0 (.t 1)⟩, ⟨none, none, .st 4 [none, none, some (1, 103), some (8, 80)] (.t 6) (.t 5)⟩]) (.seq (.reg [⟨some 7, none, .fa 4 (.t 1)⟩, ⟨some 8, none, .ld true 1 (.t 7)⟩, ⟨some 9, none, .call 154 [.t 8]⟩, ⟨some 10, none, .fa 4 (.t 1)⟩, ⟨none, none, .st 1 [some (3, 176)] (.t 10) (.t 9)⟩]) (.seq (.reg [⟨some 11, none, .fa 7 (.t 1)⟩, ⟨some 12, none, .ld false 1 (.t 11)⟩, ⟨some 13, none, .app 128 5 40 (.c (.slice none 0 0)) (.t 12)⟩, ⟨some 14, none, .fa 7 (.t 1)⟩, ⟨none, none, .st 1 [some (5, 128)] (.t 14) (.t 13)⟩]) (.seq (.reg [⟨some 15, none, .ld true 10 (.t 1)⟩, ⟨none, none, .st 10 [none, none, some (1, 103), some (8, 80), some (3, 176), none, none, some (5, 128), none, none] (.t 2) (.t 15)⟩]) .ret))))
theorem code_impl_copyEngine : fnC Tryz.prog Tryz.f94 = some (c_impl_copyEngine, [.cell 2 true 10], 16) := by kernel_rfl
def c_spec_l20Copy : C := .seq (.reg [⟨some 1, none, .box 60 10 (.t 0)⟩, ⟨some 2, none, .alloc 60 [.int .i64 0, .int .i64 0, .slice none 0 0, .slice none 0 0, .slice none 0 0, .int .i64 0, .int .i64 0, .slice none 0 0, .int .i64 0, .bool false]⟩]) (.seq (.reg [⟨some 3, none, .fa 0 (.t 1)⟩, ⟨some 4, none, .ld true 4 (.t 3)⟩, ⟨some 5, none, .call 43 [.t 4]⟩, ⟨some 6, none, .fa 0 (.t 1)⟩, ⟨none, none, .st 4 [none, none, some (1, 103), some (8, 80)] (.t 6) (.t 5)⟩]) (.seq (.reg [⟨some 7, none, .fa 4 (.t 1)⟩, ⟨some 8, none, .ld true 1 (.t 7)⟩, ⟨some 9, none, .call 150 [.t 8]⟩, ⟨some 10, none, .fa 4 (.t 1)⟩, ⟨none, none, .st 1 [some (3, 176)] (.t 10) (.t 9)⟩]) (.seq (.reg [⟨some 11, none, .bsl 128 5 0 [] []⟩, ⟨some 12, none, .fa 7 (.t 1)⟩, ⟨some 13, none, .ld false 1 (.t 12)⟩, ⟨some 14, none, .app 128 5 40 (.t 11) (.t 13)⟩, ⟨some 15, none, .fa 7 (.t 1)⟩, ⟨none, none, .st 1 [some (5, 128)] (.t 15) (.t 14)⟩]) (.seq (.reg [⟨some 16, none, .ld true 10 (.t 1)⟩, ⟨none, none, .st 10 [none, none, some (1, 103), some (8, 80), some (3, 176), none, none, some (5, 128), none, none] (.t 2) (.t 16)⟩]) .ret))))
theorem code_spec_l20Copy : fnC Tryz.prog Tryz.f90 = some (c_spec_l20Copy, [.cell 2 true 10], 17) := by kernel_rfl
theorem p_impl_copyDisk (l : List Fl) (hl : l.length ≤ 2000000) : Pure Tryz.prog 154 [.agg [encFls l]] (.agg [encFls l]) := by
  refine pure_fn Tryz.func154 code_impl_copyDisk (by simp) ?_
  unfold c_impl_copyDisk
  have m1 : l.length ≤ maxLen := by unfold maxLen; omega
  have m2 : l.length * 40 ≤ 140737488355328 := by omega
  simp -implicitDefEqProofs only [go_sem, m1, m2, List.nil_append, List.length_nil, Nat.zero_add, fold_encFls]
theorem p_spec_l04Copy (l : List Fl) (hl : l.length ≤ 2000000) : Pure Tryz.prog 150 [.agg [encFls l]] (.agg [encFls l]) := by
  refine pure_fn Tryz.func150 code_spec_l04Copy (by simp) ?_
  unfold c_spec_l04Copy
  have m1 : l.length ≤ maxLen := by unfold maxLen; omega
  have m2 : l.length * 40 ≤ 140737488355328 := by omega
  simp -implicitDefEqProofs only [go_sem, m1, m2, List.nil_append, List.length_nil, Nat.zero_add, fold_encFls]
theorem p_impl_copyEngine (x : Eg) (hy : totYd x.yard ≤ 2000000) (hd : x.disk.length ≤ 2000000) (hw : x.waits.length ≤ 2000000) : Pure Tryz.prog 94 [.agg (encEg x)] (.agg (encEg x)) := by
  refine pure_fn Tryz.func94 code_impl_copyEngine (by simp) ?_
  unfold c_impl_copyEngine
  have m1 : x.waits.length ≤ maxLen := by unfold maxLen; omega
  have m2 : x.waits.length * 40 ≤ 140737488355328 := by omega
  simp -implicitDefEqProofs only [go_sem, encEg]
  intros
  refine run_call (p_impl_copyYard x.yard hy) (by simp -implicitDefEqProofs only [go_sem, encYd]) fun ηa => ?_
  simp -implicitDefEqProofs only [go_sem, encYd]
  intros
  refine run_call (p_impl_copyDisk x.disk hd) (by simp -implicitDefEqProofs only [go_sem, encYd, m1, m2, List.nil_append, List.length_nil, Nat.zero_add, fold_encWts]) fun ηb => ?_
  simp -implicitDefEqProofs only [go_sem, encYd, m1, m2, List.nil_append, List.length_nil, Nat.zero_add, fold_encWts]
theorem p_spec_l20Copy (x : Eg) (hy : totYd x.yard ≤ 2000000) (hd : x.disk.length ≤ 2000000) (hw : x.waits.length ≤ 2000000) : Pure Tryz.prog 90 [.agg (encEg x)] (.agg (encEg x)) := by
  refine pure_fn Tryz.func90 code_spec_l20Copy (by simp) ?_
  unfold c_spec_l20Copy
  have m1 : x.waits.length ≤ maxLen := by unfold maxLen; omega
  have m2 : x.waits.length * 40 ≤ 140737488355328 := by omega
  simp -implicitDefEqProofs only [go_sem, encEg]
  intros
  refine run_call (p_spec_l10Copy x.yard hy) (by simp -implicitDefEqProofs only [go_sem, encYd]) fun ηa => ?_
  simp -implicitDefEqProofs only [go_sem, encYd]
  intros
  refine run_call (p_spec_l04Copy x.disk hd) (by simp -implicitDefEqProofs only [go_sem, encYd, m1, m2, List.nil_append, List.length_nil, Nat.zero_add, fold_encWts]) fun ηb => ?_
  simp -implicitDefEqProofs only [go_sem, encYd, m1, m2, List.nil_append, List.length_nil, Nat.zero_add, fold_encWts]
end Go.Proofs.YtnhdcbhcocgjhaaGreat
set_option linter.unusedSimpArgs false
set_option linter.unusedVariables false
set_option maxRecDepth 100000
namespace Go.Proofs.YtnhdcbhcocgjhaaGreat
open Go.RowKit Go.Sort
def c_impl_Shut : C := .seq (.reg [⟨some 1, none, .box 60 10 (.t 0)⟩, ⟨some 2, none, .alloc 60 [.int .i64 0, .int .i64 0, .slice none 0 0, .slice none 0 0, .slice none 0 0, .int .i64 0, .int .i64 0, .slice none 0 0, .int .i64 0, .bool false]⟩, ⟨some 3, none, .mov (.c (.int .i64 0))⟩]) (.seq (.reg [⟨some 5, none, .ld true 10 (.t 1)⟩, ⟨some 6, none, .call 94 [.t 5]⟩, ⟨some 4, none, .alloc 60 [.int .i64 0, .int .i64 0, .slice none 0 0, .slice none 0 0, .slice none 0 0, .int .i64 0, .int .i64 0, .slice none 0 0, .int .i64 0, .bool false]⟩, ⟨none, none, .st 10 [none, none, some (1, 103), some (8, 80), some (3, 176), none, none, some (5, 128), none, none] (.t 4) (.t 6)⟩]) (.seq (.blk 0 (.seq (.reg [⟨some 8, none, .ld true 10 (.t 1)⟩, ⟨some 9, none, .call 95 [.t 8]⟩, ⟨some 10, none, .un .not (.t 9)⟩, ⟨some 7, none, .mov (.t 10)⟩]) (.cond (.t 7) (.seq (.reg [⟨some 11, none, .ld true 10 (.t 4)⟩, ⟨none, none, .st 10 [none, none, some (1, 103), some (8, 80), some (3, 176), none, none, some (5, 128), none, none] (.t 2) (.t 11)⟩, ⟨some 3, none, .mov (.c (.int .i64 8))⟩]) .ret) (.seq (.reg [⟨some 13, none, .fa 8 (.t 1)⟩, ⟨some 14, none, .ld false 1 (.t 13)⟩, ⟨some 15, none, .bin .eql 3 (.t 14) (.c (.int .i64 3))⟩, ⟨some 12, none, .mov (.t 15)⟩]) (.cond (.t 12) (.seq (.reg [⟨some 16, none, .ld true 10 (.t 4)⟩, ⟨none, none, .st 10 [none, none, some (1, 103), some (8, 80), some (3, 176), none, none, some (5, 128), none, none] (.t 2) (.t 16)⟩, ⟨some 3, none, .mov (.c (.int .i64 15))⟩]) .ret) .skip))))) (.seq (.reg [⟨some 17, none, .fa 8 (.t 4)⟩, ⟨none, none, .st 1 [none] (.t 17) (.c (.int .i64 3))⟩]) (.seq (.reg [⟨some 18, none, .fa 7 (.t 4)⟩, ⟨none, none, .st 1 [some (5, 128)] (.t 18) (.c (.slice none 0 0))⟩]) (.seq (.reg [⟨some 19, none, .ld true 10 (.t 4)⟩, ⟨none, none, .st 10 [none, none, some (1, 103), some (8, 80), some (3, 176), none, none, some (5, 128), none, none] (.t 2) (.t 19)⟩, ⟨some 3, none, .mov (.c (.int .i64 0))⟩]) .ret)))))
theorem code_impl_Shut : fnC Tryz.prog Tryz.f32 = some (c_impl_Shut, [.cell 2 true 10, .t 3], 20) := by kernel_rfl
def c_spec_Shut : C := .seq (.reg [⟨some 1, none, .box 60 10 (.t 0)⟩, ⟨some 2, none, .alloc 60 [.int .i64 0, .int .i64 0, .slice none 0 0, .slice none 0 0, .slice none 0 0, .int .i64 0, .int .i64 0, .slice none 0 0, .int .i64 0, .bool false]⟩, ⟨some 3, none, .mov (.c (.int .i64 0))⟩]) (.seq (.reg [⟨some 5, none, .ld true 10 (.t 1)⟩, ⟨some 6, none, .call 90 [.t 5]⟩, ⟨some 4, none, .alloc 60 [.int .i64 0, .int .i64 0, .slice none 0 0, .slice none 0 0, .slice none 0 0, .int .i64 0, .int .i64 0, .slice none 0 0, .int .i64 0, .bool false]⟩, ⟨none, none, .st 10 [none, none, some (1, 103), some (8, 80), some (3, 176), none, none, some (5, 128), none, none] (.t 4) (.t 6)⟩]) (.seq (.blk 0 (.seq (.reg [⟨some 8, none, .ld true 10 (.t 1)⟩, ⟨some 9, none, .call 91 [.t 8]⟩, ⟨some 10, none, .un .not (.t 9)⟩, ⟨some 7, none, .mov (.t 10)⟩]) (.cond (.t 7) (.seq (.reg [⟨some 11, none, .ld true 10 (.t 4)⟩, ⟨none, none, .st 10 [none, none, some (1, 103), some (8, 80), some (3, 176), none, none, some (5, 128), none, none] (.t 2) (.t 11)⟩, ⟨some 3, none, .mov (.c (.int .i64 8))⟩]) .ret) (.seq (.reg [⟨some 13, none, .fa 8 (.t 1)⟩, ⟨some 14, none, .ld false 1 (.t 13)⟩, ⟨some 15, none, .bin .eql 3 (.t 14) (.c (.int .i64 3))⟩, ⟨some 12, none, .mov (.t 15)⟩]) (.cond (.t 12) (.seq (.reg [⟨some 16, none, .ld true 10 (.t 4)⟩, ⟨none, none, .st 10 [none, none, some (1, 103), some (8, 80), some (3, 176), none, none, some (5, 128), none, none] (.t 2) (.t 16)⟩, ⟨some 3, none, .mov (.c (.int .i64 15))⟩]) .ret) .skip))))) (.seq (.reg [⟨some 17, none, .fa 8 (.t 4)⟩, ⟨none, none, .st 1 [none] (.t 17) (.c (.int .i64 3))⟩]) (.seq (.reg [⟨some 18, none, .bsl 128 5 0 [] []⟩, ⟨some 19, none, .fa 7 (.t 4)⟩, ⟨none, none, .st 1 [some (5, 128)] (.t 19) (.t 18)⟩]) (.seq (.reg [⟨some 20, none, .ld true 10 (.t 4)⟩, ⟨none, none, .st 10 [none, none, some (1, 103), some (8, 80), some (3, 176), none, none, some (5, 128), none, none] (.t 2) (.t 20)⟩, ⟨some 3, none, .mov (.c (.int .i64 0))⟩]) .ret)))))
theorem code_spec_Shut : fnC Tryz.prog Tryz.f30 = some (c_spec_Shut, [.cell 2 true 10, .t 3], 21) := by kernel_rfl
noncomputable def shutE (x : Eg) : Eg × Int := if egB x = true then (if x.state = 3 then (x, 15) else (⟨x.yard, x.disk, x.next, x.calls, [], 3, x.broken⟩, 0)) else (x, 8)
set_option maxHeartbeats 4000000 in
theorem p_impl_Shut (x : Eg) (hy : totYd x.yard ≤ 2000000) (hd : x.disk.length ≤ 2000000) (hw : x.waits.length ≤ 2000000) : Pure Tryz.prog 32 [.agg (encEg x)] (.tup [(true, encEg (shutE x).1), (false, [.val (.int .i64 (shutE x).2)])]) := by
  refine pure_fn Tryz.func32 code_impl_Shut (by simp) ?_
  unfold c_impl_Shut
  simp -implicitDefEqProofs only [go_sem, encEg]
  intros
  refine run_call (p_impl_copyEngine x hy hd hw) (by simp -implicitDefEqProofs only [go_sem, encEg]) fun ηa => ?_
  simp -implicitDefEqProofs only [go_sem, encEg]
  intros
  refine run_call (p_impl_EngineOk x hy hd) (by simp -implicitDefEqProofs only [go_sem, encEg]) fun ηb => ?_
  simp -implicitDefEqProofs only [go_sem, encEg]
  cases h : egB x
  · have hb : shutE x = (x, 8) := by simp [shutE, h]
    rw [hb]
    simp -implicitDefEqProofs only [go_sem, Bool.not_false, encEg]
    refine ret2_ _ _ _ _ _ ?_
    simp -implicitDefEqProofs only [go_sem, encEg]
  cases h3 : x.state == 3
  · have hb : shutE x = (⟨x.yard, x.disk, x.next, x.calls, [], 3, x.broken⟩, 0) := by
      have : ¬ x.state = 3 := by simpa using h3
      simp [shutE, h, this]
    rw [hb]
    simp -implicitDefEqProofs only [go_sem, Bool.not_true, encEg, h3]
    refine ret2_ _ _ _ _ _ ?_
    simp -implicitDefEqProofs only [go_sem, encEg]
  · have hb : shutE x = (x, 15) := by
      have : x.state = 3 := by simpa using h3
      simp [shutE, h, this]
    rw [hb]
    simp -implicitDefEqProofs only [go_sem, Bool.not_true, encEg, h3]
    refine ret2_ _ _ _ _ _ ?_
    simp -implicitDefEqProofs only [go_sem, encEg]
set_option maxHeartbeats 4000000 in
theorem p_spec_Shut (x : Eg) (hy : totYd x.yard ≤ 2000000) (hd : x.disk.length ≤ 2000000) (hw : x.waits.length ≤ 2000000) : Pure Tryz.prog 30 [.agg (encEg x)] (.tup [(true, encEg (shutE x).1), (false, [.val (.int .i64 (shutE x).2)])]) := by
  refine pure_fn Tryz.func30 code_spec_Shut (by simp) ?_
  unfold c_spec_Shut
  simp -implicitDefEqProofs only [go_sem, encEg]
  intros
  refine run_call (p_spec_l20Copy x hy hd hw) (by simp -implicitDefEqProofs only [go_sem, encEg]) fun ηa => ?_
  simp -implicitDefEqProofs only [go_sem, encEg]
  intros
  refine run_call (p_spec_EngineOk x hy hd) (by simp -implicitDefEqProofs only [go_sem, encEg]) fun ηb => ?_
  simp -implicitDefEqProofs only [go_sem, encEg]
  cases h : egB x
  · have hb : shutE x = (x, 8) := by simp [shutE, h]
    rw [hb]
    simp -implicitDefEqProofs only [go_sem, Bool.not_false, encEg]
    refine ret2_ _ _ _ _ _ ?_
    simp -implicitDefEqProofs only [go_sem, encEg]
  cases h3 : x.state == 3
  · have hb : shutE x = (⟨x.yard, x.disk, x.next, x.calls, [], 3, x.broken⟩, 0) := by
      have : ¬ x.state = 3 := by simpa using h3
      simp [shutE, h, this]
    rw [hb]
    simp -implicitDefEqProofs only [go_sem, Bool.not_true, encEg, h3]
    intro ηs
    refine ret2_ _ _ _ _ _ ?_
    simp -implicitDefEqProofs only [go_sem, encEg]
    rfl
  · have hb : shutE x = (x, 15) := by
      have : x.state = 3 := by simpa using h3
      simp [shutE, h, this]
    rw [hb]
    simp -implicitDefEqProofs only [go_sem, Bool.not_true, encEg, h3]
    refine ret2_ _ _ _ _ _ ?_
    simp -implicitDefEqProofs only [go_sem, encEg]
end Go.Proofs.YtnhdcbhcocgjhaaGreat
