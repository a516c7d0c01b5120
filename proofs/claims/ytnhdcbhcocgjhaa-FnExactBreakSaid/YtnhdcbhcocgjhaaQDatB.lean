/- Texts for laws: DatB. -/
import Derived.Test.YtnhdcbhcocgjhaaQCopyY
import Derived.Test.YtnhdcbhcocgjhaaQDatM
set_option linter.unusedSimpArgs false
set_option linter.unusedVariables false
set_option maxRecDepth 100000
namespace Go.Proofs.Ytnhdcbhcocgjhaa
open Go.RowKit Go.Sort
def c_impl_copyDisk : C := .seq (.reg [⟨some 1, none, .box 28 1 (.t 0)⟩, ⟨some 2, none, .alloc 28 [.slice none 0 0]⟩]) (.seq (.reg [⟨some 3, none, .fa 0 (.t 1)⟩, ⟨some 4, none, .ld false 1 (.t 3)⟩, ⟨some 5, none, .app 147 3 40 (.c (.slice none 0 0)) (.t 4)⟩, ⟨some 6, none, .bld [.slice none 0 0] [(0, 1, .t 5)]⟩, ⟨none, none, .st 1 [some (3, 147)] (.t 2) (.t 6)⟩]) .ret)
theorem code_impl_copyDisk : fnC Try.prog Try.f101 = some (c_impl_copyDisk, [.cell 2 true 1], 7) := by kernel_rfl
def c_spec_l04Copy : C := .seq (.reg [⟨some 1, none, .box 28 1 (.t 0)⟩, ⟨some 2, none, .alloc 28 [.slice none 0 0]⟩]) (.seq (.reg [⟨some 3, none, .bsl 147 3 0 [] []⟩, ⟨some 4, none, .fa 0 (.t 1)⟩, ⟨some 5, none, .ld false 1 (.t 4)⟩, ⟨some 6, none, .app 147 3 40 (.t 3) (.t 5)⟩, ⟨some 7, none, .bld [.slice none 0 0] [(0, 1, .t 6)]⟩, ⟨none, none, .st 1 [some (3, 147)] (.t 2) (.t 7)⟩]) .ret)
theorem code_spec_l04Copy : fnC Try.prog Try.f95 = some (c_spec_l04Copy, [.cell 2 true 1], 8) := by kernel_rfl
def c_impl_copyEngine : C := .seq (.reg [⟨some 1, none, .box 31 10 (.t 0)⟩, ⟨some 2, none, .alloc 31 [.int .i64 0, .int .i64 0, .slice none 0 0, .slice none 0 0, .slice none 0 0, .int .i64 0, .int .i64 0, .slice none 0 0, .int .i64 0, .bool false]⟩]) (.seq (.reg [⟨some 3, none, .fa 0 (.t 1)⟩, ⟨some 4, none, .ld true 4 (.t 3)⟩, ⟨some 5, none, .call 100 [.t 4]⟩, ⟨some 6, none, .fa 0 (.t 1)⟩, ⟨none, none, .st 4 [none, none, some (1, 102), some (8, 144)] (.t 6) (.t 5)⟩]) (.seq (.reg [⟨some 7, none, .fa 4 (.t 1)⟩, ⟨some 8, none, .ld true 1 (.t 7)⟩, ⟨some 9, none, .call 101 [.t 8]⟩, ⟨some 10, none, .fa 4 (.t 1)⟩, ⟨none, none, .st 1 [some (3, 147)] (.t 10) (.t 9)⟩]) (.seq (.reg [⟨some 11, none, .fa 7 (.t 1)⟩, ⟨some 12, none, .ld false 1 (.t 11)⟩, ⟨some 13, none, .app 110 5 40 (.c (.slice none 0 0)) (.t 12)⟩, ⟨some 14, none, .fa 7 (.t 1)⟩, ⟨none, none, .st 1 [some (5, 110)] (.t 14) (.t 13)⟩]) (.seq (.reg [⟨some 15, none, .ld true 10 (.t 1)⟩, ⟨none, none, .st 10 [none, none, some (1, 102), some (8, 144), some (3, 147), none, none, some (5, 110), none, none] (.t 2) (.t 15)⟩]) .ret))))
theorem code_impl_copyEngine : fnC Try.prog Try.f60 = some (c_impl_copyEngine, [.cell 2 true 10], 16) := by kernel_rfl
def c_spec_l20Copy : C := .seq (.reg [⟨some 1, none, .box 31 10 (.t 0)⟩, ⟨some 2, none, .alloc 31 [.int .i64 0, .int .i64 0, .slice none 0 0, .slice none 0 0, .slice none 0 0, .int .i64 0, .int .i64 0, .slice none 0 0, .int .i64 0, .bool false]⟩]) (.seq (.reg [⟨some 3, none, .fa 0 (.t 1)⟩, ⟨some 4, none, .ld true 4 (.t 3)⟩, ⟨some 5, none, .call 94 [.t 4]⟩, ⟨some 6, none, .fa 0 (.t 1)⟩, ⟨none, none, .st 4 [none, none, some (1, 102), some (8, 144)] (.t 6) (.t 5)⟩]) (.seq (.reg [⟨some 7, none, .fa 4 (.t 1)⟩, ⟨some 8, none, .ld true 1 (.t 7)⟩, ⟨some 9, none, .call 95 [.t 8]⟩, ⟨some 10, none, .fa 4 (.t 1)⟩, ⟨none, none, .st 1 [some (3, 147)] (.t 10) (.t 9)⟩]) (.seq (.reg [⟨some 11, none, .bsl 110 5 0 [] []⟩, ⟨some 12, none, .fa 7 (.t 1)⟩, ⟨some 13, none, .ld false 1 (.t 12)⟩, ⟨some 14, none, .app 110 5 40 (.t 11) (.t 13)⟩, ⟨some 15, none, .fa 7 (.t 1)⟩, ⟨none, none, .st 1 [some (5, 110)] (.t 15) (.t 14)⟩]) (.seq (.reg [⟨some 16, none, .ld true 10 (.t 1)⟩, ⟨none, none, .st 10 [none, none, some (1, 102), some (8, 144), some (3, 147), none, none, some (5, 110), none, none] (.t 2) (.t 16)⟩]) .ret))))
theorem code_spec_l20Copy : fnC Try.prog Try.f56 = some (c_spec_l20Copy, [.cell 2 true 10], 17) := by kernel_rfl
def c_impl_Break : C := .seq (.reg [⟨some 1, none, .box 31 10 (.t 0)⟩, ⟨some 2, none, .alloc 31 [.int .i64 0, .int .i64 0, .slice none 0 0, .slice none 0 0, .slice none 0 0, .int .i64 0, .int .i64 0, .slice none 0 0, .int .i64 0, .bool false]⟩]) (.seq (.reg [⟨some 4, none, .ld true 10 (.t 1)⟩, ⟨some 5, none, .call 60 [.t 4]⟩, ⟨some 3, none, .alloc 31 [.int .i64 0, .int .i64 0, .slice none 0 0, .slice none 0 0, .slice none 0 0, .int .i64 0, .int .i64 0, .slice none 0 0, .int .i64 0, .bool false]⟩, ⟨none, none, .st 10 [none, none, some (1, 102), some (8, 144), some (3, 147), none, none, some (5, 110), none, none] (.t 3) (.t 5)⟩]) (.seq (.seq (.reg [⟨some 6, none, .fa 8 (.t 1)⟩, ⟨some 7, none, .ld false 1 (.t 6)⟩, ⟨some 8, none, .bin .eql 3 (.t 7) (.c (.int .i64 1))⟩]) (.cond (.t 8) (.reg [⟨some 9, none, .fa 9 (.t 3)⟩, ⟨none, none, .st 1 [none] (.t 9) (.c (.bool true))⟩]) .skip)) (.seq (.reg [⟨some 10, none, .ld true 10 (.t 3)⟩, ⟨none, none, .st 10 [none, none, some (1, 102), some (8, 144), some (3, 147), none, none, some (5, 110), none, none] (.t 2) (.t 10)⟩]) .ret)))
theorem code_impl_Break : fnC Try.prog Try.f25 = some (c_impl_Break, [.cell 2 true 10], 11) := by kernel_rfl
def c_spec_Break : C := .seq (.reg [⟨some 1, none, .box 31 10 (.t 0)⟩, ⟨some 2, none, .alloc 31 [.int .i64 0, .int .i64 0, .slice none 0 0, .slice none 0 0, .slice none 0 0, .int .i64 0, .int .i64 0, .slice none 0 0, .int .i64 0, .bool false]⟩]) (.seq (.reg [⟨some 4, none, .ld true 10 (.t 1)⟩, ⟨some 5, none, .call 56 [.t 4]⟩, ⟨some 3, none, .alloc 31 [.int .i64 0, .int .i64 0, .slice none 0 0, .slice none 0 0, .slice none 0 0, .int .i64 0, .int .i64 0, .slice none 0 0, .int .i64 0, .bool false]⟩, ⟨none, none, .st 10 [none, none, some (1, 102), some (8, 144), some (3, 147), none, none, some (5, 110), none, none] (.t 3) (.t 5)⟩]) (.seq (.seq (.reg [⟨some 6, none, .fa 8 (.t 1)⟩, ⟨some 7, none, .ld false 1 (.t 6)⟩, ⟨some 8, none, .bin .eql 3 (.t 7) (.c (.int .i64 1))⟩]) (.cond (.t 8) (.reg [⟨some 9, none, .fa 9 (.t 3)⟩, ⟨none, none, .st 1 [none] (.t 9) (.c (.bool true))⟩]) .skip)) (.seq (.reg [⟨some 10, none, .ld true 10 (.t 3)⟩, ⟨none, none, .st 10 [none, none, some (1, 102), some (8, 144), some (3, 147), none, none, some (5, 110), none, none] (.t 2) (.t 10)⟩]) .ret)))
theorem code_spec_Break : fnC Try.prog Try.f23 = some (c_spec_Break, [.cell 2 true 10], 11) := by kernel_rfl
theorem p_impl_copyDisk (l : List Fl) (hl : l.length ≤ 2000000) : Pure Try.prog 101 [.agg [encFls l]] (.agg [encFls l]) := by
  refine pure_fn Try.func101 code_impl_copyDisk (by simp) ?_
  unfold c_impl_copyDisk
  have m1 : l.length ≤ maxLen := by unfold maxLen; omega
  have m2 : l.length * 40 ≤ 140737488355328 := by omega
  simp -implicitDefEqProofs only [go_sem, m1, m2, List.nil_append, List.length_nil, Nat.zero_add, fold_encFls]
theorem p_spec_l04Copy (l : List Fl) (hl : l.length ≤ 2000000) : Pure Try.prog 95 [.agg [encFls l]] (.agg [encFls l]) := by
  refine pure_fn Try.func95 code_spec_l04Copy (by simp) ?_
  unfold c_spec_l04Copy
  have m1 : l.length ≤ maxLen := by unfold maxLen; omega
  have m2 : l.length * 40 ≤ 140737488355328 := by omega
  simp -implicitDefEqProofs only [go_sem, m1, m2, List.nil_append, List.length_nil, Nat.zero_add, fold_encFls]
theorem p_impl_copyEngine (x : Eg) (hy : totYd x.yard ≤ 2000000) (hd : x.disk.length ≤ 2000000) (hw : x.waits.length ≤ 2000000) : Pure Try.prog 60 [.agg (encEg x)] (.agg (encEg x)) := by
  refine pure_fn Try.func60 code_impl_copyEngine (by simp) ?_
  unfold c_impl_copyEngine
  have m1 : x.waits.length ≤ maxLen := by unfold maxLen; omega
  have m2 : x.waits.length * 40 ≤ 140737488355328 := by omega
  simp -implicitDefEqProofs only [go_sem, encEg]
  intros
  refine run_call (p_impl_copyYard x.yard hy) (by simp -implicitDefEqProofs only [go_sem, encYd]) fun ηa => ?_
  simp -implicitDefEqProofs only [go_sem, encYd]
  intros
  refine run_call (p_impl_copyDisk x.disk hd) (by simp -implicitDefEqProofs only [go_sem, encYd, m1, m2, List.nil_append, List.length_nil, Nat.zero_add, fold_encWts]) fun ηb => ?_
  simp -implicitDefEqProofs only [go_sem, encYd, m1, m2, List.nil_append, List.length_nil, Nat.zero_add, fold_encWts]
theorem p_spec_l20Copy (x : Eg) (hy : totYd x.yard ≤ 2000000) (hd : x.disk.length ≤ 2000000) (hw : x.waits.length ≤ 2000000) : Pure Try.prog 56 [.agg (encEg x)] (.agg (encEg x)) := by
  refine pure_fn Try.func56 code_spec_l20Copy (by simp) ?_
  unfold c_spec_l20Copy
  have m1 : x.waits.length ≤ maxLen := by unfold maxLen; omega
  have m2 : x.waits.length * 40 ≤ 140737488355328 := by omega
  simp -implicitDefEqProofs only [go_sem, encEg]
  intros
  refine run_call (p_spec_l10Copy x.yard hy) (by simp -implicitDefEqProofs only [go_sem, encYd]) fun ηa => ?_
  simp -implicitDefEqProofs only [go_sem, encYd]
  intros
  refine run_call (p_spec_l04Copy x.disk hd) (by simp -implicitDefEqProofs only [go_sem, encYd, m1, m2, List.nil_append, List.length_nil, Nat.zero_add, fold_encWts]) fun ηb => ?_
  simp -implicitDefEqProofs only [go_sem, encYd, m1, m2, List.nil_append, List.length_nil, Nat.zero_add, fold_encWts]
def brk (x : Eg) : Eg := ⟨x.yard, x.disk, x.next, x.calls, x.waits, x.state, if x.state = 1 then true else x.broken⟩
theorem p_impl_Break (x : Eg) (hy : totYd x.yard ≤ 2000000) (hd : x.disk.length ≤ 2000000) (hw : x.waits.length ≤ 2000000) : Pure Try.prog 25 [.agg (encEg x)] (.agg (encEg (brk x))) := by
  refine pure_fn Try.func25 code_impl_Break (by simp) ?_
  unfold c_impl_Break
  simp -implicitDefEqProofs only [go_sem, encEg]
  intros
  refine run_call (p_impl_copyEngine x hy hd hw) (by simp -implicitDefEqProofs only [go_sem, encEg]) fun ηa => ?_
  simp -implicitDefEqProofs only [go_sem, encEg]
  intros
  cases h : x.state == 1
  · have hb : brk x = x := by
      have : ¬ x.state = 1 := by simpa using h
      simp [brk, this]
    simp -implicitDefEqProofs only [go_sem, h, hb]
  · have hb : brk x = ⟨x.yard, x.disk, x.next, x.calls, x.waits, x.state, true⟩ := by
      have : x.state = 1 := by simpa using h
      simp [brk, this]
    simp -implicitDefEqProofs only [go_sem, h, hb]
theorem p_spec_Break (x : Eg) (hy : totYd x.yard ≤ 2000000) (hd : x.disk.length ≤ 2000000) (hw : x.waits.length ≤ 2000000) : Pure Try.prog 23 [.agg (encEg x)] (.agg (encEg (brk x))) := by
  refine pure_fn Try.func23 code_spec_Break (by simp) ?_
  unfold c_spec_Break
  simp -implicitDefEqProofs only [go_sem, encEg]
  intros
  refine run_call (p_spec_l20Copy x hy hd hw) (by simp -implicitDefEqProofs only [go_sem, encEg]) fun ηa => ?_
  simp -implicitDefEqProofs only [go_sem, encEg]
  intros
  cases h : x.state == 1
  · have hb : brk x = x := by
      have : ¬ x.state = 1 := by simpa using h
      simp [brk, this]
    simp -implicitDefEqProofs only [go_sem, h, hb]
  · have hb : brk x = ⟨x.yard, x.disk, x.next, x.calls, x.waits, x.state, true⟩ := by
      have : x.state = 1 := by simpa using h
      simp [brk, this]
    simp -implicitDefEqProofs only [go_sem, h, hb]
end Go.Proofs.Ytnhdcbhcocgjhaa
