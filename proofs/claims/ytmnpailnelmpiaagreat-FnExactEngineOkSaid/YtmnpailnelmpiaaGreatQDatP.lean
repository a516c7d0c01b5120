/- Texts for laws: DatP. -/
import Derived.Test.YtmnpailnelmpiaaGreatQBnd
import Derived.Test.YtmnpailnelmpiaaGreatQDat
import Derived.Test.YtmnpailnelmpiaaGreatQPu
set_option linter.unusedSimpArgs false
set_option linter.unusedVariables false
set_option maxRecDepth 100000
namespace Go.Proofs.YtmnpailnelmpiaaGreat
open Go.RowKit Go.Sort
theorem str_beq (a b : ByteArray) : (a.toList == b.toList) = decide (a = b) := by
  rw [ByteArray.toList_eq, ByteArray.toList_eq, Bool.eq_iff_iff, beq_iff_eq, decide_eq_true_iff]
  constructor
  · intro h; cases a; cases b; congr 1; exact Array.toList_inj.1 h
  · rintro rfl; rfl
def c_laws_eqFile : C := .seq (.reg [⟨some 2, none, .box 184 3 (.t 0)⟩, ⟨some 3, none, .box 184 3 (.t 1)⟩, ⟨some 4, none, .mov (.c (.bool false))⟩]) (.seq (.seq (.reg [⟨some 5, none, .fa 0 (.t 2)⟩, ⟨some 6, none, .ld false 1 (.t 5)⟩, ⟨some 7, none, .fa 0 (.t 3)⟩, ⟨some 8, none, .ld false 1 (.t 7)⟩, ⟨some 9, none, .bin .neq 9 (.t 6) (.t 8)⟩]) (.cond (.t 9) (.seq (.reg [⟨some 4, none, .mov (.c (.bool false))⟩]) .ret) .skip)) (.seq (.seq (.reg [⟨some 10, none, .fa 1 (.t 2)⟩, ⟨some 11, none, .ld false 1 (.t 10)⟩, ⟨some 12, none, .fa 1 (.t 3)⟩, ⟨some 13, none, .ld false 1 (.t 12)⟩, ⟨some 14, none, .bin .neq 9 (.t 11) (.t 13)⟩]) (.cond (.t 14) (.seq (.reg [⟨some 4, none, .mov (.c (.bool false))⟩]) .ret) .skip)) (.seq (.seq (.reg [⟨some 15, none, .fa 2 (.t 2)⟩, ⟨some 16, none, .ld false 1 (.t 15)⟩, ⟨some 17, none, .fa 2 (.t 3)⟩, ⟨some 18, none, .ld false 1 (.t 17)⟩, ⟨some 19, none, .bin .neq 3 (.t 16) (.t 18)⟩]) (.cond (.t 19) (.seq (.reg [⟨some 4, none, .mov (.c (.bool false))⟩]) .ret) .skip)) (.seq (.reg [⟨some 4, none, .mov (.c (.bool true))⟩]) .ret))))
theorem code_laws_eqFile : fnC Tryz.prog Tryz.f246 = some (c_laws_eqFile, [.t 4], 20) := by kernel_rfl
def c_laws_eqFileS : C := .seq (.reg [⟨some 4, none, .mov (.c (.bool false))⟩]) (.seq (.seq (.reg [⟨some 6, none, .mov (.t 0)⟩, ⟨some 7, none, .len false (.t 6)⟩, ⟨some 8, none, .mov (.t 1)⟩, ⟨some 9, none, .len false (.t 8)⟩, ⟨some 10, none, .bin .neq 3 (.t 7) (.t 9)⟩]) (.cond (.t 10) (.seq (.reg [⟨some 4, none, .mov (.c (.bool false))⟩]) .ret) .skip)) (.seq (.seq (.reg [⟨some 5, none, .mov (.c (.int .i64 0))⟩]) (.blk 0 (.loop (.seq (.seq (.reg [⟨some 11, none, .mov (.t 5)⟩, ⟨some 12, none, .mov (.t 0)⟩, ⟨some 13, none, .len false (.t 12)⟩, ⟨some 14, none, .bin .lss 3 (.t 11) (.t 13)⟩]) (.cond (.t 14) .skip (.exit 0))) (.seq (.blk 1 (.seq (.dreg (T.pure 0 ⟨some 17, none, .mov (.t 0)⟩ (T.pure 1 ⟨some 18, none, .mov (.t 5)⟩ (T.pure 2 ⟨some 19, none, .ia 3 (.t 17) (.t 18)⟩ (T.pure 3 ⟨some 20, none, .ld true 3 (.t 19)⟩ (T.pure 4 ⟨some 21, none, .mov (.t 1)⟩ (T.pure 5 ⟨some 22, none, .mov (.t 5)⟩ (T.pure 6 ⟨some 23, none, .ia 3 (.t 21) (.t 22)⟩ (T.pure 7 ⟨some 24, none, .ld true 3 (.t 23)⟩ (T.alt ⟨some 25, none, .call 246 [.t 20, .t 24]⟩ [] (T.pure 9 ⟨some 26, none, .un .not (.t 25)⟩ T.done) T.stop)))))))))) (.cond (.t 26) (.seq (.reg [⟨some 4, none, .mov (.c (.bool false))⟩]) .ret) .skip))) (.reg [⟨some 15, none, .mov (.t 5)⟩, ⟨some 16, none, .bin .add 3 (.t 15) (.c (.int .i64 1))⟩, ⟨some 5, none, .mov (.t 16)⟩])))))) (.seq (.reg [⟨some 4, none, .mov (.c (.bool true))⟩]) .ret)))
theorem code_laws_eqFileS : fnC Tryz.prog Tryz.f160 = some (c_laws_eqFileS, [.t 4], 27) := by kernel_rfl
def c_laws_eqDisk : C := .seq (.reg [⟨some 2, none, .box 40 1 (.t 0)⟩, ⟨some 3, none, .box 40 1 (.t 1)⟩, ⟨some 4, none, .mov (.c (.bool false))⟩]) (.seq (.seq (.reg [⟨some 5, none, .fa 0 (.t 2)⟩, ⟨some 6, none, .ld false 1 (.t 5)⟩, ⟨some 7, none, .fa 0 (.t 3)⟩, ⟨some 8, none, .ld false 1 (.t 7)⟩, ⟨some 9, none, .call 160 [.t 6, .t 8]⟩, ⟨some 10, none, .un .not (.t 9)⟩]) (.cond (.t 10) (.seq (.reg [⟨some 4, none, .mov (.c (.bool false))⟩]) .ret) .skip)) (.seq (.reg [⟨some 4, none, .mov (.c (.bool true))⟩]) .ret))
theorem code_laws_eqDisk : fnC Tryz.prog Tryz.f79 = some (c_laws_eqDisk, [.t 4], 11) := by kernel_rfl
def c_laws_eqReply : C := .seq (.reg [⟨some 2, none, .box 65 4 (.t 0)⟩, ⟨some 3, none, .box 65 4 (.t 1)⟩, ⟨some 4, none, .mov (.c (.bool false))⟩]) (.seq (.seq (.reg [⟨some 5, none, .fa 0 (.t 2)⟩, ⟨some 6, none, .ld false 1 (.t 5)⟩, ⟨some 7, none, .fa 0 (.t 3)⟩, ⟨some 8, none, .ld false 1 (.t 7)⟩, ⟨some 9, none, .bin .neq 3 (.t 6) (.t 8)⟩]) (.cond (.t 9) (.seq (.reg [⟨some 4, none, .mov (.c (.bool false))⟩]) .ret) .skip)) (.seq (.seq (.reg [⟨some 10, none, .fa 1 (.t 2)⟩, ⟨some 11, none, .ld false 1 (.t 10)⟩, ⟨some 12, none, .fa 1 (.t 3)⟩, ⟨some 13, none, .ld false 1 (.t 12)⟩, ⟨some 14, none, .bin .neq 3 (.t 11) (.t 13)⟩]) (.cond (.t 14) (.seq (.reg [⟨some 4, none, .mov (.c (.bool false))⟩]) .ret) .skip)) (.seq (.seq (.reg [⟨some 15, none, .fa 2 (.t 2)⟩, ⟨some 16, none, .ld false 1 (.t 15)⟩, ⟨some 17, none, .fa 2 (.t 3)⟩, ⟨some 18, none, .ld false 1 (.t 17)⟩, ⟨some 19, none, .bin .neq 3 (.t 16) (.t 18)⟩]) (.cond (.t 19) (.seq (.reg [⟨some 4, none, .mov (.c (.bool false))⟩]) .ret) .skip)) (.seq (.seq (.reg [⟨some 20, none, .fa 3 (.t 2)⟩, ⟨some 21, none, .ld false 1 (.t 20)⟩, ⟨some 22, none, .fa 3 (.t 3)⟩, ⟨some 23, none, .ld false 1 (.t 22)⟩, ⟨some 24, none, .bin .neq 3 (.t 21) (.t 23)⟩]) (.cond (.t 24) (.seq (.reg [⟨some 4, none, .mov (.c (.bool false))⟩]) .ret) .skip)) (.seq (.reg [⟨some 4, none, .mov (.c (.bool true))⟩]) .ret)))))
theorem code_laws_eqReply : fnC Tryz.prog Tryz.f34 = some (c_laws_eqReply, [.t 4], 25) := by kernel_rfl
def c_laws_eqWait : C := .seq (.reg [⟨some 2, none, .box 126 5 (.t 0)⟩, ⟨some 3, none, .box 126 5 (.t 1)⟩, ⟨some 4, none, .mov (.c (.bool false))⟩]) (.seq (.seq (.reg [⟨some 5, none, .fa 0 (.t 2)⟩, ⟨some 6, none, .ld false 1 (.t 5)⟩, ⟨some 7, none, .fa 0 (.t 3)⟩, ⟨some 8, none, .ld false 1 (.t 7)⟩, ⟨some 9, none, .bin .neq 3 (.t 6) (.t 8)⟩]) (.cond (.t 9) (.seq (.reg [⟨some 4, none, .mov (.c (.bool false))⟩]) .ret) .skip)) (.seq (.seq (.reg [⟨some 10, none, .fa 1 (.t 2)⟩, ⟨some 11, none, .ld true 4 (.t 10)⟩, ⟨some 12, none, .fa 1 (.t 3)⟩, ⟨some 13, none, .ld true 4 (.t 12)⟩, ⟨some 14, none, .call 34 [.t 11, .t 13]⟩, ⟨some 15, none, .un .not (.t 14)⟩]) (.cond (.t 15) (.seq (.reg [⟨some 4, none, .mov (.c (.bool false))⟩]) .ret) .skip)) (.seq (.reg [⟨some 4, none, .mov (.c (.bool true))⟩]) .ret)))
theorem code_laws_eqWait : fnC Tryz.prog Tryz.f85 = some (c_laws_eqWait, [.t 4], 16) := by kernel_rfl
def c_laws_eqWaitS : C := .seq (.reg [⟨some 4, none, .mov (.c (.bool false))⟩]) (.seq (.seq (.reg [⟨some 6, none, .mov (.t 0)⟩, ⟨some 7, none, .len false (.t 6)⟩, ⟨some 8, none, .mov (.t 1)⟩, ⟨some 9, none, .len false (.t 8)⟩, ⟨some 10, none, .bin .neq 3 (.t 7) (.t 9)⟩]) (.cond (.t 10) (.seq (.reg [⟨some 4, none, .mov (.c (.bool false))⟩]) .ret) .skip)) (.seq (.seq (.reg [⟨some 5, none, .mov (.c (.int .i64 0))⟩]) (.blk 0 (.loop (.seq (.seq (.reg [⟨some 11, none, .mov (.t 5)⟩, ⟨some 12, none, .mov (.t 0)⟩, ⟨some 13, none, .len false (.t 12)⟩, ⟨some 14, none, .bin .lss 3 (.t 11) (.t 13)⟩]) (.cond (.t 14) .skip (.exit 0))) (.seq (.blk 1 (.seq (.dreg (T.pure 0 ⟨some 17, none, .mov (.t 0)⟩ (T.pure 1 ⟨some 18, none, .mov (.t 5)⟩ (T.pure 2 ⟨some 19, none, .ia 5 (.t 17) (.t 18)⟩ (T.pure 3 ⟨some 20, none, .ld true 5 (.t 19)⟩ (T.pure 4 ⟨some 21, none, .mov (.t 1)⟩ (T.pure 5 ⟨some 22, none, .mov (.t 5)⟩ (T.pure 6 ⟨some 23, none, .ia 5 (.t 21) (.t 22)⟩ (T.pure 7 ⟨some 24, none, .ld true 5 (.t 23)⟩ (T.alt ⟨some 25, none, .call 85 [.t 20, .t 24]⟩ [] (T.pure 9 ⟨some 26, none, .un .not (.t 25)⟩ T.done) T.stop)))))))))) (.cond (.t 26) (.seq (.reg [⟨some 4, none, .mov (.c (.bool false))⟩]) .ret) .skip))) (.reg [⟨some 15, none, .mov (.t 5)⟩, ⟨some 16, none, .bin .add 3 (.t 15) (.c (.int .i64 1))⟩, ⟨some 5, none, .mov (.t 16)⟩])))))) (.seq (.reg [⟨some 4, none, .mov (.c (.bool true))⟩]) .ret)))
theorem code_laws_eqWaitS : fnC Tryz.prog Tryz.f18 = some (c_laws_eqWaitS, [.t 4], 27) := by kernel_rfl
def c_laws_eqEngine : C := .seq (.reg [⟨some 2, none, .box 43 10 (.t 0)⟩, ⟨some 3, none, .box 43 10 (.t 1)⟩, ⟨some 4, none, .mov (.c (.bool false))⟩]) (.seq (.seq (.reg [⟨some 5, none, .fa 0 (.t 2)⟩, ⟨some 6, none, .ld true 4 (.t 5)⟩, ⟨some 7, none, .fa 0 (.t 3)⟩, ⟨some 8, none, .ld true 4 (.t 7)⟩, ⟨some 9, none, .call 25 [.t 6, .t 8]⟩, ⟨some 10, none, .un .not (.t 9)⟩]) (.cond (.t 10) (.seq (.reg [⟨some 4, none, .mov (.c (.bool false))⟩]) .ret) .skip)) (.seq (.seq (.reg [⟨some 11, none, .fa 4 (.t 2)⟩, ⟨some 12, none, .ld true 1 (.t 11)⟩, ⟨some 13, none, .fa 4 (.t 3)⟩, ⟨some 14, none, .ld true 1 (.t 13)⟩, ⟨some 15, none, .call 79 [.t 12, .t 14]⟩, ⟨some 16, none, .un .not (.t 15)⟩]) (.cond (.t 16) (.seq (.reg [⟨some 4, none, .mov (.c (.bool false))⟩]) .ret) .skip)) (.seq (.seq (.reg [⟨some 17, none, .fa 5 (.t 2)⟩, ⟨some 18, none, .ld false 1 (.t 17)⟩, ⟨some 19, none, .fa 5 (.t 3)⟩, ⟨some 20, none, .ld false 1 (.t 19)⟩, ⟨some 21, none, .bin .neq 3 (.t 18) (.t 20)⟩]) (.cond (.t 21) (.seq (.reg [⟨some 4, none, .mov (.c (.bool false))⟩]) .ret) .skip)) (.seq (.seq (.reg [⟨some 22, none, .fa 6 (.t 2)⟩, ⟨some 23, none, .ld false 1 (.t 22)⟩, ⟨some 24, none, .fa 6 (.t 3)⟩, ⟨some 25, none, .ld false 1 (.t 24)⟩, ⟨some 26, none, .bin .neq 3 (.t 23) (.t 25)⟩]) (.cond (.t 26) (.seq (.reg [⟨some 4, none, .mov (.c (.bool false))⟩]) .ret) .skip)) (.seq (.seq (.reg [⟨some 27, none, .fa 7 (.t 2)⟩, ⟨some 28, none, .ld false 1 (.t 27)⟩, ⟨some 29, none, .fa 7 (.t 3)⟩, ⟨some 30, none, .ld false 1 (.t 29)⟩, ⟨some 31, none, .call 18 [.t 28, .t 30]⟩, ⟨some 32, none, .un .not (.t 31)⟩]) (.cond (.t 32) (.seq (.reg [⟨some 4, none, .mov (.c (.bool false))⟩]) .ret) .skip)) (.seq (.seq (.reg [⟨some 33, none, .fa 8 (.t 2)⟩, ⟨some 34, none, .ld false 1 (.t 33)⟩, ⟨some 35, none, .fa 8 (.t 3)⟩, ⟨some 36, none, .ld false 1 (.t 35)⟩, ⟨some 37, none, .bin .neq 3 (.t 34) (.t 36)⟩]) (.cond (.t 37) (.seq (.reg [⟨some 4, none, .mov (.c (.bool false))⟩]) .ret) .skip)) (.seq (.seq (.reg [⟨some 38, none, .fa 9 (.t 2)⟩, ⟨some 39, none, .ld false 1 (.t 38)⟩, ⟨some 40, none, .fa 9 (.t 3)⟩, ⟨some 41, none, .ld false 1 (.t 40)⟩, ⟨some 42, none, .beq true (.t 39) (.t 41)⟩]) (.cond (.t 42) (.seq (.reg [⟨some 4, none, .mov (.c (.bool false))⟩]) .ret) .skip)) (.seq (.reg [⟨some 4, none, .mov (.c (.bool true))⟩]) .ret))))))))
theorem code_laws_eqEngine : fnC Tryz.prog Tryz.f15 = some (c_laws_eqEngine, [.t 4], 43) := by kernel_rfl
def c_laws_toFile : C := .seq (.reg [⟨some 1, none, .box 264 3 (.t 0)⟩, ⟨some 2, none, .alloc 184 [.string ⟨⟨[]⟩⟩, .string ⟨⟨[]⟩⟩, .int .i64 0]⟩]) (.seq (.reg [⟨some 3, none, .alloc 184 [.string ⟨⟨[]⟩⟩, .string ⟨⟨[]⟩⟩, .int .i64 0]⟩]) (.seq (.reg [⟨some 4, none, .fa 0 (.t 1)⟩, ⟨some 5, none, .ld false 1 (.t 4)⟩, ⟨some 6, none, .fa 0 (.t 3)⟩, ⟨none, none, .st 1 [none] (.t 6) (.t 5)⟩]) (.seq (.reg [⟨some 7, none, .fa 1 (.t 1)⟩, ⟨some 8, none, .ld false 1 (.t 7)⟩, ⟨some 9, none, .fa 1 (.t 3)⟩, ⟨none, none, .st 1 [none] (.t 9) (.t 8)⟩]) (.seq (.reg [⟨some 10, none, .fa 2 (.t 1)⟩, ⟨some 11, none, .ld false 1 (.t 10)⟩, ⟨some 12, none, .fa 2 (.t 3)⟩, ⟨none, none, .st 1 [none] (.t 12) (.t 11)⟩]) (.seq (.reg [⟨some 13, none, .ld true 3 (.t 3)⟩, ⟨none, none, .st 3 [none, none, none] (.t 2) (.t 13)⟩]) .ret)))))
theorem code_laws_toFile : fnC Tryz.prog Tryz.f242 = some (c_laws_toFile, [.cell 2 true 3], 14) := by kernel_rfl
def c_laws_toFileS : C := .seq (.reg [⟨some 2, none, .mov (.c (.slice none 0 0))⟩]) (.seq (.reg [⟨some 5, none, .mov (.t 0)⟩, ⟨some 6, none, .len false (.t 5)⟩, ⟨some 7, none, .mks 184 3 40 [D.val (.string ⟨⟨[]⟩⟩), D.val (.string ⟨⟨[]⟩⟩), D.val (.int .i64 0)] (.t 6) (.t 6)⟩, ⟨some 3, none, .mov (.t 7)⟩]) (.seq (.seq (.reg [⟨some 4, none, .mov (.c (.int .i64 0))⟩]) (.blk 0 (.loop (.seq (.seq (.reg [⟨some 8, none, .mov (.t 4)⟩, ⟨some 9, none, .mov (.t 0)⟩, ⟨some 10, none, .len false (.t 9)⟩, ⟨some 11, none, .bin .lss 3 (.t 8) (.t 10)⟩]) (.cond (.t 11) .skip (.exit 0))) (.seq (.blk 1 (.reg [⟨some 14, none, .mov (.t 3)⟩, ⟨some 15, none, .mov (.t 4)⟩, ⟨some 16, none, .mov (.t 0)⟩, ⟨some 17, none, .mov (.t 4)⟩, ⟨some 18, none, .ia 3 (.t 16) (.t 17)⟩, ⟨some 19, none, .ld true 3 (.t 18)⟩, ⟨some 20, none, .call 242 [.t 19]⟩, ⟨some 21, none, .ia 3 (.t 14) (.t 15)⟩, ⟨none, none, .st 3 [none, none, none] (.t 21) (.t 20)⟩])) (.reg [⟨some 12, none, .mov (.t 4)⟩, ⟨some 13, none, .bin .add 3 (.t 12) (.c (.int .i64 1))⟩, ⟨some 4, none, .mov (.t 13)⟩])))))) (.seq (.reg [⟨some 22, none, .mov (.t 3)⟩, ⟨some 2, none, .mov (.t 22)⟩]) .ret)))
theorem code_laws_toFileS : fnC Tryz.prog Tryz.f156 = some (c_laws_toFileS, [.t 2], 23) := by kernel_rfl
def c_laws_toDisk : C := .seq (.reg [⟨some 1, none, .box 28 1 (.t 0)⟩, ⟨some 2, none, .alloc 40 [.slice none 0 0]⟩]) (.seq (.reg [⟨some 3, none, .alloc 40 [.slice none 0 0]⟩]) (.seq (.reg [⟨some 4, none, .fa 0 (.t 1)⟩, ⟨some 5, none, .ld false 1 (.t 4)⟩, ⟨some 6, none, .call 156 [.t 5]⟩, ⟨some 7, none, .fa 0 (.t 3)⟩, ⟨none, none, .st 1 [some (3, 184)] (.t 7) (.t 6)⟩]) (.seq (.reg [⟨some 8, none, .ld true 1 (.t 3)⟩, ⟨none, none, .st 1 [some (3, 184)] (.t 2) (.t 8)⟩]) .ret)))
theorem code_laws_toDisk : fnC Tryz.prog Tryz.f75 = some (c_laws_toDisk, [.cell 2 true 1], 9) := by kernel_rfl
def c_laws_toReply : C := .seq (.reg [⟨some 1, none, .box 188 4 (.t 0)⟩, ⟨some 2, none, .alloc 65 [.int .i64 0, .int .i64 0, .int .i64 0, .int .i64 0]⟩]) (.seq (.reg [⟨some 3, none, .alloc 65 [.int .i64 0, .int .i64 0, .int .i64 0, .int .i64 0]⟩]) (.seq (.reg [⟨some 4, none, .fa 0 (.t 1)⟩, ⟨some 5, none, .ld false 1 (.t 4)⟩, ⟨some 6, none, .fa 0 (.t 3)⟩, ⟨none, none, .st 1 [none] (.t 6) (.t 5)⟩]) (.seq (.reg [⟨some 7, none, .fa 1 (.t 1)⟩, ⟨some 8, none, .ld false 1 (.t 7)⟩, ⟨some 9, none, .fa 1 (.t 3)⟩, ⟨none, none, .st 1 [none] (.t 9) (.t 8)⟩]) (.seq (.reg [⟨some 10, none, .fa 2 (.t 1)⟩, ⟨some 11, none, .ld false 1 (.t 10)⟩, ⟨some 12, none, .fa 2 (.t 3)⟩, ⟨none, none, .st 1 [none] (.t 12) (.t 11)⟩]) (.seq (.reg [⟨some 13, none, .fa 3 (.t 1)⟩, ⟨some 14, none, .ld false 1 (.t 13)⟩, ⟨some 15, none, .fa 3 (.t 3)⟩, ⟨none, none, .st 1 [none] (.t 15) (.t 14)⟩]) (.seq (.reg [⟨some 16, none, .ld true 4 (.t 3)⟩, ⟨none, none, .st 4 [none, none, none, none] (.t 2) (.t 16)⟩]) .ret))))))
theorem code_laws_toReply : fnC Tryz.prog Tryz.f243 = some (c_laws_toReply, [.cell 2 true 4], 17) := by kernel_rfl
def c_laws_toWait : C := .seq (.reg [⟨some 1, none, .box 190 5 (.t 0)⟩, ⟨some 2, none, .alloc 126 [.int .i64 0, .int .i64 0, .int .i64 0, .int .i64 0, .int .i64 0]⟩]) (.seq (.reg [⟨some 3, none, .alloc 126 [.int .i64 0, .int .i64 0, .int .i64 0, .int .i64 0, .int .i64 0]⟩]) (.seq (.reg [⟨some 4, none, .fa 0 (.t 1)⟩, ⟨some 5, none, .ld false 1 (.t 4)⟩, ⟨some 6, none, .fa 0 (.t 3)⟩, ⟨none, none, .st 1 [none] (.t 6) (.t 5)⟩]) (.seq (.reg [⟨some 7, none, .fa 1 (.t 1)⟩, ⟨some 8, none, .ld true 4 (.t 7)⟩, ⟨some 9, none, .call 243 [.t 8]⟩, ⟨some 10, none, .fa 1 (.t 3)⟩, ⟨none, none, .st 4 [none, none, none, none] (.t 10) (.t 9)⟩]) (.seq (.reg [⟨some 11, none, .ld true 5 (.t 3)⟩, ⟨none, none, .st 5 [none, none, none, none, none] (.t 2) (.t 11)⟩]) .ret))))
theorem code_laws_toWait : fnC Tryz.prog Tryz.f157 = some (c_laws_toWait, [.cell 2 true 5], 12) := by kernel_rfl
def c_laws_toWaitS : C := .seq (.reg [⟨some 2, none, .mov (.c (.slice none 0 0))⟩]) (.seq (.reg [⟨some 5, none, .mov (.t 0)⟩, ⟨some 6, none, .len false (.t 5)⟩, ⟨some 7, none, .mks 126 5 40 [D.val (.int .i64 0), D.val (.int .i64 0), D.val (.int .i64 0), D.val (.int .i64 0), D.val (.int .i64 0)] (.t 6) (.t 6)⟩, ⟨some 3, none, .mov (.t 7)⟩]) (.seq (.seq (.reg [⟨some 4, none, .mov (.c (.int .i64 0))⟩]) (.blk 0 (.loop (.seq (.seq (.reg [⟨some 8, none, .mov (.t 4)⟩, ⟨some 9, none, .mov (.t 0)⟩, ⟨some 10, none, .len false (.t 9)⟩, ⟨some 11, none, .bin .lss 3 (.t 8) (.t 10)⟩]) (.cond (.t 11) .skip (.exit 0))) (.seq (.blk 1 (.reg [⟨some 14, none, .mov (.t 3)⟩, ⟨some 15, none, .mov (.t 4)⟩, ⟨some 16, none, .mov (.t 0)⟩, ⟨some 17, none, .mov (.t 4)⟩, ⟨some 18, none, .ia 5 (.t 16) (.t 17)⟩, ⟨some 19, none, .ld true 5 (.t 18)⟩, ⟨some 20, none, .call 157 [.t 19]⟩, ⟨some 21, none, .ia 5 (.t 14) (.t 15)⟩, ⟨none, none, .st 5 [none, none, none, none, none] (.t 21) (.t 20)⟩])) (.reg [⟨some 12, none, .mov (.t 4)⟩, ⟨some 13, none, .bin .add 3 (.t 12) (.c (.int .i64 1))⟩, ⟨some 4, none, .mov (.t 13)⟩])))))) (.seq (.reg [⟨some 22, none, .mov (.t 3)⟩, ⟨some 2, none, .mov (.t 22)⟩]) .ret)))
theorem code_laws_toWaitS : fnC Tryz.prog Tryz.f76 = some (c_laws_toWaitS, [.t 2], 23) := by kernel_rfl
def c_laws_toEngine : C := .seq (.reg [⟨some 1, none, .box 31 10 (.t 0)⟩, ⟨some 2, none, .alloc 43 [.int .i64 0, .int .i64 0, .slice none 0 0, .slice none 0 0, .slice none 0 0, .int .i64 0, .int .i64 0, .slice none 0 0, .int .i64 0, .bool false]⟩]) (.seq (.reg [⟨some 3, none, .alloc 43 [.int .i64 0, .int .i64 0, .slice none 0 0, .slice none 0 0, .slice none 0 0, .int .i64 0, .int .i64 0, .slice none 0 0, .int .i64 0, .bool false]⟩]) (.seq (.reg [⟨some 4, none, .fa 0 (.t 1)⟩, ⟨some 5, none, .ld true 4 (.t 4)⟩, ⟨some 6, none, .call 31 [.t 5]⟩, ⟨some 7, none, .fa 0 (.t 3)⟩, ⟨none, none, .st 4 [none, none, some (1, 102), some (8, 108)] (.t 7) (.t 6)⟩]) (.seq (.reg [⟨some 8, none, .fa 4 (.t 1)⟩, ⟨some 9, none, .ld true 1 (.t 8)⟩, ⟨some 10, none, .call 75 [.t 9]⟩, ⟨some 11, none, .fa 4 (.t 3)⟩, ⟨none, none, .st 1 [some (3, 184)] (.t 11) (.t 10)⟩]) (.seq (.reg [⟨some 12, none, .fa 5 (.t 1)⟩, ⟨some 13, none, .ld false 1 (.t 12)⟩, ⟨some 14, none, .fa 5 (.t 3)⟩, ⟨none, none, .st 1 [none] (.t 14) (.t 13)⟩]) (.seq (.reg [⟨some 15, none, .fa 6 (.t 1)⟩, ⟨some 16, none, .ld false 1 (.t 15)⟩, ⟨some 17, none, .fa 6 (.t 3)⟩, ⟨none, none, .st 1 [none] (.t 17) (.t 16)⟩]) (.seq (.reg [⟨some 18, none, .fa 7 (.t 1)⟩, ⟨some 19, none, .ld false 1 (.t 18)⟩, ⟨some 20, none, .call 76 [.t 19]⟩, ⟨some 21, none, .fa 7 (.t 3)⟩, ⟨none, none, .st 1 [some (5, 126)] (.t 21) (.t 20)⟩]) (.seq (.reg [⟨some 22, none, .fa 8 (.t 1)⟩, ⟨some 23, none, .ld false 1 (.t 22)⟩, ⟨some 24, none, .fa 8 (.t 3)⟩, ⟨none, none, .st 1 [none] (.t 24) (.t 23)⟩]) (.seq (.reg [⟨some 25, none, .fa 9 (.t 1)⟩, ⟨some 26, none, .ld false 1 (.t 25)⟩, ⟨some 27, none, .fa 9 (.t 3)⟩, ⟨none, none, .st 1 [none] (.t 27) (.t 26)⟩]) (.seq (.reg [⟨some 28, none, .ld true 10 (.t 3)⟩, ⟨none, none, .st 10 [none, none, some (1, 102), some (8, 108), some (3, 184), none, none, some (5, 126), none, none] (.t 2) (.t 28)⟩]) .ret)))))))))
theorem code_laws_toEngine : fnC Tryz.prog Tryz.f13 = some (c_laws_toEngine, [.cell 2 true 10], 29) := by kernel_rfl
theorem p_eqFile (x y : Fl) : Pure Tryz.prog 246 [.agg (encFl x), .agg (encFl y)] (.c (.val (.bool (decide (x = y))))) := by
  refine pure_fn Tryz.func246 code_laws_eqFile (by simp) ?_
  unfold c_laws_eqFile
  obtain ⟨a, b, c⟩ := x
  obtain ⟨d, e, f⟩ := y
  have h : decide (Fl.mk a b c = Fl.mk d e f) = (decide (a = d) && decide (b = e) && (c == f)) := by
    rw [Bool.eq_iff_iff]; simp [and_assoc]
  rw [h]
  simp -implicitDefEqProofs only [go_sem, encFl]
  intro b1 b2
  cases h1 : decide (a = d)
  · simp -implicitDefEqProofs only [go_sem, str_beq, Bool.not_true, Bool.not_false, h1]
  cases h2 : decide (b = e)
  · simp -implicitDefEqProofs only [go_sem, str_beq, Bool.not_true, Bool.not_false, h1, h2]
  by_cases h3 : c = f
  · subst h3
    simp -implicitDefEqProofs only [go_sem, str_beq, Bool.not_true, Bool.not_false, h1, h2, bne_self_eq_false, beq_self_eq_true]
  · have h3' : (c != f) = true := by simp [h3]
    have h3'' : (c == f) = false := by simp [h3]
    simp -implicitDefEqProofs only [go_sem, str_beq, Bool.not_true, Bool.not_false, h1, h2, h3', h3'']
theorem p_eqFileS (x y : List Fl) (hx : x.length ≤ 4000000) : Pure Tryz.prog 160 [.c (encFls x), .c (encFls y)] (.c (.val (.bool (decide (x = y))))) := by
  refine pure_fn Tryz.func160 code_laws_eqFileS (by simp) ?_
  unfold c_laws_eqFileS
  by_cases hl : x.length = y.length
  · have hb : ((x.length : Int) != (y.length : Int)) = false := by simp [hl]
    simp -implicitDefEqProofs only [go_sem, hb]
    refine wp_loopW (fun i : Nat => St.of [(0, Ro (encFls x)), (1, Ro (encFls y)), (5, Ni i)] []) (fun i => i ≤ x.length ∧ x.take i = y.take i) (fun i => x.length - i) 0 (⟨Nat.zero_le _, rfl⟩) (wk_of [] (by simp -implicitDefEqProofs only [go_sem] <;> and_intros <;> first | rfl | assumption)) ?_
    rintro k ⟨hk, ht⟩
    by_cases hlt : k < x.length
    · have hlt' : (k : Int) < x.length := by omega
      have hly : k < y.length := by omega
      have hlty : (k : Int) < y.length := by omega
      have h0k : (k : Int) ≥ 0 := by omega
      obtain ⟨a, ha⟩ := get_some hlt
      obtain ⟨b, hb⟩ := get_some hly
      have hw : IntKind.i64.wrap ((k : Int) + 1) = ((k + 1 : Nat) : Int) := wrap64 (by omega) (by omega)
      simp -implicitDefEqProofs only [go_sem, hlt, hlt', hly, hlty, h0k, elem_encFls ha, elem_encFls hb, encFl]
      refine run_call (p_eqFile a b) (by simp -implicitDefEqProofs only [go_sem, encFl]) fun η => ?_
      simp -implicitDefEqProofs only [go_sem, encFl]
      by_cases hab : a = b
      · have hd : decide (a = b) = true := decide_eq_true hab
        simp -implicitDefEqProofs only [go_sem, hd, hw]
        exact ⟨k + 1, ⟨hlt, by rw [List.take_add_one, List.take_add_one, ha, hb, ht, hab]⟩, (wk_of [] (by simp -implicitDefEqProofs only [go_sem] <;> and_intros <;> first | rfl | assumption)), by (try dsimp only); omega⟩
      · have hd : decide (a = b) = false := decide_eq_false hab
        have hxy : decide (x = y) = false := decide_eq_false (by rintro rfl; rw [ha] at hb; exact hab (Option.some.inj hb))
        simp -implicitDefEqProofs only [go_sem, hd, hxy]
    · have hlt' : ¬ (k : Int) < x.length := by omega
      have hxy : decide (x = y) = true := decide_eq_true (by rw [List.take_of_length_le (by omega), List.take_of_length_le (by omega)] at ht; exact ht)
      simp -implicitDefEqProofs only [go_sem, hlt', hxy]
  · have hb : ((x.length : Int) != (y.length : Int)) = true := by simp; omega
    have hxy : decide (x = y) = false := decide_eq_false (by rintro rfl; exact hl rfl)
    simp -implicitDefEqProofs only [go_sem, hb, hxy]
theorem p_eqDisk (x y : List Fl) (hx : x.length ≤ 4000000) : Pure Tryz.prog 79 [.agg [encFls x], .agg [encFls y]] (.c (.val (.bool (decide (x = y))))) := by
  refine pure_fn Tryz.func79 code_laws_eqDisk (by simp) ?_
  unfold c_laws_eqDisk
  simp -implicitDefEqProofs only [go_sem]
  intro b1 b2
  refine run_call (p_eqFileS x y hx) (by simp -implicitDefEqProofs only [go_sem]) fun η => ?_
  simp -implicitDefEqProofs only [go_sem]
  cases h : decide (x = y)
  · simp -implicitDefEqProofs only [go_sem, h, Bool.not_true, Bool.not_false]
  · simp -implicitDefEqProofs only [go_sem, h, Bool.not_true, Bool.not_false]
theorem p_eqReply (a b c d e f g h : Int) : Pure Tryz.prog 34 [.agg [iv a, iv b, iv c, iv d], .agg [iv e, iv f, iv g, iv h]] (.c (.val (.bool (a == e && b == f && c == g && d == h)))) := by
  refine pure_fn Tryz.func34 code_laws_eqReply (by simp) ?_
  unfold c_laws_eqReply
  simp -implicitDefEqProofs only [go_sem]
  intro b1 b2
  cases h1 : a == e
  · simp -implicitDefEqProofs only [go_sem, bne, h1, Bool.not_true, Bool.not_false, Bool.false_and]
  cases h2 : b == f
  · simp -implicitDefEqProofs only [go_sem, bne, h1, h2, Bool.not_true, Bool.not_false, Bool.false_and, Bool.true_and]
  cases h3 : c == g
  · simp -implicitDefEqProofs only [go_sem, bne, h1, h2, h3, Bool.not_true, Bool.not_false, Bool.false_and, Bool.true_and]
  cases h4 : d == h
  · simp -implicitDefEqProofs only [go_sem, bne, h1, h2, h3, h4, Bool.not_true, Bool.not_false, Bool.false_and, Bool.true_and]
  · simp -implicitDefEqProofs only [go_sem, bne, h1, h2, h3, h4, Bool.not_true, Bool.not_false, Bool.false_and, Bool.true_and]
theorem p_eqWait (x y : Wt) : Pure Tryz.prog 85 [.agg (encWt x), .agg (encWt y)] (.c (.val (.bool (decide (x = y))))) := by
  refine pure_fn Tryz.func85 code_laws_eqWait (by simp) ?_
  unfold c_laws_eqWait
  obtain ⟨a, b, c, d, e⟩ := x
  obtain ⟨a', b', c', d', e'⟩ := y
  have h : decide (Wt.mk a b c d e = Wt.mk a' b' c' d' e') = (a == a' && (b == b' && c == c' && d == d' && e == e')) := by
    rw [Bool.eq_iff_iff]; simp [and_assoc]
  rw [h]
  simp -implicitDefEqProofs only [go_sem, encWt]
  intro b1 b2
  cases h1 : a == a'
  · simp -implicitDefEqProofs only [go_sem, bne, h1, Bool.not_true, Bool.not_false, Bool.false_and]
  simp -implicitDefEqProofs only [go_sem, bne, h1, Bool.not_true, Bool.not_false, Bool.false_and, Bool.true_and]
  refine run_call (p_eqReply b c d e b' c' d' e') (by simp -implicitDefEqProofs only [go_sem]) fun η => ?_
  simp -implicitDefEqProofs only [go_sem]
  cases h2 : (b == b' && c == c' && d == d' && e == e')
  · simp -implicitDefEqProofs only [go_sem, Bool.not_true, Bool.not_false]
  · simp -implicitDefEqProofs only [go_sem, Bool.not_true, Bool.not_false]
theorem p_eqWaitS (x y : List Wt) (hx : x.length ≤ 4000000) : Pure Tryz.prog 18 [.c (encWts x), .c (encWts y)] (.c (.val (.bool (decide (x = y))))) := by
  refine pure_fn Tryz.func18 code_laws_eqWaitS (by simp) ?_
  unfold c_laws_eqWaitS
  by_cases hl : x.length = y.length
  · have hb : ((x.length : Int) != (y.length : Int)) = false := by simp [hl]
    simp -implicitDefEqProofs only [go_sem, hb]
    refine wp_loopW (fun i : Nat => St.of [(0, Ro (encWts x)), (1, Ro (encWts y)), (5, Ni i)] []) (fun i => i ≤ x.length ∧ x.take i = y.take i) (fun i => x.length - i) 0 (⟨Nat.zero_le _, rfl⟩) (wk_of [] (by simp -implicitDefEqProofs only [go_sem] <;> and_intros <;> first | rfl | assumption)) ?_
    rintro k ⟨hk, ht⟩
    by_cases hlt : k < x.length
    · have hlt' : (k : Int) < x.length := by omega
      have hly : k < y.length := by omega
      have hlty : (k : Int) < y.length := by omega
      have h0k : (k : Int) ≥ 0 := by omega
      obtain ⟨a, ha⟩ := get_some hlt
      obtain ⟨b, hb⟩ := get_some hly
      have hw : IntKind.i64.wrap ((k : Int) + 1) = ((k + 1 : Nat) : Int) := wrap64 (by omega) (by omega)
      simp -implicitDefEqProofs only [go_sem, hlt, hlt', hly, hlty, h0k, elem_encWts ha, elem_encWts hb, encWt]
      refine run_call (p_eqWait a b) (by simp -implicitDefEqProofs only [go_sem, encWt]) fun η => ?_
      simp -implicitDefEqProofs only [go_sem, encWt]
      by_cases hab : a = b
      · have hd : decide (a = b) = true := decide_eq_true hab
        simp -implicitDefEqProofs only [go_sem, hd, hw]
        exact ⟨k + 1, ⟨hlt, by rw [List.take_add_one, List.take_add_one, ha, hb, ht, hab]⟩, (wk_of [] (by simp -implicitDefEqProofs only [go_sem] <;> and_intros <;> first | rfl | assumption)), by (try dsimp only); omega⟩
      · have hd : decide (a = b) = false := decide_eq_false hab
        have hxy : decide (x = y) = false := decide_eq_false (by rintro rfl; rw [ha] at hb; exact hab (Option.some.inj hb))
        simp -implicitDefEqProofs only [go_sem, hd, hxy]
    · have hlt' : ¬ (k : Int) < x.length := by omega
      have hxy : decide (x = y) = true := decide_eq_true (by rw [List.take_of_length_le (by omega), List.take_of_length_le (by omega)] at ht; exact ht)
      simp -implicitDefEqProofs only [go_sem, hlt', hxy]
  · have hb : ((x.length : Int) != (y.length : Int)) = true := by simp; omega
    have hxy : decide (x = y) = false := decide_eq_false (by rintro rfl; exact hl rfl)
    simp -implicitDefEqProofs only [go_sem, hb, hxy]
theorem p_eqEngine1 (x : Eg) (hd : x.disk.length ≤ 4000000) (hw : x.waits.length ≤ 4000000) : Pure Tryz.prog 15 [.agg (encEg x), .agg (encEg x)] (.c (.val (.bool true))) := by
  refine pure_fn Tryz.func15 code_laws_eqEngine (by simp) ?_
  unfold c_laws_eqEngine
  obtain ⟨y, d, n, c, w, s, b⟩ := x
  dsimp only at hd hw
  simp -implicitDefEqProofs only [go_sem, encEg, bne_self_eq_false, beq_self_eq_true]
  intro b1 b2
  refine run_call (p_eqYard y y) (by simp -implicitDefEqProofs only [go_sem, encYd, bne_self_eq_false, beq_self_eq_true]) fun η => ?_
  simp -implicitDefEqProofs only [go_sem, encYd, bne_self_eq_false, beq_self_eq_true]
  refine run_call (p_eqDisk d d hd) (by simp -implicitDefEqProofs only [go_sem, bne_self_eq_false, beq_self_eq_true]) fun η => ?_
  simp -implicitDefEqProofs only [go_sem, bne_self_eq_false, beq_self_eq_true]
  refine run_call (p_eqWaitS w w hw) (by simp -implicitDefEqProofs only [go_sem, bne_self_eq_false, beq_self_eq_true]) fun η => ?_
  simp -implicitDefEqProofs only [go_sem, bne_self_eq_false, beq_self_eq_true]
theorem p_toFile (x : Fl) : Pure Tryz.prog 242 [.agg (encFl x)] (.agg (encFl x)) := by
  refine pure_fn Tryz.func242 code_laws_toFile (by simp) ?_
  unfold c_laws_toFile
  simp -implicitDefEqProofs only [go_sem, encFl]
theorem p_toFileS (x : List Fl) (hx : x.length ≤ 4000000) : Pure Tryz.prog 156 [.c (encFls x)] (.c (encFls x)) := by
  refine pure_fn Tryz.func156 code_laws_toFileS (by simp) ?_
  unfold c_laws_toFileS
  simp -implicitDefEqProofs only [go_sem]
  rw [run_mks]
  refine ⟨.i64, .i64, x.length, by simp -implicitDefEqProofs only [go_sem], by simp -implicitDefEqProofs only [go_sem], by omega, by unfold maxLen; omega, fun η => ?_⟩
  simp -implicitDefEqProofs only [go_sem, mk_fls, ← half_zero]
  refine wp_loopW (fun i : Nat × Heads => St.of [(0, Ro (encFls x)), (3, Hd 700 i.2), (4, Ni i.1)] [(700, .loose (encFls (half x ⟨⟨#[]⟩, ⟨#[]⟩, 0⟩ i.1)) i.2)]) (fun i => i.1 ≤ x.length) (fun i => x.length - i.1) (0, η) (by (try dsimp only); first | omega | (simp; done) | (and_intros <;> first | omega | simp)) (wk_of [some 700] (by simp -implicitDefEqProofs only [go_sem] <;> and_intros <;> first | rfl | assumption)) ?_
  rintro ⟨k, η1⟩ hk
  dsimp only at hk
  by_cases hlt : k < x.length
  · have hlt' : (k : Int) < x.length := by omega
    have h0k : (k : Int) ≥ 0 := by omega
    obtain ⟨a, ha⟩ := get_some hlt
    have hw : IntKind.i64.wrap ((k : Int) + 1) = ((k + 1 : Nat) : Int) := wrap64 (by omega) (by omega)
    have hnx := half_set (z := ⟨⟨#[]⟩, ⟨#[]⟩, 0⟩) ha
    have hln := half_len x ⟨⟨#[]⟩, ⟨#[]⟩, 0⟩ k hk
    have hlk : k < (half x ⟨⟨#[]⟩, ⟨#[]⟩, 0⟩ k).length := by omega
    simp -implicitDefEqProofs only [go_sem, hlt, hlt', h0k, elem_encFls ha, encFl]
    refine run_call (p_toFile a) (by simp -implicitDefEqProofs only [go_sem, encFl]) fun η => ?_
    simp -implicitDefEqProofs only [go_sem, encFl]
    simp -implicitDefEqProofs only [go_sem, hln, hlt, hlt', in_encFls hlk, put_fl3 _ _ _ hlk, hnx, hw, stH_t]
    exact ⟨(k + 1, η1), by (try dsimp only); first | omega | assumption | (and_intros <;> first | omega | assumption), (wk_of [some 700] (by simp -implicitDefEqProofs only [go_sem] <;> and_intros <;> first | rfl | assumption)), by (try dsimp only); omega⟩
  · have hlt' : ¬ (k : Int) < x.length := by omega
    obtain rfl : k = x.length := by omega
    rw [half_all]
    simp -implicitDefEqProofs only [go_sem, hlt']
theorem p_toDisk (x : List Fl) (hx : x.length ≤ 4000000) : Pure Tryz.prog 75 [.agg [encFls x]] (.agg [encFls x]) := by
  refine pure_fn Tryz.func75 code_laws_toDisk (by simp) ?_
  unfold c_laws_toDisk
  simp -implicitDefEqProofs only [go_sem]
  intros
  refine run_call (p_toFileS x hx) (by simp -implicitDefEqProofs only [go_sem]) fun η => ?_
  simp -implicitDefEqProofs only [go_sem]
theorem p_toReply (a b c d : Int) : Pure Tryz.prog 243 [.agg [iv a, iv b, iv c, iv d]] (.agg [iv a, iv b, iv c, iv d]) := by
  refine pure_fn Tryz.func243 code_laws_toReply (by simp) ?_
  unfold c_laws_toReply
  simp -implicitDefEqProofs only [go_sem]
theorem p_toWait (x : Wt) : Pure Tryz.prog 157 [.agg (encWt x)] (.agg (encWt x)) := by
  refine pure_fn Tryz.func157 code_laws_toWait (by simp) ?_
  unfold c_laws_toWait
  simp -implicitDefEqProofs only [go_sem, encWt]
  intros
  refine run_call (p_toReply x.code x.run x.task x.tri) (by simp -implicitDefEqProofs only [go_sem]) fun η => ?_
  simp -implicitDefEqProofs only [go_sem]
theorem p_toWaitS (x : List Wt) (hx : x.length ≤ 4000000) : Pure Tryz.prog 76 [.c (encWts x)] (.c (encWts x)) := by
  refine pure_fn Tryz.func76 code_laws_toWaitS (by simp) ?_
  unfold c_laws_toWaitS
  simp -implicitDefEqProofs only [go_sem]
  rw [run_mks]
  refine ⟨.i64, .i64, x.length, by simp -implicitDefEqProofs only [go_sem], by simp -implicitDefEqProofs only [go_sem], by omega, by unfold maxLen; omega, fun η => ?_⟩
  simp -implicitDefEqProofs only [go_sem, mk_wts, ← half_zero]
  refine wp_loopW (fun i : Nat × Heads => St.of [(0, Ro (encWts x)), (3, Hd 700 i.2), (4, Ni i.1)] [(700, .loose (encWts (half x ⟨0, 0, 0, 0, 0⟩ i.1)) i.2)]) (fun i => i.1 ≤ x.length) (fun i => x.length - i.1) (0, η) (by (try dsimp only); first | omega | (simp; done) | (and_intros <;> first | omega | simp)) (wk_of [some 700] (by simp -implicitDefEqProofs only [go_sem] <;> and_intros <;> first | rfl | assumption)) ?_
  rintro ⟨k, η1⟩ hk
  dsimp only at hk
  by_cases hlt : k < x.length
  · have hlt' : (k : Int) < x.length := by omega
    have h0k : (k : Int) ≥ 0 := by omega
    obtain ⟨a, ha⟩ := get_some hlt
    have hw : IntKind.i64.wrap ((k : Int) + 1) = ((k + 1 : Nat) : Int) := wrap64 (by omega) (by omega)
    have hnx := half_set (z := ⟨0, 0, 0, 0, 0⟩) ha
    have hln := half_len x ⟨0, 0, 0, 0, 0⟩ k hk
    have hlk : k < (half x ⟨0, 0, 0, 0, 0⟩ k).length := by omega
    simp -implicitDefEqProofs only [go_sem, hlt, hlt', h0k, elem_encWts ha, encWt]
    refine run_call (p_toWait a) (by simp -implicitDefEqProofs only [go_sem, encWt]) fun η => ?_
    simp -implicitDefEqProofs only [go_sem, encWt]
    simp -implicitDefEqProofs only [go_sem, hln, hlt, hlt', in_encWts hlk, put_wt5 _ _ _ _ _ hlk, hnx, hw, stH_t]
    exact ⟨(k + 1, η1), by (try dsimp only); first | omega | assumption | (and_intros <;> first | omega | assumption), (wk_of [some 700] (by simp -implicitDefEqProofs only [go_sem] <;> and_intros <;> first | rfl | assumption)), by (try dsimp only); omega⟩
  · have hlt' : ¬ (k : Int) < x.length := by omega
    obtain rfl : k = x.length := by omega
    rw [half_all]
    simp -implicitDefEqProofs only [go_sem, hlt']
theorem p_toEngine (x : Eg) (hy : totYd x.yard ≤ 2000000) (hd : x.disk.length ≤ 4000000) (hw : x.waits.length ≤ 4000000) : Pure Tryz.prog 13 [.agg (encEg x)] (.agg (encEg x)) := by
  refine pure_fn Tryz.func13 code_laws_toEngine (by simp) ?_
  unfold c_laws_toEngine
  simp -implicitDefEqProofs only [go_sem, encEg]
  intros
  refine run_call (p_toYard x.yard hy) (by simp -implicitDefEqProofs only [go_sem, encYd]) fun ηa => ?_
  simp -implicitDefEqProofs only [go_sem, encYd]
  intros
  refine run_call (p_toDisk x.disk hd) (by simp -implicitDefEqProofs only [go_sem, encYd]) fun ηb => ?_
  simp -implicitDefEqProofs only [go_sem, encYd]
  refine run_call (p_toWaitS x.waits hw) (by simp -implicitDefEqProofs only [go_sem, encYd]) fun ηc => ?_
  simp -implicitDefEqProofs only [go_sem, encYd]
end Go.Proofs.YtmnpailnelmpiaaGreat
