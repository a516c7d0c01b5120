/- Texts for laws: EngN. -/
import Derived.Test.YtnhdcbhcocgjhaaQBnd
import Derived.Test.YtnhdcbhcocgjhaaQLYardNew
import Derived.Test.YtnhdcbhcocgjhaaQPu
import Derived.Test.YtnhdcbhcocgjhaaQSub
set_option linter.unusedSimpArgs false
set_option linter.unusedVariables false
set_option maxRecDepth 100000
namespace Go.Proofs.Ytnhdcbhcocgjhaa
open Go.RowKit Go.Sort
abbrev tFl : TypeId := 147
abbrev tEg : TypeId := 31
abbrev tWt : TypeId := 110
/-- A new engine with this yard. -/
abbrev encEg0 (y : Yd) : List D := [iv y.now, iv y.seq, encSh y.shelf, encRns y.runs, (.sl 3 tFl []), iv 1, iv 0, (.sl 5 tWt []), iv 1, .val (.bool false)]
def c_spec_EngineNew : C := .seq (.reg [⟨some 0, none, .alloc 31 [.int .i64 0, .int .i64 0, .slice none 0 0, .slice none 0 0, .slice none 0 0, .int .i64 0, .int .i64 0, .slice none 0 0, .int .i64 0, .bool false]⟩]) (.seq (.reg [⟨some 1, none, .call 26 []⟩, ⟨some 2, none, .bld [.int .i64 0, .int .i64 0, .slice none 0 0, .slice none 0 0, .slice none 0 0, .int .i64 0, .int .i64 0, .slice none 0 0, .int .i64 0, .bool false] [(0, 4, .t 1), (5, 1, .c (.int .i64 1)), (8, 1, .c (.int .i64 1))]⟩, ⟨none, none, .st 10 [none, none, some (1, 102), some (8, 144), some (3, 147), none, none, some (5, 110), none, none] (.t 0) (.t 2)⟩]) .ret)
theorem code_spec_EngineNew : fnC Try.prog Try.f7 = some (c_spec_EngineNew, [.cell 0 true 10], 3) := by kernel_rfl
def c_impl_EngineNew : C := .seq (.reg [⟨some 0, none, .alloc 31 [.int .i64 0, .int .i64 0, .slice none 0 0, .slice none 0 0, .slice none 0 0, .int .i64 0, .int .i64 0, .slice none 0 0, .int .i64 0, .bool false]⟩]) (.seq (.reg [⟨some 1, none, .call 27 []⟩, ⟨some 2, none, .bld [.int .i64 0, .int .i64 0, .slice none 0 0, .slice none 0 0, .slice none 0 0, .int .i64 0, .int .i64 0, .slice none 0 0, .int .i64 0, .bool false] [(0, 4, .t 1), (5, 1, .c (.int .i64 1)), (8, 1, .c (.int .i64 1))]⟩, ⟨none, none, .st 10 [none, none, some (1, 102), some (8, 144), some (3, 147), none, none, some (5, 110), none, none] (.t 0) (.t 2)⟩]) .ret)
theorem code_impl_EngineNew : fnC Try.prog Try.f8 = some (c_impl_EngineNew, [.cell 0 true 10], 3) := by kernel_rfl
def c_laws_eqFileS : C := .seq (.reg [⟨some 4, none, .mov (.c (.bool false))⟩]) (.seq (.seq (.reg [⟨some 6, none, .mov (.t 0)⟩, ⟨some 7, none, .len false (.t 6)⟩, ⟨some 8, none, .mov (.t 1)⟩, ⟨some 9, none, .len false (.t 8)⟩, ⟨some 10, none, .bin .neq 3 (.t 7) (.t 9)⟩]) (.cond (.t 10) (.seq (.reg [⟨some 4, none, .mov (.c (.bool false))⟩]) .ret) .skip)) (.seq (.seq (.reg [⟨some 5, none, .mov (.c (.int .i64 0))⟩]) (.blk 0 (.loop (.seq (.seq (.reg [⟨some 11, none, .mov (.t 5)⟩, ⟨some 12, none, .mov (.t 0)⟩, ⟨some 13, none, .len false (.t 12)⟩, ⟨some 14, none, .bin .lss 3 (.t 11) (.t 13)⟩]) (.cond (.t 14) .skip (.exit 0))) (.seq (.blk 1 (.seq (.dreg (T.pure 0 ⟨some 17, none, .mov (.t 0)⟩ (T.pure 1 ⟨some 18, none, .mov (.t 5)⟩ (T.pure 2 ⟨some 19, none, .ia 3 (.t 17) (.t 18)⟩ (T.pure 3 ⟨some 20, none, .ld true 3 (.t 19)⟩ (T.pure 4 ⟨some 21, none, .mov (.t 1)⟩ (T.pure 5 ⟨some 22, none, .mov (.t 5)⟩ (T.pure 6 ⟨some 23, none, .ia 3 (.t 21) (.t 22)⟩ (T.pure 7 ⟨some 24, none, .ld true 3 (.t 23)⟩ (T.alt ⟨some 25, none, .call 104 [.t 20, .t 24]⟩ [] (T.pure 9 ⟨some 26, none, .un .not (.t 25)⟩ T.done) T.stop)))))))))) (.cond (.t 26) (.seq (.reg [⟨some 4, none, .mov (.c (.bool false))⟩]) .ret) .skip))) (.reg [⟨some 15, none, .mov (.t 5)⟩, ⟨some 16, none, .bin .add 3 (.t 15) (.c (.int .i64 1))⟩, ⟨some 5, none, .mov (.t 16)⟩])))))) (.seq (.reg [⟨some 4, none, .mov (.c (.bool true))⟩]) .ret)))
theorem code_laws_eqFileS : fnC Try.prog Try.f63 = some (c_laws_eqFileS, [.t 4], 27) := by kernel_rfl
def c_laws_eqDisk : C := .seq (.reg [⟨some 2, none, .box 28 1 (.t 0)⟩, ⟨some 3, none, .box 28 1 (.t 1)⟩, ⟨some 4, none, .mov (.c (.bool false))⟩]) (.seq (.seq (.reg [⟨some 5, none, .fa 0 (.t 2)⟩, ⟨some 6, none, .ld false 1 (.t 5)⟩, ⟨some 7, none, .fa 0 (.t 3)⟩, ⟨some 8, none, .ld false 1 (.t 7)⟩, ⟨some 9, none, .call 63 [.t 6, .t 8]⟩, ⟨some 10, none, .un .not (.t 9)⟩]) (.cond (.t 10) (.seq (.reg [⟨some 4, none, .mov (.c (.bool false))⟩]) .ret) .skip)) (.seq (.reg [⟨some 4, none, .mov (.c (.bool true))⟩]) .ret))
theorem code_laws_eqDisk : fnC Try.prog Try.f29 = some (c_laws_eqDisk, [.t 4], 11) := by kernel_rfl
def c_laws_eqWaitS : C := .seq (.reg [⟨some 4, none, .mov (.c (.bool false))⟩]) (.seq (.seq (.reg [⟨some 6, none, .mov (.t 0)⟩, ⟨some 7, none, .len false (.t 6)⟩, ⟨some 8, none, .mov (.t 1)⟩, ⟨some 9, none, .len false (.t 8)⟩, ⟨some 10, none, .bin .neq 3 (.t 7) (.t 9)⟩]) (.cond (.t 10) (.seq (.reg [⟨some 4, none, .mov (.c (.bool false))⟩]) .ret) .skip)) (.seq (.seq (.reg [⟨some 5, none, .mov (.c (.int .i64 0))⟩]) (.blk 0 (.loop (.seq (.seq (.reg [⟨some 11, none, .mov (.t 5)⟩, ⟨some 12, none, .mov (.t 0)⟩, ⟨some 13, none, .len false (.t 12)⟩, ⟨some 14, none, .bin .lss 3 (.t 11) (.t 13)⟩]) (.cond (.t 14) .skip (.exit 0))) (.seq (.blk 1 (.seq (.dreg (T.pure 0 ⟨some 17, none, .mov (.t 0)⟩ (T.pure 1 ⟨some 18, none, .mov (.t 5)⟩ (T.pure 2 ⟨some 19, none, .ia 5 (.t 17) (.t 18)⟩ (T.pure 3 ⟨some 20, none, .ld true 5 (.t 19)⟩ (T.pure 4 ⟨some 21, none, .mov (.t 1)⟩ (T.pure 5 ⟨some 22, none, .mov (.t 5)⟩ (T.pure 6 ⟨some 23, none, .ia 5 (.t 21) (.t 22)⟩ (T.pure 7 ⟨some 24, none, .ld true 5 (.t 23)⟩ (T.alt ⟨some 25, none, .call 64 [.t 20, .t 24]⟩ [] (T.pure 9 ⟨some 26, none, .un .not (.t 25)⟩ T.done) T.stop)))))))))) (.cond (.t 26) (.seq (.reg [⟨some 4, none, .mov (.c (.bool false))⟩]) .ret) .skip))) (.reg [⟨some 15, none, .mov (.t 5)⟩, ⟨some 16, none, .bin .add 3 (.t 15) (.c (.int .i64 1))⟩, ⟨some 5, none, .mov (.t 16)⟩])))))) (.seq (.reg [⟨some 4, none, .mov (.c (.bool true))⟩]) .ret)))
theorem code_laws_eqWaitS : fnC Try.prog Try.f30 = some (c_laws_eqWaitS, [.t 4], 27) := by kernel_rfl
def c_laws_eqEngine : C := .seq (.reg [⟨some 2, none, .box 31 10 (.t 0)⟩, ⟨some 3, none, .box 31 10 (.t 1)⟩, ⟨some 4, none, .mov (.c (.bool false))⟩]) (.seq (.seq (.reg [⟨some 5, none, .fa 0 (.t 2)⟩, ⟨some 6, none, .ld true 4 (.t 5)⟩, ⟨some 7, none, .fa 0 (.t 3)⟩, ⟨some 8, none, .ld true 4 (.t 7)⟩, ⟨some 9, none, .call 28 [.t 6, .t 8]⟩, ⟨some 10, none, .un .not (.t 9)⟩]) (.cond (.t 10) (.seq (.reg [⟨some 4, none, .mov (.c (.bool false))⟩]) .ret) .skip)) (.seq (.seq (.reg [⟨some 11, none, .fa 4 (.t 2)⟩, ⟨some 12, none, .ld true 1 (.t 11)⟩, ⟨some 13, none, .fa 4 (.t 3)⟩, ⟨some 14, none, .ld true 1 (.t 13)⟩, ⟨some 15, none, .call 29 [.t 12, .t 14]⟩, ⟨some 16, none, .un .not (.t 15)⟩]) (.cond (.t 16) (.seq (.reg [⟨some 4, none, .mov (.c (.bool false))⟩]) .ret) .skip)) (.seq (.seq (.reg [⟨some 17, none, .fa 5 (.t 2)⟩, ⟨some 18, none, .ld false 1 (.t 17)⟩, ⟨some 19, none, .fa 5 (.t 3)⟩, ⟨some 20, none, .ld false 1 (.t 19)⟩, ⟨some 21, none, .bin .neq 3 (.t 18) (.t 20)⟩]) (.cond (.t 21) (.seq (.reg [⟨some 4, none, .mov (.c (.bool false))⟩]) .ret) .skip)) (.seq (.seq (.reg [⟨some 22, none, .fa 6 (.t 2)⟩, ⟨some 23, none, .ld false 1 (.t 22)⟩, ⟨some 24, none, .fa 6 (.t 3)⟩, ⟨some 25, none, .ld false 1 (.t 24)⟩, ⟨some 26, none, .bin .neq 3 (.t 23) (.t 25)⟩]) (.cond (.t 26) (.seq (.reg [⟨some 4, none, .mov (.c (.bool false))⟩]) .ret) .skip)) (.seq (.seq (.reg [⟨some 27, none, .fa 7 (.t 2)⟩, ⟨some 28, none, .ld false 1 (.t 27)⟩, ⟨some 29, none, .fa 7 (.t 3)⟩, ⟨some 30, none, .ld false 1 (.t 29)⟩, ⟨some 31, none, .call 30 [.t 28, .t 30]⟩, ⟨some 32, none, .un .not (.t 31)⟩]) (.cond (.t 32) (.seq (.reg [⟨some 4, none, .mov (.c (.bool false))⟩]) .ret) .skip)) (.seq (.seq (.reg [⟨some 33, none, .fa 8 (.t 2)⟩, ⟨some 34, none, .ld false 1 (.t 33)⟩, ⟨some 35, none, .fa 8 (.t 3)⟩, ⟨some 36, none, .ld false 1 (.t 35)⟩, ⟨some 37, none, .bin .neq 3 (.t 34) (.t 36)⟩]) (.cond (.t 37) (.seq (.reg [⟨some 4, none, .mov (.c (.bool false))⟩]) .ret) .skip)) (.seq (.seq (.reg [⟨some 38, none, .fa 9 (.t 2)⟩, ⟨some 39, none, .ld false 1 (.t 38)⟩, ⟨some 40, none, .fa 9 (.t 3)⟩, ⟨some 41, none, .ld false 1 (.t 40)⟩, ⟨some 42, none, .beq true (.t 39) (.t 41)⟩]) (.cond (.t 42) (.seq (.reg [⟨some 4, none, .mov (.c (.bool false))⟩]) .ret) .skip)) (.seq (.reg [⟨some 4, none, .mov (.c (.bool true))⟩]) .ret))))))))
theorem code_laws_eqEngine : fnC Try.prog Try.f9 = some (c_laws_eqEngine, [.t 4], 43) := by kernel_rfl
def c_laws_markFileS : C := .seq (.reg [⟨some 4, none, .mov (.c (.int .i64 0))⟩]) (.seq (.seq (.reg [⟨some 5, none, .mov (.c (.int .i64 0))⟩]) (.blk 0 (.loop (.seq (.seq (.reg [⟨some 6, none, .mov (.t 5)⟩, ⟨some 7, none, .mov (.t 0)⟩, ⟨some 8, none, .len false (.t 7)⟩, ⟨some 9, none, .bin .lss 3 (.t 6) (.t 8)⟩]) (.cond (.t 9) .skip (.exit 0))) (.seq (.blk 1 (.seq (.reg [⟨some 12, none, .mov (.t 0)⟩, ⟨some 13, none, .mov (.t 5)⟩, ⟨some 14, none, .mov (.t 1)⟩, ⟨some 15, none, .call 108 [.t 14]⟩, ⟨some 16, none, .ia 3 (.t 12) (.t 13)⟩, ⟨some 17, none, .fa 0 (.t 16)⟩, ⟨none, none, .st 1 [none] (.t 17) (.t 15)⟩]) (.seq (.reg [⟨some 18, none, .mov (.t 1)⟩, ⟨some 19, none, .bin .add 3 (.t 18) (.c (.int .i64 1))⟩, ⟨some 1, none, .mov (.t 19)⟩]) (.seq (.reg [⟨some 20, none, .mov (.t 0)⟩, ⟨some 21, none, .mov (.t 5)⟩, ⟨some 22, none, .mov (.t 1)⟩, ⟨some 23, none, .call 108 [.t 22]⟩, ⟨some 24, none, .ia 3 (.t 20) (.t 21)⟩, ⟨some 25, none, .fa 1 (.t 24)⟩, ⟨none, none, .st 1 [none] (.t 25) (.t 23)⟩]) (.seq (.reg [⟨some 26, none, .mov (.t 1)⟩, ⟨some 27, none, .bin .add 3 (.t 26) (.c (.int .i64 1))⟩, ⟨some 1, none, .mov (.t 27)⟩]) (.seq (.reg [⟨some 28, none, .mov (.t 0)⟩, ⟨some 29, none, .mov (.t 5)⟩, ⟨some 30, none, .mov (.t 1)⟩, ⟨some 31, none, .ia 3 (.t 28) (.t 29)⟩, ⟨some 32, none, .fa 2 (.t 31)⟩, ⟨none, none, .st 1 [none] (.t 32) (.t 30)⟩]) (.reg [⟨some 33, none, .mov (.t 1)⟩, ⟨some 34, none, .bin .add 3 (.t 33) (.c (.int .i64 1))⟩, ⟨some 1, none, .mov (.t 34)⟩]))))))) (.reg [⟨some 10, none, .mov (.t 5)⟩, ⟨some 11, none, .bin .add 3 (.t 10) (.c (.int .i64 1))⟩, ⟨some 5, none, .mov (.t 11)⟩])))))) (.seq (.reg [⟨some 35, none, .mov (.t 1)⟩, ⟨some 4, none, .mov (.t 35)⟩]) .ret))
theorem code_laws_markFileS : fnC Try.prog Try.f67 = some (c_laws_markFileS, [.t 4], 36) := by kernel_rfl
def c_laws_markDisk : C := .seq (.reg [⟨some 2, none, .box 28 1 (.t 0)⟩, ⟨some 4, none, .mov (.c (.int .i64 0))⟩]) (.seq (.reg [⟨some 5, none, .fa 0 (.t 2)⟩, ⟨some 6, none, .ld false 1 (.t 5)⟩, ⟨some 7, none, .mov (.t 1)⟩, ⟨some 8, none, .call 67 [.t 6, .t 7]⟩, ⟨some 1, none, .mov (.t 8)⟩]) (.seq (.reg [⟨some 9, none, .mov (.t 1)⟩, ⟨some 4, none, .mov (.t 9)⟩]) .ret))
theorem code_laws_markDisk : fnC Try.prog Try.f32 = some (c_laws_markDisk, [.t 4], 10) := by kernel_rfl
def c_laws_markWaitS : C := .seq (.reg [⟨some 4, none, .mov (.c (.int .i64 0))⟩]) (.seq (.seq (.reg [⟨some 5, none, .mov (.c (.int .i64 0))⟩]) (.blk 0 (.loop (.seq (.seq (.reg [⟨some 6, none, .mov (.t 5)⟩, ⟨some 7, none, .mov (.t 0)⟩, ⟨some 8, none, .len false (.t 7)⟩, ⟨some 9, none, .bin .lss 3 (.t 6) (.t 8)⟩]) (.cond (.t 9) .skip (.exit 0))) (.seq (.blk 1 (.seq (.reg [⟨some 12, none, .mov (.t 0)⟩, ⟨some 13, none, .mov (.t 5)⟩, ⟨some 14, none, .mov (.t 1)⟩, ⟨some 15, none, .ia 5 (.t 12) (.t 13)⟩, ⟨some 16, none, .fa 0 (.t 15)⟩, ⟨none, none, .st 1 [none] (.t 16) (.t 14)⟩]) (.seq (.reg [⟨some 17, none, .mov (.t 1)⟩, ⟨some 18, none, .bin .add 3 (.t 17) (.c (.int .i64 1))⟩, ⟨some 1, none, .mov (.t 18)⟩]) (.seq (.reg [⟨some 19, none, .mov (.t 0)⟩, ⟨some 20, none, .mov (.t 5)⟩, ⟨some 21, none, .mov (.t 1)⟩, ⟨some 22, none, .ia 5 (.t 19) (.t 20)⟩, ⟨some 23, none, .fa 1 (.t 22)⟩, ⟨some 24, none, .fa 0 (.t 23)⟩, ⟨none, none, .st 1 [none] (.t 24) (.t 21)⟩]) (.seq (.reg [⟨some 25, none, .mov (.t 1)⟩, ⟨some 26, none, .bin .add 3 (.t 25) (.c (.int .i64 1))⟩, ⟨some 1, none, .mov (.t 26)⟩]) (.seq (.reg [⟨some 27, none, .mov (.t 0)⟩, ⟨some 28, none, .mov (.t 5)⟩, ⟨some 29, none, .mov (.t 1)⟩, ⟨some 30, none, .ia 5 (.t 27) (.t 28)⟩, ⟨some 31, none, .fa 1 (.t 30)⟩, ⟨some 32, none, .fa 1 (.t 31)⟩, ⟨none, none, .st 1 [none] (.t 32) (.t 29)⟩]) (.seq (.reg [⟨some 33, none, .mov (.t 1)⟩, ⟨some 34, none, .bin .add 3 (.t 33) (.c (.int .i64 1))⟩, ⟨some 1, none, .mov (.t 34)⟩]) (.seq (.reg [⟨some 35, none, .mov (.t 0)⟩, ⟨some 36, none, .mov (.t 5)⟩, ⟨some 37, none, .mov (.t 1)⟩, ⟨some 38, none, .ia 5 (.t 35) (.t 36)⟩, ⟨some 39, none, .fa 1 (.t 38)⟩, ⟨some 40, none, .fa 2 (.t 39)⟩, ⟨none, none, .st 1 [none] (.t 40) (.t 37)⟩]) (.seq (.reg [⟨some 41, none, .mov (.t 1)⟩, ⟨some 42, none, .bin .add 3 (.t 41) (.c (.int .i64 1))⟩, ⟨some 1, none, .mov (.t 42)⟩]) (.seq (.reg [⟨some 43, none, .mov (.t 0)⟩, ⟨some 44, none, .mov (.t 5)⟩, ⟨some 45, none, .mov (.t 1)⟩, ⟨some 46, none, .ia 5 (.t 43) (.t 44)⟩, ⟨some 47, none, .fa 1 (.t 46)⟩, ⟨some 48, none, .fa 3 (.t 47)⟩, ⟨none, none, .st 1 [none] (.t 48) (.t 45)⟩]) (.reg [⟨some 49, none, .mov (.t 1)⟩, ⟨some 50, none, .bin .add 3 (.t 49) (.c (.int .i64 1))⟩, ⟨some 1, none, .mov (.t 50)⟩]))))))))))) (.reg [⟨some 10, none, .mov (.t 5)⟩, ⟨some 11, none, .bin .add 3 (.t 10) (.c (.int .i64 1))⟩, ⟨some 5, none, .mov (.t 11)⟩])))))) (.seq (.reg [⟨some 51, none, .mov (.t 1)⟩, ⟨some 4, none, .mov (.t 51)⟩]) .ret))
theorem code_laws_markWaitS : fnC Try.prog Try.f33 = some (c_laws_markWaitS, [.t 4], 52) := by kernel_rfl
def c_laws_markEngine : C := .seq (.reg [⟨some 2, none, .box 31 10 (.t 0)⟩, ⟨some 4, none, .mov (.c (.int .i64 0))⟩]) (.seq (.reg [⟨some 5, none, .fa 0 (.t 2)⟩, ⟨some 6, none, .ld true 4 (.t 5)⟩, ⟨some 7, none, .mov (.t 1)⟩, ⟨some 8, none, .call 31 [.t 6, .t 7]⟩, ⟨some 1, none, .mov (.t 8)⟩]) (.seq (.reg [⟨some 9, none, .fa 4 (.t 2)⟩, ⟨some 10, none, .ld true 1 (.t 9)⟩, ⟨some 11, none, .mov (.t 1)⟩, ⟨some 12, none, .call 32 [.t 10, .t 11]⟩, ⟨some 1, none, .mov (.t 12)⟩]) (.seq (.reg [⟨some 13, none, .fa 7 (.t 2)⟩, ⟨some 14, none, .ld false 1 (.t 13)⟩, ⟨some 15, none, .mov (.t 1)⟩, ⟨some 16, none, .call 33 [.t 14, .t 15]⟩, ⟨some 1, none, .mov (.t 16)⟩]) (.seq (.reg [⟨some 17, none, .mov (.t 1)⟩, ⟨some 4, none, .mov (.t 17)⟩]) .ret))))
theorem code_laws_markEngine : fnC Try.prog Try.f10 = some (c_laws_markEngine, [.t 4], 18) := by kernel_rfl
def c_laws_heldFileS : C := .seq (.reg [⟨some 4, none, .mov (.c (.int .i64 0))⟩]) (.seq (.seq (.reg [⟨some 5, none, .mov (.c (.int .i64 0))⟩]) (.blk 0 (.loop (.seq (.seq (.reg [⟨some 6, none, .mov (.t 5)⟩, ⟨some 7, none, .mov (.t 0)⟩, ⟨some 8, none, .len false (.t 7)⟩, ⟨some 9, none, .bin .lss 3 (.t 6) (.t 8)⟩]) (.cond (.t 9) .skip (.exit 0))) (.seq (.blk 1 (.seq (.seq (.dreg (T.pure 0 ⟨some 12, none, .mov (.t 0)⟩ (T.pure 1 ⟨some 13, none, .mov (.t 5)⟩ (T.pure 2 ⟨some 14, none, .ia 3 (.t 12) (.t 13)⟩ (T.pure 3 ⟨some 15, none, .fa 0 (.t 14)⟩ (T.pure 4 ⟨some 16, none, .ld false 1 (.t 15)⟩ (T.pure 5 ⟨some 17, none, .mov (.t 1)⟩ (T.alt ⟨some 18, none, .call 108 [.t 17]⟩ [4, 3, 2, 1, 0] (T.pure 7 ⟨some 19, none, .bin .neq 9 (.t 16) (.t 18)⟩ T.done) T.stop)))))))) (.cond (.t 19) (.seq (.reg [⟨some 4, none, .mov (.c (.int .i64 (-1)))⟩]) .ret) .skip)) (.seq (.reg [⟨some 20, none, .mov (.t 1)⟩, ⟨some 21, none, .bin .add 3 (.t 20) (.c (.int .i64 1))⟩, ⟨some 1, none, .mov (.t 21)⟩]) (.seq (.seq (.dreg (T.pure 0 ⟨some 22, none, .mov (.t 0)⟩ (T.pure 1 ⟨some 23, none, .mov (.t 5)⟩ (T.pure 2 ⟨some 24, none, .ia 3 (.t 22) (.t 23)⟩ (T.pure 3 ⟨some 25, none, .fa 1 (.t 24)⟩ (T.pure 4 ⟨some 26, none, .ld false 1 (.t 25)⟩ (T.pure 5 ⟨some 27, none, .mov (.t 1)⟩ (T.alt ⟨some 28, none, .call 108 [.t 27]⟩ [4, 3, 2, 1, 0] (T.pure 7 ⟨some 29, none, .bin .neq 9 (.t 26) (.t 28)⟩ T.done) T.stop)))))))) (.cond (.t 29) (.seq (.reg [⟨some 4, none, .mov (.c (.int .i64 (-1)))⟩]) .ret) .skip)) (.seq (.reg [⟨some 30, none, .mov (.t 1)⟩, ⟨some 31, none, .bin .add 3 (.t 30) (.c (.int .i64 1))⟩, ⟨some 1, none, .mov (.t 31)⟩]) (.seq (.seq (.reg [⟨some 32, none, .mov (.t 0)⟩, ⟨some 33, none, .mov (.t 5)⟩, ⟨some 34, none, .ia 3 (.t 32) (.t 33)⟩, ⟨some 35, none, .fa 2 (.t 34)⟩, ⟨some 36, none, .ld false 1 (.t 35)⟩, ⟨some 37, none, .mov (.t 1)⟩, ⟨some 38, none, .bin .neq 3 (.t 36) (.t 37)⟩]) (.cond (.t 38) (.seq (.reg [⟨some 4, none, .mov (.c (.int .i64 (-1)))⟩]) .ret) .skip)) (.reg [⟨some 39, none, .mov (.t 1)⟩, ⟨some 40, none, .bin .add 3 (.t 39) (.c (.int .i64 1))⟩, ⟨some 1, none, .mov (.t 40)⟩]))))))) (.reg [⟨some 10, none, .mov (.t 5)⟩, ⟨some 11, none, .bin .add 3 (.t 10) (.c (.int .i64 1))⟩, ⟨some 5, none, .mov (.t 11)⟩])))))) (.seq (.reg [⟨some 41, none, .mov (.t 1)⟩, ⟨some 4, none, .mov (.t 41)⟩]) .ret))
theorem code_laws_heldFileS : fnC Try.prog Try.f70 = some (c_laws_heldFileS, [.t 4], 42) := by kernel_rfl
def c_laws_heldDisk : C := .seq (.reg [⟨some 2, none, .box 28 1 (.t 0)⟩, ⟨some 4, none, .mov (.c (.int .i64 0))⟩]) (.seq (.reg [⟨some 5, none, .fa 0 (.t 2)⟩, ⟨some 6, none, .ld false 1 (.t 5)⟩, ⟨some 7, none, .mov (.t 1)⟩, ⟨some 8, none, .call 70 [.t 6, .t 7]⟩, ⟨some 1, none, .mov (.t 8)⟩]) (.seq (.seq (.reg [⟨some 9, none, .mov (.t 1)⟩, ⟨some 10, none, .bin .lss 3 (.t 9) (.c (.int .i64 0))⟩]) (.cond (.t 10) (.seq (.reg [⟨some 4, none, .mov (.c (.int .i64 (-1)))⟩]) .ret) .skip)) (.seq (.reg [⟨some 11, none, .mov (.t 1)⟩, ⟨some 4, none, .mov (.t 11)⟩]) .ret)))
theorem code_laws_heldDisk : fnC Try.prog Try.f35 = some (c_laws_heldDisk, [.t 4], 12) := by kernel_rfl
def c_laws_heldWaitS : C := .seq (.reg [⟨some 4, none, .mov (.c (.int .i64 0))⟩]) (.seq (.seq (.reg [⟨some 5, none, .mov (.c (.int .i64 0))⟩]) (.blk 0 (.loop (.seq (.seq (.reg [⟨some 6, none, .mov (.t 5)⟩, ⟨some 7, none, .mov (.t 0)⟩, ⟨some 8, none, .len false (.t 7)⟩, ⟨some 9, none, .bin .lss 3 (.t 6) (.t 8)⟩]) (.cond (.t 9) .skip (.exit 0))) (.seq (.blk 1 (.seq (.seq (.reg [⟨some 12, none, .mov (.t 0)⟩, ⟨some 13, none, .mov (.t 5)⟩, ⟨some 14, none, .ia 5 (.t 12) (.t 13)⟩, ⟨some 15, none, .fa 0 (.t 14)⟩, ⟨some 16, none, .ld false 1 (.t 15)⟩, ⟨some 17, none, .mov (.t 1)⟩, ⟨some 18, none, .bin .neq 3 (.t 16) (.t 17)⟩]) (.cond (.t 18) (.seq (.reg [⟨some 4, none, .mov (.c (.int .i64 (-1)))⟩]) .ret) .skip)) (.seq (.reg [⟨some 19, none, .mov (.t 1)⟩, ⟨some 20, none, .bin .add 3 (.t 19) (.c (.int .i64 1))⟩, ⟨some 1, none, .mov (.t 20)⟩]) (.seq (.seq (.reg [⟨some 21, none, .mov (.t 0)⟩, ⟨some 22, none, .mov (.t 5)⟩, ⟨some 23, none, .ia 5 (.t 21) (.t 22)⟩, ⟨some 24, none, .fa 1 (.t 23)⟩, ⟨some 25, none, .fa 0 (.t 24)⟩, ⟨some 26, none, .ld false 1 (.t 25)⟩, ⟨some 27, none, .mov (.t 1)⟩, ⟨some 28, none, .bin .neq 3 (.t 26) (.t 27)⟩]) (.cond (.t 28) (.seq (.reg [⟨some 4, none, .mov (.c (.int .i64 (-1)))⟩]) .ret) .skip)) (.seq (.reg [⟨some 29, none, .mov (.t 1)⟩, ⟨some 30, none, .bin .add 3 (.t 29) (.c (.int .i64 1))⟩, ⟨some 1, none, .mov (.t 30)⟩]) (.seq (.seq (.reg [⟨some 31, none, .mov (.t 0)⟩, ⟨some 32, none, .mov (.t 5)⟩, ⟨some 33, none, .ia 5 (.t 31) (.t 32)⟩, ⟨some 34, none, .fa 1 (.t 33)⟩, ⟨some 35, none, .fa 1 (.t 34)⟩, ⟨some 36, none, .ld false 1 (.t 35)⟩, ⟨some 37, none, .mov (.t 1)⟩, ⟨some 38, none, .bin .neq 3 (.t 36) (.t 37)⟩]) (.cond (.t 38) (.seq (.reg [⟨some 4, none, .mov (.c (.int .i64 (-1)))⟩]) .ret) .skip)) (.seq (.reg [⟨some 39, none, .mov (.t 1)⟩, ⟨some 40, none, .bin .add 3 (.t 39) (.c (.int .i64 1))⟩, ⟨some 1, none, .mov (.t 40)⟩]) (.seq (.seq (.reg [⟨some 41, none, .mov (.t 0)⟩, ⟨some 42, none, .mov (.t 5)⟩, ⟨some 43, none, .ia 5 (.t 41) (.t 42)⟩, ⟨some 44, none, .fa 1 (.t 43)⟩, ⟨some 45, none, .fa 2 (.t 44)⟩, ⟨some 46, none, .ld false 1 (.t 45)⟩, ⟨some 47, none, .mov (.t 1)⟩, ⟨some 48, none, .bin .neq 3 (.t 46) (.t 47)⟩]) (.cond (.t 48) (.seq (.reg [⟨some 4, none, .mov (.c (.int .i64 (-1)))⟩]) .ret) .skip)) (.seq (.reg [⟨some 49, none, .mov (.t 1)⟩, ⟨some 50, none, .bin .add 3 (.t 49) (.c (.int .i64 1))⟩, ⟨some 1, none, .mov (.t 50)⟩]) (.seq (.seq (.reg [⟨some 51, none, .mov (.t 0)⟩, ⟨some 52, none, .mov (.t 5)⟩, ⟨some 53, none, .ia 5 (.t 51) (.t 52)⟩, ⟨some 54, none, .fa 1 (.t 53)⟩, ⟨some 55, none, .fa 3 (.t 54)⟩, ⟨some 56, none, .ld false 1 (.t 55)⟩, ⟨some 57, none, .mov (.t 1)⟩, ⟨some 58, none, .bin .neq 3 (.t 56) (.t 57)⟩]) (.cond (.t 58) (.seq (.reg [⟨some 4, none, .mov (.c (.int .i64 (-1)))⟩]) .ret) .skip)) (.reg [⟨some 59, none, .mov (.t 1)⟩, ⟨some 60, none, .bin .add 3 (.t 59) (.c (.int .i64 1))⟩, ⟨some 1, none, .mov (.t 60)⟩]))))))))))) (.reg [⟨some 10, none, .mov (.t 5)⟩, ⟨some 11, none, .bin .add 3 (.t 10) (.c (.int .i64 1))⟩, ⟨some 5, none, .mov (.t 11)⟩])))))) (.seq (.reg [⟨some 61, none, .mov (.t 1)⟩, ⟨some 4, none, .mov (.t 61)⟩]) .ret))
theorem code_laws_heldWaitS : fnC Try.prog Try.f36 = some (c_laws_heldWaitS, [.t 4], 62) := by kernel_rfl
def c_laws_heldEngine : C := .seq (.reg [⟨some 2, none, .box 31 10 (.t 0)⟩, ⟨some 4, none, .mov (.c (.int .i64 0))⟩]) (.seq (.reg [⟨some 5, none, .fa 0 (.t 2)⟩, ⟨some 6, none, .ld true 4 (.t 5)⟩, ⟨some 7, none, .mov (.t 1)⟩, ⟨some 8, none, .call 34 [.t 6, .t 7]⟩, ⟨some 1, none, .mov (.t 8)⟩]) (.seq (.seq (.reg [⟨some 9, none, .mov (.t 1)⟩, ⟨some 10, none, .bin .lss 3 (.t 9) (.c (.int .i64 0))⟩]) (.cond (.t 10) (.seq (.reg [⟨some 4, none, .mov (.c (.int .i64 (-1)))⟩]) .ret) .skip)) (.seq (.reg [⟨some 11, none, .fa 4 (.t 2)⟩, ⟨some 12, none, .ld true 1 (.t 11)⟩, ⟨some 13, none, .mov (.t 1)⟩, ⟨some 14, none, .call 35 [.t 12, .t 13]⟩, ⟨some 1, none, .mov (.t 14)⟩]) (.seq (.seq (.reg [⟨some 15, none, .mov (.t 1)⟩, ⟨some 16, none, .bin .lss 3 (.t 15) (.c (.int .i64 0))⟩]) (.cond (.t 16) (.seq (.reg [⟨some 4, none, .mov (.c (.int .i64 (-1)))⟩]) .ret) .skip)) (.seq (.reg [⟨some 17, none, .fa 7 (.t 2)⟩, ⟨some 18, none, .ld false 1 (.t 17)⟩, ⟨some 19, none, .mov (.t 1)⟩, ⟨some 20, none, .call 36 [.t 18, .t 19]⟩, ⟨some 1, none, .mov (.t 20)⟩]) (.seq (.seq (.reg [⟨some 21, none, .mov (.t 1)⟩, ⟨some 22, none, .bin .lss 3 (.t 21) (.c (.int .i64 0))⟩]) (.cond (.t 22) (.seq (.reg [⟨some 4, none, .mov (.c (.int .i64 (-1)))⟩]) .ret) .skip)) (.seq (.reg [⟨some 23, none, .mov (.t 1)⟩, ⟨some 4, none, .mov (.t 23)⟩]) .ret)))))))
theorem code_laws_heldEngine : fnC Try.prog Try.f11 = some (c_laws_heldEngine, [.t 4], 24) := by kernel_rfl
theorem p_spec_EngineNew : Pure Try.prog 7 [] (.agg (encEg0 newYd)) := by
  refine pure_fn Try.func7 code_spec_EngineNew (by simp) ?_
  unfold c_spec_EngineNew
  generalize hy : newYd = y
  have pS : Pure Try.prog 26 [] (.agg (encYd y)) := hy ▸ p_spec_YardNew
  simp -implicitDefEqProofs only [go_sem]
  intro b0
  refine run_call pS (by simp -implicitDefEqProofs only [go_sem]) fun η => ?_
  simp -implicitDefEqProofs only [go_sem, encYd]
theorem p_impl_EngineNew : Pure Try.prog 8 [] (.agg (encEg0 newYd)) := by
  refine pure_fn Try.func8 code_impl_EngineNew (by simp) ?_
  unfold c_impl_EngineNew
  generalize hy : newYd = y
  have pS : Pure Try.prog 27 [] (.agg (encYd y)) := hy ▸ p_impl_YardNew
  simp -implicitDefEqProofs only [go_sem]
  intro b0
  refine run_call pS (by simp -implicitDefEqProofs only [go_sem]) fun η => ?_
  simp -implicitDefEqProofs only [go_sem, encYd]
theorem z_len : (D.sl 3 tFl []).len = 0 := rfl
theorem z_len5 : (D.sl 5 tWt []).len = 0 := rfl
theorem z_ro : (D.sl 3 tFl []).toRo = .ro (.sl 3 tFl []) := rfl
theorem z_ro5 : (D.sl 5 tWt []).toRo = .ro (.sl 5 tWt []) := rfl
attribute [go_sem] z_len z_len5 z_ro z_ro5
theorem p_eqFileS0 : Pure Try.prog 63 [.c (.sl 3 tFl []), .c (.sl 3 tFl [])] (.c (.val (.bool true))) := by
  refine pure_fn Try.func63 code_laws_eqFileS (by simp) ?_
  unfold c_laws_eqFileS
  simp -implicitDefEqProofs only [go_sem, bne_self_eq_false]
  refine wp_unroll 1 ?_
  simp -implicitDefEqProofs only [go_sem]
theorem p_eqDisk0 : Pure Try.prog 29 [.agg [(.sl 3 tFl [])], .agg [(.sl 3 tFl [])]] (.c (.val (.bool true))) := by
  refine pure_fn Try.func29 code_laws_eqDisk (by simp) ?_
  unfold c_laws_eqDisk
  simp -implicitDefEqProofs only [go_sem]
  intros
  refine run_call (p_eqFileS0) (by simp -implicitDefEqProofs only [go_sem]) fun η => ?_
  simp -implicitDefEqProofs only [go_sem]
theorem p_eqWaitS0 : Pure Try.prog 30 [.c (.sl 5 tWt []), .c (.sl 5 tWt [])] (.c (.val (.bool true))) := by
  refine pure_fn Try.func30 code_laws_eqWaitS (by simp) ?_
  unfold c_laws_eqWaitS
  simp -implicitDefEqProofs only [go_sem, bne_self_eq_false]
  refine wp_unroll 1 ?_
  simp -implicitDefEqProofs only [go_sem]
theorem p_eqEngine0 (y : Yd) : Pure Try.prog 9 [.agg (encEg0 y), .agg (encEg0 y)] (.c (.val (.bool true))) := by
  refine pure_fn Try.func9 code_laws_eqEngine (by simp) ?_
  unfold c_laws_eqEngine
  simp -implicitDefEqProofs only [go_sem, bne_self_eq_false, beq_self_eq_true]
  intros
  refine run_call (p_eqYard y y) (by simp -implicitDefEqProofs only [go_sem, encYd, bne_self_eq_false, beq_self_eq_true]) fun η => ?_
  simp -implicitDefEqProofs only [go_sem, encYd, bne_self_eq_false, beq_self_eq_true]
  refine run_call (p_eqDisk0) (by simp -implicitDefEqProofs only [go_sem, bne_self_eq_false, beq_self_eq_true]) fun η => ?_
  simp -implicitDefEqProofs only [go_sem, bne_self_eq_false, beq_self_eq_true]
  refine run_call (p_eqWaitS0) (by simp -implicitDefEqProofs only [go_sem, bne_self_eq_false, beq_self_eq_true]) fun η => ?_
  simp -implicitDefEqProofs only [go_sem, bne_self_eq_false, beq_self_eq_true]
theorem p_markFileS0 (k : Int) : Pure Try.prog 67 [.c (.sl 3 tFl []), .c (.val (.int .i64 k))] (.c (.val (.int .i64 k))) := by
  refine pure_fn Try.func67 code_laws_markFileS (by simp) ?_
  unfold c_laws_markFileS
  simp -implicitDefEqProofs only [go_sem]
  refine wp_unroll 1 ?_
  simp -implicitDefEqProofs only [go_sem]
theorem p_markDisk0 (k : Int) : Pure Try.prog 32 [.agg [(.sl 3 tFl [])], .c (.val (.int .i64 k))] (.c (.val (.int .i64 k))) := by
  refine pure_fn Try.func32 code_laws_markDisk (by simp) ?_
  unfold c_laws_markDisk
  simp -implicitDefEqProofs only [go_sem]
  intros
  refine run_call (p_markFileS0 k) (by simp -implicitDefEqProofs only [go_sem]) fun η => ?_
  simp -implicitDefEqProofs only [go_sem]
theorem p_markWaitS0 (k : Int) : Pure Try.prog 33 [.c (.sl 5 tWt []), .c (.val (.int .i64 k))] (.c (.val (.int .i64 k))) := by
  refine pure_fn Try.func33 code_laws_markWaitS (by simp) ?_
  unfold c_laws_markWaitS
  simp -implicitDefEqProofs only [go_sem]
  refine wp_unroll 1 ?_
  simp -implicitDefEqProofs only [go_sem]
theorem p_heldFileS0 (k : Int) : Pure Try.prog 70 [.c (.sl 3 tFl []), .c (.val (.int .i64 k))] (.c (.val (.int .i64 k))) := by
  refine pure_fn Try.func70 code_laws_heldFileS (by simp) ?_
  unfold c_laws_heldFileS
  simp -implicitDefEqProofs only [go_sem]
  refine wp_unroll 1 ?_
  simp -implicitDefEqProofs only [go_sem]
theorem p_heldDisk0 (k : Int) (hk : ¬ k < 0) : Pure Try.prog 35 [.agg [(.sl 3 tFl [])], .c (.val (.int .i64 k))] (.c (.val (.int .i64 k))) := by
  refine pure_fn Try.func35 code_laws_heldDisk (by simp) ?_
  unfold c_laws_heldDisk
  simp -implicitDefEqProofs only [go_sem]
  intros
  refine run_call (p_heldFileS0 k) (by simp -implicitDefEqProofs only [go_sem, hk]) fun η => ?_
  simp -implicitDefEqProofs only [go_sem, hk]
theorem p_heldWaitS0 (k : Int) : Pure Try.prog 36 [.c (.sl 5 tWt []), .c (.val (.int .i64 k))] (.c (.val (.int .i64 k))) := by
  refine pure_fn Try.func36 code_laws_heldWaitS (by simp) ?_
  unfold c_laws_heldWaitS
  simp -implicitDefEqProofs only [go_sem]
  refine wp_unroll 1 ?_
  simp -implicitDefEqProofs only [go_sem]
theorem p_heldEngine0 (y : Yd) (hc : cYd y ≤ 1000) (hs : y.shelf.length ≤ 1000) (hr : y.runs.length ≤ 1000) : Pure Try.prog 11 [.agg (encEg0 (mkYd y 1)), .c (.val (.int .i64 1))] (.c (.val (.int .i64 (1 + (cYd y : Nat))))) := by
  refine pure_fn Try.func11 code_laws_heldEngine (by simp) ?_
  unfold c_laws_heldEngine
  have hn : ¬ (1 + (cYd y : Int) < 0) := by omega
  have hm : encYd (mkYd y 1) = [iv (mkYd y 1).now, iv (mkYd y 1).seq, encSh (mkYd y 1).shelf, encRns (mkYd y 1).runs] := rfl
  simp -implicitDefEqProofs only [go_sem]
  intros
  refine run_call (p_heldYard y 1 (by decide) (by omega) (by omega) (by omega)) (by simp -implicitDefEqProofs only [go_sem, hm, hn]) fun η => ?_
  simp -implicitDefEqProofs only [go_sem, hm, hn]
  refine run_call (p_heldDisk0 (1 + (cYd y : Int)) hn) (by simp -implicitDefEqProofs only [go_sem, hn]) fun η => ?_
  simp -implicitDefEqProofs only [go_sem, hn]
  refine run_call (p_heldWaitS0 (1 + (cYd y : Int))) (by simp -implicitDefEqProofs only [go_sem, hn]) fun η => ?_
  simp -implicitDefEqProofs only [go_sem, hn]
def c_laws_FnExactEngineNew : C := .seq (.reg [⟨some 0, none, .mov (.c (.bool false))⟩]) (.seq (.reg [⟨some 6, none, .call 7 []⟩, ⟨some 1, none, .alloc 31 [.int .i64 0, .int .i64 0, .slice none 0 0, .slice none 0 0, .slice none 0 0, .int .i64 0, .int .i64 0, .slice none 0 0, .int .i64 0, .bool false]⟩, ⟨none, none, .st 10 [none, none, some (1, 102), some (8, 144), some (3, 147), none, none, some (5, 110), none, none] (.t 1) (.t 6)⟩]) (.seq (.reg [⟨some 7, none, .call 8 []⟩, ⟨some 2, none, .alloc 31 [.int .i64 0, .int .i64 0, .slice none 0 0, .slice none 0 0, .slice none 0 0, .int .i64 0, .int .i64 0, .slice none 0 0, .int .i64 0, .bool false]⟩, ⟨none, none, .st 10 [none, none, some (1, 102), some (8, 144), some (3, 147), none, none, some (5, 110), none, none] (.t 2) (.t 7)⟩]) (.seq (.seq (.reg [⟨some 8, none, .ld true 10 (.t 2)⟩, ⟨some 9, none, .ld true 10 (.t 1)⟩, ⟨some 10, none, .call 9 [.t 8, .t 9]⟩, ⟨some 11, none, .un .not (.t 10)⟩]) (.cond (.t 11) (.seq (.reg [⟨some 0, none, .mov (.c (.bool false))⟩]) .ret) .skip)) (.seq (.reg [⟨some 3, none, .mov (.c (.int .i64 1))⟩]) (.seq (.reg [⟨some 12, none, .ld true 10 (.t 2)⟩, ⟨some 13, none, .mov (.t 3)⟩, ⟨some 14, none, .call 10 [.t 12, .t 13]⟩, ⟨some 3, none, .mov (.t 14)⟩]) (.seq (.reg [⟨some 4, none, .mov (.c (.int .i64 1))⟩]) (.seq (.reg [⟨some 15, none, .ld true 10 (.t 2)⟩, ⟨some 16, none, .mov (.t 4)⟩, ⟨some 17, none, .call 11 [.t 15, .t 16]⟩, ⟨some 4, none, .mov (.t 17)⟩]) (.seq (.seq (.reg [⟨some 18, none, .mov (.t 4)⟩, ⟨some 19, none, .bin .lss 3 (.t 18) (.c (.int .i64 0))⟩]) (.cond (.t 19) (.seq (.reg [⟨some 0, none, .mov (.c (.bool false))⟩]) .ret) .skip)) (.seq (.seq (.reg [⟨some 20, none, .mov (.t 4)⟩, ⟨some 21, none, .mov (.t 3)⟩, ⟨some 22, none, .bin .neq 3 (.t 20) (.t 21)⟩]) (.cond (.t 22) (.seq (.reg [⟨some 0, none, .mov (.c (.bool false))⟩]) .ret) .skip)) (.seq (.reg [⟨some 23, none, .call 8 []⟩, ⟨some 5, none, .alloc 31 [.int .i64 0, .int .i64 0, .slice none 0 0, .slice none 0 0, .slice none 0 0, .int .i64 0, .int .i64 0, .slice none 0 0, .int .i64 0, .bool false]⟩, ⟨none, none, .st 10 [none, none, some (1, 102), some (8, 144), some (3, 147), none, none, some (5, 110), none, none] (.t 5) (.t 23)⟩]) (.seq (.seq (.reg [⟨some 24, none, .ld true 10 (.t 5)⟩, ⟨some 25, none, .ld true 10 (.t 1)⟩, ⟨some 26, none, .call 9 [.t 24, .t 25]⟩, ⟨some 27, none, .un .not (.t 26)⟩]) (.cond (.t 27) (.seq (.reg [⟨some 0, none, .mov (.c (.bool false))⟩]) .ret) .skip)) (.seq (.reg [⟨some 4, none, .mov (.c (.int .i64 1))⟩]) (.seq (.reg [⟨some 28, none, .ld true 10 (.t 2)⟩, ⟨some 29, none, .mov (.t 4)⟩, ⟨some 30, none, .call 11 [.t 28, .t 29]⟩, ⟨some 4, none, .mov (.t 30)⟩]) (.seq (.seq (.reg [⟨some 31, none, .mov (.t 4)⟩, ⟨some 32, none, .bin .lss 3 (.t 31) (.c (.int .i64 0))⟩]) (.cond (.t 32) (.seq (.reg [⟨some 0, none, .mov (.c (.bool false))⟩]) .ret) .skip)) (.seq (.seq (.reg [⟨some 33, none, .mov (.t 4)⟩, ⟨some 34, none, .mov (.t 3)⟩, ⟨some 35, none, .bin .neq 3 (.t 33) (.t 34)⟩]) (.cond (.t 35) (.seq (.reg [⟨some 0, none, .mov (.c (.bool false))⟩]) .ret) .skip)) (.seq (.reg [⟨some 0, none, .mov (.c (.bool true))⟩]) .ret))))))))))))))))
theorem code_laws_FnExactEngineNew : fnC Try.prog Try.f3 = some (c_laws_FnExactEngineNew, [.t 0], 36) := by kernel_rfl
set_option maxHeartbeats 4000000 in
theorem p_EngineNew : Pure Try.prog 3 [] (.c (.val (.bool true))) := by
  refine pure_gn [[1,1,1,1,1,0], [1,1,1,1,1,1,0]] Try.func3 code_laws_FnExactEngineNew (by simp) ?_
  unfold c_laws_FnExactEngineNew
  simp only [C.ghs, C.ghAt, List.foldr]
  have pS := p_spec_EngineNew
  have pI := p_impl_EngineNew
  have hc : cYd newYd ≤ 1000 := by decide
  have hs : newYd.shelf.length ≤ 1000 := by decide
  have hr : newYd.runs.length ≤ 1000 := by decide
  generalize newYd = y at *
  simp -implicitDefEqProofs only [go_sem]
  refine run_call pS (by simp -implicitDefEqProofs only [go_sem]) fun η => ?_
  simp -implicitDefEqProofs only [go_sem]
  intro b1
  refine run_call pI (by simp -implicitDefEqProofs only [go_sem]) fun η1 => ?_
  simp -implicitDefEqProofs only [go_sem]
  intro b2
  refine run_call (p_eqEngine0 y) (by simp -implicitDefEqProofs only [go_sem]) fun ηz => ?_
  simp -implicitDefEqProofs only [go_sem]
  refine wp_gk ?_
  generalize η1 2 = e2 at *
  generalize η1 3 = e3 at *
  generalize η1 4 = e4 at *
  generalize η1 7 = e7 at *
  refine WkK.wk (s' := St.of [(1, Bx 100 b1), (2, Bx 200 b2), (3, Ni 1)] [(100, .box b1 tEg [.a (.v (.int .i64 y.now)), .a (.v (.int .i64 y.seq)), .own (encSh y.shelf) (η 2), .own (encRns y.runs) (η 3), .own (.sl 3 tFl []) (η 4), .a (.v (.int .i64 1)), .a (.v (.int .i64 0)), .own (.sl 5 tWt []) (η 7), .a (.v (.int .i64 1)), .a (.v (.bool false))]), (200, .box b2 tEg [.a (.v (.int .i64 y.now)), .a (.v (.int .i64 y.seq)), .own (encSh y.shelf) (e2), .own (encRns y.runs) (e3), .own (.sl 3 tFl []) (e4), .a (.v (.int .i64 1)), .a (.v (.int .i64 0)), .own (.sl 5 tWt []) (e7), .a (.v (.int .i64 1)), .a (.v (.bool false))])]) (wk_of [some 100, some 200] (by simp -implicitDefEqProofs only [go_sem] <;> and_intros <;> first | rfl | assumption)) ?_
  refine wk_cut0 200 2 94 (d := encSh y.shelf) (η := e2) rfl rfl (by decide) fun x2 => ?_
  refine wk_cut0 200 3 95 (d := encRns y.runs) (η := e3) rfl rfl (by decide) fun x3 => ?_
  refine wk_cut0 200 4 96 (d := .sl 3 tFl []) (η := e4) rfl rfl (by decide) fun x4 => ?_
  refine wk_cut0 200 7 97 (d := .sl 5 tWt []) (η := e7) rfl rfl (by decide) fun x7 => ?_
  refine WkK.wk (s' := St.of [(1, Bx 100 b1), (2, Bx 200 b2), (3, Ni 1)] [(100, .box b1 tEg [.a (.v (.int .i64 y.now)), .a (.v (.int .i64 y.seq)), .own (encSh y.shelf) (η 2), .own (encRns y.runs) (η 3), .own (.sl 3 tFl []) (η 4), .a (.v (.int .i64 1)), .a (.v (.int .i64 0)), .own (.sl 5 tWt []) (η 7), .a (.v (.int .i64 1)), .a (.v (.bool false))]), (200, .box b2 tEg [.a (.v (.int .i64 y.now)), .a (.v (.int .i64 y.seq)), .a (.v (e2 [])), .a (.v (e3 [])), .a (.v (e4 [])), .a (.v (.int .i64 1)), .a (.v (.int .i64 0)), .a (.v (e7 [])), .a (.v (.int .i64 1)), .a (.v (.bool false))]), (94, .loose (encSh y.shelf) (e2)), (95, .loose (encRns y.runs) (e3)), (96, .loose (.sl 3 tFl []) (e4)), (97, .loose (.sl 5 tWt []) (e7))]) (wk_of [some 100, some 200, some 94, some 95, some 96, some 97] (by simp -implicitDefEqProofs only [go_sem] <;> and_intros <;> first | rfl | assumption)) ?_
  refine WkK.of ?_
  simp -implicitDefEqProofs only [go_sem, x2, x3, x4, x7]
  refine run_inl (inl_gn (β := 9000000) [[1,0], [1,1,1,1,0]] Try.func10 code_laws_markEngine (by simp) ?_)
  unfold c_laws_markEngine
  simp only [C.ghs, C.ghAt, List.foldr]
  simp -implicitDefEqProofs only [go_sem, x2, x3, x4, x7]
  intro c2
  refine wp_gk ?_
  refine WkK.wk (s' := St.of [(1, Ni 1), (2, Bx 70 c2)] [(100, .box b1 tEg [.a (.v (.int .i64 y.now)), .a (.v (.int .i64 y.seq)), .own (encSh y.shelf) (η 2), .own (encRns y.runs) (η 3), .own (.sl 3 tFl []) (η 4), .a (.v (.int .i64 1)), .a (.v (.int .i64 0)), .own (.sl 5 tWt []) (η 7), .a (.v (.int .i64 1)), .a (.v (.bool false))]), (200, .box b2 tEg [.a (.v (.int .i64 y.now)), .a (.v (.int .i64 y.seq)), .a (.v (e2 [])), .a (.v (e3 [])), .a (.v (e4 [])), .a (.v (.int .i64 1)), .a (.v (.int .i64 0)), .a (.v (e7 [])), .a (.v (.int .i64 1)), .a (.v (.bool false))]), (70, .box c2 tEg [.a (.v (.int .i64 y.now)), .a (.v (.int .i64 y.seq)), .a (.v (e2 [])), .a (.v (e3 [])), .a (.v (e4 [])), .a (.v (.int .i64 1)), .a (.v (.int .i64 0)), .a (.v (e7 [])), .a (.v (.int .i64 1)), .a (.v (.bool false))]), (94, .loose (encSh y.shelf) (e2)), (95, .loose (encRns y.runs) (e3)), (96, .loose (.sl 3 tFl []) (e4)), (97, .loose (.sl 5 tWt []) (e7))]) (wk_of [some 100, some 200, some 900000200, some 94, some 95, some 96, some 97] (by simp -implicitDefEqProofs only [go_sem] <;> and_intros <;> first | rfl | assumption)) ?_
  refine wk_graft0 70 2 94 (d := encSh y.shelf) (η := e2) rfl rfl rfl ?_
  refine wk_graft0 70 3 95 (d := encRns y.runs) (η := e3) rfl rfl rfl ?_
  refine wk_graft0 70 4 96 (d := .sl 3 tFl []) (η := e4) rfl rfl rfl ?_
  refine wk_graft0 70 7 97 (d := .sl 5 tWt []) (η := e7) rfl rfl rfl ?_
  refine WkK.wk (s' := St.of [(1, Ni 1), (2, Bx 70 c2)] [(100, .box b1 tEg [.a (.v (.int .i64 y.now)), .a (.v (.int .i64 y.seq)), .own (encSh y.shelf) (η 2), .own (encRns y.runs) (η 3), .own (.sl 3 tFl []) (η 4), .a (.v (.int .i64 1)), .a (.v (.int .i64 0)), .own (.sl 5 tWt []) (η 7), .a (.v (.int .i64 1)), .a (.v (.bool false))]), (200, .box b2 tEg [.a (.v (.int .i64 y.now)), .a (.v (.int .i64 y.seq)), .a (.v (e2 [])), .a (.v (e3 [])), .a (.v (e4 [])), .a (.v (.int .i64 1)), .a (.v (.int .i64 0)), .a (.v (e7 [])), .a (.v (.int .i64 1)), .a (.v (.bool false))]), (70, .box c2 tEg [.a (.v (.int .i64 y.now)), .a (.v (.int .i64 y.seq)), .own (encSh y.shelf) (e2), .own (encRns y.runs) (e3), .own (.sl 3 tFl []) (e4), .a (.v (.int .i64 1)), .a (.v (.int .i64 0)), .own (.sl 5 tWt []) (e7), .a (.v (.int .i64 1)), .a (.v (.bool false))])]) (wk_of [some 100, some 200, some 70] (by simp -implicitDefEqProofs only [go_sem] <;> and_intros <;> first | rfl | assumption)) ?_
  refine WkK.of ?_
  have hn : ¬ (1 + (cYd y : Int) < 0) := by omega
  simp -implicitDefEqProofs only [go_sem]
  refine mark_agg (k := 1) (r := 1 + ((cYd y : Nat) : Int)) (ds := encYd y) (ds' := encYd (mkYd y 1)) ⟨_, Try.func31, by kernel_rfl, by kernel_rfl⟩ (fun B w v S h hF => markYard_c y 1 v S B w h hF (by decide) (by omega) (by omega) (by omega)) ?_
  simp -implicitDefEqProofs only [go_sem, encYd]
  rintro η5 ⟨h3, h4⟩
  simp only [← h3, ← h4]
  rw [← h3] at x2
  rw [← h4] at x3
  generalize η5 2 = f2 at *
  generalize η5 3 = f3 at *
  clear h3 h4
  refine run_call (p_markDisk0 (1 + (cYd y : Int))) (by simp -implicitDefEqProofs only [go_sem]) fun ηm => ?_
  simp -implicitDefEqProofs only [go_sem]
  refine run_call (p_markWaitS0 (1 + (cYd y : Int))) (by simp -implicitDefEqProofs only [go_sem]) fun ηn => ?_
  simp -implicitDefEqProofs only [go_sem]
  refine wp_gk ?_
  refine WkK.wk (s' := St.of [(1, Ni (1 + ((cYd y : Nat) : Int))), (2, Bx 70 c2)] [(100, .box b1 tEg [.a (.v (.int .i64 y.now)), .a (.v (.int .i64 y.seq)), .own (encSh y.shelf) (η 2), .own (encRns y.runs) (η 3), .own (.sl 3 tFl []) (η 4), .a (.v (.int .i64 1)), .a (.v (.int .i64 0)), .own (.sl 5 tWt []) (η 7), .a (.v (.int .i64 1)), .a (.v (.bool false))]), (200, .box b2 tEg [.a (.v (.int .i64 y.now)), .a (.v (.int .i64 y.seq)), .a (.v (f2 [])), .a (.v (f3 [])), .a (.v (e4 [])), .a (.v (.int .i64 1)), .a (.v (.int .i64 0)), .a (.v (e7 [])), .a (.v (.int .i64 1)), .a (.v (.bool false))]), (70, .box c2 tEg [.a (.v (.int .i64 y.now)), .a (.v (.int .i64 y.seq)), .own (encSh (mkYd y 1).shelf) (f2), .own (encRns (mkYd y 1).runs) (f3), .own (.sl 3 tFl []) (e4), .a (.v (.int .i64 1)), .a (.v (.int .i64 0)), .own (.sl 5 tWt []) (e7), .a (.v (.int .i64 1)), .a (.v (.bool false))])]) (wk_of [some 100, some 200, some 70] (by simp -implicitDefEqProofs only [go_sem] <;> and_intros <;> first | rfl | assumption)) ?_
  refine wk_cut0 70 2 94 (d := encSh (mkYd y 1).shelf) (η := f2) rfl rfl (by decide) fun w2 => ?_
  refine wk_cut0 70 3 95 (d := encRns (mkYd y 1).runs) (η := f3) rfl rfl (by decide) fun w3 => ?_
  refine wk_cut0 70 4 96 (d := .sl 3 tFl []) (η := e4) rfl rfl (by decide) fun w4 => ?_
  refine wk_cut0 70 7 97 (d := .sl 5 tWt []) (η := e7) rfl rfl (by decide) fun w7 => ?_
  refine WkK.wk (s' := St.of [(1, Ni (1 + ((cYd y : Nat) : Int))), (2, Bx 70 c2)] [(100, .box b1 tEg [.a (.v (.int .i64 y.now)), .a (.v (.int .i64 y.seq)), .own (encSh y.shelf) (η 2), .own (encRns y.runs) (η 3), .own (.sl 3 tFl []) (η 4), .a (.v (.int .i64 1)), .a (.v (.int .i64 0)), .own (.sl 5 tWt []) (η 7), .a (.v (.int .i64 1)), .a (.v (.bool false))]), (200, .box b2 tEg [.a (.v (.int .i64 y.now)), .a (.v (.int .i64 y.seq)), .a (.v (f2 [])), .a (.v (f3 [])), .a (.v (e4 [])), .a (.v (.int .i64 1)), .a (.v (.int .i64 0)), .a (.v (e7 [])), .a (.v (.int .i64 1)), .a (.v (.bool false))]), (94, .loose (encSh (mkYd y 1).shelf) (f2)), (95, .loose (encRns (mkYd y 1).runs) (f3)), (96, .loose (.sl 3 tFl []) (e4)), (97, .loose (.sl 5 tWt []) (e7))]) (wk_of [some 100, some 200, some 94, some 95, some 96, some 97] (by simp -implicitDefEqProofs only [go_sem] <;> and_intros <;> first | rfl | assumption)) ?_
  refine WkK.of ?_
  simp -implicitDefEqProofs only [go_sem]
  refine wp_gk ?_
  refine WkK.wk (s' := St.of [(1, Bx 100 b1), (2, Bx 200 b2), (3, Ni (1 + ((cYd y : Nat) : Int)))] [(100, .box b1 tEg [.a (.v (.int .i64 y.now)), .a (.v (.int .i64 y.seq)), .own (encSh y.shelf) (η 2), .own (encRns y.runs) (η 3), .own (.sl 3 tFl []) (η 4), .a (.v (.int .i64 1)), .a (.v (.int .i64 0)), .own (.sl 5 tWt []) (η 7), .a (.v (.int .i64 1)), .a (.v (.bool false))]), (200, .box b2 tEg [.a (.v (.int .i64 y.now)), .a (.v (.int .i64 y.seq)), .a (.v (f2 [])), .a (.v (f3 [])), .a (.v (e4 [])), .a (.v (.int .i64 1)), .a (.v (.int .i64 0)), .a (.v (e7 [])), .a (.v (.int .i64 1)), .a (.v (.bool false))]), (94, .loose (encSh (mkYd y 1).shelf) (f2)), (95, .loose (encRns (mkYd y 1).runs) (f3)), (96, .loose (.sl 3 tFl []) (e4)), (97, .loose (.sl 5 tWt []) (e7))]) (wk_of [some 100, some 200, some 94, some 95, some 96, some 97] (by simp -implicitDefEqProofs only [go_sem] <;> and_intros <;> first | rfl | assumption)) ?_
  refine wk_graft0 200 2 94 (d := encSh (mkYd y 1).shelf) (η := f2) rfl rfl rfl ?_
  refine wk_graft0 200 3 95 (d := encRns (mkYd y 1).runs) (η := f3) rfl rfl rfl ?_
  refine wk_graft0 200 4 96 (d := .sl 3 tFl []) (η := e4) rfl rfl rfl ?_
  refine wk_graft0 200 7 97 (d := .sl 5 tWt []) (η := e7) rfl rfl rfl ?_
  refine WkK.wk (s' := St.of [(1, Bx 100 b1), (2, Bx 200 b2), (3, Ni (1 + ((cYd y : Nat) : Int)))] [(100, .box b1 tEg [.a (.v (.int .i64 y.now)), .a (.v (.int .i64 y.seq)), .own (encSh y.shelf) (η 2), .own (encRns y.runs) (η 3), .own (.sl 3 tFl []) (η 4), .a (.v (.int .i64 1)), .a (.v (.int .i64 0)), .own (.sl 5 tWt []) (η 7), .a (.v (.int .i64 1)), .a (.v (.bool false))]), (200, .box b2 tEg [.a (.v (.int .i64 y.now)), .a (.v (.int .i64 y.seq)), .own (encSh (mkYd y 1).shelf) (f2), .own (encRns (mkYd y 1).runs) (f3), .own (.sl 3 tFl []) (e4), .a (.v (.int .i64 1)), .a (.v (.int .i64 0)), .own (.sl 5 tWt []) (e7), .a (.v (.int .i64 1)), .a (.v (.bool false))])]) (wk_of [some 100, some 200] (by simp -implicitDefEqProofs only [go_sem] <;> and_intros <;> first | rfl | assumption)) ?_
  refine WkK.of ?_
  have m0 : (mkYd y 1).now = y.now := rfl
  have m1 : (mkYd y 1).seq = y.seq := rfl
  simp -implicitDefEqProofs only [go_sem]
  refine run_call (p_heldEngine0 y hc hs hr) (by simp -implicitDefEqProofs only [go_sem, m0, m1, hn, bne_self_eq_false]) fun ηa => ?_
  simp -implicitDefEqProofs only [go_sem, m0, m1, hn, bne_self_eq_false]
  refine run_call pI (by simp -implicitDefEqProofs only [go_sem]) fun ηb => ?_
  simp -implicitDefEqProofs only [go_sem]
  intro b3
  refine run_call (p_eqEngine0 y) (by simp -implicitDefEqProofs only [go_sem]) fun ηc => ?_
  simp -implicitDefEqProofs only [go_sem]
  refine run_call (p_heldEngine0 y hc hs hr) (by simp -implicitDefEqProofs only [go_sem, m0, m1, hn, bne_self_eq_false]) fun ηd => ?_
  simp -implicitDefEqProofs only [go_sem, m0, m1, hn, bne_self_eq_false]
end Go.Proofs.Ytnhdcbhcocgjhaa
