/- DeedOk, both, and what they call. -/
import Derived.Test.YtbplebgnkhmemaaProg
import Derived.Test.YtbplebgnkhmemaaAb
import Derived.Test.YtbplebgnkhmemaaShelf
import Derived.Test.YtbplebgnkhmemaaSame
set_option linter.unusedSimpArgs false
set_option linter.unusedVariables false
set_option maxRecDepth 100000
namespace Go.Proofs.Ytbplebgnkhmemaa
open Go.RowKit Go.Sort
def c_spec_l16Num : C := .seq (.reg [⟨some 2, none, .mov (.c (.bool false))⟩]) (.seq (.reg [⟨some 3, none, .mov (.t 0)⟩, ⟨some 4, none, .call 31 [.t 3, .c (.int .i64 0), .c (.int .i64 1000000000)]⟩, ⟨some 2, none, .mov (.t 4)⟩]) .ret)
theorem code_spec_l16Num : fnC Try.prog Try.f135 = some (c_spec_l16Num, [.t 2], 5) := by kernel_rfl
def c_spec_l16NoPlan : C := .seq (.reg [⟨some 1, none, .box 62 5 (.t 0)⟩, ⟨some 2, none, .mov (.c (.bool false))⟩]) (.seq (.reg [⟨some 3, none, .fa 0 (.t 1)⟩, ⟨some 4, none, .ld false 1 (.t 3)⟩, ⟨some 5, none, .bin .eql 3 (.t 4) (.c (.int .i64 0))⟩, ⟨some 6, none, .mov (.t 5)⟩, ⟨some 7, some (6, true), .fa 1 (.t 1)⟩, ⟨some 8, some (6, true), .ld false 1 (.t 7)⟩, ⟨some 9, some (6, true), .bin .eql 3 (.t 8) (.c (.int .i64 0))⟩, ⟨some 10, none, .pick (.t 6) (.t 9) (.c (.bool false))⟩, ⟨some 11, none, .mov (.t 10)⟩, ⟨some 12, some (11, true), .fa 2 (.t 1)⟩, ⟨some 13, some (11, true), .ld false 1 (.t 12)⟩, ⟨some 14, some (11, true), .bin .eql 3 (.t 13) (.c (.int .i64 0))⟩, ⟨some 15, none, .pick (.t 11) (.t 14) (.c (.bool false))⟩, ⟨some 16, none, .mov (.t 15)⟩, ⟨some 17, some (16, true), .fa 3 (.t 1)⟩, ⟨some 18, some (16, true), .ld false 1 (.t 17)⟩, ⟨some 19, some (16, true), .bin .eql 3 (.t 18) (.c (.int .i64 0))⟩, ⟨some 20, none, .pick (.t 16) (.t 19) (.c (.bool false))⟩, ⟨some 21, none, .mov (.t 20)⟩, ⟨some 22, some (21, true), .fa 4 (.t 1)⟩, ⟨some 23, some (21, true), .ld false 1 (.t 22)⟩, ⟨some 24, some (21, true), .len false (.t 23)⟩, ⟨some 25, some (21, true), .bin .eql 3 (.t 24) (.c (.int .i64 0))⟩, ⟨some 26, none, .pick (.t 21) (.t 25) (.c (.bool false))⟩, ⟨some 2, none, .mov (.t 26)⟩]) .ret)
theorem code_spec_l16NoPlan : fnC Try.prog Try.f137 = some (c_spec_l16NoPlan, [.t 2], 27) := by kernel_rfl
def c_spec_l16Plan : C := .seq (.reg [⟨some 1, none, .box 62 5 (.t 0)⟩, ⟨some 2, none, .mov (.c (.bool false))⟩]) (.seq (.seq (.reg [⟨some 4, none, .fa 0 (.t 1)⟩, ⟨some 5, none, .ld false 1 (.t 4)⟩, ⟨some 6, none, .call 135 [.t 5]⟩, ⟨some 7, none, .un .not (.t 6)⟩, ⟨some 8, none, .mov (.t 7)⟩, ⟨some 9, some (8, false), .fa 1 (.t 1)⟩, ⟨some 10, some (8, false), .ld false 1 (.t 9)⟩, ⟨some 11, some (8, false), .call 135 [.t 10]⟩, ⟨some 12, some (8, false), .un .not (.t 11)⟩, ⟨some 13, none, .pick (.t 8) (.c (.bool true)) (.t 12)⟩, ⟨some 14, none, .mov (.t 13)⟩, ⟨some 15, some (14, false), .fa 2 (.t 1)⟩, ⟨some 16, some (14, false), .ld false 1 (.t 15)⟩, ⟨some 17, some (14, false), .call 135 [.t 16]⟩, ⟨some 18, some (14, false), .un .not (.t 17)⟩, ⟨some 19, none, .pick (.t 14) (.c (.bool true)) (.t 18)⟩, ⟨some 20, none, .mov (.t 19)⟩, ⟨some 21, some (20, false), .fa 3 (.t 1)⟩, ⟨some 22, some (20, false), .ld false 1 (.t 21)⟩, ⟨some 23, some (20, false), .call 135 [.t 22]⟩, ⟨some 24, some (20, false), .un .not (.t 23)⟩, ⟨some 25, none, .pick (.t 20) (.c (.bool true)) (.t 24)⟩, ⟨some 26, none, .mov (.t 25)⟩, ⟨some 27, some (26, false), .fa 4 (.t 1)⟩, ⟨some 28, some (26, false), .ld false 1 (.t 27)⟩, ⟨some 29, some (26, false), .len false (.t 28)⟩, ⟨some 30, some (26, false), .bin .gtr 3 (.t 29) (.c (.int .i64 31))⟩, ⟨some 31, none, .pick (.t 26) (.c (.bool true)) (.t 30)⟩]) (.cond (.t 31) (.seq (.reg [⟨some 2, none, .mov (.c (.bool false))⟩]) .ret) .skip)) (.seq (.seq (.reg [⟨some 3, none, .mov (.c (.int .i64 0))⟩]) (.blk 0 (.loop (.seq (.seq (.reg [⟨some 32, none, .mov (.t 3)⟩, ⟨some 33, none, .fa 4 (.t 1)⟩, ⟨some 34, none, .ld false 1 (.t 33)⟩, ⟨some 35, none, .len false (.t 34)⟩, ⟨some 36, none, .bin .lss 3 (.t 32) (.t 35)⟩]) (.cond (.t 36) .skip (.exit 0))) (.seq (.blk 1 (.seq (.reg [⟨some 39, none, .fa 4 (.t 1)⟩, ⟨some 40, none, .ld false 1 (.t 39)⟩, ⟨some 41, none, .mov (.t 3)⟩, ⟨some 42, none, .ia 2 (.t 40) (.t 41)⟩, ⟨some 43, none, .fa 0 (.t 42)⟩, ⟨some 44, none, .ld false 1 (.t 43)⟩, ⟨some 45, none, .call 135 [.t 44]⟩, ⟨some 46, none, .un .not (.t 45)⟩, ⟨some 47, none, .mov (.t 46)⟩, ⟨some 48, some (47, false), .fa 4 (.t 1)⟩, ⟨some 49, some (47, false), .ld false 1 (.t 48)⟩, ⟨some 50, some (47, false), .mov (.t 3)⟩, ⟨some 51, some (47, false), .ia 2 (.t 49) (.t 50)⟩, ⟨some 52, some (47, false), .fa 1 (.t 51)⟩, ⟨some 53, some (47, false), .ld false 1 (.t 52)⟩, ⟨some 54, some (47, false), .call 135 [.t 53]⟩, ⟨some 55, some (47, false), .un .not (.t 54)⟩, ⟨some 56, none, .pick (.t 47) (.c (.bool true)) (.t 55)⟩]) (.cond (.t 56) (.seq (.reg [⟨some 2, none, .mov (.c (.bool false))⟩]) .ret) .skip))) (.reg [⟨some 37, none, .mov (.t 3)⟩, ⟨some 38, none, .bin .add 3 (.t 37) (.c (.int .i64 1))⟩, ⟨some 3, none, .mov (.t 38)⟩])))))) (.seq (.reg [⟨some 2, none, .mov (.c (.bool true))⟩]) .ret)))
theorem code_spec_l16Plan : fnC Try.prog Try.f136 = some (c_spec_l16Plan, [.t 2], 57) := by kernel_rfl
def c_spec_DeedOk : C := .seq (.reg [⟨some 1, none, .box 90 11 (.t 0)⟩, ⟨some 2, none, .mov (.c (.bool false))⟩]) (.seq (.seq (.reg [⟨some 6, none, .fa 0 (.t 1)⟩, ⟨some 7, none, .ld false 1 (.t 6)⟩, ⟨some 8, none, .call 31 [.t 7, .c (.int .i64 1), .c (.int .i64 8)]⟩, ⟨some 9, none, .un .not (.t 8)⟩]) (.cond (.t 9) (.seq (.reg [⟨some 2, none, .mov (.c (.bool false))⟩]) .ret) .skip)) (.seq (.reg [⟨some 10, none, .fa 0 (.t 1)⟩, ⟨some 11, none, .ld false 1 (.t 10)⟩, ⟨some 12, none, .bin .eql 3 (.t 11) (.c (.int .i64 2))⟩, ⟨some 3, none, .mov (.t 12)⟩]) (.seq (.reg [⟨some 13, none, .fa 0 (.t 1)⟩, ⟨some 14, none, .ld false 1 (.t 13)⟩, ⟨some 15, none, .bin .eql 3 (.t 14) (.c (.int .i64 3))⟩, ⟨some 16, none, .mov (.t 15)⟩, ⟨some 17, some (16, false), .fa 0 (.t 1)⟩, ⟨some 18, some (16, false), .ld false 1 (.t 17)⟩, ⟨some 19, some (16, false), .bin .eql 3 (.t 18) (.c (.int .i64 4))⟩, ⟨some 20, none, .pick (.t 16) (.c (.bool true)) (.t 19)⟩, ⟨some 4, none, .mov (.t 20)⟩]) (.seq (.reg [⟨some 21, none, .mov (.t 3)⟩, ⟨some 22, none, .un .not (.t 21)⟩, ⟨some 23, none, .mov (.t 22)⟩, ⟨some 24, some (23, true), .fa 0 (.t 1)⟩, ⟨some 25, some (23, true), .ld false 1 (.t 24)⟩, ⟨some 26, some (23, true), .bin .neq 3 (.t 25) (.c (.int .i64 5))⟩, ⟨some 27, none, .pick (.t 23) (.t 26) (.c (.bool false))⟩, ⟨some 28, none, .mov (.t 27)⟩, ⟨some 29, some (28, true), .fa 0 (.t 1)⟩, ⟨some 30, some (28, true), .ld false 1 (.t 29)⟩, ⟨some 31, some (28, true), .bin .neq 3 (.t 30) (.c (.int .i64 8))⟩, ⟨some 32, none, .pick (.t 28) (.t 31) (.c (.bool false))⟩, ⟨some 5, none, .mov (.t 32)⟩]) (.seq (.seq (.reg [⟨some 33, none, .mov (.t 5)⟩, ⟨some 34, none, .mov (.t 33)⟩, ⟨some 35, some (34, true), .fa 1 (.t 1)⟩, ⟨some 36, some (34, true), .ld false 1 (.t 35)⟩, ⟨some 37, some (34, true), .call 135 [.t 36]⟩, ⟨some 38, some (34, true), .un .not (.t 37)⟩, ⟨some 39, none, .pick (.t 34) (.t 38) (.c (.bool false))⟩, ⟨some 40, none, .mov (.t 39)⟩, ⟨some 41, some (40, false), .mov (.t 5)⟩, ⟨some 42, some (40, false), .un .not (.t 41)⟩, ⟨some 43, some (40, false), .mov (.t 42)⟩, ⟨some 44, some (43, true), .fa 1 (.t 1)⟩, ⟨some 45, some (43, true), .ld false 1 (.t 44)⟩, ⟨some 46, some (43, true), .bin .neq 3 (.t 45) (.c (.int .i64 0))⟩, ⟨some 47, some (40, false), .pick (.t 43) (.t 46) (.c (.bool false))⟩, ⟨some 48, none, .pick (.t 40) (.c (.bool true)) (.t 47)⟩, ⟨some 49, none, .mov (.t 48)⟩, ⟨some 50, some (49, false), .mov (.t 4)⟩, ⟨some 51, some (49, false), .mov (.t 50)⟩, ⟨some 52, some (51, true), .fa 7 (.t 1)⟩, ⟨some 53, some (51, true), .ld false 1 (.t 52)⟩, ⟨some 54, some (51, true), .call 135 [.t 53]⟩, ⟨some 55, some (51, true), .un .not (.t 54)⟩, ⟨some 56, some (51, true), .mov (.t 55)⟩, ⟨some 57, some (56, false), .fa 8 (.t 1)⟩, ⟨some 58, some (56, false), .ld false 1 (.t 57)⟩, ⟨some 59, some (56, false), .call 135 [.t 58]⟩, ⟨some 60, some (56, false), .un .not (.t 59)⟩, ⟨some 61, some (51, true), .pick (.t 56) (.c (.bool true)) (.t 60)⟩, ⟨some 62, some (49, false), .pick (.t 51) (.t 61) (.c (.bool false))⟩, ⟨some 63, none, .pick (.t 49) (.c (.bool true)) (.t 62)⟩, ⟨some 64, none, .mov (.t 63)⟩, ⟨some 65, some (64, false), .mov (.t 4)⟩, ⟨some 66, some (64, false), .un .not (.t 65)⟩, ⟨some 67, some (64, false), .mov (.t 66)⟩, ⟨some 68, some (67, true), .fa 7 (.t 1)⟩, ⟨some 69, some (67, true), .ld false 1 (.t 68)⟩, ⟨some 70, some (67, true), .bin .neq 3 (.t 69) (.c (.int .i64 0))⟩, ⟨some 71, some (67, true), .mov (.t 70)⟩, ⟨some 72, some (71, false), .fa 8 (.t 1)⟩, ⟨some 73, some (71, false), .ld false 1 (.t 72)⟩, ⟨some 74, some (71, false), .bin .neq 3 (.t 73) (.c (.int .i64 0))⟩, ⟨some 75, some (67, true), .pick (.t 71) (.c (.bool true)) (.t 74)⟩, ⟨some 76, some (64, false), .pick (.t 67) (.t 75) (.c (.bool false))⟩, ⟨some 77, none, .pick (.t 64) (.c (.bool true)) (.t 76)⟩, ⟨some 78, none, .mov (.t 77)⟩, ⟨some 79, some (78, false), .mov (.t 3)⟩, ⟨some 80, some (78, false), .mov (.t 79)⟩, ⟨some 81, some (80, true), .fa 9 (.t 1)⟩, ⟨some 82, some (80, true), .ld false 1 (.t 81)⟩, ⟨some 83, some (80, true), .call 135 [.t 82]⟩, ⟨some 84, some (80, true), .un .not (.t 83)⟩, ⟨some 85, some (80, true), .mov (.t 84)⟩, ⟨some 86, some (85, false), .fa 10 (.t 1)⟩, ⟨some 87, some (85, false), .ld false 1 (.t 86)⟩, ⟨some 88, some (85, false), .call 135 [.t 87]⟩, ⟨some 89, some (85, false), .un .not (.t 88)⟩, ⟨some 90, some (80, true), .pick (.t 85) (.c (.bool true)) (.t 89)⟩, ⟨some 91, some (78, false), .pick (.t 80) (.t 90) (.c (.bool false))⟩, ⟨some 92, none, .pick (.t 78) (.c (.bool true)) (.t 91)⟩, ⟨some 93, none, .mov (.t 92)⟩, ⟨some 94, some (93, false), .mov (.t 3)⟩, ⟨some 95, some (93, false), .un .not (.t 94)⟩, ⟨some 96, some (93, false), .mov (.t 95)⟩, ⟨some 97, some (96, true), .fa 9 (.t 1)⟩, ⟨some 98, some (96, true), .ld false 1 (.t 97)⟩, ⟨some 99, some (96, true), .bin .neq 3 (.t 98) (.c (.int .i64 0))⟩, ⟨some 100, some (96, true), .mov (.t 99)⟩, ⟨some 101, some (100, false), .fa 10 (.t 1)⟩, ⟨some 102, some (100, false), .ld false 1 (.t 101)⟩, ⟨some 103, some (100, false), .bin .neq 3 (.t 102) (.c (.int .i64 0))⟩, ⟨some 104, some (96, true), .pick (.t 100) (.c (.bool true)) (.t 103)⟩, ⟨some 105, some (93, false), .pick (.t 96) (.t 104) (.c (.bool false))⟩, ⟨some 106, none, .pick (.t 93) (.c (.bool true)) (.t 105)⟩]) (.cond (.t 106) (.seq (.reg [⟨some 2, none, .mov (.c (.bool false))⟩]) .ret) .skip)) (.seq (.seq (.reg [⟨some 107, none, .fa 0 (.t 1)⟩, ⟨some 108, none, .ld false 1 (.t 107)⟩, ⟨some 109, none, .bin .eql 3 (.t 108) (.c (.int .i64 1))⟩]) (.cond (.t 109) (.seq (.reg [⟨some 110, none, .fa 2 (.t 1)⟩, ⟨some 111, none, .ld true 5 (.t 110)⟩, ⟨some 112, none, .call 136 [.t 111]⟩, ⟨some 2, none, .mov (.t 112)⟩]) .ret) .skip)) (.seq (.reg [⟨some 113, none, .fa 2 (.t 1)⟩, ⟨some 114, none, .ld true 5 (.t 113)⟩, ⟨some 115, none, .call 137 [.t 114]⟩, ⟨some 2, none, .mov (.t 115)⟩]) .ret)))))))
theorem code_spec_DeedOk : fnC Try.prog Try.f97 = some (c_spec_DeedOk, [.t 2], 116) := by kernel_rfl
def c_impl_usedOf : C := .seq (.reg [⟨some 1, none, .box 90 11 (.t 0)⟩, ⟨some 2, none, .alloc 90 [.int .i64 0, .int .i64 0, .int .i64 0, .int .i64 0, .int .i64 0, .int .i64 0, .slice none 0 0, .int .i64 0, .int .i64 0, .int .i64 0, .int .i64 0]⟩]) (.seq (.reg [⟨some 4, none, .fa 0 (.t 1)⟩, ⟨some 5, none, .ld false 1 (.t 4)⟩, ⟨some 6, none, .bld [.int .i64 0, .int .i64 0, .int .i64 0, .int .i64 0, .int .i64 0, .int .i64 0, .slice none 0 0, .int .i64 0, .int .i64 0, .int .i64 0, .int .i64 0] [(0, 1, .t 5)]⟩, ⟨some 3, none, .alloc 90 [.int .i64 0, .int .i64 0, .int .i64 0, .int .i64 0, .int .i64 0, .int .i64 0, .slice none 0 0, .int .i64 0, .int .i64 0, .int .i64 0, .int .i64 0]⟩, ⟨none, none, .st 11 [none, none, none, none, none, none, some (2, 132), none, none, none, none] (.t 3) (.t 6)⟩]) (.seq (.seq (.reg [⟨some 7, none, .fa 0 (.t 1)⟩, ⟨some 8, none, .ld false 1 (.t 7)⟩]) (.blk 0 (.seq (.reg [⟨some 10, none, .bin .eql 3 (.t 8) (.c (.int .i64 1))⟩, ⟨some 9, none, .mov (.t 10)⟩]) (.cond (.t 9) (.dreg (T.pure 0 ⟨some 11, none, .fa 1 (.t 1)⟩ (T.pure 1 ⟨some 12, none, .ld false 1 (.t 11)⟩ (T.pure 2 ⟨some 13, none, .fa 2 (.t 1)⟩ (T.pure 3 ⟨some 14, none, .ld true 5 (.t 13)⟩ (T.pure 4 ⟨some 15, none, .fa 1 (.t 3)⟩ (T.alt ⟨none, none, .st 1 [none] (.t 15) (.t 12)⟩ [3, 2] (T.pure 6 ⟨some 16, none, .fa 2 (.t 3)⟩ (T.alt ⟨none, none, .st 5 [none, none, none, none, some (2, 132)] (.t 16) (.t 14)⟩ [] T.done T.stop)) T.stop))))))) (.seq (.reg [⟨some 18, none, .bin .eql 3 (.t 8) (.c (.int .i64 2))⟩, ⟨some 17, none, .mov (.t 18)⟩]) (.cond (.t 17) (.dreg (T.pure 0 ⟨some 19, none, .fa 9 (.t 1)⟩ (T.pure 1 ⟨some 20, none, .ld false 1 (.t 19)⟩ (T.pure 2 ⟨some 21, none, .fa 10 (.t 1)⟩ (T.pure 3 ⟨some 22, none, .ld false 1 (.t 21)⟩ (T.pure 4 ⟨some 23, none, .fa 9 (.t 3)⟩ (T.alt ⟨none, none, .st 1 [none] (.t 23) (.t 20)⟩ [3, 2] (T.pure 6 ⟨some 24, none, .fa 10 (.t 3)⟩ (T.alt ⟨none, none, .st 1 [none] (.t 24) (.t 22)⟩ [] T.done T.stop)) T.stop))))))) (.seq (.seq (.reg [⟨some 26, none, .bin .eql 3 (.t 8) (.c (.int .i64 3))⟩, ⟨some 25, none, .mov (.t 26)⟩]) (.cond (.t 25) .skip (.reg [⟨some 27, none, .bin .eql 3 (.t 8) (.c (.int .i64 4))⟩, ⟨some 25, none, .mov (.t 27)⟩]))) (.cond (.t 25) (.dreg (T.pure 0 ⟨some 28, none, .fa 1 (.t 1)⟩ (T.pure 1 ⟨some 29, none, .ld false 1 (.t 28)⟩ (T.pure 2 ⟨some 30, none, .fa 7 (.t 1)⟩ (T.pure 3 ⟨some 31, none, .ld false 1 (.t 30)⟩ (T.pure 4 ⟨some 32, none, .fa 8 (.t 1)⟩ (T.pure 5 ⟨some 33, none, .ld false 1 (.t 32)⟩ (T.pure 6 ⟨some 34, none, .fa 1 (.t 3)⟩ (T.alt ⟨none, none, .st 1 [none] (.t 34) (.t 29)⟩ [5, 4, 3, 2] (T.pure 8 ⟨some 35, none, .fa 7 (.t 3)⟩ (T.alt ⟨none, none, .st 1 [none] (.t 35) (.t 31)⟩ [5, 4] (T.pure 10 ⟨some 36, none, .fa 8 (.t 3)⟩ (T.alt ⟨none, none, .st 1 [none] (.t 36) (.t 33)⟩ [] T.done T.stop)) T.stop)) T.stop))))))))) (.seq (.seq (.reg [⟨some 38, none, .bin .eql 3 (.t 8) (.c (.int .i64 6))⟩, ⟨some 37, none, .mov (.t 38)⟩]) (.cond (.t 37) .skip (.reg [⟨some 39, none, .bin .eql 3 (.t 8) (.c (.int .i64 7))⟩, ⟨some 37, none, .mov (.t 39)⟩]))) (.cond (.t 37) (.reg [⟨some 40, none, .fa 1 (.t 1)⟩, ⟨some 41, none, .ld false 1 (.t 40)⟩, ⟨some 42, none, .fa 1 (.t 3)⟩, ⟨none, none, .st 1 [none] (.t 42) (.t 41)⟩]) .skip)))))))))) (.seq (.reg [⟨some 43, none, .ld true 11 (.t 3)⟩, ⟨none, none, .st 11 [none, none, none, none, none, none, some (2, 132), none, none, none, none] (.t 2) (.t 43)⟩]) .ret)))
theorem code_impl_usedOf : fnC Try.prog Try.f141 = some (c_impl_usedOf, [.cell 2 true 11], 44) := by kernel_rfl
def c_impl_deedNumbers : C := .seq (.reg [⟨some 1, none, .box 90 11 (.t 0)⟩, ⟨some 2, none, .mov (.c (.slice none 0 0))⟩]) (.seq (.seq (.reg [⟨some 6, none, .fa 0 (.t 1)⟩, ⟨some 7, none, .ld false 1 (.t 6)⟩]) (.blk 0 (.seq (.reg [⟨some 9, none, .bin .eql 3 (.t 7) (.c (.int .i64 1))⟩, ⟨some 8, none, .mov (.t 9)⟩]) (.cond (.t 8) (.seq (.reg [⟨some 10, none, .fa 1 (.t 1)⟩, ⟨some 11, none, .ld false 1 (.t 10)⟩, ⟨some 12, none, .fa 2 (.t 1)⟩, ⟨some 13, none, .fa 0 (.t 12)⟩, ⟨some 14, none, .ld false 1 (.t 13)⟩, ⟨some 15, none, .fa 2 (.t 1)⟩, ⟨some 16, none, .fa 1 (.t 15)⟩, ⟨some 17, none, .ld false 1 (.t 16)⟩, ⟨some 18, none, .fa 2 (.t 1)⟩, ⟨some 19, none, .fa 2 (.t 18)⟩, ⟨some 20, none, .ld false 1 (.t 19)⟩, ⟨some 21, none, .fa 2 (.t 1)⟩, ⟨some 22, none, .fa 3 (.t 21)⟩, ⟨some 23, none, .ld false 1 (.t 22)⟩, ⟨some 24, none, .fa 2 (.t 1)⟩, ⟨some 25, none, .fa 4 (.t 24)⟩, ⟨some 26, none, .ld false 1 (.t 25)⟩, ⟨some 27, none, .len false (.t 26)⟩, ⟨some 28, none, .bsl 3 1 6 [none, none, none, none, none, none] [(0, 1, .t 11), (1, 1, .t 14), (2, 1, .t 17), (3, 1, .t 20), (4, 1, .t 23), (5, 1, .t 27)]⟩, ⟨some 3, none, .mov (.t 28)⟩]) (.seq (.seq (.reg [⟨some 29, none, .fa 2 (.t 1)⟩, ⟨some 30, none, .fa 4 (.t 29)⟩, ⟨some 31, none, .ld false 1 (.t 30)⟩, ⟨some 32, none, .len false (.t 31)⟩, ⟨some 33, none, .mov (.c (.int .i64 0))⟩]) (.blk 1 (.loop (.seq (.reg [⟨some 34, none, .bin .lss 3 (.t 33) (.t 32)⟩]) (.seq (.cond (.t 34) .skip (.exit 1)) (.seq (.blk 2 (.seq (.reg [⟨some 35, none, .ia 2 (.t 31) (.t 33)⟩, ⟨some 36, none, .ld true 2 (.t 35)⟩, ⟨some 5, none, .alloc 132 [.int .i64 0, .int .i64 0]⟩, ⟨none, none, .st 2 [none, none] (.t 5) (.t 36)⟩]) (.reg [⟨some 37, none, .mov (.t 3)⟩, ⟨some 38, none, .fa 0 (.t 5)⟩, ⟨some 39, none, .ld false 1 (.t 38)⟩, ⟨some 40, none, .fa 1 (.t 5)⟩, ⟨some 41, none, .ld false 1 (.t 40)⟩, ⟨some 42, none, .bsl 3 1 2 [none, none] [(0, 1, .t 39), (1, 1, .t 41)]⟩, ⟨some 43, none, .app 3 1 8 (.t 37) (.t 42)⟩, ⟨some 3, none, .mov (.t 43)⟩]))) (.reg [⟨some 44, none, .bin .add 3 (.t 33) (.c (.int .i64 1))⟩, ⟨some 33, none, .mov (.t 44)⟩]))))))) (.seq (.reg [⟨some 45, none, .mov (.t 3)⟩, ⟨some 2, none, .mov (.t 45)⟩]) .ret))) (.seq (.reg [⟨some 47, none, .bin .eql 3 (.t 7) (.c (.int .i64 2))⟩, ⟨some 46, none, .mov (.t 47)⟩]) (.cond (.t 46) (.seq (.reg [⟨some 48, none, .fa 9 (.t 1)⟩, ⟨some 49, none, .ld false 1 (.t 48)⟩, ⟨some 50, none, .fa 10 (.t 1)⟩, ⟨some 51, none, .ld false 1 (.t 50)⟩, ⟨some 52, none, .bsl 3 1 2 [none, none] [(0, 1, .t 49), (1, 1, .t 51)]⟩, ⟨some 2, none, .mov (.t 52)⟩]) .ret) (.seq (.seq (.reg [⟨some 54, none, .bin .eql 3 (.t 7) (.c (.int .i64 3))⟩, ⟨some 53, none, .mov (.t 54)⟩]) (.cond (.t 53) .skip (.reg [⟨some 55, none, .bin .eql 3 (.t 7) (.c (.int .i64 4))⟩, ⟨some 53, none, .mov (.t 55)⟩]))) (.cond (.t 53) (.seq (.reg [⟨some 56, none, .fa 1 (.t 1)⟩, ⟨some 57, none, .ld false 1 (.t 56)⟩, ⟨some 58, none, .fa 7 (.t 1)⟩, ⟨some 59, none, .ld false 1 (.t 58)⟩, ⟨some 60, none, .fa 8 (.t 1)⟩, ⟨some 61, none, .ld false 1 (.t 60)⟩, ⟨some 62, none, .bsl 3 1 3 [none, none, none] [(0, 1, .t 57), (1, 1, .t 59), (2, 1, .t 61)]⟩, ⟨some 2, none, .mov (.t 62)⟩]) .ret) (.seq (.seq (.reg [⟨some 64, none, .bin .eql 3 (.t 7) (.c (.int .i64 6))⟩, ⟨some 63, none, .mov (.t 64)⟩]) (.cond (.t 63) .skip (.reg [⟨some 65, none, .bin .eql 3 (.t 7) (.c (.int .i64 7))⟩, ⟨some 63, none, .mov (.t 65)⟩]))) (.cond (.t 63) (.seq (.reg [⟨some 66, none, .fa 1 (.t 1)⟩, ⟨some 67, none, .ld false 1 (.t 66)⟩, ⟨some 68, none, .bsl 3 1 1 [none] [(0, 1, .t 67)]⟩, ⟨some 2, none, .mov (.t 68)⟩]) .ret) .skip)))))))))) (.seq (.reg [⟨some 2, none, .mov (.c (.slice none 0 0))⟩]) .ret))
theorem code_impl_deedNumbers : fnC Try.prog Try.f101 = some (c_impl_deedNumbers, [.t 2], 69) := by kernel_rfl
def c_impl_DeedOk : C := .seq (.reg [⟨some 1, none, .box 90 11 (.t 0)⟩, ⟨some 2, none, .mov (.c (.bool false))⟩]) (.seq (.seq (.dreg (T.pure 0 ⟨some 5, none, .fa 0 (.t 1)⟩ (T.pure 1 ⟨some 6, none, .ld false 1 (.t 5)⟩ (T.alt ⟨some 7, none, .call 40 [.t 6, .c (.int .i64 1), .c (.int .i64 8)]⟩ [] (T.pure 3 ⟨some 8, none, .un .not (.t 7)⟩ (T.pure 4 ⟨some 9, none, .mov (.t 8)⟩ (T.pure 5 ⟨some 10, some (9, false), .fa 2 (.t 1)⟩ (T.pure 6 ⟨some 11, some (9, false), .fa 4 (.t 10)⟩ (T.pure 7 ⟨some 12, some (9, false), .ld false 1 (.t 11)⟩ (T.pure 8 ⟨some 13, some (9, false), .len false (.t 12)⟩ (T.pure 9 ⟨some 14, some (9, false), .bin .gtr 3 (.t 13) (.c (.int .i64 31))⟩ (T.pure 10 ⟨some 15, none, .pick (.t 9) (.c (.bool true)) (.t 14)⟩ (T.pure 11 ⟨some 16, none, .mov (.t 15)⟩ (T.pure 12 ⟨some 17, some (16, false), .ld true 11 (.t 1)⟩ (T.pure 13 ⟨some 18, some (16, false), .ld true 11 (.t 1)⟩ (T.alt ⟨some 19, some (16, false), .call 141 [.t 18]⟩ [12] (T.alt ⟨some 20, some (16, false), .call 140 [.t 17, .t 19]⟩ [] (T.pure 16 ⟨some 21, some (16, false), .un .not (.t 20)⟩ (T.pure 17 ⟨some 22, none, .pick (.t 16) (.c (.bool true)) (.t 21)⟩ T.done)) T.stop) T.stop)))))))))))) T.stop)))) (.cond (.t 22) (.seq (.reg [⟨some 2, none, .mov (.c (.bool false))⟩]) .ret) .skip)) (.seq (.seq (.reg [⟨some 23, none, .ld true 11 (.t 1)⟩, ⟨some 24, none, .call 101 [.t 23]⟩, ⟨some 25, none, .len false (.t 24)⟩, ⟨some 26, none, .mov (.c (.int .i64 0))⟩]) (.blk 0 (.loop (.seq (.reg [⟨some 27, none, .bin .lss 3 (.t 26) (.t 25)⟩]) (.seq (.cond (.t 27) .skip (.exit 0)) (.seq (.blk 1 (.seq (.reg [⟨some 28, none, .ia 1 (.t 24) (.t 26)⟩, ⟨some 29, none, .ld false 1 (.t 28)⟩, ⟨some 4, none, .mov (.t 29)⟩]) (.seq (.reg [⟨some 30, none, .mov (.t 4)⟩, ⟨some 31, none, .call 40 [.t 30, .c (.int .i64 0), .c (.int .i64 1000000000)]⟩, ⟨some 32, none, .un .not (.t 31)⟩]) (.cond (.t 32) (.seq (.reg [⟨some 2, none, .mov (.c (.bool false))⟩]) .ret) .skip)))) (.reg [⟨some 33, none, .bin .add 3 (.t 26) (.c (.int .i64 1))⟩, ⟨some 26, none, .mov (.t 33)⟩]))))))) (.seq (.reg [⟨some 2, none, .mov (.c (.bool true))⟩]) .ret)))
theorem code_impl_DeedOk : fnC Try.prog Try.f100 = some (c_impl_DeedOk, [.t 2], 34) := by kernel_rfl
def numB (n : Int) : Bool := decide (0 ≤ n ∧ n ≤ 1000000000)
theorem p_l16Num (n : Int) : Pure Try.prog 135 [.c (.val (.int .i64 n))] (.c (.val (.bool (numB n)))) := by
  refine pure_fn Try.func135 code_spec_l16Num (by simp) ?_
  unfold c_spec_l16Num
  simp -implicitDefEqProofs only [go_sem]
  refine run_call (p_spec_l01In n 0 1000000000) (by simp -implicitDefEqProofs only [go_sem]) fun η => ?_
  simp -implicitDefEqProofs only [go_sem]
  rfl
def noPlanB (p : Pl) : Bool := p.prio == 0 && p.most == 0 && p.wait == 0 && p.tasks == 0 && ((p.edges.length : Int) == 0)
theorem p_l16NoPlan (p : Pl) : Pure Try.prog 137 [.agg (encPl p)] (.c (.val (.bool (noPlanB p)))) := by
  refine pure_fn Try.func137 code_spec_l16NoPlan (by simp) ?_
  unfold c_spec_l16NoPlan
  cases h1 : p.prio == 0 <;> cases h2 : p.most == 0 <;> cases h3 : p.wait == 0 <;> cases h4 : p.tasks == 0
  all_goals
    simp -implicitDefEqProofs only [go_sem, encPl, h1, h2, h3, h4]
    intros
    simp [noPlanB, h1, h2, h3, h4]
def edB (e : Ed) : Bool := numB e.src && numB e.dst
def planB (p : Pl) : Bool := numB p.prio && numB p.most && numB p.wait && numB p.tasks && decide (p.edges.length ≤ 31) && p.edges.all edB
theorem all_take {α : Type} {f : α → Bool} {l : List α} {k : Nat} {x : α} (h : l[k]? = some x) (ht : (l.take k).all f = true) (hx : f x = true) : (l.take (k + 1)).all f = true := by
  rw [List.take_add_one, h]; simp only [List.all_append, ht, Option.toList_some, List.all_cons, hx, List.all_nil, Bool.and_self]
theorem all_no {α : Type} {f : α → Bool} {l : List α} {k : Nat} {x : α} (h : l[k]? = some x) (hx : f x = false) : l.all f = false := by
  rw [List.all_eq_false]
  exact ⟨x, List.mem_of_getElem? h, by simp [hx]⟩
theorem p_l16Plan (p : Pl) (hb : p.edges.length ≤ 4000000) : Pure Try.prog 136 [.agg (encPl p)] (.c (.val (.bool (planB p)))) := by
  refine pure_fn Try.func136 code_spec_l16Plan (by simp) ?_
  unfold c_spec_l16Plan
  simp -implicitDefEqProofs only [go_sem, encPl]
  intros
  refine run_call (p_l16Num p.prio) (by simp -implicitDefEqProofs only [go_sem]) fun η => ?_
  cases h1 : numB p.prio
  · simp -implicitDefEqProofs only [go_sem, h1]
    simp [planB, h1]
  simp -implicitDefEqProofs only [go_sem, h1]
  refine run_call (p_l16Num p.most) (by simp -implicitDefEqProofs only [go_sem]) fun η => ?_
  cases h2 : numB p.most
  · simp -implicitDefEqProofs only [go_sem, h1, h2]
    simp [planB, h1, h2]
  simp -implicitDefEqProofs only [go_sem, h1, h2]
  refine run_call (p_l16Num p.wait) (by simp -implicitDefEqProofs only [go_sem]) fun η => ?_
  cases h3 : numB p.wait
  · simp -implicitDefEqProofs only [go_sem, h1, h2, h3]
    simp [planB, h1, h2, h3]
  simp -implicitDefEqProofs only [go_sem, h1, h2, h3]
  refine run_call (p_l16Num p.tasks) (by simp -implicitDefEqProofs only [go_sem]) fun η => ?_
  cases h4 : numB p.tasks
  · simp -implicitDefEqProofs only [go_sem, h1, h2, h3, h4]
    simp [planB, h1, h2, h3, h4]
  by_cases h5 : p.edges.length ≤ 31
  · have h5' : ¬ (31 : Int) < p.edges.length := by omega
    simp -implicitDefEqProofs only [go_sem, h1, h2, h3, h4, h5']
    refine wp_loop_ (fun s => ∃ (k b : Nat) (ty : Nat), k ≤ p.edges.length ∧ (p.edges.take k).all edB = true ∧ s.t 3 = .c (.v (.int .i64 k)) ∧ s.t 1 = .c (.bp 100 0 b) ∧ s.o 100 = .box b ty [.a (.v (.int .i64 p.prio)), .a (.v (.int .i64 p.most)), .a (.v (.int .i64 p.wait)), .a (.v (.int .i64 p.tasks)), .a (.ro (encEds p.edges))]) (fun s => p.edges.length - s.n 3) ?_ ?_
    · exact ⟨0, _, _, Nat.zero_le _, rfl, by simp -implicitDefEqProofs only [go_sem] <;> rfl, by simp -implicitDefEqProofs only [go_sem] <;> rfl, by simp -implicitDefEqProofs only [go_sem] <;> rfl⟩
    · rintro s ⟨k, b, ty, hk, ha, ht3, ht1, hob⟩
      by_cases hlt : k < p.edges.length
      · have hlt' : (k : Int) < p.edges.length := by omega
        obtain ⟨x, hx⟩ := get_some hlt
        have hw : IntKind.i64.wrap ((k : Int) + 1) = ((k + 1 : Nat) : Int) := wrap64 (by omega) (by omega)
        simp -implicitDefEqProofs only [go_sem, ht3, ht1, hob, hlt, hlt', elem_encEds hx, encEd]
        refine run_call (p_l16Num x.src) (by simp -implicitDefEqProofs only [go_sem]) fun η => ?_
        cases h6 : numB x.src
        · simp -implicitDefEqProofs only [go_sem, ht3, ht1, hob, h6]
          have := all_no (f := edB) hx (by simp [edB, h6])
          simp [planB, this]
        simp -implicitDefEqProofs only [go_sem, ht3, ht1, hob, hlt, hlt', elem_encEds hx, encEd, h6]
        refine run_call (p_l16Num x.dst) (by simp -implicitDefEqProofs only [go_sem]) fun η => ?_
        cases h7 : numB x.dst
        · simp -implicitDefEqProofs only [go_sem, ht3, ht1, hob, h6, h7]
          have := all_no (f := edB) hx (by simp [edB, h6, h7])
          simp [planB, this]
        simp -implicitDefEqProofs only [go_sem, ht3, ht1, hob, h6, h7, hw]
        refine ⟨⟨k + 1, b, ty, ?_⟩, ?_⟩
        · and_intros <;> first | rfl | omega | exact all_take hx ha (by simp [edB, h6, h7])
        · rw [st_n (k := .i64) (n := ((k + 1 : Nat) : Int)) (by simp -implicitDefEqProofs only [go_sem]), st_n ht3]; omega
      · have hlt' : ¬ (k : Int) < p.edges.length := by omega
        rw [List.take_of_length_le (by omega)] at ha
        simp -implicitDefEqProofs only [go_sem, ht3, ht1, hob, hlt']
        simp [planB, h1, h2, h3, h4, h5, ha]
  · have h5' : (31 : Int) < p.edges.length := by omega
    simp -implicitDefEqProofs only [go_sem, h1, h2, h3, h4, h5']
    simp [planB, h5]
/-- What a deed has to be. -/
def deedB (d : Dd) : Bool :=
  if d.kind = 1 then numB d.run && d.task == 0 && d.tri == 0 && d.worker == 0 && d.draw == 0 && planB d.plan
  else if d.kind = 2 then d.run == 0 && d.task == 0 && d.tri == 0 && numB d.worker && numB d.draw && noPlanB d.plan
  else if d.kind = 3 ∨ d.kind = 4 then numB d.run && numB d.task && numB d.tri && d.worker == 0 && d.draw == 0 && noPlanB d.plan
  else if d.kind = 5 ∨ d.kind = 8 then d.run == 0 && d.task == 0 && d.tri == 0 && d.worker == 0 && d.draw == 0 && noPlanB d.plan
  else if d.kind = 6 ∨ d.kind = 7 then numB d.run && d.task == 0 && d.tri == 0 && d.worker == 0 && d.draw == 0 && noPlanB d.plan
  else false
set_option maxHeartbeats 4000000 in
theorem p_spec_DeedOk (d : Dd) (hb : totDd d ≤ 2000000) : Pure Try.prog 97 [.agg (encDd d)] (.c (.val (.bool (deedB d)))) := by
  refine pure_fn Try.func97 code_spec_DeedOk (by simp) ?_
  unfold c_spec_DeedOk
  obtain ⟨kind, run, plan, task, tri, worker, draw⟩ := d
  have hp : plan.edges.length ≤ 4000000 := by simp only [totDd, totPl] at hb; omega
  by_cases hk : 1 ≤ kind ∧ kind ≤ 8
  · have : kind = 1 ∨ kind = 2 ∨ kind = 3 ∨ kind = 4 ∨ kind = 5 ∨ kind = 6 ∨ kind = 7 ∨ kind = 8 := by omega
    simp -implicitDefEqProofs only [go_sem, encDd, encPl]
    intros
    refine run_call (p_spec_l01In kind 1 8) (by simp -implicitDefEqProofs only [go_sem]) fun η => ?_
    rcases this with rfl | rfl | rfl | rfl | rfl | rfl | rfl | rfl
    · simp -implicitDefEqProofs only [go_sem, encDd, encPl]
      refine run_call (p_l16Num run) (by simp -implicitDefEqProofs only [go_sem]) fun η => ?_
      cases g0 : numB run
      · simp -implicitDefEqProofs only [go_sem, encDd, encPl, g0]
        simp [deedB, g0]
      simp -implicitDefEqProofs only [go_sem, encDd, encPl, g0]
      by_cases e1 : task = 0
      rotate_left
      · have g1 : (task != 0) = true := by simpa using e1
        simp -implicitDefEqProofs only [go_sem, encDd, encPl, g0, g1]
        simp [deedB, e1, g0]
      subst e1
      simp -implicitDefEqProofs only [go_sem, encDd, encPl, g0]
      by_cases e2 : tri = 0
      rotate_left
      · have g2 : (tri != 0) = true := by simpa using e2
        simp -implicitDefEqProofs only [go_sem, encDd, encPl, g0, g2]
        simp [deedB, e2, g0]
      subst e2
      simp -implicitDefEqProofs only [go_sem, encDd, encPl, g0]
      by_cases e3 : worker = 0
      rotate_left
      · have g3 : (worker != 0) = true := by simpa using e3
        simp -implicitDefEqProofs only [go_sem, encDd, encPl, g0, g3]
        simp [deedB, e3, g0]
      subst e3
      simp -implicitDefEqProofs only [go_sem, encDd, encPl, g0]
      by_cases e4 : draw = 0
      rotate_left
      · have g4 : (draw != 0) = true := by simpa using e4
        simp -implicitDefEqProofs only [go_sem, encDd, encPl, g0, g4]
        simp [deedB, e4, g0]
      subst e4
      simp -implicitDefEqProofs only [go_sem, encDd, encPl, g0]
      refine run_call (p_l16Plan plan hp) (by simp -implicitDefEqProofs only [go_sem, encPl]) fun η => ?_
      simp -implicitDefEqProofs only [go_sem, encDd, encPl, g0]
      simp [deedB, g0]
    · simp -implicitDefEqProofs only [go_sem, encDd, encPl]
      by_cases e0 : run = 0
      rotate_left
      · have g0 : (run != 0) = true := by simpa using e0
        simp -implicitDefEqProofs only [go_sem, encDd, encPl, g0]
        simp [deedB, e0]
      subst e0
      simp -implicitDefEqProofs only [go_sem, encDd, encPl]
      by_cases e1 : task = 0
      rotate_left
      · have g1 : (task != 0) = true := by simpa using e1
        simp -implicitDefEqProofs only [go_sem, encDd, encPl, g1]
        simp [deedB, e1]
      subst e1
      simp -implicitDefEqProofs only [go_sem, encDd, encPl]
      by_cases e2 : tri = 0
      rotate_left
      · have g2 : (tri != 0) = true := by simpa using e2
        simp -implicitDefEqProofs only [go_sem, encDd, encPl, g2]
        simp [deedB, e2]
      subst e2
      simp -implicitDefEqProofs only [go_sem, encDd, encPl]
      refine run_call (p_l16Num worker) (by simp -implicitDefEqProofs only [go_sem]) fun η => ?_
      cases g3 : numB worker
      · simp -implicitDefEqProofs only [go_sem, encDd, encPl, g3]
        simp [deedB, g3]
      simp -implicitDefEqProofs only [go_sem, encDd, encPl, g3]
      refine run_call (p_l16Num draw) (by simp -implicitDefEqProofs only [go_sem]) fun η => ?_
      cases g4 : numB draw
      · simp -implicitDefEqProofs only [go_sem, encDd, encPl, g3, g4]
        simp [deedB, g3, g4]
      simp -implicitDefEqProofs only [go_sem, encDd, encPl, g3, g4]
      refine run_call (p_l16NoPlan plan) (by simp -implicitDefEqProofs only [go_sem, encPl]) fun η => ?_
      simp -implicitDefEqProofs only [go_sem, encDd, encPl, g3, g4]
      simp [deedB, g3, g4]
    · simp -implicitDefEqProofs only [go_sem, encDd, encPl]
      refine run_call (p_l16Num run) (by simp -implicitDefEqProofs only [go_sem]) fun η => ?_
      cases g0 : numB run
      · simp -implicitDefEqProofs only [go_sem, encDd, encPl, g0]
        simp [deedB, g0]
      simp -implicitDefEqProofs only [go_sem, encDd, encPl, g0]
      refine run_call (p_l16Num task) (by simp -implicitDefEqProofs only [go_sem]) fun η => ?_
      cases g1 : numB task
      · simp -implicitDefEqProofs only [go_sem, encDd, encPl, g0, g1]
        simp [deedB, g0, g1]
      simp -implicitDefEqProofs only [go_sem, encDd, encPl, g0, g1]
      refine run_call (p_l16Num tri) (by simp -implicitDefEqProofs only [go_sem]) fun η => ?_
      cases g2 : numB tri
      · simp -implicitDefEqProofs only [go_sem, encDd, encPl, g0, g1, g2]
        simp [deedB, g0, g1, g2]
      simp -implicitDefEqProofs only [go_sem, encDd, encPl, g0, g1, g2]
      by_cases e3 : worker = 0
      rotate_left
      · have g3 : (worker != 0) = true := by simpa using e3
        simp -implicitDefEqProofs only [go_sem, encDd, encPl, g0, g1, g2, g3]
        simp [deedB, e3, g0, g1, g2]
      subst e3
      simp -implicitDefEqProofs only [go_sem, encDd, encPl, g0, g1, g2]
      by_cases e4 : draw = 0
      rotate_left
      · have g4 : (draw != 0) = true := by simpa using e4
        simp -implicitDefEqProofs only [go_sem, encDd, encPl, g0, g1, g2, g4]
        simp [deedB, e4, g0, g1, g2]
      subst e4
      simp -implicitDefEqProofs only [go_sem, encDd, encPl, g0, g1, g2]
      refine run_call (p_l16NoPlan plan) (by simp -implicitDefEqProofs only [go_sem, encPl]) fun η => ?_
      simp -implicitDefEqProofs only [go_sem, encDd, encPl, g0, g1, g2]
      simp [deedB, g0, g1, g2]
    · simp -implicitDefEqProofs only [go_sem, encDd, encPl]
      refine run_call (p_l16Num run) (by simp -implicitDefEqProofs only [go_sem]) fun η => ?_
      cases g0 : numB run
      · simp -implicitDefEqProofs only [go_sem, encDd, encPl, g0]
        simp [deedB, g0]
      simp -implicitDefEqProofs only [go_sem, encDd, encPl, g0]
      refine run_call (p_l16Num task) (by simp -implicitDefEqProofs only [go_sem]) fun η => ?_
      cases g1 : numB task
      · simp -implicitDefEqProofs only [go_sem, encDd, encPl, g0, g1]
        simp [deedB, g0, g1]
      simp -implicitDefEqProofs only [go_sem, encDd, encPl, g0, g1]
      refine run_call (p_l16Num tri) (by simp -implicitDefEqProofs only [go_sem]) fun η => ?_
      cases g2 : numB tri
      · simp -implicitDefEqProofs only [go_sem, encDd, encPl, g0, g1, g2]
        simp [deedB, g0, g1, g2]
      simp -implicitDefEqProofs only [go_sem, encDd, encPl, g0, g1, g2]
      by_cases e3 : worker = 0
      rotate_left
      · have g3 : (worker != 0) = true := by simpa using e3
        simp -implicitDefEqProofs only [go_sem, encDd, encPl, g0, g1, g2, g3]
        simp [deedB, e3, g0, g1, g2]
      subst e3
      simp -implicitDefEqProofs only [go_sem, encDd, encPl, g0, g1, g2]
      by_cases e4 : draw = 0
      rotate_left
      · have g4 : (draw != 0) = true := by simpa using e4
        simp -implicitDefEqProofs only [go_sem, encDd, encPl, g0, g1, g2, g4]
        simp [deedB, e4, g0, g1, g2]
      subst e4
      simp -implicitDefEqProofs only [go_sem, encDd, encPl, g0, g1, g2]
      refine run_call (p_l16NoPlan plan) (by simp -implicitDefEqProofs only [go_sem, encPl]) fun η => ?_
      simp -implicitDefEqProofs only [go_sem, encDd, encPl, g0, g1, g2]
      simp [deedB, g0, g1, g2]
    · simp -implicitDefEqProofs only [go_sem, encDd, encPl]
      by_cases e0 : run = 0
      rotate_left
      · have g0 : (run != 0) = true := by simpa using e0
        simp -implicitDefEqProofs only [go_sem, encDd, encPl, g0]
        simp [deedB, e0]
      subst e0
      simp -implicitDefEqProofs only [go_sem, encDd, encPl]
      by_cases e1 : task = 0
      rotate_left
      · have g1 : (task != 0) = true := by simpa using e1
        simp -implicitDefEqProofs only [go_sem, encDd, encPl, g1]
        simp [deedB, e1]
      subst e1
      simp -implicitDefEqProofs only [go_sem, encDd, encPl]
      by_cases e2 : tri = 0
      rotate_left
      · have g2 : (tri != 0) = true := by simpa using e2
        simp -implicitDefEqProofs only [go_sem, encDd, encPl, g2]
        simp [deedB, e2]
      subst e2
      simp -implicitDefEqProofs only [go_sem, encDd, encPl]
      by_cases e3 : worker = 0
      rotate_left
      · have g3 : (worker != 0) = true := by simpa using e3
        simp -implicitDefEqProofs only [go_sem, encDd, encPl, g3]
        simp [deedB, e3]
      subst e3
      simp -implicitDefEqProofs only [go_sem, encDd, encPl]
      by_cases e4 : draw = 0
      rotate_left
      · have g4 : (draw != 0) = true := by simpa using e4
        simp -implicitDefEqProofs only [go_sem, encDd, encPl, g4]
        simp [deedB, e4]
      subst e4
      simp -implicitDefEqProofs only [go_sem, encDd, encPl]
      refine run_call (p_l16NoPlan plan) (by simp -implicitDefEqProofs only [go_sem, encPl]) fun η => ?_
      simp -implicitDefEqProofs only [go_sem, encDd, encPl]
      simp [deedB]
    · simp -implicitDefEqProofs only [go_sem, encDd, encPl]
      refine run_call (p_l16Num run) (by simp -implicitDefEqProofs only [go_sem]) fun η => ?_
      cases g0 : numB run
      · simp -implicitDefEqProofs only [go_sem, encDd, encPl, g0]
        simp [deedB, g0]
      simp -implicitDefEqProofs only [go_sem, encDd, encPl, g0]
      by_cases e1 : task = 0
      rotate_left
      · have g1 : (task != 0) = true := by simpa using e1
        simp -implicitDefEqProofs only [go_sem, encDd, encPl, g0, g1]
        simp [deedB, e1, g0]
      subst e1
      simp -implicitDefEqProofs only [go_sem, encDd, encPl, g0]
      by_cases e2 : tri = 0
      rotate_left
      · have g2 : (tri != 0) = true := by simpa using e2
        simp -implicitDefEqProofs only [go_sem, encDd, encPl, g0, g2]
        simp [deedB, e2, g0]
      subst e2
      simp -implicitDefEqProofs only [go_sem, encDd, encPl, g0]
      by_cases e3 : worker = 0
      rotate_left
      · have g3 : (worker != 0) = true := by simpa using e3
        simp -implicitDefEqProofs only [go_sem, encDd, encPl, g0, g3]
        simp [deedB, e3, g0]
      subst e3
      simp -implicitDefEqProofs only [go_sem, encDd, encPl, g0]
      by_cases e4 : draw = 0
      rotate_left
      · have g4 : (draw != 0) = true := by simpa using e4
        simp -implicitDefEqProofs only [go_sem, encDd, encPl, g0, g4]
        simp [deedB, e4, g0]
      subst e4
      simp -implicitDefEqProofs only [go_sem, encDd, encPl, g0]
      refine run_call (p_l16NoPlan plan) (by simp -implicitDefEqProofs only [go_sem, encPl]) fun η => ?_
      simp -implicitDefEqProofs only [go_sem, encDd, encPl, g0]
      simp [deedB, g0]
    · simp -implicitDefEqProofs only [go_sem, encDd, encPl]
      refine run_call (p_l16Num run) (by simp -implicitDefEqProofs only [go_sem]) fun η => ?_
      cases g0 : numB run
      · simp -implicitDefEqProofs only [go_sem, encDd, encPl, g0]
        simp [deedB, g0]
      simp -implicitDefEqProofs only [go_sem, encDd, encPl, g0]
      by_cases e1 : task = 0
      rotate_left
      · have g1 : (task != 0) = true := by simpa using e1
        simp -implicitDefEqProofs only [go_sem, encDd, encPl, g0, g1]
        simp [deedB, e1, g0]
      subst e1
      simp -implicitDefEqProofs only [go_sem, encDd, encPl, g0]
      by_cases e2 : tri = 0
      rotate_left
      · have g2 : (tri != 0) = true := by simpa using e2
        simp -implicitDefEqProofs only [go_sem, encDd, encPl, g0, g2]
        simp [deedB, e2, g0]
      subst e2
      simp -implicitDefEqProofs only [go_sem, encDd, encPl, g0]
      by_cases e3 : worker = 0
      rotate_left
      · have g3 : (worker != 0) = true := by simpa using e3
        simp -implicitDefEqProofs only [go_sem, encDd, encPl, g0, g3]
        simp [deedB, e3, g0]
      subst e3
      simp -implicitDefEqProofs only [go_sem, encDd, encPl, g0]
      by_cases e4 : draw = 0
      rotate_left
      · have g4 : (draw != 0) = true := by simpa using e4
        simp -implicitDefEqProofs only [go_sem, encDd, encPl, g0, g4]
        simp [deedB, e4, g0]
      subst e4
      simp -implicitDefEqProofs only [go_sem, encDd, encPl, g0]
      refine run_call (p_l16NoPlan plan) (by simp -implicitDefEqProofs only [go_sem, encPl]) fun η => ?_
      simp -implicitDefEqProofs only [go_sem, encDd, encPl, g0]
      simp [deedB, g0]
    · simp -implicitDefEqProofs only [go_sem, encDd, encPl]
      by_cases e0 : run = 0
      rotate_left
      · have g0 : (run != 0) = true := by simpa using e0
        simp -implicitDefEqProofs only [go_sem, encDd, encPl, g0]
        simp [deedB, e0]
      subst e0
      simp -implicitDefEqProofs only [go_sem, encDd, encPl]
      by_cases e1 : task = 0
      rotate_left
      · have g1 : (task != 0) = true := by simpa using e1
        simp -implicitDefEqProofs only [go_sem, encDd, encPl, g1]
        simp [deedB, e1]
      subst e1
      simp -implicitDefEqProofs only [go_sem, encDd, encPl]
      by_cases e2 : tri = 0
      rotate_left
      · have g2 : (tri != 0) = true := by simpa using e2
        simp -implicitDefEqProofs only [go_sem, encDd, encPl, g2]
        simp [deedB, e2]
      subst e2
      simp -implicitDefEqProofs only [go_sem, encDd, encPl]
      by_cases e3 : worker = 0
      rotate_left
      · have g3 : (worker != 0) = true := by simpa using e3
        simp -implicitDefEqProofs only [go_sem, encDd, encPl, g3]
        simp [deedB, e3]
      subst e3
      simp -implicitDefEqProofs only [go_sem, encDd, encPl]
      by_cases e4 : draw = 0
      rotate_left
      · have g4 : (draw != 0) = true := by simpa using e4
        simp -implicitDefEqProofs only [go_sem, encDd, encPl, g4]
        simp [deedB, e4]
      subst e4
      simp -implicitDefEqProofs only [go_sem, encDd, encPl]
      refine run_call (p_l16NoPlan plan) (by simp -implicitDefEqProofs only [go_sem, encPl]) fun η => ?_
      simp -implicitDefEqProofs only [go_sem, encDd, encPl]
      simp [deedB]
  · simp -implicitDefEqProofs only [go_sem, encDd, encPl]
    intros
    refine run_call (p_spec_l01In kind 1 8) (by simp -implicitDefEqProofs only [go_sem]) fun η => ?_
    simp -implicitDefEqProofs only [go_sem, hk]
    have h1 : kind ≠ 1 := by omega
    have h2 : kind ≠ 2 := by omega
    have h3 : kind ≠ 3 := by omega
    have h4 : kind ≠ 4 := by omega
    have h5 : kind ≠ 5 := by omega
    have h6 : kind ≠ 6 := by omega
    have h7 : kind ≠ 7 := by omega
    have h8 : kind ≠ 8 := by omega
    simp [deedB, h1, h2, h3, h4, h5, h6, h7, h8]
end Go.Proofs.Ytbplebgnkhmemaa
set_option linter.unusedSimpArgs false
set_option linter.unusedVariables false
set_option maxRecDepth 100000
namespace Go.Proofs.Ytbplebgnkhmemaa
open Go.RowKit Go.Sort
theorem p_sameDeed (x y : Dd) : Pure Try.prog 140 [.agg (encDd x), .agg (encDd y)] (.c (.val (.bool (decide (x = y))))) := pure2 ⟨_, Try.func140, by kernel_rfl, by kernel_rfl⟩ fun w a b ⟨S, ha⟩ ⟨S2, hb⟩ => iSameDeed_c x y a b S S2 w false false ha hb
/-- The numbers of a deed. -/
def numsL (d : Dd) : List Int :=
  if d.kind = 1 then [d.run, d.plan.prio, d.plan.most, d.plan.wait, d.plan.tasks, d.plan.edges.length] ++ d.plan.edges.flatMap fun e => [e.src, e.dst]
  else if d.kind = 2 then [d.worker, d.draw]
  else if d.kind = 3 ∨ d.kind = 4 then [d.run, d.task, d.tri]
  else if d.kind = 6 ∨ d.kind = 7 then [d.run]
  else []
theorem fl_len (l : List Ed) : (l.flatMap fun e => [e.src, e.dst]).length = 2 * l.length := by
  induction l with
  | nil => rfl
  | cons x l ih => simp only [List.flatMap_cons, List.length_append, ih, List.length_cons, List.length_nil]; omega
set_option maxHeartbeats 4000000 in
theorem p_deedNumbers (d : Dd) (hb : totDd d ≤ 2000000) : Pure Try.prog 101 [.agg (encDd d)] (.c (encInts (numsL d))) := by
  refine pure_fn Try.func101 code_impl_deedNumbers (by simp) ?_
  unfold c_impl_deedNumbers
  obtain ⟨kind, run, plan, task, tri, worker, draw⟩ := d
  have hp : plan.edges.length ≤ 4000000 := by simp only [totDd, totPl] at hb; omega
  by_cases k1 : kind = 1
  · subst k1
    simp -implicitDefEqProofs only [go_sem, encDd, encPl]
    intro b0 η0
    refine wp_loop_ (fun s => ∃ (k g : Nat) (η : Heads), k ≤ plan.edges.length ∧ (g = 2800 ∨ g = 4300) ∧ s.t 31 = .c (.ro (encEds plan.edges)) ∧ s.t 32 = .c (.v (.int .i64 plan.edges.length)) ∧ s.t 33 = .c (.v (.int .i64 k)) ∧ s.t 3 = .c (.h g 0 [] (η [])) ∧
      s.o g = .loose (encInts ([run, plan.prio, plan.most, plan.wait, plan.tasks, (plan.edges.length : Int)] ++ (plan.edges.take k).flatMap fun e => [e.src, e.dst])) η) (fun s => plan.edges.length - s.n 33) ?_ ?_
    · exact ⟨0, 2800, η0, Nat.zero_le _, .inl rfl, by simp -implicitDefEqProofs only [go_sem] <;> rfl, by simp -implicitDefEqProofs only [go_sem] <;> rfl, by simp -implicitDefEqProofs only [go_sem] <;> rfl, by simp -implicitDefEqProofs only [go_sem] <;> rfl, by simp -implicitDefEqProofs only [go_sem] <;> rfl⟩
    · rintro s ⟨k, g, η, hk, hg, h31, h32, h33, h3, hob⟩
      by_cases hlt : k < plan.edges.length
      · have hlt' : (k : Int) < plan.edges.length := by omega
        obtain ⟨x, hx⟩ := get_some hlt
        have hw : IntKind.i64.wrap ((k : Int) + 1) = ((k + 1 : Nat) : Int) := wrap64 (by omega) (by omega)
        generalize hl : [run, plan.prio, plan.most, plan.wait, plan.tasks, (plan.edges.length : Int)] ++ (plan.edges.take k).flatMap (fun e => [e.src, e.dst]) = l at hob
        have hll : l.length = 6 + 2 * k := by rw [← hl, List.length_append, fl_len, List.length_take, Nat.min_eq_left hk]; rfl
        have h1' : l.length + 2 ≤ maxLen := by unfold maxLen; omega
        have h2' : (l.length + 2) * 8 ≤ 140737488355328 := by omega
        have hnext : l ++ [x.src, x.dst] = [run, plan.prio, plan.most, plan.wait, plan.tasks, (plan.edges.length : Int)] ++ (plan.edges.take (k + 1)).flatMap (fun e => [e.src, e.dst]) := by
          rw [← hl, List.take_add_one, hx]; simp
        rcases hg with rfl | rfl
        all_goals
          simp -implicitDefEqProofs only [go_sem, h31, h32, h33, h3, hob, hlt, hlt', elem_encEds hx, encEd, h1', h2', hw, ints_snoc2]
          intro b1 η1 η2
          refine ⟨⟨k + 1, 4300, η2, ?_⟩, ?_⟩
          · and_intros <;> first | rfl | omega | exact .inr rfl | (rw [hnext]; rfl)
          · rw [st_n (k := .i64) (n := ((k + 1 : Nat) : Int)) (by simp -implicitDefEqProofs only [go_sem]), st_n h33]; omega
      · have hlt' : ¬ (k : Int) < plan.edges.length := by omega
        rw [List.take_of_length_le (by omega)] at hob
        rcases hg with rfl | rfl
        · simp -implicitDefEqProofs only [go_sem, h31, h32, h33, h3, hob, hlt']
          rfl
        · simp -implicitDefEqProofs only [go_sem, h31, h32, h33, h3, hob, hlt']
          rfl
  · have g1 : (kind == 1) = false := by simpa using k1
    by_cases k2 : kind = 2
    · subst k2
      simp -implicitDefEqProofs only [go_sem, encDd, encPl]
      intros
      rfl
    · have g2 : (kind == 2) = false := by simpa using k2
      by_cases k3 : kind = 3
      · subst k3
        simp -implicitDefEqProofs only [go_sem, encDd, encPl]
        intros
        rfl
      · have g3 : (kind == 3) = false := by simpa using k3
        by_cases k4 : kind = 4
        · subst k4
          simp -implicitDefEqProofs only [go_sem, encDd, encPl]
          intros
          rfl
        · have g4 : (kind == 4) = false := by simpa using k4
          by_cases k6 : kind = 6
          · subst k6
            simp -implicitDefEqProofs only [go_sem, encDd, encPl]
            intros
            rfl
          · have g6 : (kind == 6) = false := by simpa using k6
            by_cases k7 : kind = 7
            · subst k7
              simp -implicitDefEqProofs only [go_sem, encDd, encPl]
              intros
              rfl
            · have g7 : (kind == 7) = false := by simpa using k7
              have e : numsL ⟨kind, run, plan, task, tri, worker, draw⟩ = [] := by simp [numsL, k1, k2, k3, k4, k6, k7]
              simp -implicitDefEqProofs only [go_sem, encDd, encPl, g1, g2, g3, g4, g6, g7, e]
def zeroPl : Pl := ⟨0, 0, 0, 0, []⟩
/-- A deed with what its kind uses. -/
def usedD (d : Dd) : Dd :=
  if d.kind = 1 then ⟨1, d.run, d.plan, 0, 0, 0, 0⟩
  else if d.kind = 2 then ⟨2, 0, zeroPl, 0, 0, d.worker, d.draw⟩
  else if d.kind = 3 ∨ d.kind = 4 then ⟨d.kind, d.run, zeroPl, d.task, d.tri, 0, 0⟩
  else if d.kind = 6 ∨ d.kind = 7 then ⟨d.kind, d.run, zeroPl, 0, 0, 0, 0⟩
  else ⟨d.kind, 0, zeroPl, 0, 0, 0, 0⟩
def okI (d : Dd) : Bool := decide (1 ≤ d.kind ∧ d.kind ≤ 8) && decide (d.plan.edges.length ≤ 31) && decide (d = usedD d) && (numsL d).all numB
theorem bge (n : Int) (k : Int) : (decide (k < n)) = !decide (n ≤ k) := by
  by_cases h : k < n
  · simp [h, Int.not_le.2 h]
  · simp [h, Int.not_lt.1 h]
/-- The rest of the program's DeedOk: the numbers, one by one. -/
def c_loop : C := match c_impl_DeedOk with
  | .seq _ (.seq _ c) => c
  | c => c
theorem w_DeedOk_end (d : Dd) (hb : totDd d ≤ 2000000) {s : St} {b ty : Nat} (h1 : s.t 1 = .c (.bp 100 0 b)) (ho : s.o 100 = .box b ty ((encDd d).map fun x => .a x.toRo)) : wpC Try.prog 0 c_loop (retE [.t 2] (.c (.val (.bool ((numsL d).all numB))))) s := by
  unfold c_loop c_impl_DeedOk
  have hn : (numsL d).length ≤ 20000000 := by
    have hp : d.plan.edges.length ≤ 2000000 := hb
    unfold numsL
    split
    · rw [List.length_append, fl_len]; simp; omega
    · split
      · simp
      · split
        · simp
        · split <;> simp
  simp -implicitDefEqProofs only [go_sem, h1, ho, encDd, encPl]
  refine run_call (p_deedNumbers d hb) (by simp -implicitDefEqProofs only [go_sem, h1, ho, encDd, encPl]) fun η => ?_
  generalize numsL d = l at *
  simp -implicitDefEqProofs only [go_sem, h1, ho]
  refine wp_loop_ (fun s => ∃ (k : Nat) (η : Heads), k ≤ l.length ∧ (l.take k).all numB = true ∧ s.t 24 = .c (.h 2400 0 [] (η [])) ∧ s.t 25 = .c (.v (.int .i64 l.length)) ∧ s.t 26 = .c (.v (.int .i64 k)) ∧ s.o 2400 = .loose (encInts l) η) (fun s => l.length - s.n 26) ?_ ?_
  · exact ⟨0, η 0, Nat.zero_le _, rfl, by simp -implicitDefEqProofs only [go_sem] <;> rfl, by simp -implicitDefEqProofs only [go_sem] <;> rfl, by simp -implicitDefEqProofs only [go_sem] <;> rfl, by simp -implicitDefEqProofs only [go_sem] <;> rfl⟩
  · rintro s ⟨k, ηo, hk, ha, h24, h25, h26, hob⟩
    by_cases hlt : k < l.length
    · have hlt' : (k : Int) < l.length := by omega
      obtain ⟨x, hx⟩ := get_some hlt
      have hw : IntKind.i64.wrap ((k : Int) + 1) = ((k + 1 : Nat) : Int) := wrap64 (by omega) (by omega)
      simp -implicitDefEqProofs only [go_sem, h24, h25, h26, hob, hlt, hlt', at_encInts hx, in_encInts hlt]
      refine run_call (p_impl_within x 0 1000000000) (by simp -implicitDefEqProofs only [go_sem]) fun η => ?_
      have hd : decide (0 ≤ x ∧ x ≤ 1000000000) = numB x := rfl
      cases h6 : numB x
      · simp -implicitDefEqProofs only [go_sem, hd, h6]
        simp [all_no (f := numB) hx h6]
      simp -implicitDefEqProofs only [go_sem, h24, h25, h26, hob, hd, h6, hw]
      refine ⟨⟨k + 1, ηo, ?_⟩, ?_⟩
      · and_intros <;> first | rfl | omega | exact all_take hx ha h6
      · rw [st_n (k := .i64) (n := ((k + 1 : Nat) : Int)) (by simp -implicitDefEqProofs only [go_sem]), st_n h26]; omega
    · have hlt' : ¬ (k : Int) < l.length := by omega
      rw [List.take_of_length_le (by omega)] at ha
      simp -implicitDefEqProofs only [go_sem, h24, h25, h26, hob, hlt']
      simp [ha]
def c_dA : C := match c_impl_DeedOk with
  | .seq c _ => c
  | c => c
def c_dB : C := match c_impl_DeedOk with
  | .seq _ (.seq c _) => c
  | c => c
set_option maxRecDepth 1000000 in
set_option maxHeartbeats 4000000 in
theorem p_impl_DeedOk0 (d : Dd) (hb : totDd d ≤ 2000000) : Pure Try.prog 100 [.agg (encDd d)] (.c (.val (.bool (okI d)))) := by
  refine pure_fn Try.func100 code_impl_DeedOk (by simp) ?_
  have hend := fun (s : St) (b ty : Nat) => w_DeedOk_end d hb (s := s) (b := b) (ty := ty)
  rw [show c_impl_DeedOk = .seq c_dA (.seq c_dB c_loop) from rfl]
  unfold c_dA c_dB c_impl_DeedOk
  obtain ⟨kind, run, plan, task, tri, worker, draw⟩ := d
  by_cases hk : 1 ≤ kind ∧ kind ≤ 8
  · by_cases hl : plan.edges.length ≤ 31
    · have hl' : ¬ (31 : Int) < plan.edges.length := by omega
      simp -implicitDefEqProofs only [go_sem, encDd, encPl]
      intro b
      refine run_call (p_impl_within kind 1 8) (by simp -implicitDefEqProofs only [go_sem]) fun η => ?_
      simp -implicitDefEqProofs only [go_sem, hk, hl']
      have : kind = 1 ∨ kind = 2 ∨ kind = 3 ∨ kind = 4 ∨ kind = 5 ∨ kind = 6 ∨ kind = 7 ∨ kind = 8 := by omega
      rcases this with rfl | rfl | rfl | rfl | rfl | rfl | rfl | rfl
      · refine run_inl (inl_fn (β := 7000000) Try.func141 code_impl_usedOf (by simp) ?_)
        unfold c_impl_usedOf
        simp -implicitDefEqProofs only [go_sem]
        intros
        have hu : usedD ⟨1, run, plan, task, tri, worker, draw⟩ = ⟨1, run, plan, 0, 0, 0, 0⟩ := by simp [usedD, zeroPl]
        refine run_call (p_sameDeed ⟨1, run, plan, task, tri, worker, draw⟩ ⟨1, run, plan, 0, 0, 0, 0⟩) (by simp -implicitDefEqProofs only [go_sem, encDd, encPl]) fun η2 => ?_
        simp only [← hu]
        cases hs : decide ((⟨1, run, plan, task, tri, worker, draw⟩ : Dd) = usedD ⟨1, run, plan, task, tri, worker, draw⟩)
        · simp -implicitDefEqProofs only [go_sem, hs]
          simp [okI, hs]
        · have e : okI ⟨1, run, plan, task, tri, worker, draw⟩ = (numsL ⟨1, run, plan, task, tri, worker, draw⟩).all numB := by simp only [okI, hs]; simp [hl]
          rw [e]
          simp -implicitDefEqProofs only [go_sem, hs]
          exact hend _ b _ (by simp -implicitDefEqProofs only [go_sem]) (by simp -implicitDefEqProofs only [go_sem, encDd, encPl] <;> rfl)
      · refine run_inl (inl_fn (β := 7000000) Try.func141 code_impl_usedOf (by simp) ?_)
        unfold c_impl_usedOf
        simp -implicitDefEqProofs only [go_sem]
        intros
        have hu : usedD ⟨2, run, plan, task, tri, worker, draw⟩ = ⟨2, 0, ⟨0, 0, 0, 0, []⟩, 0, 0, worker, draw⟩ := by simp [usedD, zeroPl]
        refine run_call (p_sameDeed ⟨2, run, plan, task, tri, worker, draw⟩ ⟨2, 0, ⟨0, 0, 0, 0, []⟩, 0, 0, worker, draw⟩) (by simp -implicitDefEqProofs only [go_sem, encDd, encPl]) fun η2 => ?_
        simp only [← hu]
        cases hs : decide ((⟨2, run, plan, task, tri, worker, draw⟩ : Dd) = usedD ⟨2, run, plan, task, tri, worker, draw⟩)
        · simp -implicitDefEqProofs only [go_sem, hs]
          simp [okI, hs]
        · have e : okI ⟨2, run, plan, task, tri, worker, draw⟩ = (numsL ⟨2, run, plan, task, tri, worker, draw⟩).all numB := by simp only [okI, hs]; simp [hl]
          rw [e]
          simp -implicitDefEqProofs only [go_sem, hs]
          exact hend _ b _ (by simp -implicitDefEqProofs only [go_sem]) (by simp -implicitDefEqProofs only [go_sem, encDd, encPl] <;> rfl)
      · refine run_inl (inl_fn (β := 7000000) Try.func141 code_impl_usedOf (by simp) ?_)
        unfold c_impl_usedOf
        simp -implicitDefEqProofs only [go_sem]
        intros
        have hu : usedD ⟨3, run, plan, task, tri, worker, draw⟩ = ⟨3, run, ⟨0, 0, 0, 0, []⟩, task, tri, 0, 0⟩ := by simp [usedD, zeroPl]
        refine run_call (p_sameDeed ⟨3, run, plan, task, tri, worker, draw⟩ ⟨3, run, ⟨0, 0, 0, 0, []⟩, task, tri, 0, 0⟩) (by simp -implicitDefEqProofs only [go_sem, encDd, encPl]) fun η2 => ?_
        simp only [← hu]
        cases hs : decide ((⟨3, run, plan, task, tri, worker, draw⟩ : Dd) = usedD ⟨3, run, plan, task, tri, worker, draw⟩)
        · simp -implicitDefEqProofs only [go_sem, hs]
          simp [okI, hs]
        · have e : okI ⟨3, run, plan, task, tri, worker, draw⟩ = (numsL ⟨3, run, plan, task, tri, worker, draw⟩).all numB := by simp only [okI, hs]; simp [hl]
          rw [e]
          simp -implicitDefEqProofs only [go_sem, hs]
          exact hend _ b _ (by simp -implicitDefEqProofs only [go_sem]) (by simp -implicitDefEqProofs only [go_sem, encDd, encPl] <;> rfl)
      · refine run_inl (inl_fn (β := 7000000) Try.func141 code_impl_usedOf (by simp) ?_)
        unfold c_impl_usedOf
        simp -implicitDefEqProofs only [go_sem]
        intros
        have hu : usedD ⟨4, run, plan, task, tri, worker, draw⟩ = ⟨4, run, ⟨0, 0, 0, 0, []⟩, task, tri, 0, 0⟩ := by simp [usedD, zeroPl]
        refine run_call (p_sameDeed ⟨4, run, plan, task, tri, worker, draw⟩ ⟨4, run, ⟨0, 0, 0, 0, []⟩, task, tri, 0, 0⟩) (by simp -implicitDefEqProofs only [go_sem, encDd, encPl]) fun η2 => ?_
        simp only [← hu]
        cases hs : decide ((⟨4, run, plan, task, tri, worker, draw⟩ : Dd) = usedD ⟨4, run, plan, task, tri, worker, draw⟩)
        · simp -implicitDefEqProofs only [go_sem, hs]
          simp [okI, hs]
        · have e : okI ⟨4, run, plan, task, tri, worker, draw⟩ = (numsL ⟨4, run, plan, task, tri, worker, draw⟩).all numB := by simp only [okI, hs]; simp [hl]
          rw [e]
          simp -implicitDefEqProofs only [go_sem, hs]
          exact hend _ b _ (by simp -implicitDefEqProofs only [go_sem]) (by simp -implicitDefEqProofs only [go_sem, encDd, encPl] <;> rfl)
      · refine run_inl (inl_fn (β := 7000000) Try.func141 code_impl_usedOf (by simp) ?_)
        unfold c_impl_usedOf
        simp -implicitDefEqProofs only [go_sem]
        intros
        have hu : usedD ⟨5, run, plan, task, tri, worker, draw⟩ = ⟨5, 0, ⟨0, 0, 0, 0, []⟩, 0, 0, 0, 0⟩ := by simp [usedD, zeroPl]
        refine run_call (p_sameDeed ⟨5, run, plan, task, tri, worker, draw⟩ ⟨5, 0, ⟨0, 0, 0, 0, []⟩, 0, 0, 0, 0⟩) (by simp -implicitDefEqProofs only [go_sem, encDd, encPl]) fun η2 => ?_
        simp only [← hu]
        cases hs : decide ((⟨5, run, plan, task, tri, worker, draw⟩ : Dd) = usedD ⟨5, run, plan, task, tri, worker, draw⟩)
        · simp -implicitDefEqProofs only [go_sem, hs]
          simp [okI, hs]
        · have e : okI ⟨5, run, plan, task, tri, worker, draw⟩ = (numsL ⟨5, run, plan, task, tri, worker, draw⟩).all numB := by simp only [okI, hs]; simp [hl]
          rw [e]
          simp -implicitDefEqProofs only [go_sem, hs]
          exact hend _ b _ (by simp -implicitDefEqProofs only [go_sem]) (by simp -implicitDefEqProofs only [go_sem, encDd, encPl] <;> rfl)
      · refine run_inl (inl_fn (β := 7000000) Try.func141 code_impl_usedOf (by simp) ?_)
        unfold c_impl_usedOf
        simp -implicitDefEqProofs only [go_sem]
        intros
        have hu : usedD ⟨6, run, plan, task, tri, worker, draw⟩ = ⟨6, run, ⟨0, 0, 0, 0, []⟩, 0, 0, 0, 0⟩ := by simp [usedD, zeroPl]
        refine run_call (p_sameDeed ⟨6, run, plan, task, tri, worker, draw⟩ ⟨6, run, ⟨0, 0, 0, 0, []⟩, 0, 0, 0, 0⟩) (by simp -implicitDefEqProofs only [go_sem, encDd, encPl]) fun η2 => ?_
        simp only [← hu]
        cases hs : decide ((⟨6, run, plan, task, tri, worker, draw⟩ : Dd) = usedD ⟨6, run, plan, task, tri, worker, draw⟩)
        · simp -implicitDefEqProofs only [go_sem, hs]
          simp [okI, hs]
        · have e : okI ⟨6, run, plan, task, tri, worker, draw⟩ = (numsL ⟨6, run, plan, task, tri, worker, draw⟩).all numB := by simp only [okI, hs]; simp [hl]
          rw [e]
          simp -implicitDefEqProofs only [go_sem, hs]
          exact hend _ b _ (by simp -implicitDefEqProofs only [go_sem]) (by simp -implicitDefEqProofs only [go_sem, encDd, encPl] <;> rfl)
      · refine run_inl (inl_fn (β := 7000000) Try.func141 code_impl_usedOf (by simp) ?_)
        unfold c_impl_usedOf
        simp -implicitDefEqProofs only [go_sem]
        intros
        have hu : usedD ⟨7, run, plan, task, tri, worker, draw⟩ = ⟨7, run, ⟨0, 0, 0, 0, []⟩, 0, 0, 0, 0⟩ := by simp [usedD, zeroPl]
        refine run_call (p_sameDeed ⟨7, run, plan, task, tri, worker, draw⟩ ⟨7, run, ⟨0, 0, 0, 0, []⟩, 0, 0, 0, 0⟩) (by simp -implicitDefEqProofs only [go_sem, encDd, encPl]) fun η2 => ?_
        simp only [← hu]
        cases hs : decide ((⟨7, run, plan, task, tri, worker, draw⟩ : Dd) = usedD ⟨7, run, plan, task, tri, worker, draw⟩)
        · simp -implicitDefEqProofs only [go_sem, hs]
          simp [okI, hs]
        · have e : okI ⟨7, run, plan, task, tri, worker, draw⟩ = (numsL ⟨7, run, plan, task, tri, worker, draw⟩).all numB := by simp only [okI, hs]; simp [hl]
          rw [e]
          simp -implicitDefEqProofs only [go_sem, hs]
          exact hend _ b _ (by simp -implicitDefEqProofs only [go_sem]) (by simp -implicitDefEqProofs only [go_sem, encDd, encPl] <;> rfl)
      · refine run_inl (inl_fn (β := 7000000) Try.func141 code_impl_usedOf (by simp) ?_)
        unfold c_impl_usedOf
        simp -implicitDefEqProofs only [go_sem]
        intros
        have hu : usedD ⟨8, run, plan, task, tri, worker, draw⟩ = ⟨8, 0, ⟨0, 0, 0, 0, []⟩, 0, 0, 0, 0⟩ := by simp [usedD, zeroPl]
        refine run_call (p_sameDeed ⟨8, run, plan, task, tri, worker, draw⟩ ⟨8, 0, ⟨0, 0, 0, 0, []⟩, 0, 0, 0, 0⟩) (by simp -implicitDefEqProofs only [go_sem, encDd, encPl]) fun η2 => ?_
        simp only [← hu]
        cases hs : decide ((⟨8, run, plan, task, tri, worker, draw⟩ : Dd) = usedD ⟨8, run, plan, task, tri, worker, draw⟩)
        · simp -implicitDefEqProofs only [go_sem, hs]
          simp [okI, hs]
        · have e : okI ⟨8, run, plan, task, tri, worker, draw⟩ = (numsL ⟨8, run, plan, task, tri, worker, draw⟩).all numB := by simp only [okI, hs]; simp [hl]
          rw [e]
          simp -implicitDefEqProofs only [go_sem, hs]
          exact hend _ b _ (by simp -implicitDefEqProofs only [go_sem]) (by simp -implicitDefEqProofs only [go_sem, encDd, encPl] <;> rfl)
    · have hl' : (31 : Int) < plan.edges.length := by omega
      simp -implicitDefEqProofs only [go_sem, encDd, encPl]
      intro b
      refine run_call (p_impl_within kind 1 8) (by simp -implicitDefEqProofs only [go_sem]) fun η => ?_
      simp -implicitDefEqProofs only [go_sem, hk, hl']
      simp [okI, hl]
  · simp -implicitDefEqProofs only [go_sem, encDd, encPl]
    intro b
    refine run_call (p_impl_within kind 1 8) (by simp -implicitDefEqProofs only [go_sem]) fun η => ?_
    simp -implicitDefEqProofs only [go_sem, hk]
    have : decide (1 ≤ kind ∧ kind ≤ 8) = false := decide_eq_false hk
    simp only [okI, this, Bool.false_and]
end Go.Proofs.Ytbplebgnkhmemaa
set_option linter.unusedSimpArgs false
set_option linter.unusedVariables false
namespace Go.Proofs.Ytbplebgnkhmemaa
open Go.RowKit Go.Sort
theorem noPlan_iff (p : Pl) : noPlanB p = decide (p = zeroPl) := by
  obtain ⟨a, b, c, d, e⟩ := p
  rw [Bool.eq_iff_iff]
  simp only [noPlanB, zeroPl, Bool.and_eq_true, beq_iff_eq, decide_eq_true_eq, Pl.mk.injEq]
  constructor
  · rintro ⟨⟨⟨⟨h1, h2⟩, h3⟩, h4⟩, h5⟩
    exact ⟨h1, h2, h3, h4, List.eq_nil_of_length_eq_zero (by omega)⟩
  · rintro ⟨h1, h2, h3, h4, rfl⟩
    exact ⟨⟨⟨⟨h1, h2⟩, h3⟩, h4⟩, rfl⟩
theorem all_fl (l : List Ed) : (l.flatMap fun e => [e.src, e.dst]).all numB = l.all edB := by
  induction l with
  | nil => rfl
  | cons x l ih => simp [List.flatMap_cons, List.all_append, ih, edB, Bool.and_assoc]
theorem okI_deedB (d : Dd) : okI d = deedB d := by
  have hz : zeroPl.edges.length = 0 := rfl
  obtain ⟨kind, run, plan, task, tri, worker, draw⟩ := d
  by_cases h1 : kind = 1
  · subst h1
    have e : (numsL ⟨1, run, plan, task, tri, worker, draw⟩).all numB = (numB run && numB plan.prio && numB plan.most && numB plan.wait && numB plan.tasks && numB plan.edges.length && plan.edges.all edB) := by
      simp only [numsL, if_true, List.all_append, all_fl]
      simp [Bool.and_assoc]
    have e2 : decide (plan.edges.length ≤ 31) = true → numB (plan.edges.length : Int) = true := by
      intro h
      have h := of_decide_eq_true h
      exact decide_eq_true (by omega)
    rw [okI, e, deedB]
    simp only [usedD, planB, if_true, Dd.mk.injEq, true_and]
    rw [Bool.eq_iff_iff]
    simp only [Bool.and_eq_true, decide_eq_true_eq, beq_iff_eq] at e2 ⊢
    constructor
    · rintro ⟨⟨⟨_, h2⟩, h3⟩, h4⟩
      grind
    · intro h
      have h5 : plan.edges.length ≤ 31 := by grind
      have := e2 h5
      grind
  · by_cases h2 : kind = 2
    · subst h2
      rw [Bool.eq_iff_iff]
      simp only [okI, deedB, usedD, numsL, noPlan_iff, Bool.and_eq_true, decide_eq_true_eq, beq_iff_eq, Dd.mk.injEq, List.all_cons, List.all_nil, Int.reduceEq, if_false, if_true, true_and, and_true]
      constructor
      · rintro h; grind
      · rintro ⟨⟨⟨⟨⟨a, b⟩, c⟩, d⟩, e⟩, f⟩
        subst f
        exact ⟨⟨⟨by omega, by rw [hz]; omega⟩, a, rfl, b, c⟩, d, e⟩
    · by_cases h34 : kind = 3 ∨ kind = 4
      · rw [Bool.eq_iff_iff]
        simp only [okI, deedB, usedD, numsL, noPlan_iff, h1, h2, h34, Bool.and_eq_true, decide_eq_true_eq, beq_iff_eq, Dd.mk.injEq, List.all_cons, List.all_nil, if_false, if_true, true_and, and_true]
        constructor
        · rintro h; grind
        · rintro ⟨⟨⟨⟨⟨a, b⟩, c⟩, d⟩, e⟩, f⟩
          subst f
          exact ⟨⟨⟨by omega, by rw [hz]; omega⟩, rfl, d, e⟩, a, b, c⟩
      · by_cases h67 : kind = 6 ∨ kind = 7
        · have h58 : ¬ (kind = 5 ∨ kind = 8) := by omega
          rw [Bool.eq_iff_iff]
          simp only [okI, deedB, usedD, numsL, noPlan_iff, h1, h2, h34, h67, h58, Bool.and_eq_true, decide_eq_true_eq, beq_iff_eq, Dd.mk.injEq, List.all_cons, List.all_nil, if_false, if_true, true_and, and_true]
          constructor
          · rintro h; grind
          · rintro ⟨⟨⟨⟨⟨a, b⟩, c⟩, d⟩, e⟩, f⟩
            subst f
            exact ⟨⟨⟨by omega, by rw [hz]; omega⟩, rfl, b, c, d, e⟩, a⟩
        · by_cases h58 : kind = 5 ∨ kind = 8
          · rw [Bool.eq_iff_iff]
            simp only [okI, deedB, usedD, numsL, noPlan_iff, h1, h2, h34, h67, h58, Bool.and_eq_true, decide_eq_true_eq, beq_iff_eq, Dd.mk.injEq, List.all_cons, List.all_nil, if_false, if_true, true_and, and_true]
            constructor
            · rintro h; grind
            · rintro ⟨⟨⟨⟨⟨a, b⟩, c⟩, d⟩, e⟩, f⟩
              subst f
              exact ⟨⟨by omega, by rw [hz]; omega⟩, a, rfl, b, c, d, e⟩
          · have hk : ¬ (1 ≤ kind ∧ kind ≤ 8) := by omega
            simp [okI, deedB, h1, h2, h34, h67, h58, hk]
theorem p_impl_DeedOk (d : Dd) (hb : totDd d ≤ 2000000) : Pure Try.prog 100 [.agg (encDd d)] (.c (.val (.bool (deedB d)))) := by
  rw [← okI_deedB]; exact p_impl_DeedOk0 d hb
end Go.Proofs.Ytbplebgnkhmemaa
