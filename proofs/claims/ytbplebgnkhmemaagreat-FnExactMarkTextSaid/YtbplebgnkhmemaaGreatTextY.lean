/- The text of a yard; both. -/
import Derived.Test.YtbplebgnkhmemaaGreatTextP
import Derived.Test.YtbplebgnkhmemaaGreatYardB
set_option linter.unusedSimpArgs false
set_option linter.unusedVariables false
set_option maxRecDepth 100000
namespace Go.Proofs.YtbplebgnkhmemaaGreat
open Go.RowKit Go.Sort
def c_spec_l18Plan : C := .seq (.reg [⟨some 3, none, .box 48 5 (.t 1)⟩, ⟨some 4, none, .mov (.c (.slice none 0 0))⟩]) (.seq (.reg [⟨some 6, none, .mov (.t 0)⟩, ⟨some 7, none, .fa 0 (.t 3)⟩, ⟨some 8, none, .ld false 1 (.t 7)⟩, ⟨some 9, none, .fa 1 (.t 3)⟩, ⟨some 10, none, .ld false 1 (.t 9)⟩, ⟨some 11, none, .fa 2 (.t 3)⟩, ⟨some 12, none, .ld false 1 (.t 11)⟩, ⟨some 13, none, .fa 3 (.t 3)⟩, ⟨some 14, none, .ld false 1 (.t 13)⟩, ⟨some 15, none, .fa 4 (.t 3)⟩, ⟨some 16, none, .ld false 1 (.t 15)⟩, ⟨some 17, none, .len false (.t 16)⟩, ⟨some 18, none, .bsl 3 1 5 [none, none, none, none, none] [(0, 1, .t 8), (1, 1, .t 10), (2, 1, .t 12), (3, 1, .t 14), (4, 1, .t 17)]⟩, ⟨some 19, none, .app 3 1 8 (.t 6) (.t 18)⟩, ⟨some 0, none, .mov (.t 19)⟩]) (.seq (.seq (.reg [⟨some 5, none, .mov (.c (.int .i64 0))⟩]) (.blk 0 (.loop (.seq (.seq (.reg [⟨some 20, none, .mov (.t 5)⟩, ⟨some 21, none, .fa 4 (.t 3)⟩, ⟨some 22, none, .ld false 1 (.t 21)⟩, ⟨some 23, none, .len false (.t 22)⟩, ⟨some 24, none, .bin .lss 3 (.t 20) (.t 23)⟩]) (.cond (.t 24) .skip (.exit 0))) (.seq (.blk 1 (.dreg (T.pure 0 ⟨some 27, none, .mov (.t 0)⟩ (T.pure 1 ⟨some 28, none, .fa 4 (.t 3)⟩ (T.pure 2 ⟨some 29, none, .ld false 1 (.t 28)⟩ (T.pure 3 ⟨some 30, none, .mov (.t 5)⟩ (T.pure 4 ⟨some 31, none, .ia 2 (.t 29) (.t 30)⟩ (T.pure 5 ⟨some 32, none, .fa 0 (.t 31)⟩ (T.pure 6 ⟨some 33, none, .ld false 1 (.t 32)⟩ (T.pure 7 ⟨some 34, none, .fa 4 (.t 3)⟩ (T.pure 8 ⟨some 35, none, .ld false 1 (.t 34)⟩ (T.pure 9 ⟨some 36, none, .mov (.t 5)⟩ (T.pure 10 ⟨some 37, none, .ia 2 (.t 35) (.t 36)⟩ (T.pure 11 ⟨some 38, none, .fa 1 (.t 37)⟩ (T.pure 12 ⟨some 39, none, .ld false 1 (.t 38)⟩ (T.alt ⟨some 40, none, .bsl 3 1 2 [none, none] [(0, 1, .t 33), (1, 1, .t 39)]⟩ [0] (T.alt ⟨some 41, none, .app 3 1 8 (.t 27) (.t 40)⟩ [] (T.pure 15 ⟨some 0, none, .mov (.t 41)⟩ T.done) T.stop) T.stop)))))))))))))))) (.reg [⟨some 25, none, .mov (.t 5)⟩, ⟨some 26, none, .bin .add 3 (.t 25) (.c (.int .i64 1))⟩, ⟨some 5, none, .mov (.t 26)⟩])))))) (.seq (.reg [⟨some 42, none, .mov (.t 0)⟩, ⟨some 4, none, .mov (.t 42)⟩]) .ret)))
theorem code_spec_l18Plan : fnC Tryz.prog Tryz.f90 = some (c_spec_l18Plan, [.t 4], 43) := by kernel_rfl
def c_impl_planNumbers : C := .seq (.reg [⟨some 1, none, .box 48 5 (.t 0)⟩, ⟨some 2, none, .mov (.c (.slice none 0 0))⟩]) (.seq (.reg [⟨some 6, none, .fa 0 (.t 1)⟩, ⟨some 7, none, .ld false 1 (.t 6)⟩, ⟨some 8, none, .fa 1 (.t 1)⟩, ⟨some 9, none, .ld false 1 (.t 8)⟩, ⟨some 10, none, .fa 2 (.t 1)⟩, ⟨some 11, none, .ld false 1 (.t 10)⟩, ⟨some 12, none, .fa 3 (.t 1)⟩, ⟨some 13, none, .ld false 1 (.t 12)⟩, ⟨some 14, none, .fa 4 (.t 1)⟩, ⟨some 15, none, .ld false 1 (.t 14)⟩, ⟨some 16, none, .len false (.t 15)⟩, ⟨some 17, none, .bsl 3 1 5 [none, none, none, none, none] [(0, 1, .t 7), (1, 1, .t 9), (2, 1, .t 11), (3, 1, .t 13), (4, 1, .t 16)]⟩, ⟨some 3, none, .mov (.t 17)⟩]) (.seq (.seq (.reg [⟨some 18, none, .fa 4 (.t 1)⟩, ⟨some 19, none, .ld false 1 (.t 18)⟩, ⟨some 20, none, .len false (.t 19)⟩, ⟨some 21, none, .mov (.c (.int .i64 0))⟩]) (.blk 0 (.loop (.seq (.reg [⟨some 22, none, .bin .lss 3 (.t 21) (.t 20)⟩]) (.seq (.cond (.t 22) .skip (.exit 0)) (.seq (.blk 1 (.seq (.reg [⟨some 23, none, .ia 2 (.t 19) (.t 21)⟩, ⟨some 24, none, .ld true 2 (.t 23)⟩, ⟨some 5, none, .alloc 131 [.int .i64 0, .int .i64 0]⟩, ⟨none, none, .st 2 [none, none] (.t 5) (.t 24)⟩]) (.reg [⟨some 25, none, .mov (.t 3)⟩, ⟨some 26, none, .fa 0 (.t 5)⟩, ⟨some 27, none, .ld false 1 (.t 26)⟩, ⟨some 28, none, .fa 1 (.t 5)⟩, ⟨some 29, none, .ld false 1 (.t 28)⟩, ⟨some 30, none, .bsl 3 1 2 [none, none] [(0, 1, .t 27), (1, 1, .t 29)]⟩, ⟨some 31, none, .app 3 1 8 (.t 25) (.t 30)⟩, ⟨some 3, none, .mov (.t 31)⟩]))) (.reg [⟨some 32, none, .bin .add 3 (.t 21) (.c (.int .i64 1))⟩, ⟨some 21, none, .mov (.t 32)⟩]))))))) (.seq (.reg [⟨some 33, none, .mov (.t 3)⟩, ⟨some 2, none, .mov (.t 33)⟩]) .ret)))
theorem code_impl_planNumbers : fnC Tryz.prog Tryz.f94 = some (c_impl_planNumbers, [.t 2], 34) := by kernel_rfl
def c_spec_YardText : C := .seq (.reg [⟨some 1, none, .box 31 4 (.t 0)⟩, ⟨some 2, none, .mov (.c (.string ⟨⟨[]⟩⟩))⟩]) (.seq (.seq (.reg [⟨some 11, none, .ld true 4 (.t 1)⟩, ⟨some 12, none, .call 49 [.t 11]⟩, ⟨some 13, none, .un .not (.t 12)⟩]) (.cond (.t 13) (.seq (.reg [⟨some 2, none, .mov (.c (.string ⟨⟨[]⟩⟩))⟩]) .ret) .skip)) (.seq (.reg [⟨some 14, none, .fa 0 (.t 1)⟩, ⟨some 15, none, .ld false 1 (.t 14)⟩, ⟨some 16, none, .fa 1 (.t 1)⟩, ⟨some 17, none, .ld false 1 (.t 16)⟩, ⟨some 18, none, .bsl 3 1 2 [none, none] [(0, 1, .t 15), (1, 1, .t 17)]⟩, ⟨some 3, none, .mov (.t 18)⟩]) (.seq (.seq (.reg [⟨some 4, none, .mov (.c (.int .i64 0))⟩]) (.blk 0 (.loop (.seq (.seq (.reg [⟨some 19, none, .mov (.t 4)⟩, ⟨some 20, none, .fa 2 (.t 1)⟩, ⟨some 21, none, .ld false 1 (.t 20)⟩, ⟨some 22, none, .len false (.t 21)⟩, ⟨some 23, none, .bin .lss 3 (.t 19) (.t 22)⟩]) (.cond (.t 23) .skip (.exit 0))) (.seq (.blk 1 (.seq (.reg [⟨some 26, none, .mov (.t 3)⟩, ⟨some 27, none, .fa 2 (.t 1)⟩, ⟨some 28, none, .ld false 1 (.t 27)⟩, ⟨some 29, none, .mov (.t 4)⟩, ⟨some 30, none, .ia 1 (.t 28) (.t 29)⟩, ⟨some 31, none, .ld false 1 (.t 30)⟩, ⟨some 32, none, .len false (.t 31)⟩, ⟨some 33, none, .bsl 3 1 1 [none] [(0, 1, .t 32)]⟩, ⟨some 34, none, .app 3 1 8 (.t 26) (.t 33)⟩, ⟨some 3, none, .mov (.t 34)⟩]) (.seq (.reg [⟨some 5, none, .mov (.c (.int .i64 0))⟩]) (.blk 2 (.loop (.seq (.seq (.reg [⟨some 35, none, .mov (.t 5)⟩, ⟨some 36, none, .fa 2 (.t 1)⟩, ⟨some 37, none, .ld false 1 (.t 36)⟩, ⟨some 38, none, .mov (.t 4)⟩, ⟨some 39, none, .ia 1 (.t 37) (.t 38)⟩, ⟨some 40, none, .ld false 1 (.t 39)⟩, ⟨some 41, none, .len false (.t 40)⟩, ⟨some 42, none, .bin .lss 3 (.t 35) (.t 41)⟩]) (.cond (.t 42) .skip (.exit 2))) (.seq (.blk 3 (.seq (.reg [⟨some 45, none, .fa 2 (.t 1)⟩, ⟨some 46, none, .ld false 1 (.t 45)⟩, ⟨some 47, none, .mov (.t 4)⟩, ⟨some 48, none, .ia 1 (.t 46) (.t 47)⟩, ⟨some 49, none, .ld false 1 (.t 48)⟩, ⟨some 50, none, .mov (.t 5)⟩, ⟨some 51, none, .ia 4 (.t 49) (.t 50)⟩, ⟨some 52, none, .ld true 4 (.t 51)⟩, ⟨some 6, none, .alloc 107 [.int .i64 0, .int .i64 0, .int .i64 0, .int .i64 0]⟩, ⟨none, none, .st 4 [none, none, none, none] (.t 6) (.t 52)⟩]) (.reg [⟨some 53, none, .mov (.t 3)⟩, ⟨some 54, none, .fa 0 (.t 6)⟩, ⟨some 55, none, .ld false 1 (.t 54)⟩, ⟨some 56, none, .fa 1 (.t 6)⟩, ⟨some 57, none, .ld false 1 (.t 56)⟩, ⟨some 58, none, .fa 2 (.t 6)⟩, ⟨some 59, none, .ld false 1 (.t 58)⟩, ⟨some 60, none, .fa 3 (.t 6)⟩, ⟨some 61, none, .ld false 1 (.t 60)⟩, ⟨some 62, none, .bsl 3 1 4 [none, none, none, none] [(0, 1, .t 55), (1, 1, .t 57), (2, 1, .t 59), (3, 1, .t 61)]⟩, ⟨some 63, none, .app 3 1 8 (.t 53) (.t 62)⟩, ⟨some 3, none, .mov (.t 63)⟩]))) (.reg [⟨some 43, none, .mov (.t 5)⟩, ⟨some 44, none, .bin .add 3 (.t 43) (.c (.int .i64 1))⟩, ⟨some 5, none, .mov (.t 44)⟩])))))))) (.reg [⟨some 24, none, .mov (.t 4)⟩, ⟨some 25, none, .bin .add 3 (.t 24) (.c (.int .i64 1))⟩, ⟨some 4, none, .mov (.t 25)⟩])))))) (.seq (.reg [⟨some 64, none, .mov (.t 3)⟩, ⟨some 65, none, .fa 3 (.t 1)⟩, ⟨some 66, none, .ld false 1 (.t 65)⟩, ⟨some 67, none, .len false (.t 66)⟩, ⟨some 68, none, .bsl 3 1 1 [none] [(0, 1, .t 67)]⟩, ⟨some 69, none, .app 3 1 8 (.t 64) (.t 68)⟩, ⟨some 3, none, .mov (.t 69)⟩]) (.seq (.seq (.reg [⟨some 7, none, .mov (.c (.int .i64 0))⟩]) (.blk 4 (.loop (.seq (.seq (.reg [⟨some 70, none, .mov (.t 7)⟩, ⟨some 71, none, .fa 3 (.t 1)⟩, ⟨some 72, none, .ld false 1 (.t 71)⟩, ⟨some 73, none, .len false (.t 72)⟩, ⟨some 74, none, .bin .lss 3 (.t 70) (.t 73)⟩]) (.cond (.t 74) .skip (.exit 4))) (.seq (.blk 5 (.seq (.reg [⟨some 77, none, .fa 3 (.t 1)⟩, ⟨some 78, none, .ld false 1 (.t 77)⟩, ⟨some 79, none, .mov (.t 7)⟩, ⟨some 80, none, .ia 8 (.t 78) (.t 79)⟩, ⟨some 81, none, .ld true 8 (.t 80)⟩, ⟨some 8, none, .alloc 70 [.int .i64 0, .int .i64 0, .int .i64 0, .int .i64 0, .int .i64 0, .slice none 0 0, .int .i64 0, .slice none 0 0]⟩, ⟨none, none, .st 8 [none, none, none, none, none, some (2, 131), none, some (4, 75)] (.t 8) (.t 81)⟩]) (.seq (.dreg (T.pure 0 ⟨some 82, none, .mov (.t 3)⟩ (T.pure 1 ⟨some 83, none, .fa 0 (.t 8)⟩ (T.pure 2 ⟨some 84, none, .ld false 1 (.t 83)⟩ (T.pure 5 ⟨some 87, none, .fa 1 (.t 8)⟩ (T.pure 6 ⟨some 88, none, .ld true 5 (.t 87)⟩ (T.alt ⟨some 85, none, .bsl 3 1 1 [none] [(0, 1, .t 84)]⟩ [6, 5, 0] (T.alt ⟨some 86, none, .app 3 1 8 (.t 82) (.t 85)⟩ [6, 5] (T.alt ⟨some 89, none, .call 90 [.t 86, .t 88]⟩ [] (T.pure 8 ⟨some 3, none, .mov (.t 89)⟩ T.done) T.stop) T.stop) T.stop))))))) (.seq (.reg [⟨some 90, none, .mov (.t 3)⟩, ⟨some 91, none, .fa 6 (.t 8)⟩, ⟨some 92, none, .ld false 1 (.t 91)⟩, ⟨some 93, none, .bsl 3 1 1 [none] [(0, 1, .t 92)]⟩, ⟨some 94, none, .app 3 1 8 (.t 90) (.t 93)⟩, ⟨some 3, none, .mov (.t 94)⟩]) (.seq (.reg [⟨some 9, none, .mov (.c (.int .i64 0))⟩]) (.blk 6 (.loop (.seq (.seq (.reg [⟨some 95, none, .mov (.t 9)⟩, ⟨some 96, none, .fa 7 (.t 8)⟩, ⟨some 97, none, .ld false 1 (.t 96)⟩, ⟨some 98, none, .len false (.t 97)⟩, ⟨some 99, none, .bin .lss 3 (.t 95) (.t 98)⟩]) (.cond (.t 99) .skip (.exit 6))) (.seq (.blk 7 (.seq (.reg [⟨some 102, none, .fa 7 (.t 8)⟩, ⟨some 103, none, .ld false 1 (.t 102)⟩, ⟨some 104, none, .mov (.t 9)⟩, ⟨some 105, none, .ia 4 (.t 103) (.t 104)⟩, ⟨some 106, none, .ld true 4 (.t 105)⟩, ⟨some 10, none, .alloc 75 [.int .i64 0, .int .i64 0, .int .i64 0, .int .i64 0]⟩, ⟨none, none, .st 4 [none, none, none, none] (.t 10) (.t 106)⟩]) (.reg [⟨some 107, none, .mov (.t 3)⟩, ⟨some 108, none, .fa 0 (.t 10)⟩, ⟨some 109, none, .ld false 1 (.t 108)⟩, ⟨some 110, none, .fa 1 (.t 10)⟩, ⟨some 111, none, .ld false 1 (.t 110)⟩, ⟨some 112, none, .fa 2 (.t 10)⟩, ⟨some 113, none, .ld false 1 (.t 112)⟩, ⟨some 114, none, .fa 3 (.t 10)⟩, ⟨some 115, none, .ld false 1 (.t 114)⟩, ⟨some 116, none, .bsl 3 1 4 [none, none, none, none] [(0, 1, .t 109), (1, 1, .t 111), (2, 1, .t 113), (3, 1, .t 115)]⟩, ⟨some 117, none, .app 3 1 8 (.t 107) (.t 116)⟩, ⟨some 3, none, .mov (.t 117)⟩]))) (.reg [⟨some 100, none, .mov (.t 9)⟩, ⟨some 101, none, .bin .add 3 (.t 100) (.c (.int .i64 1))⟩, ⟨some 9, none, .mov (.t 101)⟩])))))))))) (.reg [⟨some 75, none, .mov (.t 7)⟩, ⟨some 76, none, .bin .add 3 (.t 75) (.c (.int .i64 1))⟩, ⟨some 7, none, .mov (.t 76)⟩])))))) (.seq (.reg [⟨some 118, none, .mov (.t 3)⟩, ⟨some 119, none, .call 91 [.t 118]⟩, ⟨some 2, none, .mov (.t 119)⟩]) .ret))))))
theorem code_spec_YardText : fnC Tryz.prog Tryz.f35 = some (c_spec_YardText, [.t 2], 120) := by kernel_rfl
def c_impl_YardText : C := .seq (.reg [⟨some 1, none, .box 31 4 (.t 0)⟩, ⟨some 2, none, .mov (.c (.string ⟨⟨[]⟩⟩))⟩]) (.seq (.seq (.reg [⟨some 12, none, .ld true 4 (.t 1)⟩, ⟨some 13, none, .call 53 [.t 12]⟩, ⟨some 14, none, .un .not (.t 13)⟩]) (.cond (.t 14) (.seq (.reg [⟨some 2, none, .mov (.c (.string ⟨⟨[]⟩⟩))⟩]) .ret) .skip)) (.seq (.reg [⟨some 15, none, .fa 0 (.t 1)⟩, ⟨some 16, none, .ld false 1 (.t 15)⟩, ⟨some 17, none, .fa 1 (.t 1)⟩, ⟨some 18, none, .ld false 1 (.t 17)⟩, ⟨some 19, none, .bsl 3 1 2 [none, none] [(0, 1, .t 16), (1, 1, .t 18)]⟩, ⟨some 3, none, .mov (.t 19)⟩]) (.seq (.seq (.reg [⟨some 20, none, .fa 2 (.t 1)⟩, ⟨some 21, none, .ld false 1 (.t 20)⟩, ⟨some 22, none, .len false (.t 21)⟩, ⟨some 23, none, .mov (.c (.int .i64 0))⟩]) (.blk 0 (.loop (.seq (.reg [⟨some 24, none, .bin .lss 3 (.t 23) (.t 22)⟩]) (.seq (.cond (.t 24) .skip (.exit 0)) (.seq (.blk 1 (.seq (.reg [⟨some 25, none, .ia 1 (.t 21) (.t 23)⟩, ⟨some 26, none, .ld false 1 (.t 25)⟩, ⟨some 5, none, .mov (.t 26)⟩]) (.seq (.reg [⟨some 27, none, .mov (.t 3)⟩, ⟨some 28, none, .mov (.t 5)⟩, ⟨some 29, none, .len false (.t 28)⟩, ⟨some 30, none, .bsl 3 1 1 [none] [(0, 1, .t 29)]⟩, ⟨some 31, none, .app 3 1 8 (.t 27) (.t 30)⟩, ⟨some 3, none, .mov (.t 31)⟩]) (.seq (.reg [⟨some 32, none, .mov (.t 5)⟩, ⟨some 33, none, .len false (.t 32)⟩, ⟨some 34, none, .mov (.c (.int .i64 0))⟩]) (.blk 2 (.loop (.seq (.reg [⟨some 35, none, .bin .lss 3 (.t 34) (.t 33)⟩]) (.seq (.cond (.t 35) .skip (.exit 2)) (.seq (.blk 3 (.seq (.reg [⟨some 36, none, .ia 4 (.t 32) (.t 34)⟩, ⟨some 37, none, .ld true 4 (.t 36)⟩, ⟨some 7, none, .alloc 107 [.int .i64 0, .int .i64 0, .int .i64 0, .int .i64 0]⟩, ⟨none, none, .st 4 [none, none, none, none] (.t 7) (.t 37)⟩]) (.reg [⟨some 38, none, .mov (.t 3)⟩, ⟨some 39, none, .fa 0 (.t 7)⟩, ⟨some 40, none, .ld false 1 (.t 39)⟩, ⟨some 41, none, .fa 1 (.t 7)⟩, ⟨some 42, none, .ld false 1 (.t 41)⟩, ⟨some 43, none, .fa 2 (.t 7)⟩, ⟨some 44, none, .ld false 1 (.t 43)⟩, ⟨some 45, none, .fa 3 (.t 7)⟩, ⟨some 46, none, .ld false 1 (.t 45)⟩, ⟨some 47, none, .bsl 3 1 4 [none, none, none, none] [(0, 1, .t 40), (1, 1, .t 42), (2, 1, .t 44), (3, 1, .t 46)]⟩, ⟨some 48, none, .app 3 1 8 (.t 38) (.t 47)⟩, ⟨some 3, none, .mov (.t 48)⟩]))) (.reg [⟨some 49, none, .bin .add 3 (.t 34) (.c (.int .i64 1))⟩, ⟨some 34, none, .mov (.t 49)⟩])))))))))) (.reg [⟨some 50, none, .bin .add 3 (.t 23) (.c (.int .i64 1))⟩, ⟨some 23, none, .mov (.t 50)⟩]))))))) (.seq (.reg [⟨some 51, none, .mov (.t 3)⟩, ⟨some 52, none, .fa 3 (.t 1)⟩, ⟨some 53, none, .ld false 1 (.t 52)⟩, ⟨some 54, none, .len false (.t 53)⟩, ⟨some 55, none, .bsl 3 1 1 [none] [(0, 1, .t 54)]⟩, ⟨some 56, none, .app 3 1 8 (.t 51) (.t 55)⟩, ⟨some 3, none, .mov (.t 56)⟩]) (.seq (.seq (.reg [⟨some 57, none, .fa 3 (.t 1)⟩, ⟨some 58, none, .ld false 1 (.t 57)⟩, ⟨some 59, none, .len false (.t 58)⟩, ⟨some 60, none, .mov (.c (.int .i64 0))⟩]) (.blk 4 (.loop (.seq (.reg [⟨some 61, none, .bin .lss 3 (.t 60) (.t 59)⟩]) (.seq (.cond (.t 61) .skip (.exit 4)) (.seq (.blk 5 (.seq (.reg [⟨some 62, none, .ia 8 (.t 58) (.t 60)⟩, ⟨some 63, none, .ld true 8 (.t 62)⟩, ⟨some 9, none, .alloc 70 [.int .i64 0, .int .i64 0, .int .i64 0, .int .i64 0, .int .i64 0, .slice none 0 0, .int .i64 0, .slice none 0 0]⟩, ⟨none, none, .st 8 [none, none, none, none, none, some (2, 131), none, some (4, 75)] (.t 9) (.t 63)⟩]) (.seq (.dreg (T.pure 0 ⟨some 64, none, .mov (.t 3)⟩ (T.pure 1 ⟨some 65, none, .fa 0 (.t 9)⟩ (T.pure 2 ⟨some 66, none, .ld false 1 (.t 65)⟩ (T.pure 5 ⟨some 69, none, .fa 1 (.t 9)⟩ (T.pure 6 ⟨some 70, none, .ld true 5 (.t 69)⟩ (T.alt ⟨some 67, none, .bsl 3 1 1 [none] [(0, 1, .t 66)]⟩ [6, 5, 0] (T.alt ⟨some 68, none, .app 3 1 8 (.t 64) (.t 67)⟩ [6, 5] (T.alt ⟨some 71, none, .call 94 [.t 70]⟩ [] (T.alt ⟨some 72, none, .app 3 1 8 (.t 68) (.t 71)⟩ [] (T.pure 9 ⟨some 3, none, .mov (.t 72)⟩ T.done) T.stop) T.stop) T.stop) T.stop))))))) (.seq (.reg [⟨some 73, none, .mov (.t 3)⟩, ⟨some 74, none, .fa 6 (.t 9)⟩, ⟨some 75, none, .ld false 1 (.t 74)⟩, ⟨some 76, none, .bsl 3 1 1 [none] [(0, 1, .t 75)]⟩, ⟨some 77, none, .app 3 1 8 (.t 73) (.t 76)⟩, ⟨some 3, none, .mov (.t 77)⟩]) (.seq (.reg [⟨some 78, none, .fa 7 (.t 9)⟩, ⟨some 79, none, .ld false 1 (.t 78)⟩, ⟨some 80, none, .len false (.t 79)⟩, ⟨some 81, none, .mov (.c (.int .i64 0))⟩]) (.blk 6 (.loop (.seq (.reg [⟨some 82, none, .bin .lss 3 (.t 81) (.t 80)⟩]) (.seq (.cond (.t 82) .skip (.exit 6)) (.seq (.blk 7 (.seq (.reg [⟨some 83, none, .ia 4 (.t 79) (.t 81)⟩, ⟨some 84, none, .ld true 4 (.t 83)⟩, ⟨some 11, none, .alloc 75 [.int .i64 0, .int .i64 0, .int .i64 0, .int .i64 0]⟩, ⟨none, none, .st 4 [none, none, none, none] (.t 11) (.t 84)⟩]) (.reg [⟨some 85, none, .mov (.t 3)⟩, ⟨some 86, none, .fa 0 (.t 11)⟩, ⟨some 87, none, .ld false 1 (.t 86)⟩, ⟨some 88, none, .fa 1 (.t 11)⟩, ⟨some 89, none, .ld false 1 (.t 88)⟩, ⟨some 90, none, .fa 2 (.t 11)⟩, ⟨some 91, none, .ld false 1 (.t 90)⟩, ⟨some 92, none, .fa 3 (.t 11)⟩, ⟨some 93, none, .ld false 1 (.t 92)⟩, ⟨some 94, none, .bsl 3 1 4 [none, none, none, none] [(0, 1, .t 87), (1, 1, .t 89), (2, 1, .t 91), (3, 1, .t 93)]⟩, ⟨some 95, none, .app 3 1 8 (.t 85) (.t 94)⟩, ⟨some 3, none, .mov (.t 95)⟩]))) (.reg [⟨some 96, none, .bin .add 3 (.t 81) (.c (.int .i64 1))⟩, ⟨some 81, none, .mov (.t 96)⟩]))))))))))) (.reg [⟨some 97, none, .bin .add 3 (.t 60) (.c (.int .i64 1))⟩, ⟨some 60, none, .mov (.t 97)⟩]))))))) (.seq (.reg [⟨some 98, none, .mov (.t 3)⟩, ⟨some 99, none, .call 95 [.t 98]⟩, ⟨some 2, none, .mov (.t 99)⟩]) .ret))))))
theorem code_impl_YardText : fnC Tryz.prog Tryz.f41 = some (c_impl_YardText, [.t 2], 100) := by kernel_rfl
theorem ints_2 (a b : Int) : D.sl 1 tInt [.val (.int .i64 a), .val (.int .i64 b)] = encInts [a, b] := rfl
theorem ints_5 (a b c d e : Int) : D.sl 1 tInt [.val (.int .i64 a), .val (.int .i64 b), .val (.int .i64 c), .val (.int .i64 d), .val (.int .i64 e)] = encInts [a, b, c, d, e] := rfl
theorem ints_snoc4 (l : List Int) (a b c d : Int) : D.sl 1 tInt (l.flatMap (fun n => [iv n]) ++ [.val (.int .i64 a), .val (.int .i64 b), .val (.int .i64 c), .val (.int .i64 d)]) = encInts (l ++ [a, b, c, d]) := by simp [encInts]
theorem ints_snoc5 (l : List Int) (a b c d e : Int) : D.sl 1 tInt (l.flatMap (fun n => [iv n]) ++ [.val (.int .i64 a), .val (.int .i64 b), .val (.int .i64 c), .val (.int .i64 d), .val (.int .i64 e)]) = encInts (l ++ [a, b, c, d, e]) := by simp [encInts]
theorem ints_fl (l m : List Int) : l.flatMap (fun n => [iv n]) ++ m.flatMap (fun n => [iv n]) = (l ++ m).flatMap (fun n => [iv n]) := List.flatMap_append.symm
theorem ints_app (l m : List Int) : D.sl 1 tInt (l.flatMap (fun n => [iv n]) ++ m.flatMap (fun n => [iv n])) = encInts (l ++ m) := by simp [encInts]
/-! ### The numbers, part by part -/
def plI1 (L : List Int) (p : Pl) (k : Nat) : List Int := L ++ [p.prio, p.most, p.wait, p.tasks, (p.edges.length : Int)] ++ (p.edges.take k).flatMap edI
def shI1 (L : List Int) (l : List En) (k : Nat) : List Int := L ++ [(l.length : Int)] ++ (l.take k).flatMap enI
def yI1 (y : Yd) (k : Nat) : List Int := [y.now, y.seq] ++ (y.shelf.take k).flatMap shI
def rnI1 (L : List Int) (r : Rn) (k : Nat) : List Int := L ++ [r.state] ++ (r.tasks.take k).flatMap tkI
def yI2 (L : List Int) (y : Yd) (k : Nat) : List Int := L ++ [(y.runs.length : Int)] ++ (y.runs.take k).flatMap rnI
theorem plI1_0 (L : List Int) (p : Pl) : plI1 L p 0 = L ++ [p.prio, p.most, p.wait, p.tasks, (p.edges.length : Int)] := by simp [plI1]
theorem shI1_0 (L : List Int) (l : List En) : shI1 L l 0 = L ++ [(l.length : Int)] := by simp [shI1]
theorem yI1_0 (y : Yd) : yI1 y 0 = [y.now, y.seq] := by simp [yI1]
theorem rnI1_0 (L : List Int) (r : Rn) : rnI1 L r 0 = L ++ [r.state] := by simp [rnI1]
theorem yI2_0 (L : List Int) (y : Yd) : yI2 L y 0 = L ++ [(y.runs.length : Int)] := by simp [yI2]
theorem plI1_s {L : List Int} {p : Pl} {k : Nat} {x : Ed} (h : p.edges[k]? = some x) : plI1 L p (k + 1) = plI1 L p k ++ [x.src, x.dst] := by simp only [plI1, fl_take h, edI, List.append_assoc]
theorem shI1_s {L : List Int} {l : List En} {k : Nat} {x : En} (h : l[k]? = some x) : shI1 L l (k + 1) = shI1 L l k ++ [x.prio, x.seq, x.run, x.task] := by simp only [shI1, fl_take h, enI, List.append_assoc]
theorem rnI1_s {L : List Int} {r : Rn} {k : Nat} {x : Tk} (h : r.tasks[k]? = some x) : rnI1 L r (k + 1) = rnI1 L r k ++ [x.state, x.need, x.tri, x.til] := by simp only [rnI1, fl_take h, tkI, List.append_assoc]
theorem yI1_s {y : Yd} {k : Nat} {l : List En} (h : y.shelf[k]? = some l) : yI1 y (k + 1) = shI1 (yI1 y k) l l.length := by simp [yI1, fl_take h, shI1, shI]
theorem yI2_s {L : List Int} {y : Yd} {k : Nat} {r : Rn} (h : y.runs[k]? = some r) : yI2 L y (k + 1) = rnI1 (plI1 (yI2 L y k ++ [r.id]) r.plan r.plan.edges.length) r r.tasks.length := by simp [yI2, fl_take h, rnI1, rnI, plI1, plI]
theorem plI1_e (p : Pl) : plI1 [] p p.edges.length = plI p := by simp [plI1, plI]
theorem plI1_n (p : Pl) : plI1 [] p 0 = [p.prio, p.most, p.wait, p.tasks, (p.edges.length : Int)] := by simp [plI1]
theorem plI1_l (L : List Int) (p : Pl) : plI1 L p p.edges.length = L ++ plI p := by simp [plI1, plI]
theorem yI_e (y : Yd) : yI2 (yI1 y y.shelf.length) y y.runs.length = yardI y := by simp [yI2, yI1, yardI]
theorem plI1_le (L : List Int) (p : Pl) (k : Nat) : (plI1 L p k).length ≤ L.length + 5 + 2 * p.edges.length := by
  have := fl_take_le (f := edI) (c := 2) (L := p.edges) (fun _ _ => Nat.le_refl 2) k
  simp only [plI1, List.length_append, List.length_cons, List.length_nil]; omega
theorem shI1_le (L : List Int) (l : List En) (k : Nat) : (shI1 L l k).length ≤ L.length + 1 + 4 * l.length := by
  have := fl_take_le (f := enI) (c := 4) (L := l) (fun _ _ => Nat.le_refl 4) k
  simp only [shI1, List.length_append, List.length_cons, List.length_nil]; omega
theorem rnI1_le (L : List Int) (r : Rn) (k : Nat) : (rnI1 L r k).length ≤ L.length + 1 + 4 * r.tasks.length := by
  have := fl_take_le (f := tkI) (c := 4) (L := r.tasks) (fun _ _ => Nat.le_refl 4) k
  simp only [rnI1, List.length_append, List.length_cons, List.length_nil]; omega
theorem yI1_le {y : Yd} (h : YardOkP y) (k : Nat) : (yI1 y k).length ≤ 1400 := by
  have := fl_take_le (f := shI) (c := 330) (L := y.shelf) (fun l hl => shI_le (h.shelves l hl)) k
  have := h.four
  simp only [yI1, List.length_append, List.length_cons, List.length_nil]; omega
theorem yI2_le {L : List Int} {y : Yd} (h : YardOkP y) (k : Nat) : (yI2 L y k).length ≤ L.length + 1000 := by
  have := fl_take_le (f := rnI) (c := 120) (L := y.runs) (fun r hr => rnI_le (h.right r hr)) k
  have := h.eight
  simp only [yI2, List.length_append, List.length_cons, List.length_nil]; omega
theorem p_impl_planNumbers (p : Pl) (hb : p.edges.length ≤ 4000000) : Pure Tryz.prog 94 [.agg (encPl p)] (.c (encInts (plI p))) := by
  refine pure_fn Tryz.func94 code_impl_planNumbers (by simp) ?_
  unfold c_impl_planNumbers
  simp -implicitDefEqProofs only [go_sem, encPl, ints_5]
  intro b1 η3
  refine wp_loopW (fun i : Nat × Heads => St.of [(3, Hd 3 i.2), (19, Ro (encEds p.edges)), (20, Ni p.edges.length), (21, Ni i.1)] [(3, .loose (encInts (plI1 [] p i.1)) i.2)]) (fun i => i.1 ≤ p.edges.length) (fun i => p.edges.length - i.1) (0, η3) (by (try dsimp only); first | omega | (simp; done) | (and_intros <;> first | omega | simp)) (wk_of [some 1700] (by simp -implicitDefEqProofs only [go_sem, encPl, ints_5, plI1_n] <;> and_intros <;> first | rfl | assumption)) ?_
  rintro ⟨k, η⟩ hk
  dsimp only at hk
  by_cases hlt : k < p.edges.length
  · have hlt' : (k : Int) < p.edges.length := by omega
    obtain ⟨x, hx⟩ := get_some hlt
    have hw : IntKind.i64.wrap ((k : Int) + 1) = ((k + 1 : Nat) : Int) := wrap64 (by omega) (by omega)
    have hnext := plI1_s (L := []) hx
    have hle := plI1_le [] p k
    rw [List.length_nil] at hle
    generalize plI1 [] p k = L at *
    have h1' : L.length + 2 ≤ maxLen := by unfold maxLen; omega
    have h2' : (L.length + 2) * 8 ≤ 140737488355328 := by omega
    simp -implicitDefEqProofs only [go_sem, hlt, hlt', elem_encEds hx, encEd, h1', h2', ints_snoc2, hw]
    intro b5 η30 η31
    exact ⟨(k + 1, η31), by (try dsimp only); first | omega | assumption | (and_intros <;> first | omega | assumption), (wk_of [some 3100] (by simp -implicitDefEqProofs only [go_sem, hnext] <;> and_intros <;> first | rfl | assumption)), by (try dsimp only); omega⟩
  have hlt' : ¬ (k : Int) < p.edges.length := by omega
  obtain rfl : k = p.edges.length := by omega
  simp -implicitDefEqProofs only [go_sem, hlt', plI1_e]
set_option maxHeartbeats 8000000 in
theorem p_impl_YardText (y : Yd) (ht : totYd y ≤ 2000000) : Pure Tryz.prog 41 [.agg (encYd y)] (.c (.val (.string (yardS y)))) := by
  refine pure_fn Tryz.func41 code_impl_YardText (by simp) ?_
  unfold c_impl_YardText
  simp -implicitDefEqProofs only [go_sem, encYd]
  intro b1
  refine run_call (p_impl_YardOk y ht) (by simp -implicitDefEqProofs only [go_sem, encYd]) fun η => ?_
  simp -implicitDefEqProofs only [go_sem, encYd]
  cases hok : yardOkB y
  · have hb : yardS y = ⟨⟨[]⟩⟩ := by simp [yardS, hok]
    simp -implicitDefEqProofs only [go_sem, encYd, hok, hb]
  have hY := yard_iff.1 hok
  have hb : yardS y = varsS (yardI y) := by simp [yardS, hok]
  have h4 := hY.four
  have h8 := hY.eight
  simp -implicitDefEqProofs only [go_sem, encYd, hok, ints_2]
  intro η19
  refine wp_loopW (fun i : Nat × Heads => St.of [(1, Bx 100 b1), (3, Hd 3 i.2), (21, Ro (encSh y.shelf)), (22, Ni y.shelf.length), (23, Ni i.1)] [(100, Bi b1 _ (encYd y)), (3, .loose (encInts (yI1 y i.1)) i.2)]) (fun i => i.1 ≤ y.shelf.length) (fun i => y.shelf.length - i.1) (0, η19) (by (try dsimp only); first | omega | (simp; done) | (and_intros <;> first | omega | simp)) (wk_of [some 100, some 1900] (by simp -implicitDefEqProofs only [go_sem, encYd, yI1_0] <;> and_intros <;> first | rfl | assumption)) ?_
  rintro ⟨k, η⟩ hk
  dsimp only at hk
  have hLl := yI1_le hY k
  by_cases hlt : k < y.shelf.length
  · have hlt' : (k : Int) < y.shelf.length := by omega
    obtain ⟨l, hl⟩ := get_some hlt
    have h80 := (hY.shelves l (List.mem_of_getElem? hl)).most
    have hw : IntKind.i64.wrap ((k : Int) + 1) = ((k + 1 : Nat) : Int) := wrap64 (by omega) (by omega)
    have hnext := yI1_s hl
    generalize yI1 y k = L at *
    have m1 : L.length + 1 ≤ maxLen := by unfold maxLen; omega
    have m2 : (L.length + 1) * 8 ≤ 140737488355328 := by omega
    simp -implicitDefEqProofs only [go_sem, encYd, hlt, hlt', elem_encSh hl, m1, m2, ints_snoc1]
    intro η30 η31
    refine wp_loopW (fun i : Nat × Heads => St.of [(1, Bx 100 b1), (3, Hd 3 i.2), (21, Ro (encSh y.shelf)), (22, Ni y.shelf.length), (23, Ni k), (32, Ro (encEns l)), (33, Ni l.length), (34, Ni i.1)] [(100, Bi b1 _ (encYd y)), (3, .loose (encInts (shI1 L l i.1)) i.2)]) (fun i => i.1 ≤ l.length) (fun i => l.length - i.1) (0, η31) (by (try dsimp only); first | omega | (simp; done) | (and_intros <;> first | omega | simp)) (wk_of [some 100, some 3100] (by simp -implicitDefEqProofs only [go_sem, encYd, shI1_0] <;> and_intros <;> first | rfl | assumption)) ?_
    rintro ⟨j, ηj⟩ hj
    dsimp only at hj
    by_cases hjl : j < l.length
    · have hjl' : (j : Int) < l.length := by omega
      obtain ⟨e, he⟩ := get_some hjl
      have hwj : IntKind.i64.wrap ((j : Int) + 1) = ((j + 1 : Nat) : Int) := wrap64 (by omega) (by omega)
      have hnj := shI1_s (L := L) he
      have hMl := shI1_le L l j
      generalize shI1 L l j = M at *
      have p1 : M.length + 4 ≤ maxLen := by unfold maxLen; omega
      have p2 : (M.length + 4) * 8 ≤ 140737488355328 := by omega
      simp -implicitDefEqProofs only [go_sem, encYd, hjl, hjl', elem_encEns he, encEn, p1, p2, ints_snoc4, hwj]
      intro b7 η47 η48
      exact ⟨(j + 1, η48), by (try dsimp only); first | omega | assumption | (and_intros <;> first | omega | assumption), (wk_of [some 100, some 4800] (by simp -implicitDefEqProofs only [go_sem, encYd, hnj] <;> and_intros <;> first | rfl | assumption)), by (try dsimp only); omega⟩
    have hjl' : ¬ (j : Int) < l.length := by omega
    obtain rfl : j = l.length := by omega
    rw [← hnext]
    simp -implicitDefEqProofs only [go_sem, encYd, hjl', hw]
    exact ⟨(k + 1, ηj), by (try dsimp only); first | omega | assumption | (and_intros <;> first | omega | assumption), (wk_of [some 100, some 3] (by simp -implicitDefEqProofs only [go_sem, encYd] <;> and_intros <;> first | rfl | assumption)), by (try dsimp only); omega⟩
  have hlt' : ¬ (k : Int) < y.shelf.length := by omega
  obtain rfl : k = y.shelf.length := by omega
  have hye := yI_e y
  generalize yI1 y y.shelf.length = L1 at *
  have m1 : L1.length + 1 ≤ maxLen := by unfold maxLen; omega
  have m2 : (L1.length + 1) * 8 ≤ 140737488355328 := by omega
  simp -implicitDefEqProofs only [go_sem, encYd, hlt', m1, m2, ints_snoc1]
  intro η55 η56
  refine wp_loopW (fun i : Nat × Heads => St.of [(3, Hd 3 i.2), (58, Ro (encRns y.runs)), (59, Ni y.runs.length), (60, Ni i.1)] [(3, .loose (encInts (yI2 L1 y i.1)) i.2)]) (fun i => i.1 ≤ y.runs.length) (fun i => y.runs.length - i.1) (0, η56) (by (try dsimp only); first | omega | (simp; done) | (and_intros <;> first | omega | simp)) (wk_of [some 5600] (by simp -implicitDefEqProofs only [go_sem, encYd, yI2_0] <;> and_intros <;> first | rfl | assumption)) ?_
  rintro ⟨m, ηm⟩ hm
  dsimp only at hm
  have hml2 := yI2_le (L := L1) hY m
  by_cases hml : m < y.runs.length
  · have hml' : (m : Int) < y.runs.length := by omega
    obtain ⟨r, hr⟩ := get_some hml
    obtain ⟨n, hn, hn1, h12, h30, -⟩ := pf_0 (hY.right r (List.mem_of_getElem? hr)).plan
    have hlen := (hY.right r (List.mem_of_getElem? hr)).len
    have hw : IntKind.i64.wrap ((m : Int) + 1) = ((m + 1 : Nat) : Int) := wrap64 (by omega) (by omega)
    have hnm := yI2_s (L := L1) hr
    rw [plI1_l] at hnm
    generalize yI2 L1 y m = L2 at *
    have hpl := plI_le h30
    have q1 : L2.length + 1 ≤ maxLen := by unfold maxLen; omega
    have q2 : (L2.length + 1) * 8 ≤ 140737488355328 := by omega
    obtain ⟨L2', hs⟩ : ∃ L2', L2 ++ [r.id] = L2' := ⟨_, rfl⟩
    have hsl : L2'.length = L2.length + 1 := by rw [← hs]; simp
    rw [hs] at hnm
    have q3 : L2'.length + (plI r.plan).length ≤ maxLen := by unfold maxLen; omega
    have q4 : (L2'.length + (plI r.plan).length) * 8 ≤ 140737488355328 := by omega
    simp -implicitDefEqProofs only [go_sem, hml, hml', elem_encRns hr, encRn, encPl, q1, q2, ints_snoc1, hs]
    intro b9 η67 η68
    obtain ⟨L3, hL3⟩ : ∃ L3, L2' ++ plI r.plan = L3 := ⟨_, rfl⟩
    have hL3l : L3.length = L2'.length + (plI r.plan).length := by rw [← hL3]; simp
    rw [hL3] at hnm
    have q5 : L3.length + 1 ≤ maxLen := by unfold maxLen; omega
    have q6 : (L3.length + 1) * 8 ≤ 140737488355328 := by omega
    refine run_call (p_impl_planNumbers r.plan (by omega)) (by simp -implicitDefEqProofs only [go_sem, encRn, encPl, q3, q4, ints_fl, hL3, q5, q6, ints_snoc1]) fun η => ?_
    simp -implicitDefEqProofs only [go_sem, encRn, encPl, q3, q4, ints_fl, hL3, q5, q6, ints_snoc1]
    intro η72 η76 η77
    refine wp_loopW (fun i : Nat × Heads => St.of [(3, Hd 3 i.2), (58, Ro (encRns y.runs)), (59, Ni y.runs.length), (60, Ni m), (79, Ro (encTks r.tasks)), (80, Ni r.tasks.length), (81, Ni i.1)] [(3, .loose (encInts (rnI1 L3 r i.1)) i.2)]) (fun i => i.1 ≤ r.tasks.length) (fun i => r.tasks.length - i.1) (0, η77) (by (try dsimp only); first | omega | (simp; done) | (and_intros <;> first | omega | simp)) (wk_of [some 7700] (by simp -implicitDefEqProofs only [go_sem, encYd, rnI1_0] <;> and_intros <;> first | rfl | assumption)) ?_
    rintro ⟨j, ηj⟩ hj
    dsimp only at hj
    by_cases hjl : j < r.tasks.length
    · have hjl' : (j : Int) < r.tasks.length := by omega
      obtain ⟨e, he⟩ := get_some hjl
      have hwj : IntKind.i64.wrap ((j : Int) + 1) = ((j + 1 : Nat) : Int) := wrap64 (by omega) (by omega)
      have hnj := rnI1_s (L := L3) he
      have hMl := rnI1_le L3 r j
      generalize rnI1 L3 r j = M at *
      have p1 : M.length + 4 ≤ maxLen := by unfold maxLen; omega
      have p2 : (M.length + 4) * 8 ≤ 140737488355328 := by omega
      simp -implicitDefEqProofs only [go_sem, encYd, hjl, hjl', elem_encTks he, encTk, p1, p2, ints_snoc4, hwj]
      intro b7 η94 η95
      exact ⟨(j + 1, η95), by (try dsimp only); first | omega | assumption | (and_intros <;> first | omega | assumption), (wk_of [some 9500] (by simp -implicitDefEqProofs only [go_sem, hnj] <;> and_intros <;> first | rfl | assumption)), by (try dsimp only); omega⟩
    have hjl' : ¬ (j : Int) < r.tasks.length := by omega
    obtain rfl : j = r.tasks.length := by omega
    rw [← hnm]
    simp -implicitDefEqProofs only [go_sem, hjl', hw]
    exact ⟨(m + 1, ηj), by (try dsimp only); first | omega | assumption | (and_intros <;> first | omega | assumption), (wk_of [some 3] (by simp -implicitDefEqProofs only [go_sem, encYd] <;> and_intros <;> first | rfl | assumption)), by (try dsimp only); omega⟩
  have hml' : ¬ (m : Int) < y.runs.length := by omega
  obtain rfl : m = y.runs.length := by omega
  rw [hye] at hml2 ⊢
  simp -implicitDefEqProofs only [go_sem, hml']
  refine run_call (p_impl_vars (yardI y) (by omega)) (by simp -implicitDefEqProofs only [go_sem]) fun η => ?_
  simp -implicitDefEqProofs only [go_sem]
  simp -implicitDefEqProofs only [go_sem, hb]
set_option maxHeartbeats 8000000 in
theorem p_spec_YardText (y : Yd) (ht : totYd y ≤ 2000000) : Pure Tryz.prog 35 [.agg (encYd y)] (.c (.val (.string (yardS y)))) := by
  refine pure_fn Tryz.func35 code_spec_YardText (by simp) ?_
  unfold c_spec_YardText
  simp -implicitDefEqProofs only [go_sem, encYd]
  intro b1
  refine run_call (p_spec_YardOk y ht) (by simp -implicitDefEqProofs only [go_sem, encYd]) fun η => ?_
  simp -implicitDefEqProofs only [go_sem, encYd]
  cases hok : yardOkB y
  · have hb : yardS y = ⟨⟨[]⟩⟩ := by simp [yardS, hok]
    simp -implicitDefEqProofs only [go_sem, encYd, hok, hb]
  have hY := yard_iff.1 hok
  have hb : yardS y = varsS (yardI y) := by simp [yardS, hok]
  have h4 := hY.four
  have h8 := hY.eight
  simp -implicitDefEqProofs only [go_sem, encYd, hok, ints_2]
  intro η19
  refine wp_loopW (fun i : Nat × Heads => St.of [(1, Bx 100 b1), (3, Hd 3 i.2), (4, Ni i.1)] [(100, Bi b1 _ (encYd y)), (3, .loose (encInts (yI1 y i.1)) i.2)]) (fun i => i.1 ≤ y.shelf.length) (fun i => y.shelf.length - i.1) (0, η19) (by (try dsimp only); first | omega | (simp; done) | (and_intros <;> first | omega | simp)) (wk_of [some 100, some 1800] (by simp -implicitDefEqProofs only [go_sem, encYd, yI1_0] <;> and_intros <;> first | rfl | assumption)) ?_
  rintro ⟨k, η⟩ hk
  dsimp only at hk
  have hLl := yI1_le hY k
  by_cases hlt : k < y.shelf.length
  · have hlt' : (k : Int) < y.shelf.length := by omega
    have h0k : (k : Int) ≥ 0 := by omega
    obtain ⟨l, hl⟩ := get_some hlt
    have h80 := (hY.shelves l (List.mem_of_getElem? hl)).most
    have hw : IntKind.i64.wrap ((k : Int) + 1) = ((k + 1 : Nat) : Int) := wrap64 (by omega) (by omega)
    have hnext := yI1_s hl
    generalize yI1 y k = L at *
    have m1 : L.length + 1 ≤ maxLen := by unfold maxLen; omega
    have m2 : (L.length + 1) * 8 ≤ 140737488355328 := by omega
    simp -implicitDefEqProofs only [go_sem, encYd, hlt, hlt', h0k, elem_encSh hl, m1, m2, ints_snoc1]
    intro η30 η31
    refine wp_loopW (fun i : Nat × Heads => St.of [(1, Bx 100 b1), (3, Hd 3 i.2), (4, Ni k), (5, Ni i.1)] [(100, Bi b1 _ (encYd y)), (3, .loose (encInts (shI1 L l i.1)) i.2)]) (fun i => i.1 ≤ l.length) (fun i => l.length - i.1) (0, η31) (by (try dsimp only); first | omega | (simp; done) | (and_intros <;> first | omega | simp)) (wk_of [some 100, some 3400] (by simp -implicitDefEqProofs only [go_sem, encYd, shI1_0] <;> and_intros <;> first | rfl | assumption)) ?_
    rintro ⟨j, ηj⟩ hj
    dsimp only at hj
    by_cases hjl : j < l.length
    · have hjl' : (j : Int) < l.length := by omega
      have h0j : (j : Int) ≥ 0 := by omega
      obtain ⟨e, he⟩ := get_some hjl
      have hwj : IntKind.i64.wrap ((j : Int) + 1) = ((j + 1 : Nat) : Int) := wrap64 (by omega) (by omega)
      have hnj := shI1_s (L := L) he
      have hMl := shI1_le L l j
      generalize shI1 L l j = M at *
      have p1 : M.length + 4 ≤ maxLen := by unfold maxLen; omega
      have p2 : (M.length + 4) * 8 ≤ 140737488355328 := by omega
      simp -implicitDefEqProofs only [go_sem, encYd, hlt, hlt', h0k, elem_encSh hl, hjl, hjl', h0j, elem_encEns he, encEn, p1, p2, ints_snoc4, hwj]
      intro b7 η47 η48
      exact ⟨(j + 1, η48), by (try dsimp only); first | omega | assumption | (and_intros <;> first | omega | assumption), (wk_of [some 100, some 6300] (by simp -implicitDefEqProofs only [go_sem, encYd, hnj] <;> and_intros <;> first | rfl | assumption)), by (try dsimp only); omega⟩
    have hjl' : ¬ (j : Int) < l.length := by omega
    obtain rfl : j = l.length := by omega
    rw [← hnext]
    simp -implicitDefEqProofs only [go_sem, encYd, hlt, hlt', h0k, elem_encSh hl, hjl', hw]
    exact ⟨(k + 1, ηj), by (try dsimp only); first | omega | assumption | (and_intros <;> first | omega | assumption), (wk_of [some 100, some 3] (by simp -implicitDefEqProofs only [go_sem, encYd] <;> and_intros <;> first | rfl | assumption)), by (try dsimp only); omega⟩
  have hlt' : ¬ (k : Int) < y.shelf.length := by omega
  obtain rfl : k = y.shelf.length := by omega
  have hye := yI_e y
  generalize yI1 y y.shelf.length = L1 at *
  have m1 : L1.length + 1 ≤ maxLen := by unfold maxLen; omega
  have m2 : (L1.length + 1) * 8 ≤ 140737488355328 := by omega
  simp -implicitDefEqProofs only [go_sem, encYd, hlt', m1, m2, ints_snoc1]
  intro η55 η56
  refine wp_loopW (fun i : Nat × Heads => St.of [(1, Bx 100 b1), (3, Hd 3 i.2), (7, Ni i.1)] [(100, Bi b1 _ (encYd y)), (3, .loose (encInts (yI2 L1 y i.1)) i.2)]) (fun i => i.1 ≤ y.runs.length) (fun i => y.runs.length - i.1) (0, η56) (by (try dsimp only); first | omega | (simp; done) | (and_intros <;> first | omega | simp)) (wk_of [some 100, some 6900] (by simp -implicitDefEqProofs only [go_sem, encYd, yI2_0] <;> and_intros <;> first | rfl | assumption)) ?_
  rintro ⟨m, ηm⟩ hm
  dsimp only at hm
  have hml2 := yI2_le (L := L1) hY m
  by_cases hml : m < y.runs.length
  · have hml' : (m : Int) < y.runs.length := by omega
    have h0m : (m : Int) ≥ 0 := by omega
    obtain ⟨r, hr⟩ := get_some hml
    obtain ⟨n, hn, hn1, h12, h30, -⟩ := pf_0 (hY.right r (List.mem_of_getElem? hr)).plan
    have hlen := (hY.right r (List.mem_of_getElem? hr)).len
    have hw : IntKind.i64.wrap ((m : Int) + 1) = ((m + 1 : Nat) : Int) := wrap64 (by omega) (by omega)
    have hnm := yI2_s (L := L1) hr
    generalize yI2 L1 y m = L2 at *
    have q1 : L2.length + 1 ≤ maxLen := by unfold maxLen; omega
    have q2 : (L2.length + 1) * 8 ≤ 140737488355328 := by omega
    obtain ⟨L2', hs⟩ : ∃ L2', L2 ++ [r.id] = L2' := ⟨_, rfl⟩
    have hsl : L2'.length = L2.length + 1 := by rw [← hs]; simp
    rw [hs] at hnm
    have q3 : L2'.length + 5 ≤ maxLen := by unfold maxLen; omega
    have q4 : (L2'.length + 5) * 8 ≤ 140737488355328 := by omega
    simp -implicitDefEqProofs only [go_sem, encYd, hml, hml', h0m, elem_encRns hr, encRn, encPl, q1, q2, ints_snoc1, hs]
    intro b8 η85 η86
    refine run_inl (inl_fn (β := 7000000) Tryz.func90 code_spec_l18Plan (by simp) ?_)
    unfold c_spec_l18Plan
    simp -implicitDefEqProofs only [go_sem, encYd, encRn, encPl, q3, q4, ints_snoc5]
    intro bp η18 η19
    refine wp_loopW (fun i : Nat × Heads => St.of [(0, Hd 0 i.2), (3, Bx 3 bp), (5, Ni i.1)] [(100, Bi b1 _ (encYd y)), (800, Bi b8 _ (encRn r)), (3, Bi bp _ (encPl r.plan)), (0, .loose (encInts (plI1 L2' r.plan i.1)) i.2)]) (fun i => i.1 ≤ r.plan.edges.length) (fun i => r.plan.edges.length - i.1) (0, η19) (by (try dsimp only); first | omega | (simp; done) | (and_intros <;> first | omega | simp)) (wk_of [some 100, some 800, some 700000300, some 700001900] (by simp -implicitDefEqProofs only [go_sem, encYd, encRn, encPl, plI1_0] <;> and_intros <;> first | rfl | assumption)) ?_
    rintro ⟨j, ηj⟩ hj
    dsimp only at hj
    have hMl := plI1_le L2' r.plan j
    by_cases hjl : j < r.plan.edges.length
    · have hjl' : (j : Int) < r.plan.edges.length := by omega
      have h0j : (j : Int) ≥ 0 := by omega
      obtain ⟨e, he⟩ := get_some hjl
      have hwj : IntKind.i64.wrap ((j : Int) + 1) = ((j + 1 : Nat) : Int) := wrap64 (by omega) (by omega)
      have hnj := plI1_s (L := L2') he
      generalize plI1 L2' r.plan j = M at *
      have p1 : M.length + 2 ≤ maxLen := by unfold maxLen; omega
      have p2 : (M.length + 2) * 8 ≤ 140737488355328 := by omega
      simp -implicitDefEqProofs only [go_sem, encYd, encRn, encPl, hjl, hjl', h0j, elem_encEds he, encEd, p1, p2, ints_snoc2, hwj]
      intro η40 η41
      exact ⟨(j + 1, η41), by (try dsimp only); first | omega | assumption | (and_intros <;> first | omega | assumption), (wk_of [some 100, some 800, some 3, some 700004100] (by simp -implicitDefEqProofs only [go_sem, encYd, encRn, encPl, hnj] <;> and_intros <;> first | rfl | assumption)), by (try dsimp only); omega⟩
    have hjl' : ¬ (j : Int) < r.plan.edges.length := by omega
    obtain rfl : j = r.plan.edges.length := by omega
    generalize plI1 L2' r.plan r.plan.edges.length = L3 at *
    have q5 : L3.length + 1 ≤ maxLen := by unfold maxLen; omega
    have q6 : (L3.length + 1) * 8 ≤ 140737488355328 := by omega
    simp -implicitDefEqProofs only [go_sem, encYd, encRn, encPl, hjl', q5, q6, ints_snoc1]
    intro η93 η94
    refine wp_loopW (fun i : Nat × Heads => St.of [(1, Bx 100 b1), (3, Hd 3 i.2), (7, Ni m), (8, Bx 800 b8), (9, Ni i.1)] [(100, Bi b1 _ (encYd y)), (800, Bi b8 _ (encRn r)), (3, .loose (encInts (rnI1 L3 r i.1)) i.2)]) (fun i => i.1 ≤ r.tasks.length) (fun i => r.tasks.length - i.1) (0, η94) (by (try dsimp only); first | omega | (simp; done) | (and_intros <;> first | omega | simp)) (wk_of [some 100, some 800, some 9400] (by simp -implicitDefEqProofs only [go_sem, encYd, encRn, encPl, rnI1_0] <;> and_intros <;> first | rfl | assumption)) ?_
    rintro ⟨j, ηj⟩ hj
    dsimp only at hj
    by_cases hjl : j < r.tasks.length
    · have hjl' : (j : Int) < r.tasks.length := by omega
      have h0j : (j : Int) ≥ 0 := by omega
      obtain ⟨e, he⟩ := get_some hjl
      have hwj : IntKind.i64.wrap ((j : Int) + 1) = ((j + 1 : Nat) : Int) := wrap64 (by omega) (by omega)
      have hnj := rnI1_s (L := L3) he
      have hMl := rnI1_le L3 r j
      generalize rnI1 L3 r j = M at *
      have p1 : M.length + 4 ≤ maxLen := by unfold maxLen; omega
      have p2 : (M.length + 4) * 8 ≤ 140737488355328 := by omega
      simp -implicitDefEqProofs only [go_sem, encYd, encRn, encPl, hjl, hjl', h0j, elem_encTks he, encTk, p1, p2, ints_snoc4, hwj]
      intro b7 η94 η95
      exact ⟨(j + 1, η95), by (try dsimp only); first | omega | assumption | (and_intros <;> first | omega | assumption), (wk_of [some 100, some 800, some 11700] (by simp -implicitDefEqProofs only [go_sem, encYd, encRn, encPl, hnj] <;> and_intros <;> first | rfl | assumption)), by (try dsimp only); omega⟩
    have hjl' : ¬ (j : Int) < r.tasks.length := by omega
    obtain rfl : j = r.tasks.length := by omega
    rw [← hnm]
    simp -implicitDefEqProofs only [go_sem, encYd, encRn, encPl, hjl', hw]
    exact ⟨(m + 1, ηj), by (try dsimp only); first | omega | assumption | (and_intros <;> first | omega | assumption), (wk_of [some 100, some 3] (by simp -implicitDefEqProofs only [go_sem, encYd] <;> and_intros <;> first | rfl | assumption)), by (try dsimp only); omega⟩
  have hml' : ¬ (m : Int) < y.runs.length := by omega
  obtain rfl : m = y.runs.length := by omega
  rw [hye] at hml2 ⊢
  simp -implicitDefEqProofs only [go_sem, encYd, hml']
  refine run_call (p_spec_l02Vars (yardI y) (by omega)) (by simp -implicitDefEqProofs only [go_sem]) fun η => ?_
  simp -implicitDefEqProofs only [go_sem]
  simp -implicitDefEqProofs only [go_sem, hb]
end Go.Proofs.YtbplebgnkhmemaaGreat
