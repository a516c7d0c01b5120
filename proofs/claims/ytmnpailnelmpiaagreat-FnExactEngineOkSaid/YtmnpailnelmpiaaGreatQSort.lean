/- Texts for laws: Sort. -/
import Derived.Test.YtmnpailnelmpiaaGreatQRunP
import Derived.Test.YtmnpailnelmpiaaGreatQW
import Derived.Test.YtmnpailnelmpiaaGreatProg
set_option linter.unusedSimpArgs false
set_option linter.unusedVariables false
set_option maxRecDepth 100000
namespace Go.Proofs.YtmnpailnelmpiaaGreat
open Go.RowKit Go.Sort
def c_cmp_isNaN_int_ : C := .seq (.reg [⟨some 2, none, .mov (.c (.bool false))⟩]) (.seq (.reg [⟨some 3, none, .mov (.t 0)⟩, ⟨some 4, none, .mov (.t 0)⟩, ⟨some 5, none, .bin .neq 3 (.t 3) (.t 4)⟩, ⟨some 2, none, .mov (.t 5)⟩]) .ret)
theorem code_cmp_isNaN_int_ : fnC Tryz.prog Tryz.f315 = some (c_cmp_isNaN_int_, [.t 2], 6) := by kernel_rfl
def c_cmp_Less_int_ : C := .seq (.reg [⟨some 4, none, .mov (.c (.bool false))⟩]) (.seq (.reg [⟨some 5, none, .mov (.t 0)⟩, ⟨some 6, none, .call 315 [.t 5]⟩, ⟨some 7, none, .mov (.t 6)⟩, ⟨some 8, some (7, true), .mov (.t 1)⟩, ⟨some 9, some (7, true), .call 315 [.t 8]⟩, ⟨some 10, some (7, true), .un .not (.t 9)⟩, ⟨some 11, none, .pick (.t 7) (.t 10) (.c (.bool false))⟩, ⟨some 12, none, .mov (.t 11)⟩, ⟨some 13, some (12, false), .mov (.t 0)⟩, ⟨some 14, some (12, false), .mov (.t 1)⟩, ⟨some 15, some (12, false), .bin .lss 3 (.t 13) (.t 14)⟩, ⟨some 16, none, .pick (.t 12) (.c (.bool true)) (.t 15)⟩, ⟨some 4, none, .mov (.t 16)⟩]) .ret)
theorem code_cmp_Less_int_ : fnC Tryz.prog Tryz.f304 = some (c_cmp_Less_int_, [.t 4], 17) := by kernel_rfl
def c_slices_insertionSortOrdered_int_ : C := .seq (.reg [⟨some 8, none, .mov (.t 1)⟩, ⟨some 9, none, .bin .add 3 (.t 8) (.c (.int .i64 1))⟩, ⟨some 6, none, .mov (.t 9)⟩]) (.blk 0 (.loop (.seq (.seq (.reg [⟨some 10, none, .mov (.t 6)⟩, ⟨some 11, none, .mov (.t 2)⟩, ⟨some 12, none, .bin .lss 3 (.t 10) (.t 11)⟩]) (.cond (.t 12) .skip (.exit 0))) (.seq (.blk 1 (.seq (.reg [⟨some 15, none, .mov (.t 6)⟩, ⟨some 7, none, .mov (.t 15)⟩]) (.blk 2 (.loop (.seq (.seq (.dreg (T.pure 0 ⟨some 16, none, .mov (.t 7)⟩ (T.pure 1 ⟨some 17, none, .mov (.t 1)⟩ (T.pure 2 ⟨some 18, none, .bin .gtr 3 (.t 16) (.t 17)⟩ (T.pure 3 ⟨some 19, none, .mov (.t 18)⟩ (T.pure 4 ⟨some 20, some (19, true), .mov (.t 0)⟩ (T.pure 5 ⟨some 21, some (19, true), .mov (.t 7)⟩ (T.pure 6 ⟨some 22, some (19, true), .ia 1 (.t 20) (.t 21)⟩ (T.pure 7 ⟨some 23, some (19, true), .ld false 1 (.t 22)⟩ (T.pure 8 ⟨some 24, some (19, true), .mov (.t 0)⟩ (T.pure 9 ⟨some 25, some (19, true), .mov (.t 7)⟩ (T.pure 10 ⟨some 26, some (19, true), .bin .sub 3 (.t 25) (.c (.int .i64 1))⟩ (T.pure 11 ⟨some 27, some (19, true), .ia 1 (.t 24) (.t 26)⟩ (T.pure 12 ⟨some 28, some (19, true), .ld false 1 (.t 27)⟩ (T.alt ⟨some 29, some (19, true), .call 304 [.t 23, .t 28]⟩ [] (T.pure 14 ⟨some 30, none, .pick (.t 19) (.t 29) (.c (.bool false))⟩ T.done) T.stop))))))))))))))) (.cond (.t 30) .skip (.exit 2))) (.seq (.blk 3 (.dreg (T.pure 0 ⟨some 33, none, .mov (.t 0)⟩ (T.pure 1 ⟨some 34, none, .mov (.t 7)⟩ (T.pure 2 ⟨some 35, none, .mov (.t 0)⟩ (T.pure 3 ⟨some 36, none, .mov (.t 7)⟩ (T.pure 4 ⟨some 37, none, .bin .sub 3 (.t 36) (.c (.int .i64 1))⟩ (T.pure 5 ⟨some 38, none, .mov (.t 0)⟩ (T.pure 6 ⟨some 39, none, .mov (.t 7)⟩ (T.pure 7 ⟨some 40, none, .bin .sub 3 (.t 39) (.c (.int .i64 1))⟩ (T.pure 8 ⟨some 41, none, .ia 1 (.t 38) (.t 40)⟩ (T.pure 9 ⟨some 42, none, .ld false 1 (.t 41)⟩ (T.pure 10 ⟨some 43, none, .mov (.t 0)⟩ (T.pure 11 ⟨some 44, none, .mov (.t 7)⟩ (T.pure 12 ⟨some 45, none, .ia 1 (.t 43) (.t 44)⟩ (T.pure 13 ⟨some 46, none, .ld false 1 (.t 45)⟩ (T.pure 14 ⟨some 47, none, .ia 1 (.t 33) (.t 34)⟩ (T.alt ⟨none, none, .st 1 [none] (.t 47) (.t 42)⟩ [4, 3, 2] (T.pure 16 ⟨some 48, none, .ia 1 (.t 35) (.t 37)⟩ (T.alt ⟨none, none, .st 1 [none] (.t 48) (.t 46)⟩ [] T.done T.stop)) T.stop)))))))))))))))))) (.reg [⟨some 31, none, .mov (.t 7)⟩, ⟨some 32, none, .bin .sub 3 (.t 31) (.c (.int .i64 1))⟩, ⟨some 7, none, .mov (.t 32)⟩]))))))) (.reg [⟨some 13, none, .mov (.t 6)⟩, ⟨some 14, none, .bin .add 3 (.t 13) (.c (.int .i64 1))⟩, ⟨some 6, none, .mov (.t 14)⟩])))))
theorem code_slices_insertionSortOrdered_int_ : fnC Tryz.prog Tryz.f298 = some (c_slices_insertionSortOrdered_int_, [], 49) := by kernel_rfl
def c_slices_pdqsortOrdered_int_ : C := .seq (.reg [⟨some 8, none, .mov (.c (.bool true))⟩]) (.seq (.reg [⟨some 9, none, .mov (.c (.bool true))⟩]) (.blk 0 (.loop (.blk 1 (.seq (.reg [⟨some 19, none, .mov (.t 2)⟩, ⟨some 20, none, .mov (.t 1)⟩, ⟨some 21, none, .bin .sub 3 (.t 19) (.t 20)⟩, ⟨some 10, none, .mov (.t 21)⟩]) (.seq (.seq (.reg [⟨some 22, none, .mov (.t 10)⟩, ⟨some 23, none, .bin .leq 3 (.t 22) (.c (.int .i64 12))⟩]) (.cond (.t 23) (.seq (.reg [⟨some 24, none, .mov (.t 0)⟩, ⟨some 25, none, .mov (.t 1)⟩, ⟨some 26, none, .mov (.t 2)⟩, ⟨some 27, none, .call 298 [.t 24, .t 25, .t 26]⟩]) .ret) .skip)) (.seq (.seq (.reg [⟨some 28, none, .mov (.t 3)⟩, ⟨some 29, none, .bin .eql 3 (.t 28) (.c (.int .i64 0))⟩]) (.cond (.t 29) (.seq (.reg [⟨some 30, none, .mov (.t 0)⟩, ⟨some 31, none, .mov (.t 1)⟩, ⟨some 32, none, .mov (.t 2)⟩, ⟨some 33, none, .call 299 [.t 30, .t 31, .t 32]⟩]) .ret) .skip)) (.seq (.seq (.reg [⟨some 34, none, .mov (.t 8)⟩, ⟨some 35, none, .un .not (.t 34)⟩]) (.cond (.t 35) (.seq (.reg [⟨some 36, none, .mov (.t 0)⟩, ⟨some 37, none, .mov (.t 1)⟩, ⟨some 38, none, .mov (.t 2)⟩, ⟨some 39, none, .call 300 [.t 36, .t 37, .t 38]⟩]) (.reg [⟨some 40, none, .mov (.t 3)⟩, ⟨some 41, none, .bin .sub 3 (.t 40) (.c (.int .i64 1))⟩, ⟨some 3, none, .mov (.t 41)⟩])) .skip)) (.seq (.reg [⟨some 43, none, .mov (.t 0)⟩, ⟨some 44, none, .mov (.t 1)⟩, ⟨some 45, none, .mov (.t 2)⟩, ⟨some 46, none, .call 301 [.t 43, .t 44, .t 45]⟩, ⟨some 42, none, .mov (.t 46)⟩, ⟨some 47, none, .ext (.t 42) 0⟩, ⟨some 48, none, .ext (.t 42) 1⟩, ⟨some 11, none, .mov (.t 47)⟩, ⟨some 12, none, .mov (.t 48)⟩]) (.seq (.seq (.reg [⟨some 49, none, .mov (.t 12)⟩, ⟨some 50, none, .bin .eql 309 (.t 49) (.c (.int .i64 2))⟩]) (.cond (.t 50) (.seq (.reg [⟨some 51, none, .mov (.t 0)⟩, ⟨some 52, none, .mov (.t 1)⟩, ⟨some 53, none, .mov (.t 2)⟩, ⟨some 54, none, .call 302 [.t 51, .t 52, .t 53]⟩]) (.seq (.reg [⟨some 55, none, .mov (.t 2)⟩, ⟨some 56, none, .bin .sub 3 (.t 55) (.c (.int .i64 1))⟩, ⟨some 57, none, .mov (.t 11)⟩, ⟨some 58, none, .mov (.t 1)⟩, ⟨some 59, none, .bin .sub 3 (.t 57) (.t 58)⟩, ⟨some 60, none, .bin .sub 3 (.t 56) (.t 59)⟩, ⟨some 11, none, .mov (.t 60)⟩]) (.reg [⟨some 12, none, .mov (.c (.int .i64 1))⟩]))) .skip)) (.seq (.seq (.reg [⟨some 61, none, .mov (.t 8)⟩, ⟨some 62, none, .mov (.t 61)⟩, ⟨some 63, some (62, true), .mov (.t 9)⟩, ⟨some 64, none, .pick (.t 62) (.t 63) (.c (.bool false))⟩, ⟨some 65, none, .mov (.t 64)⟩, ⟨some 66, some (65, true), .mov (.t 12)⟩, ⟨some 67, some (65, true), .bin .eql 309 (.t 66) (.c (.int .i64 1))⟩, ⟨some 68, none, .pick (.t 65) (.t 67) (.c (.bool false))⟩]) (.cond (.t 68) (.seq (.reg [⟨some 69, none, .mov (.t 0)⟩, ⟨some 70, none, .mov (.t 1)⟩, ⟨some 71, none, .mov (.t 2)⟩, ⟨some 72, none, .call 303 [.t 69, .t 70, .t 71]⟩]) (.cond (.t 72) .ret .skip)) .skip)) (.seq (.seq (.dreg (T.pure 0 ⟨some 73, none, .mov (.t 1)⟩ (T.pure 1 ⟨some 74, none, .bin .gtr 3 (.t 73) (.c (.int .i64 0))⟩ (T.pure 2 ⟨some 75, none, .mov (.t 74)⟩ (T.pure 3 ⟨some 76, some (75, true), .mov (.t 0)⟩ (T.pure 4 ⟨some 77, some (75, true), .mov (.t 1)⟩ (T.pure 5 ⟨some 78, some (75, true), .bin .sub 3 (.t 77) (.c (.int .i64 1))⟩ (T.pure 6 ⟨some 79, some (75, true), .ia 1 (.t 76) (.t 78)⟩ (T.pure 7 ⟨some 80, some (75, true), .ld false 1 (.t 79)⟩ (T.pure 8 ⟨some 81, some (75, true), .mov (.t 0)⟩ (T.pure 9 ⟨some 82, some (75, true), .mov (.t 11)⟩ (T.pure 10 ⟨some 83, some (75, true), .ia 1 (.t 81) (.t 82)⟩ (T.pure 11 ⟨some 84, some (75, true), .ld false 1 (.t 83)⟩ (T.alt ⟨some 85, some (75, true), .call 304 [.t 80, .t 84]⟩ [] (T.pure 13 ⟨some 86, some (75, true), .un .not (.t 85)⟩ (T.pure 14 ⟨some 87, none, .pick (.t 75) (.t 86) (.c (.bool false))⟩ T.done)) T.stop)))))))))))))) (.cond (.t 87) (.seq (.reg [⟨some 88, none, .mov (.t 0)⟩, ⟨some 89, none, .mov (.t 1)⟩, ⟨some 90, none, .mov (.t 2)⟩, ⟨some 91, none, .mov (.t 11)⟩, ⟨some 92, none, .call 305 [.t 88, .t 89, .t 90, .t 91]⟩, ⟨some 13, none, .mov (.t 92)⟩]) (.seq (.reg [⟨some 93, none, .mov (.t 13)⟩, ⟨some 1, none, .mov (.t 93)⟩]) (.exit 1))) .skip)) (.seq (.reg [⟨some 95, none, .mov (.t 0)⟩, ⟨some 96, none, .mov (.t 1)⟩, ⟨some 97, none, .mov (.t 2)⟩, ⟨some 98, none, .mov (.t 11)⟩, ⟨some 99, none, .call 306 [.t 95, .t 96, .t 97, .t 98]⟩, ⟨some 94, none, .mov (.t 99)⟩, ⟨some 100, none, .ext (.t 94) 0⟩, ⟨some 101, none, .ext (.t 94) 1⟩, ⟨some 14, none, .mov (.t 100)⟩, ⟨some 15, none, .mov (.t 101)⟩]) (.seq (.reg [⟨some 102, none, .mov (.t 15)⟩, ⟨some 9, none, .mov (.t 102)⟩]) (.seq (.reg [⟨some 103, none, .mov (.t 14)⟩, ⟨some 104, none, .mov (.t 1)⟩, ⟨some 105, none, .bin .sub 3 (.t 103) (.t 104)⟩, ⟨some 106, none, .mov (.t 2)⟩, ⟨some 107, none, .mov (.t 14)⟩, ⟨some 108, none, .bin .sub 3 (.t 106) (.t 107)⟩, ⟨some 16, none, .mov (.t 105)⟩, ⟨some 17, none, .mov (.t 108)⟩]) (.seq (.reg [⟨some 109, none, .mov (.t 10)⟩, ⟨some 110, none, .bin .quo 3 (.t 109) (.c (.int .i64 8))⟩, ⟨some 18, none, .mov (.t 110)⟩]) (.seq (.reg [⟨some 111, none, .mov (.t 16)⟩, ⟨some 112, none, .mov (.t 17)⟩, ⟨some 113, none, .bin .lss 3 (.t 111) (.t 112)⟩]) (.cond (.t 113) (.seq (.reg [⟨some 114, none, .mov (.t 16)⟩, ⟨some 115, none, .mov (.t 18)⟩, ⟨some 116, none, .bin .geq 3 (.t 114) (.t 115)⟩, ⟨some 8, none, .mov (.t 116)⟩]) (.seq (.reg [⟨some 117, none, .mov (.t 0)⟩, ⟨some 118, none, .mov (.t 1)⟩, ⟨some 119, none, .mov (.t 14)⟩, ⟨some 120, none, .mov (.t 3)⟩, ⟨some 121, none, .call 294 [.t 117, .t 118, .t 119, .t 120]⟩]) (.reg [⟨some 122, none, .mov (.t 14)⟩, ⟨some 123, none, .bin .add 3 (.t 122) (.c (.int .i64 1))⟩, ⟨some 1, none, .mov (.t 123)⟩]))) (.seq (.reg [⟨some 124, none, .mov (.t 17)⟩, ⟨some 125, none, .mov (.t 18)⟩, ⟨some 126, none, .bin .geq 3 (.t 124) (.t 125)⟩, ⟨some 8, none, .mov (.t 126)⟩]) (.seq (.reg [⟨some 127, none, .mov (.t 0)⟩, ⟨some 128, none, .mov (.t 14)⟩, ⟨some 129, none, .bin .add 3 (.t 128) (.c (.int .i64 1))⟩, ⟨some 130, none, .mov (.t 2)⟩, ⟨some 131, none, .mov (.t 3)⟩, ⟨some 132, none, .call 294 [.t 127, .t 129, .t 130, .t 131]⟩]) (.reg [⟨some 133, none, .mov (.t 14)⟩, ⟨some 2, none, .mov (.t 133)⟩])))))))))))))))))))))
theorem code_slices_pdqsortOrdered_int_ : fnC Tryz.prog Tryz.f294 = some (c_slices_pdqsortOrdered_int_, [], 134) := by kernel_rfl
def c_slices_Sort_int_int_ : C := .seq (.reg [⟨some 3, none, .mov (.t 0)⟩, ⟨some 4, none, .len false (.t 3)⟩, ⟨some 2, none, .mov (.t 4)⟩]) (.reg [⟨some 5, none, .mov (.t 0)⟩, ⟨some 6, none, .mov (.t 2)⟩, ⟨some 7, none, .mov (.t 2)⟩, ⟨some 8, none, .cv (.num .u64) 0 (.t 7)⟩, ⟨some 9, none, .call 295 [.t 8]⟩, ⟨some 10, none, .call 294 [.t 5, .c (.int .i64 0), .t 6, .t 9]⟩])
theorem code_slices_Sort_int_int_ : fnC Tryz.prog Tryz.f288 = some (c_slices_Sort_int_int_, [], 11) := by kernel_rfl
def c_math_bits_Len : C := .seq (.reg [⟨some 2, none, .mov (.c (.int .i64 0))⟩]) (.seq (.cond (.c (.bool false)) (.seq (.reg [⟨some 3, none, .mov (.t 0)⟩, ⟨some 4, none, .cv (.num .u32) 0 (.t 3)⟩, ⟨some 5, none, .call 307 [.t 4]⟩, ⟨some 2, none, .mov (.t 5)⟩]) .ret) .skip) (.seq (.reg [⟨some 6, none, .mov (.t 0)⟩, ⟨some 7, none, .call 308 [.t 6]⟩, ⟨some 2, none, .mov (.t 7)⟩]) .ret))
theorem code_math_bits_Len : fnC Tryz.prog Tryz.f295 = some (c_math_bits_Len, [.t 2], 8) := by kernel_rfl
def lenTab : ByteArray := ⟨(([0, 1] : List UInt8) ++ List.replicate 2 2 ++ List.replicate 4 3 ++ List.replicate 8 4 ++ List.replicate 16 5 ++ List.replicate 32 6 ++ List.replicate 64 7 ++ List.replicate 128 8).toArray⟩
def c_math_bits_Len64 : C := .seq (.reg [⟨some 2, none, .mov (.c (.int .i64 0))⟩]) (.seq (.seq (.reg [⟨some 3, none, .mov (.t 0)⟩, ⟨some 4, none, .bin .geq 319 (.t 3) (.c (.int .u64 4294967296))⟩]) (.cond (.t 4) (.seq (.reg [⟨some 5, none, .mov (.t 0)⟩, ⟨some 6, none, .bin .shr 319 (.t 5) (.c (.int .u64 32))⟩, ⟨some 0, none, .mov (.t 6)⟩]) (.reg [⟨some 2, none, .mov (.c (.int .i64 32))⟩])) .skip)) (.seq (.seq (.reg [⟨some 7, none, .mov (.t 0)⟩, ⟨some 8, none, .bin .geq 319 (.t 7) (.c (.int .u64 65536))⟩]) (.cond (.t 8) (.seq (.reg [⟨some 9, none, .mov (.t 0)⟩, ⟨some 10, none, .bin .shr 319 (.t 9) (.c (.int .u64 16))⟩, ⟨some 0, none, .mov (.t 10)⟩]) (.reg [⟨some 11, none, .mov (.t 2)⟩, ⟨some 12, none, .bin .add 3 (.t 11) (.c (.int .i64 16))⟩, ⟨some 2, none, .mov (.t 12)⟩])) .skip)) (.seq (.seq (.reg [⟨some 13, none, .mov (.t 0)⟩, ⟨some 14, none, .bin .geq 319 (.t 13) (.c (.int .u64 256))⟩]) (.cond (.t 14) (.seq (.reg [⟨some 15, none, .mov (.t 0)⟩, ⟨some 16, none, .bin .shr 319 (.t 15) (.c (.int .u64 8))⟩, ⟨some 0, none, .mov (.t 16)⟩]) (.reg [⟨some 17, none, .mov (.t 2)⟩, ⟨some 18, none, .bin .add 3 (.t 17) (.c (.int .i64 8))⟩, ⟨some 2, none, .mov (.t 18)⟩])) .skip)) (.seq (.reg [⟨some 19, none, .mov (.t 2)⟩, ⟨some 20, none, .mov (.t 0)⟩, ⟨some 21, none, .cv (.num .u8) 0 (.t 20)⟩, ⟨some 22, none, .sidx (.c (.string lenTab)) (.t 21)⟩, ⟨some 23, none, .cv (.num .i64) 0 (.t 22)⟩, ⟨some 24, none, .bin .add 3 (.t 19) (.t 23)⟩, ⟨some 2, none, .mov (.t 24)⟩]) .ret))))
theorem code_math_bits_Len64 : fnC Tryz.prog Tryz.f308 = some (c_math_bits_Len64, [.t 2], 25) := by kernel_rfl
theorem p_isNaN (a : Int) : Pure Tryz.prog 315 [.c (.val (.int .i64 a))] (.c (.val (.bool false))) := by
  refine pure_fn Tryz.func315 code_cmp_isNaN_int_ (by simp) ?_
  unfold c_cmp_isNaN_int_
  simp -implicitDefEqProofs only [go_sem, bne_self_eq_false]
theorem p_less (a b : Int) : Pure Tryz.prog 304 [.c (.val (.int .i64 a)), .c (.val (.int .i64 b))] (.c (.val (.bool (decide (a < b))))) := by
  refine pure_fn Tryz.func304 code_cmp_Less_int_ (by simp) ?_
  unfold c_cmp_Less_int_
  simp -implicitDefEqProofs only [go_sem]
  refine run_call (p_isNaN a) (by simp -implicitDefEqProofs only [go_sem]) fun η => ?_
  simp -implicitDefEqProofs only [go_sem]
def up1 (o : Nat → Ob) (g : Nat) (ob : Ob) : Nat → Ob := fun k => if k = g then ob else o k
theorem up1_at (o : Nat → Ob) (g : Nat) (ob : Ob) : up1 o g ob g = ob := by simp [up1]
theorem up1_up1 (o : Nat → Ob) (g : Nat) (a b : Ob) : (fun k => if k = g then b else up1 o g a k) = up1 o g b := by funext k; simp only [up1]; split <;> rfl
theorem up1_is {o : Nat → Ob} {g : Nat} {ob : Ob} (h : o g = ob) : o = up1 o g ob := by
  funext k
  simp only [up1]
  split
  · rename_i e; rw [e, h]
  · rfl
theorem setO_up1 (s : St) (g : Nat) (ob : Ob) : (s.setO g ob).o = up1 s.o g ob := rfl
theorem up1_2 (o : Nat → Ob) (g : Nat) (a b : Ob) : up1 (up1 o g a) g b = up1 o g b := up1_up1 o g a b
theorem put_o' (s : St) (d : Option Nat) (v : AV) : (s.put d v).o = s.o := by cases d <;> rfl
set_option maxHeartbeats 4000000 in
theorem inl_insert (A : List Int) (hA : A.length ≤ 12) (o : Nat → Ob) (g : Nat) (η : Heads) (ho : o g = .loose (encInts A) η) : Inl Tryz.prog 298 [Hd g η, Ni 0, Ni A.length] o (fun av o' => av = .tup [] ∧ ∃ (l : List Int) (i : Nat), o' = up1 o g (.loose (encInts l) η) ∧ SO A l i ∧ A.length ≤ i) := by
  refine inl_fn (β := 0) Tryz.func298 code_slices_insertionSortOrdered_int_ (by simp) ?_
  unfold c_slices_insertionSortOrdered_int_
  simp -implicitDefEqProofs only [go_sem]
  refine wp_loop_ (fun s => ∃ (l : List Int) (i : Nat), 1 ≤ i ∧ (i ≤ A.length ∨ i = 1) ∧ SO A l i ∧ s.t 0 = Hd g η ∧ s.t 1 = Ni 0 ∧ s.t 2 = Ni A.length ∧ s.t 6 = Ni i ∧ s.o = up1 o g (.loose (encInts l) η)) (fun s => A.length - s.n 6) ?_ ?_
  · exact ⟨A, 1, by omega, .inr rfl, SO_1 A, by simp -implicitDefEqProofs only [go_sem] <;> rfl, by simp -implicitDefEqProofs only [go_sem] <;> rfl, by simp -implicitDefEqProofs only [go_sem] <;> rfl, by simp -implicitDefEqProofs only [go_sem] <;> rfl, up1_is ho⟩
  · rintro s ⟨l, i, hi, hi2, hso, h0, h1, h2, h6, hob⟩
    have hm : s.n 6 = i := st_n h6
    rw [hm]
    by_cases hlt : i < A.length
    · have hlt' : (i : Int) < A.length := by omega
      have hw : IntKind.i64.wrap ((i : Int) + 1) = ((i + 1 : Nat) : Int) := wrap64 (by omega) (by omega)
      have hll := hso.1.length_eq
      simp -implicitDefEqProofs only [go_sem, h0, h1, h2, h6, hob, hlt']
      refine wp_loop_ (fun s => ∃ (l : List Int) (j : Nat), SI A l i j ∧ s.t 0 = Hd g η ∧ s.t 1 = Ni 0 ∧ s.t 2 = Ni A.length ∧ s.t 6 = Ni i ∧ s.t 7 = Ni j ∧ s.o = up1 o g (.loose (encInts l) η)) (fun s => s.n 7) ?_ ?_
      · exact ⟨l, i, SI_0 hso, by simp -implicitDefEqProofs only [go_sem, h0, h1, h2, h6, hob] <;> rfl, by simp -implicitDefEqProofs only [go_sem, h0, h1, h2, h6, hob] <;> rfl, by simp -implicitDefEqProofs only [go_sem, h0, h1, h2, h6, hob] <;> rfl, by simp -implicitDefEqProofs only [go_sem, h0, h1, h2, h6, hob] <;> rfl, by simp -implicitDefEqProofs only [go_sem, h0, h1, h2, h6, hob] <;> rfl, hob⟩
      · clear h0 h1 h2 h6 hob hso hll hm
        rintro s ⟨l, j, hsi, h0, h1, h2, h6, h7, hob⟩
        have hll := hsi.1.length_eq
        have hji := hsi.2.1
        have hm : s.n 7 = j := st_n h7
        rw [hm]
        cases j with
        | zero =>
          simp -implicitDefEqProofs only [go_sem, h0, h1, h2, h6, h7, hob, hw]
          refine ⟨⟨l, i + 1, by omega, .inl (by omega), SI_end hsi (.inl rfl), rfl, ?_⟩, ?_⟩
          · exact hob
          · rw [st_n (k := .i64) (n := ((i + 1 : Nat) : Int)) (by simp -implicitDefEqProofs only [go_sem])]; omega
        | succ j =>
          have hj0 : ((j + 1 : Nat) : Int) > 0 := by omega
          have hw2 : IntKind.i64.wrap (((j + 1 : Nat) : Int) - 1) = (j : Int) := by rw [wrap64 (by omega) (by omega)]; omega
          have hg1 : l[j + 1]? = some (l.getD (j + 1) 0) := by rw [List.getD_eq_getElem?_getD, List.getElem?_eq_getElem (by omega)]; rfl
          have hg0 : l[j]? = some (l.getD j 0) := by rw [List.getD_eq_getElem?_getD, List.getElem?_eq_getElem (by omega)]; rfl
          have hj1 : j + 1 < l.length := by omega
          have hj2 : j < l.length := by omega
          simp -implicitDefEqProofs only [go_sem, h0, h1, h2, h6, h7, hob, hj0, hw2, at_encInts hg1, at_encInts hg0, up1_at, hj1, hj2, in_encInts hj1, in_encInts hj2]
          refine run_call (p_less (l.getD (j + 1) 0) (l.getD j 0)) (by simp -implicitDefEqProofs only [go_sem, h0, h1, h2, h6, h7, hob, hj0, hw2]) fun η => ?_
          simp -implicitDefEqProofs only [go_sem, h0, h1, h2, h6, h7, hob, hj0, hw2]
          by_cases hc : l.getD (j + 1) 0 < l.getD j 0
          · have hs2 : j < (l.set (j + 1) (l.getD j 0)).length := by rw [List.length_set]; exact hj2
            have hst : (l.set (j + 1) (l.getD j 0)).set j (l.getD (j + 1) 0) = swp l j := rfl
            simp -implicitDefEqProofs only [go_sem, h0, h1, h2, h6, h7, hob, hj0, hw2, hc, at_encInts hg1, at_encInts hg0, up1_at, hj1, hj2, in_encInts hj1, in_encInts hj2, put_encInts _ hj1, put_encInts _ hs2, in_encInts hs2, hs2, hst]
            refine ⟨⟨swp l j, j, SI_swp hsi (by omega) hc, ?_⟩, ?_⟩
            · refine ⟨rfl, ?_⟩
              simp only [put_o', setO_up1, hob, up1_2]
            · rw [st_n (k := .i64) (n := ((j : Nat) : Int)) (by simp -implicitDefEqProofs only [go_sem])]; omega
          · simp -implicitDefEqProofs only [go_sem, h0, h1, h2, h6, h7, hob, hj0, hw, hc]
            refine ⟨⟨l, i + 1, by omega, .inl (by omega), SI_end hsi (.inr ⟨j, rfl, by omega⟩), rfl, ?_⟩, ?_⟩
            · exact hob
            · rw [st_n (k := .i64) (n := ((i + 1 : Nat) : Int)) (by simp -implicitDefEqProofs only [go_sem])]; omega
    · have hlt' : ¬ (i : Int) < A.length := by omega
      simp -implicitDefEqProofs only [go_sem, h0, h1, h2, h6, hob, hlt']
      exact ⟨l, i, hob, hso, by omega⟩
end Go.Proofs.YtmnpailnelmpiaaGreat
set_option linter.unusedSimpArgs false
set_option linter.unusedVariables false
set_option maxRecDepth 100000
namespace Go.Proofs.YtmnpailnelmpiaaGreat
open Go.RowKit Go.Sort
theorem inl_mono {P : Program} {f : FuncId} {args : List AV} {o : Nat → Ob} {R R' : AV → (Nat → Ob) → Prop} (h : Inl P f args o R) (hR : ∀ av o', R av o' → R' av o') : Inl P f args o R' :=
  ⟨h.1, fun B w F xs h1 h2 => (h.2 B w F xs h1 h2).mono fun e w' ⟨v, av, o', F', k1, k2, k3, k4⟩ => ⟨v, av, o', F', k1, k2, k3, hR _ _ k4⟩⟩
theorem wp_cf {P : Program} {β : Nat} {s : St} {Q : Ex → St → Prop} {a b : C} : wpC P β (.cond (.c (.bool false)) a b) Q s = wpC P β b Q s := by
  apply propext
  constructor
  · rintro ⟨t, h1, h2, h3⟩
    have : t = false := by cases t <;> first | rfl | cases h1
    exact h3 this
  · exact fun h => ⟨false, rfl, fun h' => (by cases h'), fun _ => h⟩
def lenB (n : Nat) : Int := [0, 1, 2, 2, 3, 3, 3, 3, 4, 4, 4, 4, 4].getD n 0
set_option maxHeartbeats 4000000 in
theorem p_bitsLen64 (n : Nat) (hn : n ≤ 12) : Pure Tryz.prog 308 [.c (.val (.int .u64 n))] (.c (.val (.int .i64 (lenB n)))) := by
  refine pure_fn Tryz.func308 code_math_bits_Len64 (by simp) ?_
  have : n = 0 ∨ n = 1 ∨ n = 2 ∨ n = 3 ∨ n = 4 ∨ n = 5 ∨ n = 6 ∨ n = 7 ∨ n = 8 ∨ n = 9 ∨ n = 10 ∨ n = 11 ∨ n = 12 := by omega
  unfold c_math_bits_Len64
  rcases this with rfl | rfl | rfl | rfl | rfl | rfl | rfl | rfl | rfl | rfl | rfl | rfl | rfl
  all_goals
    simp -implicitDefEqProofs only [go_sem]
    exact ⟨_, rfl, rfl⟩
theorem p_bitsLen (n : Nat) (hn : n ≤ 12) : Pure Tryz.prog 295 [.c (.val (.int .u64 n))] (.c (.val (.int .i64 (lenB n)))) := by
  refine pure_fn Tryz.func295 code_math_bits_Len (by simp) ?_
  unfold c_math_bits_Len
  simp -implicitDefEqProofs only [go_sem, wp_cf]
  refine run_call (p_bitsLen64 n hn) (by simp -implicitDefEqProofs only [go_sem]) fun η => ?_
  simp -implicitDefEqProofs only [go_sem]
set_option maxHeartbeats 4000000 in
theorem inl_pdq (A : List Int) (hA : A.length ≤ 12) (o : Nat → Ob) (g : Nat) (η : Heads) (ho : o g = .loose (encInts A) η) (v : Int) : Inl Tryz.prog 294 [Hd g η, Ni 0, Ni A.length, Ni v] o (fun av o' => av = .tup [] ∧ ∃ (l : List Int) (i : Nat), o' = up1 o g (.loose (encInts l) η) ∧ SO A l i ∧ A.length ≤ i) := by
  refine inl_fn (β := 0) Tryz.func294 code_slices_pdqsortOrdered_int_ (by simp) ?_
  unfold c_slices_pdqsortOrdered_int_
  have h12 : (A.length : Int) ≤ 12 := by omega
  have hw : IntKind.i64.wrap ((A.length : Int) - 0) = (A.length : Int) := by rw [Int.sub_zero]; exact wrap64 (by omega) (by omega)
  simp -implicitDefEqProofs only [go_sem]
  refine wp_unroll 0 ?_
  simp -implicitDefEqProofs only [go_sem, hw, h12]
  refine run_inl (inl_mono (inl_insert A hA o g η ho) ?_)
  rintro av o' ⟨rfl, l, i, rfl, h1, h2⟩
  exact ⟨l, i, rfl, h1, h2⟩
set_option maxHeartbeats 4000000 in
theorem inl_sort (A : List Int) (hA : A.length ≤ 12) (o : Nat → Ob) (g : Nat) (η : Heads) (ho : o g = .loose (encInts A) η) : Inl Tryz.prog 288 [Hd g η] o (fun av o' => av = .tup [] ∧ ∃ (l : List Int) (i : Nat), o' = up1 o g (.loose (encInts l) η) ∧ SO A l i ∧ A.length ≤ i) := by
  refine inl_fn (β := 0) Tryz.func288 code_slices_Sort_int_int_ (by simp) ?_
  unfold c_slices_Sort_int_int_
  have hw : IntKind.u64.wrap (A.length : Int) = (A.length : Int) := by generalize A.length = n at hA; have : n = 0 ∨ n = 1 ∨ n = 2 ∨ n = 3 ∨ n = 4 ∨ n = 5 ∨ n = 6 ∨ n = 7 ∨ n = 8 ∨ n = 9 ∨ n = 10 ∨ n = 11 ∨ n = 12 := (by omega); rcases this with rfl | rfl | rfl | rfl | rfl | rfl | rfl | rfl | rfl | rfl | rfl | rfl | rfl <;> rfl
  simp -implicitDefEqProofs only [go_sem, ho, hw]
  refine run_call (p_bitsLen A.length hA) (by simp -implicitDefEqProofs only [go_sem]) fun η2 => ?_
  simp -implicitDefEqProofs only [go_sem]
  refine run_inl (inl_mono (inl_pdq A hA _ g η (by simp -implicitDefEqProofs only [go_sem, ho]) (lenB A.length)) ?_)
  rintro av o' ⟨rfl, l, i, rfl, h1, h2⟩
  exact ⟨l, i, rfl, h1, h2⟩
end Go.Proofs.YtmnpailnelmpiaaGreat
