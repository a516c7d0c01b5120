/- Frames, and notes as one text; both. -/
import Derived.Test.YtbplebgnkhmemaaNoteB
import Derived.Test.YtbplebgnkhmemaaW
import Derived.Laws.Strings
set_option linter.unusedSimpArgs false
set_option linter.unusedVariables false
set_option maxRecDepth 100000
namespace Go.Proofs.Ytbplebgnkhmemaa
open Go.RowKit Go.Sort
def c_spec_FourOf : C := .seq (.reg [⟨some 2, none, .mov (.c (.string ⟨⟨[]⟩⟩))⟩]) (.seq (.seq (.reg [⟨some 3, none, .mov (.t 0)⟩, ⟨some 4, none, .call 31 [.t 3, .c (.int .i64 0), .c (.int .i64 4294967295)]⟩, ⟨some 5, none, .un .not (.t 4)⟩]) (.cond (.t 5) (.seq (.reg [⟨some 2, none, .mov (.c (.string ⟨⟨[]⟩⟩))⟩]) .ret) .skip)) (.seq (.reg [⟨some 6, none, .mov (.t 0)⟩, ⟨some 7, none, .bin .quo 3 (.t 6) (.c (.int .i64 16777216))⟩, ⟨some 8, none, .cv (.num .u8) 0 (.t 7)⟩, ⟨some 9, none, .mov (.t 0)⟩, ⟨some 10, none, .bin .quo 3 (.t 9) (.c (.int .i64 65536))⟩, ⟨some 11, none, .bin .rem 3 (.t 10) (.c (.int .i64 256))⟩, ⟨some 12, none, .cv (.num .u8) 0 (.t 11)⟩, ⟨some 13, none, .mov (.t 0)⟩, ⟨some 14, none, .bin .quo 3 (.t 13) (.c (.int .i64 256))⟩, ⟨some 15, none, .bin .rem 3 (.t 14) (.c (.int .i64 256))⟩, ⟨some 16, none, .cv (.num .u8) 0 (.t 15)⟩, ⟨some 17, none, .mov (.t 0)⟩, ⟨some 18, none, .bin .rem 3 (.t 17) (.c (.int .i64 256))⟩, ⟨some 19, none, .cv (.num .u8) 0 (.t 18)⟩, ⟨some 20, none, .bsl 5 1 4 [none, none, none, none] [(0, 1, .t 8), (1, 1, .t 12), (2, 1, .t 16), (3, 1, .t 19)]⟩, ⟨some 21, none, .cv .text 5 (.t 20)⟩, ⟨some 2, none, .mov (.t 21)⟩]) .ret))
theorem code_spec_FourOf : fnC Try.prog Try.f138 = some (c_spec_FourOf, [.t 2], 22) := by kernel_rfl
def c_impl_FourOf : C := .seq (.reg [⟨some 2, none, .mov (.c (.string ⟨⟨[]⟩⟩))⟩]) (.seq (.seq (.reg [⟨some 3, none, .mov (.t 0)⟩, ⟨some 4, none, .call 40 [.t 3, .c (.int .i64 0), .c (.int .i64 4294967295)]⟩, ⟨some 5, none, .un .not (.t 4)⟩]) (.cond (.t 5) (.seq (.reg [⟨some 2, none, .mov (.c (.string ⟨⟨[]⟩⟩))⟩]) .ret) .skip)) (.seq (.reg [⟨some 6, none, .mov (.t 0)⟩, ⟨some 7, none, .bin .shr 3 (.t 6) (.c (.int .u64 24))⟩, ⟨some 8, none, .cv (.num .u8) 0 (.t 7)⟩, ⟨some 9, none, .mov (.t 0)⟩, ⟨some 10, none, .bin .shr 3 (.t 9) (.c (.int .u64 16))⟩, ⟨some 11, none, .cv (.num .u8) 0 (.t 10)⟩, ⟨some 12, none, .mov (.t 0)⟩, ⟨some 13, none, .bin .shr 3 (.t 12) (.c (.int .u64 8))⟩, ⟨some 14, none, .cv (.num .u8) 0 (.t 13)⟩, ⟨some 15, none, .mov (.t 0)⟩, ⟨some 16, none, .cv (.num .u8) 0 (.t 15)⟩, ⟨some 17, none, .bsl 5 1 4 [none, none, none, none] [(0, 1, .t 8), (1, 1, .t 11), (2, 1, .t 14), (3, 1, .t 16)]⟩, ⟨some 18, none, .cv .text 5 (.t 17)⟩, ⟨some 2, none, .mov (.t 18)⟩]) .ret))
theorem code_impl_FourOf : fnC Try.prog Try.f142 = some (c_impl_FourOf, [.t 2], 19) := by kernel_rfl
def c_spec_FrameOf : C := .seq (.reg [⟨some 2, none, .mov (.c (.string ⟨⟨[]⟩⟩))⟩]) (.seq (.seq (.reg [⟨some 3, none, .mov (.t 0)⟩, ⟨some 4, none, .bin .eql 9 (.t 3) (.c (.string ⟨⟨[]⟩⟩))⟩, ⟨some 5, none, .mov (.t 4)⟩, ⟨some 6, some (5, false), .mov (.t 0)⟩, ⟨some 7, some (5, false), .len true (.t 6)⟩, ⟨some 8, some (5, false), .bin .gtr 3 (.t 7) (.c (.int .i64 400))⟩, ⟨some 9, none, .pick (.t 5) (.c (.bool true)) (.t 8)⟩]) (.cond (.t 9) (.seq (.reg [⟨some 2, none, .mov (.c (.string ⟨⟨[]⟩⟩))⟩]) .ret) .skip)) (.seq (.reg [⟨some 10, none, .mov (.t 0)⟩, ⟨some 11, none, .len true (.t 10)⟩, ⟨some 12, none, .call 104 [.t 11]⟩, ⟨some 13, none, .mov (.t 0)⟩, ⟨some 14, none, .call 139 [.t 13]⟩, ⟨some 15, none, .call 138 [.t 14]⟩, ⟨some 16, none, .bin .add 9 (.t 12) (.t 15)⟩, ⟨some 17, none, .mov (.t 0)⟩, ⟨some 18, none, .bin .add 9 (.t 16) (.t 17)⟩, ⟨some 2, none, .mov (.t 18)⟩]) .ret))
theorem code_spec_FrameOf : fnC Try.prog Try.f98 = some (c_spec_FrameOf, [.t 2], 19) := by kernel_rfl
def c_impl_FrameOf : C := .seq (.reg [⟨some 2, none, .mov (.c (.string ⟨⟨[]⟩⟩))⟩]) (.seq (.seq (.reg [⟨some 3, none, .mov (.t 0)⟩, ⟨some 4, none, .len true (.t 3)⟩, ⟨some 5, none, .call 40 [.t 4, .c (.int .i64 1), .c (.int .i64 400)]⟩, ⟨some 6, none, .un .not (.t 5)⟩]) (.cond (.t 6) (.seq (.reg [⟨some 2, none, .mov (.c (.string ⟨⟨[]⟩⟩))⟩]) .ret) .skip)) (.seq (.reg [⟨some 7, none, .mov (.t 0)⟩, ⟨some 8, none, .len true (.t 7)⟩, ⟨some 9, none, .call 105 [.t 8]⟩, ⟨some 10, none, .mov (.t 0)⟩, ⟨some 11, none, .call 143 [.t 10]⟩, ⟨some 12, none, .call 142 [.t 11]⟩, ⟨some 13, none, .bin .add 9 (.t 9) (.t 12)⟩, ⟨some 14, none, .mov (.t 0)⟩, ⟨some 15, none, .bin .add 9 (.t 13) (.t 14)⟩, ⟨some 2, none, .mov (.t 15)⟩]) .ret))
theorem code_impl_FrameOf : fnC Try.prog Try.f102 = some (c_impl_FrameOf, [.t 2], 16) := by kernel_rfl
def c_spec_FramesOf : C := .seq (.reg [⟨some 2, none, .mov (.c (.string ⟨⟨[]⟩⟩))⟩]) (.seq (.reg [⟨some 6, none, .bsl 5 1 0 [] []⟩, ⟨some 3, none, .mov (.t 6)⟩]) (.seq (.seq (.reg [⟨some 4, none, .mov (.c (.int .i64 0))⟩]) (.blk 0 (.loop (.seq (.seq (.reg [⟨some 7, none, .mov (.t 4)⟩, ⟨some 8, none, .mov (.t 0)⟩, ⟨some 9, none, .len false (.t 8)⟩, ⟨some 10, none, .bin .lss 3 (.t 7) (.t 9)⟩]) (.cond (.t 10) .skip (.exit 0))) (.seq (.blk 1 (.seq (.reg [⟨some 13, none, .mov (.t 0)⟩, ⟨some 14, none, .mov (.t 4)⟩, ⟨some 15, none, .ia 1 (.t 13) (.t 14)⟩, ⟨some 16, none, .ld false 1 (.t 15)⟩, ⟨some 17, none, .call 98 [.t 16]⟩, ⟨some 5, none, .mov (.t 17)⟩]) (.seq (.seq (.reg [⟨some 18, none, .mov (.t 5)⟩, ⟨some 19, none, .bin .eql 9 (.t 18) (.c (.string ⟨⟨[]⟩⟩))⟩, ⟨some 20, none, .mov (.t 19)⟩, ⟨some 21, some (20, false), .mov (.t 3)⟩, ⟨some 22, some (20, false), .len false (.t 21)⟩, ⟨some 23, some (20, false), .mov (.t 5)⟩, ⟨some 24, some (20, false), .len true (.t 23)⟩, ⟨some 25, some (20, false), .bin .add 3 (.t 22) (.t 24)⟩, ⟨some 26, some (20, false), .bin .gtr 3 (.t 25) (.c (.int .i64 60000))⟩, ⟨some 27, none, .pick (.t 20) (.c (.bool true)) (.t 26)⟩]) (.cond (.t 27) (.seq (.reg [⟨some 2, none, .mov (.c (.string ⟨⟨[]⟩⟩))⟩]) .ret) .skip)) (.reg [⟨some 28, none, .mov (.t 3)⟩, ⟨some 29, none, .mov (.t 5)⟩, ⟨some 30, none, .apps 5 (.t 28) (.t 29)⟩, ⟨some 3, none, .mov (.t 30)⟩])))) (.reg [⟨some 11, none, .mov (.t 4)⟩, ⟨some 12, none, .bin .add 3 (.t 11) (.c (.int .i64 1))⟩, ⟨some 4, none, .mov (.t 12)⟩])))))) (.seq (.reg [⟨some 31, none, .mov (.t 3)⟩, ⟨some 32, none, .cv .text 5 (.t 31)⟩, ⟨some 2, none, .mov (.t 32)⟩]) .ret)))
theorem code_spec_FramesOf : fnC Try.prog Try.f52 = some (c_spec_FramesOf, [.t 2], 33) := by kernel_rfl
def c_impl_FramesOf : C := .seq (.reg [⟨some 2, none, .mov (.c (.string ⟨⟨[]⟩⟩))⟩]) (.seq (.reg [⟨some 3, none, .mov (.c (.slice none 0 0))⟩]) (.seq (.seq (.reg [⟨some 7, none, .mov (.t 0)⟩, ⟨some 8, none, .len false (.t 7)⟩, ⟨some 9, none, .mov (.c (.int .i64 0))⟩]) (.blk 0 (.loop (.seq (.reg [⟨some 10, none, .bin .lss 3 (.t 9) (.t 8)⟩]) (.seq (.cond (.t 10) .skip (.exit 0)) (.seq (.blk 1 (.seq (.reg [⟨some 11, none, .ia 1 (.t 7) (.t 9)⟩, ⟨some 12, none, .ld false 1 (.t 11)⟩, ⟨some 5, none, .mov (.t 12)⟩]) (.seq (.reg [⟨some 13, none, .mov (.t 5)⟩, ⟨some 14, none, .call 102 [.t 13]⟩, ⟨some 6, none, .mov (.t 14)⟩]) (.seq (.seq (.reg [⟨some 15, none, .mov (.t 6)⟩, ⟨some 16, none, .bin .eql 9 (.t 15) (.c (.string ⟨⟨[]⟩⟩))⟩, ⟨some 17, none, .mov (.t 16)⟩, ⟨some 18, some (17, false), .mov (.t 3)⟩, ⟨some 19, some (17, false), .len false (.t 18)⟩, ⟨some 20, some (17, false), .mov (.t 6)⟩, ⟨some 21, some (17, false), .len true (.t 20)⟩, ⟨some 22, some (17, false), .bin .add 3 (.t 19) (.t 21)⟩, ⟨some 23, some (17, false), .bin .gtr 3 (.t 22) (.c (.int .i64 60000))⟩, ⟨some 24, none, .pick (.t 17) (.c (.bool true)) (.t 23)⟩]) (.cond (.t 24) (.seq (.reg [⟨some 2, none, .mov (.c (.string ⟨⟨[]⟩⟩))⟩]) .ret) .skip)) (.reg [⟨some 25, none, .mov (.t 3)⟩, ⟨some 26, none, .mov (.t 6)⟩, ⟨some 27, none, .apps 5 (.t 25) (.t 26)⟩, ⟨some 3, none, .mov (.t 27)⟩]))))) (.reg [⟨some 28, none, .bin .add 3 (.t 9) (.c (.int .i64 1))⟩, ⟨some 9, none, .mov (.t 28)⟩]))))))) (.seq (.reg [⟨some 29, none, .mov (.t 3)⟩, ⟨some 30, none, .cv .text 5 (.t 29)⟩, ⟨some 2, none, .mov (.t 30)⟩]) .ret)))
theorem code_impl_FramesOf : fnC Try.prog Try.f55 = some (c_impl_FramesOf, [.t 2], 31) := by kernel_rfl
def c_spec_NotesText : C := .seq (.reg [⟨some 2, none, .mov (.c (.string ⟨⟨[]⟩⟩))⟩]) (.seq (.seq (.reg [⟨some 6, none, .mov (.t 0)⟩, ⟨some 7, none, .len false (.t 6)⟩, ⟨some 8, none, .bin .gtr 3 (.t 7) (.c (.int .i64 400))⟩]) (.cond (.t 8) (.seq (.reg [⟨some 2, none, .mov (.c (.string ⟨⟨[]⟩⟩))⟩]) .ret) .skip)) (.seq (.reg [⟨some 9, none, .bsl 9 1 0 [] []⟩, ⟨some 3, none, .mov (.t 9)⟩]) (.seq (.seq (.reg [⟨some 4, none, .mov (.c (.int .i64 0))⟩]) (.blk 0 (.loop (.seq (.seq (.reg [⟨some 10, none, .mov (.t 4)⟩, ⟨some 11, none, .mov (.t 0)⟩, ⟨some 12, none, .len false (.t 11)⟩, ⟨some 13, none, .bin .lss 3 (.t 10) (.t 12)⟩]) (.cond (.t 13) .skip (.exit 0))) (.seq (.blk 1 (.seq (.reg [⟨some 16, none, .mov (.t 0)⟩, ⟨some 17, none, .mov (.t 4)⟩, ⟨some 18, none, .ia 12 (.t 16) (.t 17)⟩, ⟨some 19, none, .ld true 12 (.t 18)⟩, ⟨some 20, none, .call 51 [.t 19]⟩, ⟨some 5, none, .mov (.t 20)⟩]) (.seq (.seq (.reg [⟨some 21, none, .mov (.t 5)⟩, ⟨some 22, none, .bin .eql 9 (.t 21) (.c (.string ⟨⟨[]⟩⟩))⟩]) (.cond (.t 22) (.seq (.reg [⟨some 2, none, .mov (.c (.string ⟨⟨[]⟩⟩))⟩]) .ret) .skip)) (.reg [⟨some 23, none, .mov (.t 3)⟩, ⟨some 24, none, .mov (.t 5)⟩, ⟨some 25, none, .bsl 9 1 1 [none] [(0, 1, .t 24)]⟩, ⟨some 26, none, .app 9 1 16 (.t 23) (.t 25)⟩, ⟨some 3, none, .mov (.t 26)⟩])))) (.reg [⟨some 14, none, .mov (.t 4)⟩, ⟨some 15, none, .bin .add 3 (.t 14) (.c (.int .i64 1))⟩, ⟨some 4, none, .mov (.t 15)⟩])))))) (.seq (.reg [⟨some 27, none, .mov (.t 3)⟩, ⟨some 28, none, .call 52 [.t 27]⟩, ⟨some 2, none, .mov (.t 28)⟩]) .ret))))
theorem code_spec_NotesText : fnC Try.prog Try.f14 = some (c_spec_NotesText, [.t 2], 29) := by kernel_rfl
def c_impl_NotesText : C := .seq (.reg [⟨some 2, none, .mov (.c (.string ⟨⟨[]⟩⟩))⟩]) (.seq (.seq (.reg [⟨some 6, none, .mov (.t 0)⟩, ⟨some 7, none, .len false (.t 6)⟩, ⟨some 8, none, .bin .gtr 3 (.t 7) (.c (.int .i64 400))⟩]) (.cond (.t 8) (.seq (.reg [⟨some 2, none, .mov (.c (.string ⟨⟨[]⟩⟩))⟩]) .ret) .skip)) (.seq (.reg [⟨some 3, none, .mov (.c (.slice none 0 0))⟩]) (.seq (.seq (.reg [⟨some 9, none, .mov (.t 0)⟩, ⟨some 10, none, .len false (.t 9)⟩, ⟨some 11, none, .mov (.c (.int .i64 0))⟩]) (.blk 0 (.loop (.seq (.reg [⟨some 12, none, .bin .lss 3 (.t 11) (.t 10)⟩]) (.seq (.cond (.t 12) .skip (.exit 0)) (.seq (.blk 1 (.seq (.reg [⟨some 13, none, .ia 12 (.t 9) (.t 11)⟩, ⟨some 14, none, .ld true 12 (.t 13)⟩, ⟨some 5, none, .alloc 92 [.int .i64 0, .int .i64 0, .int .i64 0, .int .i64 0, .int .i64 0, .int .i64 0, .int .i64 0, .slice none 0 0, .int .i64 0, .int .i64 0, .int .i64 0, .int .i64 0]⟩, ⟨none, none, .st 12 [none, none, none, none, none, none, none, some (2, 132), none, none, none, none] (.t 5) (.t 14)⟩]) (.reg [⟨some 15, none, .mov (.t 3)⟩, ⟨some 16, none, .ld true 12 (.t 5)⟩, ⟨some 17, none, .call 54 [.t 16]⟩, ⟨some 18, none, .bsl 9 1 1 [none] [(0, 1, .t 17)]⟩, ⟨some 19, none, .app 9 1 16 (.t 15) (.t 18)⟩, ⟨some 3, none, .mov (.t 19)⟩]))) (.reg [⟨some 20, none, .bin .add 3 (.t 11) (.c (.int .i64 1))⟩, ⟨some 11, none, .mov (.t 20)⟩]))))))) (.seq (.reg [⟨some 21, none, .mov (.t 3)⟩, ⟨some 22, none, .call 55 [.t 21]⟩, ⟨some 2, none, .mov (.t 22)⟩]) .ret))))
theorem code_impl_NotesText : fnC Try.prog Try.f16 = some (c_impl_NotesText, [.t 2], 23) := by kernel_rfl
theorem str0 (b : ByteArray) : (b.toList == ByteArray.toList ⟨⟨[]⟩⟩) = decide (b.size = 0) := by
  rw [ByteArray.toList_eq, show ByteArray.toList ⟨⟨[]⟩⟩ = [] from ByteArray.toList_eq _]
  rw [show b.size = b.data.toList.length from by cases b; rfl]
  cases b.data.toList <;> simp
theorem bsize0 {b : ByteArray} (h : b.size = 0) : b = ⟨⟨[]⟩⟩ := by
  obtain ⟨⟨l⟩⟩ := b
  have h' : l.length = 0 := h
  rw [List.eq_nil_of_length_eq_zero h']
/-! ### Four bytes -/
def byteI (v : Int) : UInt8 := UInt8.ofNat (v % 256).toNat
theorem byteI_ (v : Int) : D.val (.int .u8 (IntKind.u8.wrap v)) = byteVal (byteI v) := by
  have h1 : 0 ≤ v % 256 := Int.emod_nonneg _ (by decide)
  have h2 : v % 256 < 256 := Int.emod_lt_of_pos _ (by decide)
  obtain ⟨n, hn⟩ := Int.eq_ofNat_of_zero_le h1
  have hw : IntKind.u8.wrap v = v % 256 := by
    rw [show IntKind.u8.wrap v = v % 2 ^ 8 from by rw [IntKind.wrap_u8]; rfl]; rfl
  rw [hw, byteI, hn, Int.toNat_natCast, byteVal]
  have h3 : n < 256 := by omega
  simp [Nat.mod_eq_of_lt h3]
def fourL (v : Int) : List UInt8 := [byteI (v / 16777216), byteI (v / 65536), byteI (v / 256), byteI v]
def fourS (v : Int) : ByteArray := if 0 ≤ v ∧ v ≤ 4294967295 then ⟨(fourL v).toArray⟩ else ⟨⟨[]⟩⟩
theorem fourS_le (v : Int) : (fourS v).size ≤ 4 := by
  unfold fourS
  split
  · exact Nat.le_refl 4
  · exact Nat.zero_le 4
theorem byteI_mod (v : Int) : byteI (v % 256) = byteI v := by
  unfold byteI; rw [Int.emod_emod_of_dvd _ (Int.dvd_refl 256)]
theorem p_spec_FourOf (v : Int) : Pure Try.prog 138 [.c (.val (.int .i64 v))] (.c (.val (.string (fourS v)))) := by
  refine pure_fn Try.func138 code_spec_FourOf (by simp) ?_
  unfold c_spec_FourOf
  simp -implicitDefEqProofs only [go_sem]
  refine run_call (p_spec_l01In v 0 4294967295) (by simp -implicitDefEqProofs only [go_sem]) fun η => ?_
  simp -implicitDefEqProofs only [go_sem]
  cases h : decide (0 ≤ v ∧ v ≤ 4294967295)
  · have h' := of_decide_eq_false h
    simp -implicitDefEqProofs only [go_sem, h]
    simp [fourS, h']
  have h' := of_decide_eq_true h
  have q1 : IntKind.i64.wrap (v.tdiv 16777216) = v / 16777216 := by rw [Int.tdiv_eq_ediv_of_nonneg h'.1]; exact wrap64 (by omega) (by omega)
  have q2 : IntKind.i64.wrap (v.tdiv 65536) = v / 65536 := by rw [Int.tdiv_eq_ediv_of_nonneg h'.1]; exact wrap64 (by omega) (by omega)
  have q3 : IntKind.i64.wrap (v.tdiv 256) = v / 256 := by rw [Int.tdiv_eq_ediv_of_nonneg h'.1]; exact wrap64 (by omega) (by omega)
  have r2 : (v / 65536).tmod 256 = v / 65536 % 256 := Int.tmod_eq_emod_of_nonneg (by omega)
  have r3 : (v / 256).tmod 256 = v / 256 % 256 := Int.tmod_eq_emod_of_nonneg (by omega)
  have r4 : v.tmod 256 = v % 256 := Int.tmod_eq_emod_of_nonneg h'.1
  simp -implicitDefEqProofs only [go_sem, h, q1, q2, q3, r2, r3, r4]
  intro η
  refine cvK_text (bs := fourL v) rfl rfl ?_ ?_
  · simp only [fourL, List.map_cons, List.map_nil, byteI_, byteI_mod]
  · simp -implicitDefEqProofs only [go_sem]
    simp [fourS, h']
theorem p_impl_FourOf (v : Int) : Pure Try.prog 142 [.c (.val (.int .i64 v))] (.c (.val (.string (fourS v)))) := by
  refine pure_fn Try.func142 code_impl_FourOf (by simp) ?_
  unfold c_impl_FourOf
  simp -implicitDefEqProofs only [go_sem]
  refine run_call (p_impl_within v 0 4294967295) (by simp -implicitDefEqProofs only [go_sem]) fun η => ?_
  simp -implicitDefEqProofs only [go_sem]
  cases h : decide (0 ≤ v ∧ v ≤ 4294967295)
  · have h' := of_decide_eq_false h
    simp -implicitDefEqProofs only [go_sem, h]
    simp [fourS, h']
  have h' := of_decide_eq_true h
  have s1 : v.fdiv (2 ^ min 24 64) = v / 16777216 := by rw [show (2 : Int) ^ (min 24 64) = 16777216 from rfl, Int.fdiv_eq_ediv_of_nonneg _ (by decide)]
  have s2 : v.fdiv (2 ^ min 16 64) = v / 65536 := by rw [show (2 : Int) ^ (min 16 64) = 65536 from rfl, Int.fdiv_eq_ediv_of_nonneg _ (by decide)]
  have s3 : v.fdiv (2 ^ min 8 64) = v / 256 := by rw [show (2 : Int) ^ (min 8 64) = 256 from rfl, Int.fdiv_eq_ediv_of_nonneg _ (by decide)]
  simp -implicitDefEqProofs only [go_sem, h, s1, s2, s3]
  intro η
  refine cvK_text (bs := fourL v) rfl rfl ?_ ?_
  · simp only [fourL, List.map_cons, List.map_nil, byteI_, byteI_mod]
  · simp -implicitDefEqProofs only [go_sem]
    simp [fourS, h']
/-! ### One frame -/
def frameS (b : ByteArray) : ByteArray := if 1 ≤ b.size ∧ b.size ≤ 400 then varS b.size ++ fourS (sumS b) ++ b else ⟨⟨[]⟩⟩
theorem frameS_le (b : ByteArray) : (frameS b).size ≤ 409 := by
  unfold frameS
  split
  · have h1 := fourS_le (sumS b)
    have h2 : (varS b.size).size ≤ 5 := varS_le _
    rw [ByteArray.size_append, ByteArray.size_append]; omega
  · exact Nat.zero_le _
theorem p_spec_FrameOf (b : ByteArray) : Pure Try.prog 98 [.c (.val (.string b))] (.c (.val (.string (frameS b)))) := by
  refine pure_fn Try.func98 code_spec_FrameOf (by simp) ?_
  unfold c_spec_FrameOf
  simp -implicitDefEqProofs only [go_sem, str0]
  by_cases h0 : b.size = 0
  · have hf : frameS b = ⟨⟨[]⟩⟩ := by unfold frameS; rw [if_neg (by omega)]
    simp -implicitDefEqProofs only [go_sem, str0, h0, hf]
  by_cases h4 : b.size ≤ 400
  rotate_left
  · have h4' : (400 : Int) < b.size := by omega
    have hf : frameS b = ⟨⟨[]⟩⟩ := by unfold frameS; rw [if_neg (by omega)]
    simp -implicitDefEqProofs only [go_sem, str0, h0, h4', hf]
  have h4' : ¬ (400 : Int) < b.size := by omega
  have hf : frameS b = varS b.size ++ fourS (sumS b) ++ b := by unfold frameS; rw [if_pos (by omega)]
  have h5 : (varS b.size).size ≤ 5 := varS_le _
  have h6 := fourS_le (sumS b)
  have h7 : (varS b.size).size + (fourS (sumS b)).size ≤ maxLen := by unfold maxLen; omega
  have h8 : (varS b.size).size + (fourS (sumS b)).size + b.size ≤ maxLen := by unfold maxLen; omega
  simp -implicitDefEqProofs only [go_sem, str0, h0, h4']
  refine run_call (p_spec_VarText b.size) (by simp -implicitDefEqProofs only [go_sem]) fun η => ?_
  simp -implicitDefEqProofs only [go_sem]
  refine run_call (p_spec_SumOf b (by omega)) (by simp -implicitDefEqProofs only [go_sem]) fun η => ?_
  simp -implicitDefEqProofs only [go_sem]
  refine run_call (p_spec_FourOf (sumS b)) (by simp -implicitDefEqProofs only [go_sem]) fun η => ?_
  simp -implicitDefEqProofs only [go_sem]
  simp -implicitDefEqProofs only [go_sem, h7, h8, hf]
theorem p_impl_FrameOf (b : ByteArray) (hb : b.size < 9223372036854775807) : Pure Try.prog 102 [.c (.val (.string b))] (.c (.val (.string (frameS b)))) := by
  refine pure_fn Try.func102 code_impl_FrameOf (by simp) ?_
  unfold c_impl_FrameOf
  simp -implicitDefEqProofs only [go_sem]
  refine run_call (p_impl_within b.size 1 400) (by simp -implicitDefEqProofs only [go_sem]) fun η => ?_
  simp -implicitDefEqProofs only [go_sem]
  cases h0 : decide ((1 : Int) ≤ b.size ∧ (b.size : Int) ≤ 400)
  · have h0' := of_decide_eq_false h0
    have hf : frameS b = ⟨⟨[]⟩⟩ := by unfold frameS; rw [if_neg (by omega)]
    simp -implicitDefEqProofs only [go_sem, h0, hf]
  have h0' := of_decide_eq_true h0
  have hf : frameS b = varS b.size ++ fourS (sumS b) ++ b := by unfold frameS; rw [if_pos (by omega)]
  have h5 : (varS b.size).size ≤ 5 := varS_le _
  have h6 := fourS_le (sumS b)
  have h7 : (varS b.size).size + (fourS (sumS b)).size ≤ maxLen := by unfold maxLen; omega
  have h8 : (varS b.size).size + (fourS (sumS b)).size + b.size ≤ maxLen := by unfold maxLen; omega
  simp -implicitDefEqProofs only [go_sem, h0]
  refine run_call (p_impl_VarText b.size) (by simp -implicitDefEqProofs only [go_sem]) fun η => ?_
  simp -implicitDefEqProofs only [go_sem]
  refine run_call (p_impl_SumOf b (by omega)) (by simp -implicitDefEqProofs only [go_sem]) fun η => ?_
  simp -implicitDefEqProofs only [go_sem]
  refine run_call (p_impl_FourOf (sumS b)) (by simp -implicitDefEqProofs only [go_sem]) fun η => ?_
  simp -implicitDefEqProofs only [go_sem]
  simp -implicitDefEqProofs only [go_sem, h7, h8, hf]
/-! ### Frames, one behind the other -/
def stepF (a : Option (List UInt8)) (b : ByteArray) : Option (List UInt8) := match a with
  | none => none
  | some l => if (frameS b).size = 0 ∨ 60000 < l.length + (frameS b).size then none else some (l ++ (frameS b).data.toList)
def outF : Option (List UInt8) → ByteArray
  | none => ⟨⟨[]⟩⟩
  | some l => ⟨l.toArray⟩
def framesS (l : List ByteArray) : ByteArray := outF (l.foldl stepF (some []))
theorem stepF_none (l : List ByteArray) : l.foldl stepF none = none := by
  induction l with
  | nil => rfl
  | cons x l ih => exact ih
theorem framesS_no {l : List ByteArray} {k : Nat} {x : ByteArray} {a : List UInt8} (hx : l[k]? = some x) (ha : (l.take k).foldl stepF (some []) = some a) (h : (frameS x).size = 0 ∨ 60000 < a.length + (frameS x).size) : framesS l = ⟨⟨[]⟩⟩ := by
  have hk := (List.getElem?_eq_some_iff.1 hx).1
  have e : l = l.take (k + 1) ++ l.drop (k + 1) := (List.take_append_drop _ _).symm
  rw [framesS, e, List.foldl_append, foldl_take _ _ hx, ha, stepF, if_pos h, stepF_none]; rfl
theorem stepF_yes {l : List ByteArray} {k : Nat} {x : ByteArray} {a : List UInt8} (hx : l[k]? = some x) (ha : (l.take k).foldl stepF (some []) = some a) (h : ¬ ((frameS x).size = 0 ∨ 60000 < a.length + (frameS x).size)) : (l.take (k + 1)).foldl stepF (some []) = some (a ++ (frameS x).data.toList) := by
  rw [foldl_take _ _ hx, ha, stepF, if_neg h]
abbrev encBs (l : List UInt8) : D := .sl 1 5 (l.map byteVal)
theorem app_encBs (l m : List UInt8) : D.sl 1 5 (l.map byteVal ++ m.map byteVal) = encBs (l ++ m) := by simp [encBs]
theorem len_encBs (l : List UInt8) : (encBs l).len = l.length := by simp [D.len, D.cells, D.size]
set_option maxHeartbeats 4000000 in
theorem p_spec_FramesOf (l : List ByteArray) (hl : l.length ≤ 4000000) : Pure Try.prog 52 [.c (encStrs l)] (.c (.val (.string (framesS l)))) := by
  refine pure_fn Try.func52 code_spec_FramesOf (by simp) ?_
  unfold c_spec_FramesOf
  simp -implicitDefEqProofs only [go_sem]
  intro η1
  refine wp_loopW (fun i : Nat × List UInt8 × Heads => St.of [(0, Ro (encStrs l)), (3, Hd 3 i.2.2), (4, Ni i.1)] [(3, .loose (encBs i.2.1) i.2.2)]) (fun i => i.1 ≤ l.length ∧ i.2.1.length ≤ 60000 ∧ (l.take i.1).foldl stepF (some []) = some i.2.1) (fun i => l.length - i.1) (0, [], η1) (by (try dsimp only); first | omega | (simp; done) | (and_intros <;> first | omega | simp)) (wk_of [some 600] (by simp -implicitDefEqProofs only [go_sem] <;> and_intros <;> first | rfl | assumption)) ?_
  rintro ⟨k, a, η⟩ ⟨hk, ha6, ha⟩
  dsimp only at hk ha6 ha
  by_cases hlt : k < l.length
  · have hlt' : (k : Int) < l.length := by omega
    obtain ⟨x, hx⟩ := get_some hlt
    have hw : IntKind.i64.wrap ((k : Int) + 1) = ((k + 1 : Nat) : Int) := wrap64 (by omega) (by omega)
    have hf4 := frameS_le x
    have hw2 : IntKind.i64.wrap ((a.length : Int) + (frameS x).size) = ((a.length + (frameS x).size : Nat) : Int) := wrap64 (by omega) (by omega)
    simp -implicitDefEqProofs only [go_sem, hlt, hlt', elem_encStrs hx]
    refine run_call (p_spec_FrameOf x) (by simp -implicitDefEqProofs only [go_sem]) fun η => ?_
    simp -implicitDefEqProofs only [go_sem]
    simp -implicitDefEqProofs only [go_sem, str0, hw2, len_encBs, List.length_map]
    by_cases h0 : (frameS x).size = 0
    · rw [framesS_no hx ha (.inl h0)]
      simp -implicitDefEqProofs only [go_sem, str0, hw2, len_encBs, List.length_map, h0]
    by_cases h6 : 60000 < a.length + (frameS x).size
    · have h6' : (60000 : Int) < ((a.length + (frameS x).size : Nat) : Int) := by omega
      rw [framesS_no hx ha (.inr h6)]
      simp -implicitDefEqProofs only [go_sem, str0, hw2, len_encBs, List.length_map, h0, h6']
    have h6' : ¬ (60000 : Int) < ((a.length + (frameS x).size : Nat) : Int) := by omega
    have hs : a.length + (frameS x).size ≤ 140737488355328 := by omega
    simp -implicitDefEqProofs only [go_sem, str0, hw2, len_encBs, List.length_map, h0, h6', run_apps]
    refine ⟨_, rfl, ?_⟩
    simp -implicitDefEqProofs only [go_sem, List.length_map, hs]
    intro η8
    simp -implicitDefEqProofs only [go_sem, hw]
    exact ⟨(k + 1, a ++ (frameS x).data.toList, η8), ⟨hlt, by rw [List.length_append]; show a.length + (frameS x).size ≤ 60000; omega, stepF_yes hx ha (by omega)⟩, (wk_of [some 3000] (by simp -implicitDefEqProofs only [go_sem, app_encBs, strCells] <;> and_intros <;> first | rfl | assumption)), by (try dsimp only); omega⟩
  have hlt' : ¬ (k : Int) < l.length := by omega
  rw [List.take_of_length_le (by omega)] at ha
  simp -implicitDefEqProofs only [go_sem, hlt']
  refine cvK_text (ty := 5) (cs := a.map byteVal) (η := η) (bs := a) (by simp -implicitDefEqProofs only [go_sem]) rfl rfl ?_
  simp -implicitDefEqProofs only [go_sem]
  rw [framesS, ha]; rfl
set_option maxHeartbeats 4000000 in
theorem p_impl_FramesOf (l : List ByteArray) (hl : l.length ≤ 4000000) (hs : ∀ x ∈ l, x.size < 9223372036854775807) : Pure Try.prog 55 [.c (encStrs l)] (.c (.val (.string (framesS l)))) := by
  refine pure_fn Try.func55 code_impl_FramesOf (by simp) ?_
  unfold c_impl_FramesOf
  simp -implicitDefEqProofs only [go_sem]
  refine wp_loopW (fun i : Nat × List UInt8 × Heads => St.of [(3, Hd 3 i.2.2), (7, Ro (encStrs l)), (8, Ni l.length), (9, Ni i.1)] [(3, .loose (encBs i.2.1) i.2.2)]) (fun i => i.1 ≤ l.length ∧ i.2.1.length ≤ 60000 ∧ (l.take i.1).foldl stepF (some []) = some i.2.1) (fun i => l.length - i.1) (0, [], nilH) (by (try dsimp only); first | omega | (simp; done) | (and_intros <;> first | omega | simp)) (wk_of [none] (by simp -implicitDefEqProofs only [go_sem, List.map_nil] <;> and_intros <;> first | rfl | assumption)) ?_
  rintro ⟨k, a, η⟩ ⟨hk, ha6, ha⟩
  dsimp only at hk ha6 ha
  by_cases hlt : k < l.length
  · have hlt' : (k : Int) < l.length := by omega
    obtain ⟨x, hx⟩ := get_some hlt
    have hw : IntKind.i64.wrap ((k : Int) + 1) = ((k + 1 : Nat) : Int) := wrap64 (by omega) (by omega)
    have hf4 := frameS_le x
    have hw2 : IntKind.i64.wrap ((a.length : Int) + (frameS x).size) = ((a.length + (frameS x).size : Nat) : Int) := wrap64 (by omega) (by omega)
    simp -implicitDefEqProofs only [go_sem, hlt, hlt', elem_encStrs hx]
    refine run_call (p_impl_FrameOf x (hs x (List.mem_of_getElem? hx))) (by simp -implicitDefEqProofs only [go_sem]) fun η => ?_
    simp -implicitDefEqProofs only [go_sem]
    by_cases h0 : (frameS x).size = 0
    · rw [framesS_no hx ha (.inl h0)]
      simp -implicitDefEqProofs only [go_sem, str0, hw2, len_encBs, List.length_map, h0]
    by_cases h6 : 60000 < a.length + (frameS x).size
    · have h6' : (60000 : Int) < ((a.length + (frameS x).size : Nat) : Int) := by omega
      rw [framesS_no hx ha (.inr h6)]
      simp -implicitDefEqProofs only [go_sem, str0, hw2, len_encBs, List.length_map, h0, h6']
    have h6' : ¬ (60000 : Int) < ((a.length + (frameS x).size : Nat) : Int) := by omega
    have hs : a.length + (frameS x).size ≤ 140737488355328 := by omega
    simp -implicitDefEqProofs only [go_sem, str0, hw2, len_encBs, List.length_map, h0, h6', run_apps]
    refine ⟨_, rfl, ?_⟩
    simp -implicitDefEqProofs only [go_sem, List.length_map, hs]
    intro η8
    simp -implicitDefEqProofs only [go_sem, hw]
    exact ⟨(k + 1, a ++ (frameS x).data.toList, η8), ⟨hlt, by rw [List.length_append]; show a.length + (frameS x).size ≤ 60000; omega, stepF_yes hx ha (by omega)⟩, (wk_of [some 2700] (by simp -implicitDefEqProofs only [go_sem, app_encBs, strCells] <;> and_intros <;> first | rfl | assumption)), by (try dsimp only); omega⟩
  have hlt' : ¬ (k : Int) < l.length := by omega
  rw [List.take_of_length_le (by omega)] at ha
  simp -implicitDefEqProofs only [go_sem, hlt']
  refine cvK_text (ty := 5) (cs := a.map byteVal) (η := η) (bs := a) (by simp -implicitDefEqProofs only [go_sem]) rfl rfl ?_
  simp -implicitDefEqProofs only [go_sem]
  rw [framesS, ha]; rfl
/-! ### Notes as one text -/
def notesS (l : List Nt) : ByteArray := if 400 < l.length then ⟨⟨[]⟩⟩ else framesS (l.map noteS)
theorem stepF_zero : ∀ {l : List ByteArray} {x : ByteArray}, x ∈ l → (frameS x).size = 0 → ∀ a, l.foldl stepF a = none
  | [], _, h, _, _ => by simp at h
  | y :: l, x, h, h0, a => by
    rw [List.foldl_cons]
    rcases List.mem_cons.1 h with rfl | h
    · have : stepF a x = none := by
        cases a with
        | none => rfl
        | some a => rw [stepF, if_pos (.inl h0)]
      rw [this, stepF_none]
    · exact stepF_zero h h0 _
theorem framesS_zero {l : List ByteArray} {x : ByteArray} (h : x ∈ l) (h0 : x.size = 0) : framesS l = ⟨⟨[]⟩⟩ := by
  rw [framesS, stepF_zero h (by unfold frameS; rw [if_neg (by omega)]; rfl)]; rfl
theorem nt1_le {l : List Nt} (ht : totNts l ≤ 2000000) {n : Nt} (h : n ∈ l) : totNt n ≤ 2000000 := by
  obtain ⟨k, hk, rfl⟩ := List.getElem_of_mem h
  have h1 := List.getElem?_eq_getElem hk
  have h2 := tsum_succ (tot := totNt) h1
  have h3 := tsum_le totNt l (k + 1)
  simp only [totNts] at ht
  omega
theorem noteS_le (n : Nt) : (noteS n).size ≤ 400 := by
  unfold noteS
  split
  · unfold cutS
    split
    · exact Nat.zero_le _
    · omega
  · exact Nat.zero_le _
set_option maxHeartbeats 4000000 in
theorem p_spec_NotesText (l : List Nt) (ht : totNts l ≤ 2000000) : Pure Try.prog 14 [.c (encNts l)] (.c (.val (.string (notesS l)))) := by
  refine pure_fn Try.func14 code_spec_NotesText (by simp) ?_
  unfold c_spec_NotesText
  simp -implicitDefEqProofs only [go_sem]
  by_cases h4 : 400 < l.length
  · have h4' : (400 : Int) < l.length := by omega
    have hn : notesS l = ⟨⟨[]⟩⟩ := by rw [notesS, if_pos h4]
    simp -implicitDefEqProofs only [go_sem, h4', hn]
  have h4' : ¬ (400 : Int) < l.length := by omega
  have hn : notesS l = framesS (l.map noteS) := by rw [notesS, if_neg h4]
  simp -implicitDefEqProofs only [go_sem, h4']
  intro η1
  refine wp_loopW (fun i : Nat × Heads => St.of [(0, Ro (encNts l)), (3, Hd 3 i.2), (4, Ni i.1)] [(3, .loose (encStrs ((l.take i.1).map noteS)) i.2)]) (fun i => i.1 ≤ l.length) (fun i => l.length - i.1) (0, η1) (by (try dsimp only); first | omega | (simp; done) | (and_intros <;> first | omega | simp)) (wk_of [some 900] (by simp -implicitDefEqProofs only [go_sem, List.take_zero, List.map_nil, encStrs, List.flatMap_nil] <;> and_intros <;> first | rfl | assumption)) ?_
  rintro ⟨k, η⟩ hk
  dsimp only at hk
  by_cases hlt : k < l.length
  · have hlt' : (k : Int) < l.length := by omega
    obtain ⟨x, hx⟩ := get_some hlt
    have hw : IntKind.i64.wrap ((k : Int) + 1) = ((k + 1 : Nat) : Int) := wrap64 (by omega) (by omega)
    have hmt : (l.take (k + 1)).map noteS = (l.take k).map noteS ++ [noteS x] := by rw [List.take_add_one, hx]; simp
    have hml : ((l.take k).map noteS).length = k := by rw [List.length_map, List.length_take]; omega
    generalize (l.take k).map noteS = M at *
    have hm1 : k + 1 ≤ maxLen := by unfold maxLen; omega
    have hm2 : (k + 1) * 16 ≤ 140737488355328 := by omega
    simp -implicitDefEqProofs only [go_sem, hlt, hlt', elem_encNts hx, encNt, encDd, encPl]
    refine run_call (p_spec_NoteText x (nt1_le ht (List.mem_of_getElem? hx))) (by simp -implicitDefEqProofs only [go_sem, encNt, encDd, encPl]) fun η => ?_
    simp -implicitDefEqProofs only [go_sem, encNt, encDd, encPl]
    by_cases h0 : (noteS x).size = 0
    · have hz : notesS l = ⟨⟨[]⟩⟩ := by rw [hn, framesS_zero (x := noteS x) (List.mem_map.2 ⟨x, List.mem_of_getElem? hx, rfl⟩) h0]
      simp -implicitDefEqProofs only [go_sem, str0, h0, hz]
    simp -implicitDefEqProofs only [go_sem, str0, h0, hml, hm1, hm2, app_encStrs]
    intro η5 η6
    simp -implicitDefEqProofs only [go_sem, hw]
    exact ⟨(k + 1, η6), by (try dsimp only); first | omega | assumption | (and_intros <;> first | omega | assumption), (wk_of [some 2600] (by simp -implicitDefEqProofs only [go_sem, hmt] <;> and_intros <;> first | rfl | assumption)), by (try dsimp only); omega⟩
  have hlt' : ¬ (k : Int) < l.length := by omega
  rw [List.take_of_length_le (by omega)]
  simp -implicitDefEqProofs only [go_sem, hlt']
  refine run_call (p_spec_FramesOf (l.map noteS) (by rw [List.length_map]; omega)) (by simp -implicitDefEqProofs only [go_sem]) fun η => ?_
  simp -implicitDefEqProofs only [go_sem]
  simp -implicitDefEqProofs only [go_sem, hn]
set_option maxHeartbeats 4000000 in
theorem p_impl_NotesText (l : List Nt) (ht : totNts l ≤ 2000000) : Pure Try.prog 16 [.c (encNts l)] (.c (.val (.string (notesS l)))) := by
  refine pure_fn Try.func16 code_impl_NotesText (by simp) ?_
  unfold c_impl_NotesText
  simp -implicitDefEqProofs only [go_sem]
  by_cases h4 : 400 < l.length
  · have h4' : (400 : Int) < l.length := by omega
    have hn : notesS l = ⟨⟨[]⟩⟩ := by rw [notesS, if_pos h4]
    simp -implicitDefEqProofs only [go_sem, h4', hn]
  have h4' : ¬ (400 : Int) < l.length := by omega
  have hn : notesS l = framesS (l.map noteS) := by rw [notesS, if_neg h4]
  simp -implicitDefEqProofs only [go_sem, h4']
  refine wp_loopW (fun i : Nat × Heads => St.of [(3, Hd 3 i.2), (9, Ro (encNts l)), (10, Ni l.length), (11, Ni i.1)] [(3, .loose (encStrs ((l.take i.1).map noteS)) i.2)]) (fun i => i.1 ≤ l.length) (fun i => l.length - i.1) (0, nilH) (by (try dsimp only); first | omega | (simp; done) | (and_intros <;> first | omega | simp)) (wk_of [none] (by simp -implicitDefEqProofs only [go_sem, List.take_zero, List.map_nil] <;> and_intros <;> first | rfl | assumption)) ?_
  rintro ⟨k, η⟩ hk
  dsimp only at hk
  by_cases hlt : k < l.length
  · have hlt' : (k : Int) < l.length := by omega
    obtain ⟨x, hx⟩ := get_some hlt
    have hw : IntKind.i64.wrap ((k : Int) + 1) = ((k + 1 : Nat) : Int) := wrap64 (by omega) (by omega)
    have hmt : (l.take (k + 1)).map noteS = (l.take k).map noteS ++ [noteS x] := by rw [List.take_add_one, hx]; simp
    have hml : ((l.take k).map noteS).length = k := by rw [List.length_map, List.length_take]; omega
    generalize (l.take k).map noteS = M at *
    have hm1 : k + 1 ≤ maxLen := by unfold maxLen; omega
    have hm2 : (k + 1) * 16 ≤ 140737488355328 := by omega
    simp -implicitDefEqProofs only [go_sem, hlt, hlt', elem_encNts hx, encNt, encDd, encPl]
    intro b5
    refine run_call (p_impl_NoteText x (nt1_le ht (List.mem_of_getElem? hx))) (by simp -implicitDefEqProofs only [go_sem, encNt, encDd, encPl]) fun η => ?_
    simp -implicitDefEqProofs only [go_sem, encNt, encDd, encPl]
    simp -implicitDefEqProofs only [go_sem, hml, hm1, hm2, app_encStrs]
    intro η5 η6
    simp -implicitDefEqProofs only [go_sem, hw]
    exact ⟨(k + 1, η6), by (try dsimp only); first | omega | assumption | (and_intros <;> first | omega | assumption), (wk_of [some 1900] (by simp -implicitDefEqProofs only [go_sem, hmt] <;> and_intros <;> first | rfl | assumption)), by (try dsimp only); omega⟩
  have hlt' : ¬ (k : Int) < l.length := by omega
  rw [List.take_of_length_le (by omega)]
  simp -implicitDefEqProofs only [go_sem, hlt']
  refine run_call (p_impl_FramesOf (l.map noteS) (by rw [List.length_map]; omega) (fun x hx => by obtain ⟨n, _, rfl⟩ := List.mem_map.1 hx; have := noteS_le n; omega)) (by simp -implicitDefEqProofs only [go_sem]) fun η => ?_
  simp -implicitDefEqProofs only [go_sem]
  simp -implicitDefEqProofs only [go_sem, hn]
end Go.Proofs.Ytbplebgnkhmemaa
