/- Texts for laws: Shelf. -/
import Derived.Test.YtnhdcbhcocgjhaaGreatQAb
import Derived.Test.YtnhdcbhcocgjhaaGreatProg
set_option linter.unusedSimpArgs false
set_option linter.unusedVariables false
set_option maxRecDepth 100000
namespace Go.Proofs.YtnhdcbhcocgjhaaGreat
open Go.RowKit Go.Sort
def c_spec_ShelfOf : C := .seq (.reg [⟨some 2, none, .mov (.c (.int .i64 0))⟩]) (.seq (.reg [⟨some 4, none, .mov (.t 0)⟩, ⟨some 5, none, .call 194 [.t 4]⟩, ⟨some 3, none, .mov (.t 5)⟩]) (.seq (.seq (.reg [⟨some 6, none, .mov (.t 3)⟩, ⟨some 7, none, .bin .eql 9 (.t 6) (.c (.string ⟨⟨[]⟩⟩))⟩]) (.cond (.t 7) (.seq (.reg [⟨some 2, none, .mov (.c (.int .i64 0))⟩]) .ret) .skip)) (.seq (.reg [⟨some 8, none, .mov (.t 3)⟩, ⟨some 9, none, .call 195 [.t 8]⟩, ⟨some 10, none, .bin .rem 3 (.t 9) (.c (.int .i64 4))⟩, ⟨some 2, none, .mov (.t 10)⟩]) .ret)))
theorem code_spec_ShelfOf : fnC Tryz.prog Tryz.f164 = some (c_spec_ShelfOf, [.t 2], 11) := by kernel_rfl
def c_impl_ShelfOf : C := .seq (.reg [⟨some 2, none, .mov (.c (.int .i64 0))⟩]) (.seq (.reg [⟨some 4, none, .mov (.t 0)⟩, ⟨some 5, none, .call 198 [.t 4]⟩, ⟨some 3, none, .mov (.t 5)⟩]) (.seq (.seq (.reg [⟨some 6, none, .mov (.t 3)⟩, ⟨some 7, none, .bin .eql 9 (.t 6) (.c (.string ⟨⟨[]⟩⟩))⟩]) (.cond (.t 7) (.seq (.reg [⟨some 2, none, .mov (.c (.int .i64 0))⟩]) .ret) .skip)) (.seq (.reg [⟨some 8, none, .mov (.t 3)⟩, ⟨some 9, none, .call 199 [.t 8]⟩, ⟨some 10, none, .bin .rem 3 (.t 9) (.c (.int .i64 4))⟩, ⟨some 2, none, .mov (.t 10)⟩]) .ret)))
theorem code_impl_ShelfOf : fnC Tryz.prog Tryz.f170 = some (c_impl_ShelfOf, [.t 2], 11) := by kernel_rfl
def c_spec_VarText : C := .seq (.reg [⟨some 2, none, .mov (.c (.string ⟨⟨[]⟩⟩))⟩]) (.seq (.seq (.reg [⟨some 4, none, .mov (.t 0)⟩, ⟨some 5, none, .call 72 [.t 4, .c (.int .i64 0), .c (.int .i64 1000000000)]⟩, ⟨some 6, none, .un .not (.t 5)⟩]) (.cond (.t 6) (.seq (.reg [⟨some 2, none, .mov (.c (.string ⟨⟨[]⟩⟩))⟩]) .ret) .skip)) (.seq (.reg [⟨some 7, none, .bsl 5 1 0 [] []⟩, ⟨some 3, none, .mov (.t 7)⟩]) (.seq (.blk 0 (.loop (.seq (.seq (.reg [⟨some 8, none, .mov (.t 0)⟩, ⟨some 9, none, .bin .gtr 3 (.t 8) (.c (.int .i64 127))⟩]) (.cond (.t 9) .skip (.exit 0))) (.blk 1 (.seq (.reg [⟨some 10, none, .mov (.t 3)⟩, ⟨some 11, none, .mov (.t 0)⟩, ⟨some 12, none, .bin .rem 3 (.t 11) (.c (.int .i64 128))⟩, ⟨some 13, none, .bin .add 3 (.c (.int .i64 128)) (.t 12)⟩, ⟨some 14, none, .cv (.num .u8) 0 (.t 13)⟩, ⟨some 15, none, .bsl 5 1 1 [none] [(0, 1, .t 14)]⟩, ⟨some 16, none, .app 5 1 1 (.t 10) (.t 15)⟩, ⟨some 3, none, .mov (.t 16)⟩]) (.reg [⟨some 17, none, .mov (.t 0)⟩, ⟨some 18, none, .bin .quo 3 (.t 17) (.c (.int .i64 128))⟩, ⟨some 0, none, .mov (.t 18)⟩])))))) (.seq (.reg [⟨some 19, none, .mov (.t 3)⟩, ⟨some 20, none, .mov (.t 0)⟩, ⟨some 21, none, .cv (.num .u8) 0 (.t 20)⟩, ⟨some 22, none, .bsl 5 1 1 [none] [(0, 1, .t 21)]⟩, ⟨some 23, none, .app 5 1 1 (.t 19) (.t 22)⟩, ⟨some 24, none, .cv .text 5 (.t 23)⟩, ⟨some 2, none, .mov (.t 24)⟩]) .ret))))
theorem code_spec_VarText : fnC Tryz.prog Tryz.f194 = some (c_spec_VarText, [.t 2], 25) := by kernel_rfl
def c_impl_VarText : C := .seq (.reg [⟨some 2, none, .mov (.c (.string ⟨⟨[]⟩⟩))⟩]) (.seq (.seq (.reg [⟨some 4, none, .mov (.t 0)⟩, ⟨some 5, none, .call 79 [.t 4, .c (.int .i64 0), .c (.int .i64 1000000000)]⟩, ⟨some 6, none, .un .not (.t 5)⟩]) (.cond (.t 6) (.seq (.reg [⟨some 2, none, .mov (.c (.string ⟨⟨[]⟩⟩))⟩]) .ret) .skip)) (.seq (.reg [⟨some 3, none, .mov (.c (.slice none 0 0))⟩]) (.seq (.blk 0 (.loop (.seq (.seq (.reg [⟨some 7, none, .mov (.t 0)⟩, ⟨some 8, none, .bin .geq 3 (.t 7) (.c (.int .i64 128))⟩]) (.cond (.t 8) .skip (.exit 0))) (.blk 1 (.seq (.reg [⟨some 9, none, .mov (.t 3)⟩, ⟨some 10, none, .mov (.t 0)⟩, ⟨some 11, none, .bin .rem 3 (.t 10) (.c (.int .i64 128))⟩, ⟨some 12, none, .bin .add 3 (.t 11) (.c (.int .i64 128))⟩, ⟨some 13, none, .cv (.num .u8) 0 (.t 12)⟩, ⟨some 14, none, .bsl 5 1 1 [none] [(0, 1, .t 13)]⟩, ⟨some 15, none, .app 5 1 1 (.t 9) (.t 14)⟩, ⟨some 3, none, .mov (.t 15)⟩]) (.reg [⟨some 16, none, .mov (.t 0)⟩, ⟨some 17, none, .bin .quo 3 (.t 16) (.c (.int .i64 128))⟩, ⟨some 0, none, .mov (.t 17)⟩])))))) (.seq (.reg [⟨some 18, none, .mov (.t 3)⟩, ⟨some 19, none, .mov (.t 0)⟩, ⟨some 20, none, .cv (.num .u8) 0 (.t 19)⟩, ⟨some 21, none, .bsl 5 1 1 [none] [(0, 1, .t 20)]⟩, ⟨some 22, none, .app 5 1 1 (.t 18) (.t 21)⟩, ⟨some 23, none, .cv .text 5 (.t 22)⟩, ⟨some 2, none, .mov (.t 23)⟩]) .ret))))
theorem code_impl_VarText : fnC Tryz.prog Tryz.f198 = some (c_impl_VarText, [.t 2], 24) := by kernel_rfl
def c_spec_SumOf : C := .seq (.reg [⟨some 2, none, .mov (.c (.int .i64 0))⟩]) (.seq (.reg [⟨some 3, none, .mov (.c (.int .i64 4294967295))⟩]) (.seq (.seq (.reg [⟨some 4, none, .mov (.c (.int .i64 0))⟩]) (.blk 0 (.loop (.seq (.seq (.reg [⟨some 7, none, .mov (.t 4)⟩, ⟨some 8, none, .mov (.t 0)⟩, ⟨some 9, none, .len true (.t 8)⟩, ⟨some 10, none, .bin .lss 3 (.t 7) (.t 9)⟩]) (.cond (.t 10) .skip (.exit 0))) (.seq (.blk 1 (.seq (.reg [⟨some 13, none, .mov (.t 3)⟩, ⟨some 14, none, .mov (.t 0)⟩, ⟨some 15, none, .mov (.t 4)⟩, ⟨some 16, none, .sidx (.t 14) (.t 15)⟩, ⟨some 17, none, .cv (.num .i64) 0 (.t 16)⟩, ⟨some 18, none, .bin .xor 3 (.t 13) (.t 17)⟩, ⟨some 3, none, .mov (.t 18)⟩]) (.seq (.reg [⟨some 5, none, .mov (.c (.int .i64 0))⟩]) (.blk 2 (.loop (.seq (.seq (.reg [⟨some 19, none, .mov (.t 5)⟩, ⟨some 20, none, .bin .lss 3 (.t 19) (.c (.int .i64 8))⟩]) (.cond (.t 20) .skip (.exit 2))) (.seq (.blk 3 (.seq (.reg [⟨some 23, none, .mov (.t 3)⟩, ⟨some 24, none, .bin .rem 3 (.t 23) (.c (.int .i64 2))⟩, ⟨some 25, none, .bin .eql 3 (.t 24) (.c (.int .i64 1))⟩, ⟨some 6, none, .mov (.t 25)⟩]) (.seq (.reg [⟨some 26, none, .mov (.t 3)⟩, ⟨some 27, none, .bin .quo 3 (.t 26) (.c (.int .i64 2))⟩, ⟨some 3, none, .mov (.t 27)⟩]) (.seq (.reg [⟨some 28, none, .mov (.t 6)⟩]) (.cond (.t 28) (.reg [⟨some 29, none, .mov (.t 3)⟩, ⟨some 30, none, .bin .xor 3 (.t 29) (.c (.int .i64 3988292384))⟩, ⟨some 3, none, .mov (.t 30)⟩]) .skip))))) (.reg [⟨some 21, none, .mov (.t 5)⟩, ⟨some 22, none, .bin .add 3 (.t 21) (.c (.int .i64 1))⟩, ⟨some 5, none, .mov (.t 22)⟩])))))))) (.reg [⟨some 11, none, .mov (.t 4)⟩, ⟨some 12, none, .bin .add 3 (.t 11) (.c (.int .i64 1))⟩, ⟨some 4, none, .mov (.t 12)⟩])))))) (.seq (.reg [⟨some 31, none, .mov (.t 3)⟩, ⟨some 32, none, .bin .xor 3 (.t 31) (.c (.int .i64 4294967295))⟩, ⟨some 2, none, .mov (.t 32)⟩]) .ret)))
theorem code_spec_SumOf : fnC Tryz.prog Tryz.f195 = some (c_spec_SumOf, [.t 2], 33) := by kernel_rfl
def c_impl_SumOf : C := .seq (.reg [⟨some 2, none, .mov (.c (.int .i64 0))⟩]) (.seq (.reg [⟨some 3, none, .mov (.c (.int .i64 4294967295))⟩]) (.seq (.seq (.reg [⟨some 4, none, .mov (.c (.int .i64 0))⟩]) (.blk 0 (.loop (.seq (.seq (.reg [⟨some 7, none, .mov (.t 4)⟩, ⟨some 8, none, .mov (.t 0)⟩, ⟨some 9, none, .len true (.t 8)⟩, ⟨some 10, none, .bin .lss 3 (.t 7) (.t 9)⟩]) (.cond (.t 10) .skip (.exit 0))) (.seq (.blk 1 (.seq (.reg [⟨some 13, none, .mov (.t 3)⟩, ⟨some 14, none, .mov (.t 0)⟩, ⟨some 15, none, .mov (.t 4)⟩, ⟨some 16, none, .sidx (.t 14) (.t 15)⟩, ⟨some 17, none, .cv (.num .i64) 0 (.t 16)⟩, ⟨some 18, none, .bin .xor 3 (.t 13) (.t 17)⟩, ⟨some 3, none, .mov (.t 18)⟩]) (.seq (.reg [⟨some 5, none, .mov (.c (.int .i64 0))⟩]) (.blk 2 (.loop (.seq (.seq (.reg [⟨some 19, none, .mov (.t 5)⟩, ⟨some 20, none, .bin .lss 3 (.t 19) (.c (.int .i64 8))⟩]) (.cond (.t 20) .skip (.exit 2))) (.seq (.blk 3 (.seq (.reg [⟨some 23, none, .mov (.t 3)⟩, ⟨some 24, none, .bin .rem 3 (.t 23) (.c (.int .i64 2))⟩, ⟨some 25, none, .bin .eql 3 (.t 24) (.c (.int .i64 1))⟩, ⟨some 6, none, .mov (.t 25)⟩]) (.seq (.reg [⟨some 26, none, .mov (.t 3)⟩, ⟨some 27, none, .bin .quo 3 (.t 26) (.c (.int .i64 2))⟩, ⟨some 3, none, .mov (.t 27)⟩]) (.seq (.reg [⟨some 28, none, .mov (.t 6)⟩]) (.cond (.t 28) (.reg [⟨some 29, none, .mov (.t 3)⟩, ⟨some 30, none, .bin .xor 3 (.t 29) (.c (.int .i64 3988292384))⟩, ⟨some 3, none, .mov (.t 30)⟩]) .skip))))) (.reg [⟨some 21, none, .mov (.t 5)⟩, ⟨some 22, none, .bin .add 3 (.t 21) (.c (.int .i64 1))⟩, ⟨some 5, none, .mov (.t 22)⟩])))))))) (.reg [⟨some 11, none, .mov (.t 4)⟩, ⟨some 12, none, .bin .add 3 (.t 11) (.c (.int .i64 1))⟩, ⟨some 4, none, .mov (.t 12)⟩])))))) (.seq (.reg [⟨some 31, none, .mov (.t 3)⟩, ⟨some 32, none, .bin .xor 3 (.t 31) (.c (.int .i64 4294967295))⟩, ⟨some 2, none, .mov (.t 32)⟩]) .ret)))
theorem code_impl_SumOf : fnC Tryz.prog Tryz.f199 = some (c_impl_SumOf, [.t 2], 33) := by kernel_rfl
def c_spec_l01In : C := .seq (.reg [⟨some 6, none, .mov (.c (.bool false))⟩]) (.seq (.reg [⟨some 7, none, .mov (.t 0)⟩, ⟨some 8, none, .mov (.t 1)⟩, ⟨some 9, none, .bin .geq 3 (.t 7) (.t 8)⟩, ⟨some 10, none, .mov (.t 9)⟩, ⟨some 11, some (10, true), .mov (.t 0)⟩, ⟨some 12, some (10, true), .mov (.t 2)⟩, ⟨some 13, some (10, true), .bin .leq 3 (.t 11) (.t 12)⟩, ⟨some 14, none, .pick (.t 10) (.t 13) (.c (.bool false))⟩, ⟨some 6, none, .mov (.t 14)⟩]) .ret)
theorem code_spec_l01In : fnC Tryz.prog Tryz.f72 = some (c_spec_l01In, [.t 6], 15) := by kernel_rfl
def c_impl_within : C := .seq (.reg [⟨some 6, none, .mov (.c (.bool false))⟩]) (.seq (.reg [⟨some 7, none, .mov (.t 0)⟩, ⟨some 8, none, .mov (.t 1)⟩, ⟨some 9, none, .bin .geq 3 (.t 7) (.t 8)⟩, ⟨some 10, none, .mov (.t 9)⟩, ⟨some 11, some (10, true), .mov (.t 0)⟩, ⟨some 12, some (10, true), .mov (.t 2)⟩, ⟨some 13, some (10, true), .bin .leq 3 (.t 11) (.t 12)⟩, ⟨some 14, none, .pick (.t 10) (.t 13) (.c (.bool false))⟩, ⟨some 6, none, .mov (.t 14)⟩]) .ret)
theorem code_impl_within : fnC Tryz.prog Tryz.f79 = some (c_impl_within, [.t 6], 15) := by kernel_rfl
theorem p_spec_l01In (a b c : Int) : Pure Tryz.prog 72 [.c (.val (.int .i64 a)), .c (.val (.int .i64 b)), .c (.val (.int .i64 c))] (.c (.val (.bool (decide (b ≤ a ∧ a ≤ c))))) := by
  refine pure_fn Tryz.func72 code_spec_l01In (by simp) ?_
  unfold c_spec_l01In
  by_cases h : b ≤ a
  · simp -implicitDefEqProofs only [go_sem, h]
  · simp -implicitDefEqProofs only [go_sem, h]
theorem p_impl_within (a b c : Int) : Pure Tryz.prog 79 [.c (.val (.int .i64 a)), .c (.val (.int .i64 b)), .c (.val (.int .i64 c))] (.c (.val (.bool (decide (b ≤ a ∧ a ≤ c))))) := by
  refine pure_fn Tryz.func79 code_impl_within (by simp) ?_
  unfold c_impl_within
  by_cases h : b ≤ a
  · simp -implicitDefEqProofs only [go_sem, h]
  · simp -implicitDefEqProofs only [go_sem, h]
/-- The bytes of a number. -/
def varL (v : Nat) : List UInt8 := if v < 128 then [UInt8.ofNat v] else UInt8.ofNat (128 + v % 128) :: varL (v / 128)
termination_by v
decreasing_by omega
theorem varL_len (v : Nat) : (varL v).length ≤ v + 1 := by
  induction v using Nat.strongRecOn with
  | _ v ih =>
    unfold varL
    split
    · simp
    · have := ih (v / 128) (by omega)
      simp only [List.length_cons]; omega
def varS (n : Int) : ByteArray := if 0 ≤ n ∧ n ≤ 1000000000 then ⟨(varL n.toNat).toArray⟩ else ⟨#[]⟩
theorem byte_ {v : Nat} (h : v < 256) : D.val (.int .u8 (IntKind.u8.wrap (v : Int))) = byteVal (UInt8.ofNat v) := by
  have : IntKind.u8.wrap (v : Int) = v := IntWalk.u8_in _ (by omega)
  rw [this]
  simp [byteVal, Nat.mod_eq_of_lt h]
theorem tdiv128 (v : Nat) : Int.tdiv (v : Int) 128 = ((v / 128 : Nat) : Int) := rfl
theorem tmod128 (v : Nat) : Int.tmod (v : Int) 128 = ((v % 128 : Nat) : Int) := rfl
theorem varS_in {n : Nat} (h : n ≤ 1000000000) : varS (n : Int) = ⟨(varL n).toArray⟩ := by simp [varS]; omega
theorem p_spec_VarText (n : Int) : Pure Tryz.prog 194 [.c (.val (.int .i64 n))] (.c (.val (.string (varS n)))) := by
  refine pure_fn Tryz.func194 code_spec_VarText (by simp) ?_
  unfold c_spec_VarText
  simp -implicitDefEqProofs only [go_sem]
  refine run_call (p_spec_l01In n 0 1000000000) (by simp -implicitDefEqProofs only [go_sem]) fun η => ?_
  by_cases h : 0 ≤ n ∧ n ≤ 1000000000
  · obtain ⟨n, rfl⟩ := Int.eq_ofNat_of_zero_le h.1
    have hn : n ≤ 1000000000 := by omega
    rw [varS_in hn]
    simp -implicitDefEqProofs only [go_sem, h]
    intro η1
    have hl0 := varL_len n
    refine wp_loop_ (fun s => ∃ (l : List UInt8) (v : Nat) (g : Nat) (η : Heads), l ++ varL v = varL n ∧ v ≤ n ∧ (g = 700 ∨ g = 1600) ∧ s.t 0 = .c (.v (.int .i64 v)) ∧ s.t 3 = .c (.h g 0 [] (η [])) ∧ s.o g = .loose (.sl 1 5 (l.map byteVal)) η) (fun s => s.n 0) ?_ ?_
    · exact ⟨[], n, 700, η1, rfl, Nat.le_refl _, .inl rfl, by simp -implicitDefEqProofs only [go_sem], by simp -implicitDefEqProofs only [go_sem], by simp -implicitDefEqProofs only [go_sem]⟩
    · rintro s ⟨l, v, g, η, hl, hv, hg, h0, h3, ho⟩
      have hll : l.length ≤ 1000000001 := by have := congrArg List.length hl; simp only [List.length_append] at this; omega
      by_cases hlt : 128 ≤ v
      · have hlt' : (127 : Int) < v := by omega
        have hw : IntKind.i64.wrap (128 + ((v % 128 : Nat) : Int)) = ((128 + v % 128 : Nat) : Int) := by rw [wrap64 (by omega) (by omega)]; omega
        have hw2 : IntKind.i64.wrap ((v / 128 : Nat) : Int) = ((v / 128 : Nat) : Int) := wrap64 (by omega) (by omega)
        have hb := byte_ (v := 128 + v % 128) (by omega)
        have e' : l ++ varL v = (l ++ [UInt8.ofNat (128 + v % 128)]) ++ varL (v / 128) := by rw [varL, if_neg (by omega)]; simp
        rcases hg with rfl | rfl
        · simp -implicitDefEqProofs only [go_sem, h0, h3, ho, hlt', tdiv128, tmod128, hw, hw2]
          intro η2
          refine ⟨by simp [maxLen]; try omega, by simp; try omega, fun η3 => ⟨⟨_, v / 128, 1600, η3, e'.symm.trans hl, by omega, .inr rfl, rfl, rfl, by simp -implicitDefEqProofs only [go_sem, hb, List.map_append]⟩, ?_⟩⟩
          rw [st_n (k := .i64) (n := ((v / 128 : Nat) : Int)) (by simp -implicitDefEqProofs only [go_sem]), st_n h0]; omega
        · simp -implicitDefEqProofs only [go_sem, h0, h3, ho, hlt', tdiv128, tmod128, hw, hw2]
          intro η2
          refine ⟨by simp [maxLen]; try omega, by simp; try omega, fun η3 => ⟨⟨_, v / 128, 1600, η3, e'.symm.trans hl, by omega, .inr rfl, rfl, rfl, by simp -implicitDefEqProofs only [go_sem, hb, List.map_append]⟩, ?_⟩⟩
          rw [st_n (k := .i64) (n := ((v / 128 : Nat) : Int)) (by simp -implicitDefEqProofs only [go_sem]), st_n h0]; omega
      · have hlt' : ¬ (127 : Int) < v := by omega
        have hb := byte_ (v := v) (by omega)
        have e' : l ++ varL v = l ++ [UInt8.ofNat v] := by rw [varL, if_pos (by omega)]
        have hvl : varL n = l ++ [UInt8.ofNat v] := by rw [← hl, e']
        rcases hg with rfl | rfl
        · simp -implicitDefEqProofs only [go_sem, h0, h3, ho, hlt']
          intro η2
          refine ⟨by simp [maxLen]; try omega, by simp; try omega, fun η3 => cvK_text (bs := varL n) rfl rfl (by rw [hvl]; simp -implicitDefEqProofs only [go_sem, hb, List.map_append]) ?_⟩
          simp -implicitDefEqProofs only [go_sem]
        · simp -implicitDefEqProofs only [go_sem, h0, h3, ho, hlt']
          intro η2
          refine ⟨by simp [maxLen]; try omega, by simp; try omega, fun η3 => cvK_text (bs := varL n) rfl rfl (by rw [hvl]; simp -implicitDefEqProofs only [go_sem, hb, List.map_append]) ?_⟩
          simp -implicitDefEqProofs only [go_sem]
  · simp -implicitDefEqProofs only [go_sem, h]
    simp [varS, h]
theorem p_impl_VarText (n : Int) : Pure Tryz.prog 198 [.c (.val (.int .i64 n))] (.c (.val (.string (varS n)))) := by
  refine pure_fn Tryz.func198 code_impl_VarText (by simp) ?_
  unfold c_impl_VarText
  simp -implicitDefEqProofs only [go_sem]
  refine run_call (p_impl_within n 0 1000000000) (by simp -implicitDefEqProofs only [go_sem]) fun η => ?_
  by_cases h : 0 ≤ n ∧ n ≤ 1000000000
  · obtain ⟨n, rfl⟩ := Int.eq_ofNat_of_zero_le h.1
    have hn : n ≤ 1000000000 := by omega
    rw [varS_in hn]
    simp -implicitDefEqProofs only [go_sem, h]
    
    have hl0 := varL_len n
    refine wp_loop_ (fun s => ∃ (l : List UInt8) (v : Nat), l ++ varL v = varL n ∧ v ≤ n ∧ s.t 0 = .c (.v (.int .i64 v)) ∧ ((l = [] ∧ s.t 3 = .c (.v (.slice none 0 0))) ∨ ∃ η, s.t 3 = .c (.h 1500 0 [] (η [])) ∧ s.o 1500 = .loose (.sl 1 5 (l.map byteVal)) η)) (fun s => s.n 0) ?_ ?_
    · exact ⟨[], n, rfl, Nat.le_refl _, by simp -implicitDefEqProofs only [go_sem], .inl ⟨rfl, by simp -implicitDefEqProofs only [go_sem]⟩⟩
    · rintro s ⟨l, v, hl, hv, h0, hg⟩
      have hll : l.length ≤ 1000000001 := by have := congrArg List.length hl; simp only [List.length_append] at this; omega
      by_cases hlt : 128 ≤ v
      · have hlt' : (128 : Int) ≤ v := by omega
        have hw : IntKind.i64.wrap (((v % 128 : Nat) : Int) + 128) = ((128 + v % 128 : Nat) : Int) := by rw [wrap64 (by omega) (by omega)]; omega
        have hw2 : IntKind.i64.wrap ((v / 128 : Nat) : Int) = ((v / 128 : Nat) : Int) := wrap64 (by omega) (by omega)
        have hb := byte_ (v := 128 + v % 128) (by omega)
        have e' : l ++ varL v = (l ++ [UInt8.ofNat (128 + v % 128)]) ++ varL (v / 128) := by rw [varL, if_neg (by omega)]; simp
        rcases hg with ⟨rfl, h3⟩ | ⟨η, h3, ho⟩
        · simp -implicitDefEqProofs only [go_sem, h0, h3, List.length_nil, hlt', maxLen, tdiv128, tmod128, hw, hw2]
          intro η2
          intro η3
          refine ⟨⟨_, v / 128, e'.symm.trans hl, by omega, rfl, .inr ⟨η3, rfl, by simp -implicitDefEqProofs only [go_sem, hb, List.map_append]⟩⟩, ?_⟩
          rw [st_n (k := .i64) (n := ((v / 128 : Nat) : Int)) (by simp -implicitDefEqProofs only [go_sem]), st_n h0]; omega
        · simp -implicitDefEqProofs only [go_sem, h0, h3, ho, hlt', tdiv128, tmod128, hw, hw2]
          intro η2
          refine ⟨by simp [maxLen]; try omega, by simp; try omega, fun η3 => ⟨⟨_, v / 128, e'.symm.trans hl, by omega, rfl, .inr ⟨η3, rfl, by simp -implicitDefEqProofs only [go_sem, hb, List.map_append]⟩⟩, ?_⟩⟩
          rw [st_n (k := .i64) (n := ((v / 128 : Nat) : Int)) (by simp -implicitDefEqProofs only [go_sem]), st_n h0]; omega
      · have hlt' : ¬ (128 : Int) ≤ v := by omega
        have hb := byte_ (v := v) (by omega)
        have e' : l ++ varL v = l ++ [UInt8.ofNat v] := by rw [varL, if_pos (by omega)]
        have hvl : varL n = l ++ [UInt8.ofNat v] := by rw [← hl, e']
        rcases hg with ⟨rfl, h3⟩ | ⟨η, h3, ho⟩
        · simp -implicitDefEqProofs only [go_sem, h0, h3, List.length_nil, hlt', maxLen]
          intro η2 η3
          refine cvK_text (bs := varL n) rfl rfl (by rw [hvl]; simp -implicitDefEqProofs only [go_sem, hb, List.map_append]) ?_
          simp -implicitDefEqProofs only [go_sem]
        · simp -implicitDefEqProofs only [go_sem, h0, h3, ho, hlt']
          intro η2
          refine ⟨by simp [maxLen]; try omega, by simp; try omega, fun η3 => cvK_text (bs := varL n) rfl rfl (by rw [hvl]; simp -implicitDefEqProofs only [go_sem, hb, List.map_append]) ?_⟩
          simp -implicitDefEqProofs only [go_sem]
  · simp -implicitDefEqProofs only [go_sem, h]
    simp [varS, h]
def xorI (a b : Int) : Int := IntKind.i64.wrap ((BitVec.ofInt 64 a ^^^ BitVec.ofInt 64 b).toNat)
theorem xor_f (a b : Int) : IntKind.i64.wrap ((BitVec.ofInt 64 a ^^^ BitVec.ofInt 64 b).toNat) = xorI a b := rfl
def sumBit (c : Int) : Int := if (c.tmod 2 == 1) = true then xorI (IntKind.i64.wrap (c.tdiv 2)) 3988292384 else IntKind.i64.wrap (c.tdiv 2)
def iterB : Nat → Int → Int
  | 0, c => c
  | n + 1, c => sumBit (iterB n c)
def sumB (c : Int) (b : UInt8) : Int := iterB 8 (xorI c (IntKind.i64.wrap b.toNat))
def sumS (b : ByteArray) : Int := xorI (b.data.toList.foldl sumB 4294967295) 4294967295
theorem foldl_take {α β : Type} (f : β → α → β) (c : β) {l : List α} {k : Nat} {x : α} (h : l[k]? = some x) : (l.take (k + 1)).foldl f c = f ((l.take k).foldl f c) x := by
  rw [List.take_add_one, h]; simp
theorem w_SumOf {P : Program} (b : ByteArray) (hb : b.size < 9223372036854775807) : wpC P 0 c_spec_SumOf (retE [.t 2] (.c (.val (.int .i64 (sumS b))))) (St.init [.c (.val (.string b))]) := by
  unfold c_spec_SumOf
  simp -implicitDefEqProofs only [go_sem]
  refine wp_loop_ (fun s => ∃ k : Nat, k ≤ b.size ∧ s.t 0 = .c (.v (.string b)) ∧ s.t 4 = .c (.v (.int .i64 k)) ∧ s.t 3 = .c (.v (.int .i64 ((b.data.toList.take k).foldl sumB 4294967295)))) (fun s => b.size - s.n 4) ?_ ?_
  · exact ⟨0, Nat.zero_le _, by simp -implicitDefEqProofs only [go_sem], by simp -implicitDefEqProofs only [go_sem] <;> rfl, by simp -implicitDefEqProofs only [go_sem] <;> rfl⟩
  · rintro s ⟨k, hk, h0, h4, h3⟩
    by_cases hlt : k < b.size
    · have hlt' : (k : Int) < b.size := by omega
      obtain ⟨u, hu⟩ : ∃ u, b[k]? = some u := ⟨b[k], by simp [hlt]⟩
      have hu' : b.data.toList[k]? = some u := by
        rw [← hu, getElem?_pos b k hlt]
        simp only [Array.getElem?_toList]
        exact getElem?_pos b.data k hlt
      have hw4 : IntKind.i64.wrap ((k : Int) + 1) = ((k + 1 : Nat) : Int) := wrap64 (by omega) (by omega)
      simp -implicitDefEqProofs only [go_sem, h0, h3, h4, hlt', xor_f]
      refine ⟨u, hu, ?_⟩
      refine wp_loop_ (fun s => ∃ j : Nat, j ≤ 8 ∧ s.t 0 = .c (.v (.string b)) ∧ s.t 4 = .c (.v (.int .i64 k)) ∧ s.t 5 = .c (.v (.int .i64 j)) ∧ s.t 3 = .c (.v (.int .i64 (iterB j (xorI ((b.data.toList.take k).foldl sumB 4294967295) (IntKind.i64.wrap u.toNat)))))) (fun s => 8 - s.n 5) ?_ ?_
      · exact ⟨0, Nat.zero_le _, by simp -implicitDefEqProofs only [go_sem, h0], by simp -implicitDefEqProofs only [go_sem, h4], by simp -implicitDefEqProofs only [go_sem] <;> rfl, by simp -implicitDefEqProofs only [go_sem] <;> rfl⟩
      · rintro s' ⟨j, hj, h0', h4', h5', h3'⟩
        by_cases hj' : j < 8
        · have hj2 : (j : Int) < 8 := by omega
          have hw : IntKind.i64.wrap ((j : Int) + 1) = ((j + 1 : Nat) : Int) := wrap64 (by omega) (by omega)
          cases hodd : (iterB j (xorI ((b.data.toList.take k).foldl sumB 4294967295) (IntKind.i64.wrap u.toNat))).tmod 2 == 1 with
          | true =>
            simp -implicitDefEqProofs only [go_sem, h0', h4', h5', h3', hj2, hodd, hw, xor_f]
            exact ⟨⟨j + 1, by omega, rfl, by simp only [iterB, sumBit, hodd, ↓reduceIte]; rfl⟩, by rw [st_n (k := .i64) (n := ((j + 1 : Nat) : Int)) (by simp -implicitDefEqProofs only [go_sem]), st_n h5']; omega⟩
          | false =>
            simp -implicitDefEqProofs only [go_sem, h0', h4', h5', h3', hj2, hodd, hw, xor_f]
            exact ⟨⟨j + 1, by omega, rfl, by simp only [iterB, sumBit, hodd, Bool.false_eq_true, ↓reduceIte]⟩, by rw [st_n (k := .i64) (n := ((j + 1 : Nat) : Int)) (by simp -implicitDefEqProofs only [go_sem]), st_n h5']; omega⟩
        · have hj2 : ¬ (j : Int) < 8 := by omega
          have hj8 : j = 8 := by omega
          subst hj8
          simp -implicitDefEqProofs only [go_sem, h0', h4', h5', h3', hj2, hw4]
          exact ⟨⟨k + 1, by omega, rfl, by rw [foldl_take _ _ hu']; rfl⟩, by rw [st_n (k := .i64) (n := ((k + 1 : Nat) : Int)) (by simp -implicitDefEqProofs only [go_sem]), st_n h4]; omega⟩
    · have hlt' : ¬ (k : Int) < b.size := by omega
      have hkk : b.data.toList.take k = b.data.toList := List.take_of_length_le (by simp only [Array.length_toList]; exact Nat.le_of_not_lt hlt)
      simp -implicitDefEqProofs only [go_sem, h0, h3, h4, hlt', xor_f, hkk]
      rfl
theorem p_spec_SumOf (b : ByteArray) (hb : b.size < 9223372036854775807) : Pure Tryz.prog 195 [.c (.val (.string b))] (.c (.val (.int .i64 (sumS b)))) :=
  pure_fn Tryz.func195 code_spec_SumOf (by simp) (w_SumOf b hb)
theorem p_impl_SumOf (b : ByteArray) (hb : b.size < 9223372036854775807) : Pure Tryz.prog 199 [.c (.val (.string b))] (.c (.val (.int .i64 (sumS b)))) :=
  pure_fn Tryz.func199 code_impl_SumOf (by simp) (w_SumOf b hb)
def shelfI (n : Int) : Int := if ((varS n).toList == ByteArray.toList ⟨⟨[]⟩⟩) = true then 0 else (sumS (varS n)).tmod 4
theorem varS_small (n : Int) : (varS n).size < 9223372036854775807 := by
  unfold varS
  split
  · have := varL_len n.toNat
    show (varL n.toNat).toArray.size < _
    simp only [List.size_toArray]; omega
  · decide
theorem p_spec_ShelfOf (n : Int) : Pure Tryz.prog 164 [.c (.val (.int .i64 n))] (.c (.val (.int .i64 (shelfI n)))) := by
  refine pure_fn Tryz.func164 code_spec_ShelfOf (by simp) ?_
  unfold c_spec_ShelfOf
  simp -implicitDefEqProofs only [go_sem]
  refine run_call (p_spec_VarText n) (by simp -implicitDefEqProofs only [go_sem]) fun η => ?_
  cases he : (varS n).toList == ByteArray.toList ⟨⟨[]⟩⟩ with
  | true =>
    simp -implicitDefEqProofs only [go_sem, he]
    simp only [shelfI, he, if_true]
  | false =>
    simp -implicitDefEqProofs only [go_sem, he]
    refine run_call (p_spec_SumOf _ (varS_small n)) (by simp -implicitDefEqProofs only [go_sem]) fun η => ?_
    simp -implicitDefEqProofs only [go_sem]
    simp only [shelfI, he, Bool.false_eq_true, if_false]
theorem p_impl_ShelfOf (n : Int) : Pure Tryz.prog 170 [.c (.val (.int .i64 n))] (.c (.val (.int .i64 (shelfI n)))) := by
  refine pure_fn Tryz.func170 code_impl_ShelfOf (by simp) ?_
  unfold c_impl_ShelfOf
  simp -implicitDefEqProofs only [go_sem]
  refine run_call (p_impl_VarText n) (by simp -implicitDefEqProofs only [go_sem]) fun η => ?_
  cases he : (varS n).toList == ByteArray.toList ⟨⟨[]⟩⟩ with
  | true =>
    simp -implicitDefEqProofs only [go_sem, he]
    simp only [shelfI, he, if_true]
  | false =>
    simp -implicitDefEqProofs only [go_sem, he]
    refine run_call (p_impl_SumOf _ (varS_small n)) (by simp -implicitDefEqProofs only [go_sem]) fun η => ?_
    simp -implicitDefEqProofs only [go_sem]
    simp only [shelfI, he, Bool.false_eq_true, if_false]
end Go.Proofs.YtnhdcbhcocgjhaaGreat
