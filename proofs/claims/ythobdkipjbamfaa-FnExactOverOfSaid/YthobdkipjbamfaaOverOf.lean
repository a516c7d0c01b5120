/- OverOf, both. -/
import Derived.Test.YthobdkipjbamfaaProg
import Derived.Test.YthobdkipjbamfaaOverP
set_option linter.unusedSimpArgs false
set_option linter.unusedVariables false
set_option maxRecDepth 100000
namespace Go.Proofs.Ythobdkipjbamfaa
open Go.RowKit Go.Sort
def c_spec_OverOf : C := .seq (.reg [⟨some 1, none, .box 32 4 (.t 0)⟩, ⟨some 2, none, .mov (.c (.slice none 0 0))⟩]) (.seq (.reg [⟨some 5, none, .bsl 3 1 0 [] []⟩, ⟨some 3, none, .mov (.t 5)⟩]) (.seq (.seq (.reg [⟨some 4, none, .mov (.c (.int .i64 0))⟩]) (.blk 0 (.loop (.seq (.seq (.reg [⟨some 6, none, .mov (.t 4)⟩, ⟨some 7, none, .fa 3 (.t 1)⟩, ⟨some 8, none, .ld false 1 (.t 7)⟩, ⟨some 9, none, .len false (.t 8)⟩, ⟨some 10, none, .bin .lss 3 (.t 6) (.t 9)⟩]) (.cond (.t 10) .skip (.exit 0))) (.seq (.blk 1 (.seq (.reg [⟨some 13, none, .fa 3 (.t 1)⟩, ⟨some 14, none, .ld false 1 (.t 13)⟩, ⟨some 15, none, .mov (.t 4)⟩, ⟨some 16, none, .ia 8 (.t 14) (.t 15)⟩, ⟨some 17, none, .fa 6 (.t 16)⟩, ⟨some 18, none, .ld false 1 (.t 17)⟩, ⟨some 19, none, .bin .neq 3 (.t 18) (.c (.int .i64 1))⟩]) (.cond (.t 19) (.reg [⟨some 20, none, .mov (.t 3)⟩, ⟨some 21, none, .fa 3 (.t 1)⟩, ⟨some 22, none, .ld false 1 (.t 21)⟩, ⟨some 23, none, .mov (.t 4)⟩, ⟨some 24, none, .ia 8 (.t 22) (.t 23)⟩, ⟨some 25, none, .fa 0 (.t 24)⟩, ⟨some 26, none, .ld false 1 (.t 25)⟩, ⟨some 27, none, .bsl 3 1 1 [none] [(0, 1, .t 26)]⟩, ⟨some 28, none, .app 3 1 8 (.t 20) (.t 27)⟩, ⟨some 3, none, .mov (.t 28)⟩]) .skip))) (.reg [⟨some 11, none, .mov (.t 4)⟩, ⟨some 12, none, .bin .add 3 (.t 11) (.c (.int .i64 1))⟩, ⟨some 4, none, .mov (.t 12)⟩])))))) (.seq (.reg [⟨some 29, none, .mov (.t 3)⟩, ⟨some 2, none, .mov (.t 29)⟩]) .ret)))
theorem code_spec_OverOf : fnC Try.prog Try.f16 = some (c_spec_OverOf, [.t 2], 30) := by kernel_rfl
def c_impl_OverOf : C := .seq (.reg [⟨some 1, none, .box 32 4 (.t 0)⟩, ⟨some 2, none, .mov (.c (.slice none 0 0))⟩]) (.seq (.reg [⟨some 3, none, .mov (.c (.slice none 0 0))⟩]) (.seq (.seq (.reg [⟨some 6, none, .fa 3 (.t 1)⟩, ⟨some 7, none, .ld false 1 (.t 6)⟩, ⟨some 8, none, .len false (.t 7)⟩, ⟨some 9, none, .mov (.c (.int .i64 0))⟩]) (.blk 0 (.loop (.seq (.reg [⟨some 10, none, .bin .lss 3 (.t 9) (.t 8)⟩]) (.seq (.cond (.t 10) .skip (.exit 0)) (.seq (.blk 1 (.seq (.reg [⟨some 11, none, .ia 8 (.t 7) (.t 9)⟩, ⟨some 12, none, .ld true 8 (.t 11)⟩, ⟨some 5, none, .alloc 100 [.int .i64 0, .int .i64 0, .int .i64 0, .int .i64 0, .int .i64 0, .slice none 0 0, .int .i64 0, .slice none 0 0]⟩, ⟨none, none, .st 8 [none, none, none, none, none, some (2, 187), none, some (4, 140)] (.t 5) (.t 12)⟩]) (.seq (.reg [⟨some 13, none, .fa 6 (.t 5)⟩, ⟨some 14, none, .ld false 1 (.t 13)⟩, ⟨some 15, none, .bin .neq 3 (.t 14) (.c (.int .i64 1))⟩]) (.cond (.t 15) (.reg [⟨some 16, none, .mov (.t 3)⟩, ⟨some 17, none, .fa 0 (.t 5)⟩, ⟨some 18, none, .ld false 1 (.t 17)⟩, ⟨some 19, none, .bsl 3 1 1 [none] [(0, 1, .t 18)]⟩, ⟨some 20, none, .app 3 1 8 (.t 16) (.t 19)⟩, ⟨some 3, none, .mov (.t 20)⟩]) .skip)))) (.reg [⟨some 21, none, .bin .add 3 (.t 9) (.c (.int .i64 1))⟩, ⟨some 9, none, .mov (.t 21)⟩]))))))) (.seq (.reg [⟨some 22, none, .mov (.t 3)⟩, ⟨some 2, none, .mov (.t 22)⟩]) .ret)))
theorem code_impl_OverOf : fnC Try.prog Try.f18 = some (c_impl_OverOf, [.t 2], 23) := by kernel_rfl
theorem ints_snoc1 (l : List Int) (a : Int) : D.sl 1 tInt (l.flatMap (fun n => [iv n]) ++ [iv a]) = encInts (l ++ [a]) := by simp [encInts]
theorem p_spec_OverOf (y : Yd) (ht : totYd y ≤ 2000000) : Pure Try.prog 16 [.agg (encYd y)] (.c (encInts (overL y))) := by
  refine pure_fn Try.func16 code_spec_OverOf (by simp) ?_
  unfold c_spec_OverOf
  have hl := runs_le ht
  simp only [go_sem, encYd]
  intro b η0
  refine wp_loop_ (fun s => ∃ (k g ty : Nat) (η : Heads), k ≤ y.runs.length ∧ (g = 500 ∨ g = 2800) ∧ s.t 1 = .c (.bp 100 0 b) ∧ s.o 100 = .box b ty ((encYd y).map fun x => .a x.toRo) ∧ s.t 4 = .c (.v (.int .i64 k)) ∧ s.t 3 = .c (.h g 0 [] (η [])) ∧ s.o g = .loose (encInts (overR (y.runs.take k))) η) (fun s => y.runs.length - s.n 4) ?_ ?_
  · exact ⟨0, 500, _, η0, Nat.zero_le _, .inl rfl, by simp only [go_sem] <;> rfl, by simp only [go_sem] <;> rfl, by simp only [go_sem] <;> rfl, by simp only [go_sem] <;> rfl, by simp only [go_sem] <;> rfl⟩
  · rintro s ⟨k, g, ty, η, hk, hg, h1, ho1, h4, h3, hob⟩
    by_cases hlt : k < y.runs.length
    · have hlt' : (k : Int) < y.runs.length := by omega
      obtain ⟨x, hx⟩ := get_some hlt
      have hw : IntKind.i64.wrap ((k : Int) + 1) = ((k + 1 : Nat) : Int) := wrap64 (by omega) (by omega)
      have hn := overR_take hx
      have hle : (overR (y.runs.take k)).length ≤ k := by
        have := overR_le (y.runs.take k)
        rw [List.length_take] at this; omega
      generalize overR (y.runs.take k) = l at *
      have h1' : l.length + 1 ≤ maxLen := by unfold maxLen; omega
      have h2' : (l.length + 1) * 8 ≤ 140737488355328 := by omega
      cases hne : x.state != 1
      · rw [hne, if_neg (by simp)] at hn
        simp only [go_sem, h1, ho1, h4, h3, encYd, hlt, hlt', elem_encRns hx, encRn, encPl, hne, hw]
        refine ⟨⟨k + 1, g, ty, η, ?_⟩, ?_⟩
        · and_intros <;> first | rfl | assumption | omega | (rw [hn]; assumption)
        · rw [st_n (k := .i64) (n := ((k + 1 : Nat) : Int)) (by simp only [go_sem]), st_n h4]; omega
      · rw [hne, if_pos rfl] at hn
        rcases hg with rfl | rfl
        all_goals
          simp only [go_sem, h1, ho1, h4, h3, hob, encYd, hlt, hlt', elem_encRns hx, encRn, encPl, hne, h1', h2', hw, ints_snoc1]
          intro η1 η2
          refine ⟨⟨k + 1, 2800, ty, η2, ?_⟩, ?_⟩
          · and_intros <;> first | rfl | omega | exact .inr rfl | (rw [hn]; rfl)
          · rw [st_n (k := .i64) (n := ((k + 1 : Nat) : Int)) (by simp only [go_sem]), st_n h4]; omega
    · have hlt' : ¬ (k : Int) < y.runs.length := by omega
      rw [List.take_of_length_le (by omega)] at hob
      rcases hg with rfl | rfl
      all_goals
        simp only [go_sem, h1, ho1, h4, h3, hob, encYd, hlt']
        rfl
theorem p_impl_OverOf (y : Yd) (ht : totYd y ≤ 2000000) : Pure Try.prog 18 [.agg (encYd y)] (.c (encInts (overL y))) := by
  refine pure_fn Try.func18 code_impl_OverOf (by simp) ?_
  unfold c_impl_OverOf
  have hl := runs_le ht
  simp only [go_sem, encYd]
  intro b
  refine wp_loop_ (fun s => ∃ k : Nat, k ≤ y.runs.length ∧ s.t 7 = .c (.ro (encRns y.runs)) ∧ s.t 8 = .c (.v (.int .i64 y.runs.length)) ∧ s.t 9 = .c (.v (.int .i64 k)) ∧ ((overR (y.runs.take k) = [] ∧ s.t 3 = .c (.v (.slice none 0 0))) ∨ ∃ η : Heads, s.t 3 = .c (.h 2000 0 [] (η [])) ∧ s.o 2000 = .loose (encInts (overR (y.runs.take k))) η)) (fun s => y.runs.length - s.n 9) ?_ ?_
  · exact ⟨0, Nat.zero_le _, by simp only [go_sem] <;> rfl, by simp only [go_sem] <;> rfl, by simp only [go_sem] <;> rfl, .inl ⟨rfl, by simp only [go_sem]⟩⟩
  · rintro s ⟨k, hk, h7, h8, h9, hg⟩
    by_cases hlt : k < y.runs.length
    · have hlt' : (k : Int) < y.runs.length := by omega
      obtain ⟨x, hx⟩ := get_some hlt
      have hw : IntKind.i64.wrap ((k : Int) + 1) = ((k + 1 : Nat) : Int) := wrap64 (by omega) (by omega)
      have hn := overR_take hx
      have hle : (overR (y.runs.take k)).length ≤ k := by
        have := overR_le (y.runs.take k)
        rw [List.length_take] at this; omega
      generalize overR (y.runs.take k) = l at *
      have h1' : l.length + 1 ≤ maxLen := by unfold maxLen; omega
      have h2' : (l.length + 1) * 8 ≤ 140737488355328 := by omega
      have hone : D.sl 1 tInt [iv x.id] = encInts [x.id] := rfl
      have hmax : 1 ≤ maxLen := by unfold maxLen; omega
      cases hne : x.state != 1
      · rw [hne, if_neg (by simp)] at hn
        rcases hg with ⟨hnil, h3⟩ | ⟨η, h3, hob⟩
        · simp only [go_sem, h7, h8, h9, h3, hlt, hlt', elem_encRns hx, encRn, encPl, hne, hw]
          intros
          refine ⟨⟨k + 1, by omega, rfl, .inl (by rw [hn, hnil])⟩, ?_⟩
          rw [st_n (k := .i64) (n := ((k + 1 : Nat) : Int)) (by simp only [go_sem]), st_n h9]; omega
        · simp only [go_sem, h7, h8, h9, h3, hob, hlt, hlt', elem_encRns hx, encRn, encPl, hne, hw]
          intros
          refine ⟨⟨k + 1, by omega, rfl, .inr ⟨η, rfl, by rw [hn]⟩⟩, ?_⟩
          rw [st_n (k := .i64) (n := ((k + 1 : Nat) : Int)) (by simp only [go_sem]), st_n h9]; omega
      · rw [hne, if_pos rfl] at hn
        rcases hg with ⟨hnil, h3⟩ | ⟨η, h3, hob⟩
        · rw [hnil, List.nil_append] at hn
          simp only [go_sem, h7, h8, h9, h3, hlt, hlt', elem_encRns hx, encRn, encPl, hne, hw, hone, hmax]
          intro b1 η1 η2
          refine ⟨⟨k + 1, by omega, rfl, .inr ⟨η2, rfl, by rw [hn]⟩⟩, ?_⟩
          rw [st_n (k := .i64) (n := ((k + 1 : Nat) : Int)) (by simp only [go_sem]), st_n h9]; omega
        · simp only [go_sem, h7, h8, h9, h3, hob, hlt, hlt', elem_encRns hx, encRn, encPl, hne, hw, h1', h2', ints_snoc1]
          intro b1 η1 η2
          refine ⟨⟨k + 1, by omega, rfl, .inr ⟨η2, rfl, by rw [hn]⟩⟩, ?_⟩
          rw [st_n (k := .i64) (n := ((k + 1 : Nat) : Int)) (by simp only [go_sem]), st_n h9]; omega
    · have hlt' : ¬ (k : Int) < y.runs.length := by omega
      have hk' : y.runs.take k = y.runs := List.take_of_length_le (by omega)
      rcases hg with ⟨hnil, h3⟩ | ⟨η, h3, hob⟩
      · rw [hk'] at hnil
        have e : overL y = [] := hnil
        simp only [go_sem, h7, h8, h9, h3, hlt', e]
      · rw [hk'] at hob
        simp only [go_sem, h7, h8, h9, h3, hob, hlt']
        rfl
end Go.Proofs.Ythobdkipjbamfaa
