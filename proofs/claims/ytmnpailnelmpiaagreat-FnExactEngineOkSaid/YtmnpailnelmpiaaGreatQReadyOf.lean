/- Texts for laws: ReadyOf. -/
import Derived.Test.YtmnpailnelmpiaaGreatQFresh
import Derived.Test.YtmnpailnelmpiaaGreatQOverP
import Derived.Test.YtmnpailnelmpiaaGreatProg
set_option linter.unusedSimpArgs false
set_option linter.unusedVariables false
set_option maxRecDepth 100000
namespace Go.Proofs.YtmnpailnelmpiaaGreat
open Go.RowKit Go.Sort
def c_spec_l10Entries : C := .seq (.reg [⟨some 1, none, .box 37 4 (.t 0)⟩, ⟨some 2, none, .mov (.c (.slice none 0 0))⟩]) (.seq (.reg [⟨some 5, none, .bsl 111 4 0 [] []⟩, ⟨some 3, none, .mov (.t 5)⟩]) (.seq (.seq (.reg [⟨some 4, none, .mov (.c (.int .i64 0))⟩]) (.blk 0 (.loop (.seq (.seq (.reg [⟨some 6, none, .mov (.t 4)⟩, ⟨some 7, none, .fa 2 (.t 1)⟩, ⟨some 8, none, .ld false 1 (.t 7)⟩, ⟨some 9, none, .len false (.t 8)⟩, ⟨some 10, none, .bin .lss 3 (.t 6) (.t 9)⟩]) (.cond (.t 10) .skip (.exit 0))) (.seq (.blk 1 (.reg [⟨some 13, none, .mov (.t 3)⟩, ⟨some 14, none, .fa 2 (.t 1)⟩, ⟨some 15, none, .ld false 1 (.t 14)⟩, ⟨some 16, none, .mov (.t 4)⟩, ⟨some 17, none, .ia 1 (.t 15) (.t 16)⟩, ⟨some 18, none, .ld false 1 (.t 17)⟩, ⟨some 19, none, .app 111 4 32 (.t 13) (.t 18)⟩, ⟨some 3, none, .mov (.t 19)⟩])) (.reg [⟨some 11, none, .mov (.t 4)⟩, ⟨some 12, none, .bin .add 3 (.t 11) (.c (.int .i64 1))⟩, ⟨some 4, none, .mov (.t 12)⟩])))))) (.seq (.reg [⟨some 20, none, .mov (.t 3)⟩, ⟨some 2, none, .mov (.t 20)⟩]) .ret)))
theorem code_spec_l10Entries : fnC Tryz.prog Tryz.f140 = some (c_spec_l10Entries, [.t 2], 21) := by kernel_rfl
def c_impl_allEntries : C := .seq (.reg [⟨some 1, none, .box 37 4 (.t 0)⟩, ⟨some 2, none, .mov (.c (.slice none 0 0))⟩]) (.seq (.reg [⟨some 3, none, .mov (.c (.slice none 0 0))⟩]) (.seq (.seq (.reg [⟨some 6, none, .fa 2 (.t 1)⟩, ⟨some 7, none, .ld false 1 (.t 6)⟩, ⟨some 8, none, .len false (.t 7)⟩, ⟨some 9, none, .mov (.c (.int .i64 0))⟩]) (.blk 0 (.loop (.seq (.reg [⟨some 10, none, .bin .lss 3 (.t 9) (.t 8)⟩]) (.seq (.cond (.t 10) .skip (.exit 0)) (.seq (.blk 1 (.seq (.reg [⟨some 11, none, .ia 1 (.t 7) (.t 9)⟩, ⟨some 12, none, .ld false 1 (.t 11)⟩, ⟨some 5, none, .mov (.t 12)⟩]) (.reg [⟨some 13, none, .mov (.t 3)⟩, ⟨some 14, none, .mov (.t 5)⟩, ⟨some 15, none, .app 111 4 32 (.t 13) (.t 14)⟩, ⟨some 3, none, .mov (.t 15)⟩]))) (.reg [⟨some 16, none, .bin .add 3 (.t 9) (.c (.int .i64 1))⟩, ⟨some 9, none, .mov (.t 16)⟩]))))))) (.seq (.reg [⟨some 17, none, .mov (.t 3)⟩, ⟨some 2, none, .mov (.t 17)⟩]) .ret)))
theorem code_impl_allEntries : fnC Tryz.prog Tryz.f133 = some (c_impl_allEntries, [.t 2], 18) := by kernel_rfl
theorem ens_app (l m : List En) : D.sl 4 tEn (l.flatMap encEn ++ m.flatMap encEn) = encEns (l ++ m) := by simp [encEns]
theorem p_spec_l10Entries (y : Yd) (ht : totYd y ≤ 2000000) : Pure Tryz.prog 140 [.agg (encYd y)] (.c (encEns y.shelf.flatten)) := by
  refine pure_fn Tryz.func140 code_spec_l10Entries (by simp) ?_
  unfold c_spec_l10Entries
  have hl := shelf_le ht
  have hf := shelf_flat ht
  simp -implicitDefEqProofs only [go_sem, encYd]
  intro b η0
  refine wp_loop_ (fun s => ∃ (k g ty : Nat) (η : Heads), k ≤ y.shelf.length ∧ (g = 500 ∨ g = 1900) ∧ s.t 1 = .c (.bp 100 0 b) ∧ s.o 100 = .box b ty ((encYd y).map fun x => .a x.toRo) ∧ s.t 4 = .c (.v (.int .i64 k)) ∧ s.t 3 = .c (.h g 0 [] (η [])) ∧ s.o g = .loose (encEns (y.shelf.take k).flatten) η) (fun s => y.shelf.length - s.n 4) ?_ ?_
  · exact ⟨0, 500, _, η0, Nat.zero_le _, .inl rfl, by simp -implicitDefEqProofs only [go_sem] <;> rfl, by simp -implicitDefEqProofs only [go_sem] <;> rfl, by simp -implicitDefEqProofs only [go_sem] <;> rfl, by simp -implicitDefEqProofs only [go_sem] <;> rfl, by simp -implicitDefEqProofs only [go_sem] <;> rfl⟩
  · rintro s ⟨k, g, ty, η, hk, hg, h1, ho1, h4, h3, hob⟩
    by_cases hlt : k < y.shelf.length
    · have hlt' : (k : Int) < y.shelf.length := by omega
      obtain ⟨x, hx⟩ := get_some hlt
      have hw : IntKind.i64.wrap ((k : Int) + 1) = ((k + 1 : Nat) : Int) := wrap64 (by omega) (by omega)
      have hn := flat_take hx
      have hle := flat_take_le y.shelf (k + 1)
      rw [hn, List.length_append] at hle
      generalize (y.shelf.take k).flatten = l at *
      have h1' : l.length + x.length ≤ maxLen := by unfold maxLen; omega
      have h2' : (l.length + x.length) * 32 ≤ 140737488355328 := by omega
      rcases hg with rfl | rfl
      all_goals
        simp -implicitDefEqProofs only [go_sem, h1, ho1, h4, h3, hob, encYd, hlt, hlt', elem_encSh hx, h1', h2', hw, ens_app]
        intro η2
        refine ⟨⟨k + 1, 1900, ty, η2, ?_⟩, ?_⟩
        · and_intros <;> first | rfl | omega | exact .inr rfl | (rw [hn]; rfl)
        · rw [st_n (k := .i64) (n := ((k + 1 : Nat) : Int)) (by simp -implicitDefEqProofs only [go_sem]), st_n h4]; omega
    · have hlt' : ¬ (k : Int) < y.shelf.length := by omega
      rw [List.take_of_length_le (by omega)] at hob
      rcases hg with rfl | rfl
      all_goals
        simp -implicitDefEqProofs only [go_sem, h1, ho1, h4, h3, hob, encYd, hlt']
theorem p_impl_allEntries (y : Yd) (ht : totYd y ≤ 2000000) : Pure Tryz.prog 133 [.agg (encYd y)] (.c (encEns y.shelf.flatten)) := by
  refine pure_fn Tryz.func133 code_impl_allEntries (by simp) ?_
  unfold c_impl_allEntries
  have hl := shelf_le ht
  have hf := shelf_flat ht
  simp -implicitDefEqProofs only [go_sem, encYd]
  intro b
  refine wp_loop_ (fun s => ∃ k : Nat, k ≤ y.shelf.length ∧ s.t 7 = .c (.ro (encSh y.shelf)) ∧ s.t 8 = .c (.v (.int .i64 y.shelf.length)) ∧ s.t 9 = .c (.v (.int .i64 k)) ∧ (((y.shelf.take k).flatten = [] ∧ s.t 3 = .c (.v (.slice none 0 0))) ∨ ∃ η : Heads, s.t 3 = .c (.h 1500 0 [] (η [])) ∧ s.o 1500 = .loose (encEns (y.shelf.take k).flatten) η)) (fun s => y.shelf.length - s.n 9) ?_ ?_
  · exact ⟨0, Nat.zero_le _, by simp -implicitDefEqProofs only [go_sem] <;> rfl, by simp -implicitDefEqProofs only [go_sem] <;> rfl, by simp -implicitDefEqProofs only [go_sem] <;> rfl, .inl ⟨rfl, by simp -implicitDefEqProofs only [go_sem]⟩⟩
  · rintro s ⟨k, hk, h7, h8, h9, hg⟩
    by_cases hlt : k < y.shelf.length
    · have hlt' : (k : Int) < y.shelf.length := by omega
      obtain ⟨x, hx⟩ := get_some hlt
      have hw : IntKind.i64.wrap ((k : Int) + 1) = ((k + 1 : Nat) : Int) := wrap64 (by omega) (by omega)
      have hn := flat_take hx
      have hle := flat_take_le y.shelf (k + 1)
      rw [hn, List.length_append] at hle
      generalize (y.shelf.take k).flatten = l at *
      have h1' : l.length + x.length ≤ maxLen := by unfold maxLen; omega
      have h2' : (l.length + x.length) * 32 ≤ 140737488355328 := by omega
      rcases hg with ⟨hnil, h3⟩ | ⟨η, h3, hob⟩
      · have h3' : x.length ≤ maxLen := by unfold maxLen; omega
        have h4' : x.length * 32 ≤ 140737488355328 := by omega
        rw [hnil, List.nil_append] at hn
        simp -implicitDefEqProofs only [go_sem, h7, h8, h9, h3, hlt, hlt', elem_encSh hx, hw, h3', h4', fold_encEns]
        intro η2
        refine ⟨⟨k + 1, by omega, rfl, .inr ⟨η2, rfl, by rw [hn]⟩⟩, ?_⟩
        rw [st_n (k := .i64) (n := ((k + 1 : Nat) : Int)) (by simp -implicitDefEqProofs only [go_sem]), st_n h9]; omega
      · simp -implicitDefEqProofs only [go_sem, h7, h8, h9, h3, hob, hlt, hlt', elem_encSh hx, hw, h1', h2', ens_app]
        intro η2
        refine ⟨⟨k + 1, by omega, rfl, .inr ⟨η2, rfl, by rw [hn]⟩⟩, ?_⟩
        rw [st_n (k := .i64) (n := ((k + 1 : Nat) : Int)) (by simp -implicitDefEqProofs only [go_sem]), st_n h9]; omega
    · have hlt' : ¬ (k : Int) < y.shelf.length := by omega
      have hk' : y.shelf.take k = y.shelf := List.take_of_length_le (by omega)
      rcases hg with ⟨hnil, h3⟩ | ⟨η, h3, hob⟩
      · rw [hk'] at hnil
        simp -implicitDefEqProofs only [go_sem, h7, h8, h9, h3, hlt', hnil]
      · rw [hk'] at hob
        simp -implicitDefEqProofs only [go_sem, h7, h8, h9, h3, hob, hlt']
end Go.Proofs.YtmnpailnelmpiaaGreat
