/- ReadyOf, both. -/
import Derived.Test.YthobdkipjbamfaaProg
import Derived.Test.YthobdkipjbamfaaOverP
import Derived.Test.YthobdkipjbamfaaFresh
set_option linter.unusedSimpArgs false
set_option linter.unusedVariables false
set_option maxRecDepth 100000
namespace Go.Proofs.Ythobdkipjbamfaa
open Go.RowKit Go.Sort
def c_spec_l10Entries : C := .seq (.reg [⟨some 1, none, .box 32 4 (.t 0)⟩, ⟨some 2, none, .mov (.c (.slice none 0 0))⟩]) (.seq (.reg [⟨some 5, none, .bsl 143 4 0 [] []⟩, ⟨some 3, none, .mov (.t 5)⟩]) (.seq (.seq (.reg [⟨some 4, none, .mov (.c (.int .i64 0))⟩]) (.blk 0 (.loop (.seq (.seq (.reg [⟨some 6, none, .mov (.t 4)⟩, ⟨some 7, none, .fa 2 (.t 1)⟩, ⟨some 8, none, .ld false 1 (.t 7)⟩, ⟨some 9, none, .len false (.t 8)⟩, ⟨some 10, none, .bin .lss 3 (.t 6) (.t 9)⟩]) (.cond (.t 10) .skip (.exit 0))) (.seq (.blk 1 (.reg [⟨some 13, none, .mov (.t 3)⟩, ⟨some 14, none, .fa 2 (.t 1)⟩, ⟨some 15, none, .ld false 1 (.t 14)⟩, ⟨some 16, none, .mov (.t 4)⟩, ⟨some 17, none, .ia 1 (.t 15) (.t 16)⟩, ⟨some 18, none, .ld false 1 (.t 17)⟩, ⟨some 19, none, .app 143 4 32 (.t 13) (.t 18)⟩, ⟨some 3, none, .mov (.t 19)⟩])) (.reg [⟨some 11, none, .mov (.t 4)⟩, ⟨some 12, none, .bin .add 3 (.t 11) (.c (.int .i64 1))⟩, ⟨some 4, none, .mov (.t 12)⟩])))))) (.seq (.reg [⟨some 20, none, .mov (.t 3)⟩, ⟨some 2, none, .mov (.t 20)⟩]) .ret)))
theorem code_spec_l10Entries : fnC Try.prog Try.f93 = some (c_spec_l10Entries, [.t 2], 21) := by kernel_rfl
def c_impl_allEntries : C := .seq (.reg [⟨some 1, none, .box 32 4 (.t 0)⟩, ⟨some 2, none, .mov (.c (.slice none 0 0))⟩]) (.seq (.reg [⟨some 3, none, .mov (.c (.slice none 0 0))⟩]) (.seq (.seq (.reg [⟨some 6, none, .fa 2 (.t 1)⟩, ⟨some 7, none, .ld false 1 (.t 6)⟩, ⟨some 8, none, .len false (.t 7)⟩, ⟨some 9, none, .mov (.c (.int .i64 0))⟩]) (.blk 0 (.loop (.seq (.reg [⟨some 10, none, .bin .lss 3 (.t 9) (.t 8)⟩]) (.seq (.cond (.t 10) .skip (.exit 0)) (.seq (.blk 1 (.seq (.reg [⟨some 11, none, .ia 1 (.t 7) (.t 9)⟩, ⟨some 12, none, .ld false 1 (.t 11)⟩, ⟨some 5, none, .mov (.t 12)⟩]) (.reg [⟨some 13, none, .mov (.t 3)⟩, ⟨some 14, none, .mov (.t 5)⟩, ⟨some 15, none, .app 143 4 32 (.t 13) (.t 14)⟩, ⟨some 3, none, .mov (.t 15)⟩]))) (.reg [⟨some 16, none, .bin .add 3 (.t 9) (.c (.int .i64 1))⟩, ⟨some 9, none, .mov (.t 16)⟩]))))))) (.seq (.reg [⟨some 17, none, .mov (.t 3)⟩, ⟨some 2, none, .mov (.t 17)⟩]) .ret)))
theorem code_impl_allEntries : fnC Try.prog Try.f95 = some (c_impl_allEntries, [.t 2], 18) := by kernel_rfl
def c_spec_ReadyOf : C := .seq (.reg [⟨some 1, none, .box 32 4 (.t 0)⟩, ⟨some 2, none, .mov (.c (.slice none 0 0))⟩]) (.seq (.reg [⟨some 6, none, .bsl 143 4 0 [] []⟩, ⟨some 3, none, .mov (.t 6)⟩]) (.seq (.reg [⟨some 7, none, .ld true 4 (.t 1)⟩, ⟨some 8, none, .call 93 [.t 7]⟩, ⟨some 4, none, .mov (.t 8)⟩]) (.seq (.seq (.reg [⟨some 5, none, .mov (.c (.int .i64 0))⟩]) (.blk 0 (.loop (.seq (.seq (.reg [⟨some 9, none, .mov (.t 5)⟩, ⟨some 10, none, .mov (.t 4)⟩, ⟨some 11, none, .len false (.t 10)⟩, ⟨some 12, none, .bin .lss 3 (.t 9) (.t 11)⟩]) (.cond (.t 12) .skip (.exit 0))) (.seq (.blk 1 (.seq (.dreg (T.pure 0 ⟨some 15, none, .ld true 4 (.t 1)⟩ (T.pure 1 ⟨some 16, none, .mov (.t 4)⟩ (T.pure 2 ⟨some 17, none, .mov (.t 5)⟩ (T.pure 3 ⟨some 18, none, .ia 4 (.t 16) (.t 17)⟩ (T.pure 4 ⟨some 19, none, .ld true 4 (.t 18)⟩ (T.alt ⟨some 20, none, .call 94 [.t 15, .t 19]⟩ [] T.done T.stop))))))) (.cond (.t 20) (.reg [⟨some 21, none, .mov (.t 3)⟩, ⟨some 22, none, .mov (.t 4)⟩, ⟨some 23, none, .mov (.t 5)⟩, ⟨some 24, none, .ia 4 (.t 22) (.t 23)⟩, ⟨some 25, none, .ld true 4 (.t 24)⟩, ⟨some 26, none, .bsl 143 4 1 [none, none, none, none] [(0, 4, .t 25)]⟩, ⟨some 27, none, .app 143 4 32 (.t 21) (.t 26)⟩, ⟨some 3, none, .mov (.t 27)⟩]) .skip))) (.reg [⟨some 13, none, .mov (.t 5)⟩, ⟨some 14, none, .bin .add 3 (.t 13) (.c (.int .i64 1))⟩, ⟨some 5, none, .mov (.t 14)⟩])))))) (.seq (.reg [⟨some 28, none, .mov (.t 3)⟩, ⟨some 2, none, .mov (.t 28)⟩]) .ret))))
theorem code_spec_ReadyOf : fnC Try.prog Try.f39 = some (c_spec_ReadyOf, [.t 2], 29) := by kernel_rfl
def c_impl_ReadyOf : C := .seq (.reg [⟨some 1, none, .box 32 4 (.t 0)⟩, ⟨some 2, none, .mov (.c (.slice none 0 0))⟩]) (.seq (.reg [⟨some 3, none, .mov (.c (.slice none 0 0))⟩]) (.seq (.seq (.reg [⟨some 6, none, .ld true 4 (.t 1)⟩, ⟨some 7, none, .call 95 [.t 6]⟩, ⟨some 8, none, .len false (.t 7)⟩, ⟨some 9, none, .mov (.c (.int .i64 0))⟩]) (.blk 0 (.loop (.seq (.reg [⟨some 10, none, .bin .lss 3 (.t 9) (.t 8)⟩]) (.seq (.cond (.t 10) .skip (.exit 0)) (.seq (.blk 1 (.seq (.reg [⟨some 11, none, .ia 4 (.t 7) (.t 9)⟩, ⟨some 12, none, .ld true 4 (.t 11)⟩, ⟨some 5, none, .alloc 143 [.int .i64 0, .int .i64 0, .int .i64 0, .int .i64 0]⟩, ⟨none, none, .st 4 [none, none, none, none] (.t 5) (.t 12)⟩]) (.seq (.reg [⟨some 13, none, .ld true 4 (.t 1)⟩, ⟨some 14, none, .ld true 4 (.t 5)⟩, ⟨some 15, none, .call 96 [.t 13, .t 14]⟩]) (.cond (.t 15) (.reg [⟨some 16, none, .mov (.t 3)⟩, ⟨some 17, none, .ld true 4 (.t 5)⟩, ⟨some 18, none, .bsl 143 4 1 [none, none, none, none] [(0, 4, .t 17)]⟩, ⟨some 19, none, .app 143 4 32 (.t 16) (.t 18)⟩, ⟨some 3, none, .mov (.t 19)⟩]) .skip)))) (.reg [⟨some 20, none, .bin .add 3 (.t 9) (.c (.int .i64 1))⟩, ⟨some 9, none, .mov (.t 20)⟩]))))))) (.seq (.reg [⟨some 21, none, .mov (.t 3)⟩, ⟨some 2, none, .mov (.t 21)⟩]) .ret)))
theorem code_impl_ReadyOf : fnC Try.prog Try.f40 = some (c_impl_ReadyOf, [.t 2], 22) := by kernel_rfl
theorem p_impl_Fresh (y : Yd) (e : En) : Pure Try.prog 96 [.agg (encYd y), .agg (encEn e)] (.c (.val (.bool (fresh y e)))) := pure2 ⟨_, Try.func96, by kernel_rfl, by kernel_rfl⟩ fun w a b ⟨S, ha⟩ ⟨S2, hb⟩ => iFresh_c y e a b S S2 w false false ha hb
theorem p_spec_Fresh (y : Yd) (e : En) : Pure Try.prog 94 [.agg (encYd y), .agg (encEn e)] (.c (.val (.bool (fresh y e)))) := pure2 ⟨_, Try.func94, by kernel_rfl, by kernel_rfl⟩ fun w a b ⟨S, ha⟩ ⟨S2, hb⟩ => sFresh_c y e a b S S2 w false false ha hb
theorem ens_app (l m : List En) : D.sl 4 tEn (l.flatMap encEn ++ m.flatMap encEn) = encEns (l ++ m) := by simp [encEns]
theorem ens_snoc (l : List En) (x : En) : D.sl 4 tEn (l.flatMap encEn ++ encEn x) = encEns (l ++ [x]) := by simp [encEns]
theorem p_spec_l10Entries (y : Yd) (ht : totYd y ≤ 2000000) : Pure Try.prog 93 [.agg (encYd y)] (.c (encEns y.shelf.flatten)) := by
  refine pure_fn Try.func93 code_spec_l10Entries (by simp) ?_
  unfold c_spec_l10Entries
  have hl := shelf_le ht
  have hf := shelf_flat ht
  simp only [go_sem, encYd]
  intro b η0
  refine wp_loop_ (fun s => ∃ (k g ty : Nat) (η : Heads), k ≤ y.shelf.length ∧ (g = 500 ∨ g = 1900) ∧ s.t 1 = .c (.bp 100 0 b) ∧ s.o 100 = .box b ty ((encYd y).map fun x => .a x.toRo) ∧ s.t 4 = .c (.v (.int .i64 k)) ∧ s.t 3 = .c (.h g 0 [] (η [])) ∧ s.o g = .loose (encEns (y.shelf.take k).flatten) η) (fun s => y.shelf.length - s.n 4) ?_ ?_
  · exact ⟨0, 500, _, η0, Nat.zero_le _, .inl rfl, by simp only [go_sem] <;> rfl, by simp only [go_sem] <;> rfl, by simp only [go_sem] <;> rfl, by simp only [go_sem] <;> rfl, by simp only [go_sem] <;> rfl⟩
  · rintro s ⟨k, g, ty, η, hk, hg, h1, ho1, h4, h3, hob⟩
    by_cases hlt : k < y.shelf.length
    · have hlt' : (k : Int) < y.shelf.length := by omega
      obtain ⟨x, hx⟩ := get_some hlt
      have hw : IntKind.i64.wrap ((k : Int) + 1) = ((k + 1 : Nat) : Int) := wrap64 (by omega) (by omega)
      have hn := flat_take hx
      have hle := flat_take_le y.shelf (k + 1)
      rw [hn, List.length_append] at hle
      generalize (y.shelf.take k).flatten = l at *
      have h1' : l.length + x.length ≤ maxLen := by unfold maxLen; omega
      have h2' : (l.length + x.length) * 32 ≤ 140737488355328 := by omega
      rcases hg with rfl | rfl
      all_goals
        simp only [go_sem, h1, ho1, h4, h3, hob, encYd, hlt, hlt', elem_encSh hx, h1', h2', hw, ens_app]
        intro η2
        refine ⟨⟨k + 1, 1900, ty, η2, ?_⟩, ?_⟩
        · and_intros <;> first | rfl | omega | exact .inr rfl | (rw [hn]; rfl)
        · rw [st_n (k := .i64) (n := ((k + 1 : Nat) : Int)) (by simp only [go_sem]), st_n h4]; omega
    · have hlt' : ¬ (k : Int) < y.shelf.length := by omega
      rw [List.take_of_length_le (by omega)] at hob
      rcases hg with rfl | rfl
      all_goals
        simp only [go_sem, h1, ho1, h4, h3, hob, encYd, hlt']
theorem p_impl_allEntries (y : Yd) (ht : totYd y ≤ 2000000) : Pure Try.prog 95 [.agg (encYd y)] (.c (encEns y.shelf.flatten)) := by
  refine pure_fn Try.func95 code_impl_allEntries (by simp) ?_
  unfold c_impl_allEntries
  have hl := shelf_le ht
  have hf := shelf_flat ht
  simp only [go_sem, encYd]
  intro b
  refine wp_loop_ (fun s => ∃ k : Nat, k ≤ y.shelf.length ∧ s.t 7 = .c (.ro (encSh y.shelf)) ∧ s.t 8 = .c (.v (.int .i64 y.shelf.length)) ∧ s.t 9 = .c (.v (.int .i64 k)) ∧ (((y.shelf.take k).flatten = [] ∧ s.t 3 = .c (.v (.slice none 0 0))) ∨ ∃ η : Heads, s.t 3 = .c (.h 1500 0 [] (η [])) ∧ s.o 1500 = .loose (encEns (y.shelf.take k).flatten) η)) (fun s => y.shelf.length - s.n 9) ?_ ?_
  · exact ⟨0, Nat.zero_le _, by simp only [go_sem] <;> rfl, by simp only [go_sem] <;> rfl, by simp only [go_sem] <;> rfl, .inl ⟨rfl, by simp only [go_sem]⟩⟩
  · rintro s ⟨k, hk, h7, h8, h9, hg⟩
    by_cases hlt : k < y.shelf.length
    · have hlt' : (k : Int) < y.shelf.length := by omega
      obtain ⟨x, hx⟩ := get_some hlt
      have hw : IntKind.i64.wrap ((k : Int) + 1) = ((k + 1 : Nat) : Int) := wrap64 (by omega) (by omega)
      have hn := flat_take hx
      have hle := flat_take_le y.shelf (k + 1)
      rw [hn, List.length_append] at hle
      generalize (y.shelf.take k).flatten = l at *
      have h1' : l.length + x.length ≤ maxLen := by unfold maxLen; omega
      have h2' : (l.length + x.length) * 32 ≤ 140737488355328 := by omega
      rcases hg with ⟨hnil, h3⟩ | ⟨η, h3, hob⟩
      · have h3' : x.length ≤ maxLen := by unfold maxLen; omega
        have h4' : x.length * 32 ≤ 140737488355328 := by omega
        rw [hnil, List.nil_append] at hn
        simp only [go_sem, h7, h8, h9, h3, hlt, hlt', elem_encSh hx, hw, h3', h4', fold_encEns]
        intro η2
        refine ⟨⟨k + 1, by omega, rfl, .inr ⟨η2, rfl, by rw [hn]⟩⟩, ?_⟩
        rw [st_n (k := .i64) (n := ((k + 1 : Nat) : Int)) (by simp only [go_sem]), st_n h9]; omega
      · simp only [go_sem, h7, h8, h9, h3, hob, hlt, hlt', elem_encSh hx, hw, h1', h2', ens_app]
        intro η2
        refine ⟨⟨k + 1, by omega, rfl, .inr ⟨η2, rfl, by rw [hn]⟩⟩, ?_⟩
        rw [st_n (k := .i64) (n := ((k + 1 : Nat) : Int)) (by simp only [go_sem]), st_n h9]; omega
    · have hlt' : ¬ (k : Int) < y.shelf.length := by omega
      have hk' : y.shelf.take k = y.shelf := List.take_of_length_le (by omega)
      rcases hg with ⟨hnil, h3⟩ | ⟨η, h3, hob⟩
      · rw [hk'] at hnil
        simp only [go_sem, h7, h8, h9, h3, hlt', hnil]
      · rw [hk'] at hob
        simp only [go_sem, h7, h8, h9, h3, hob, hlt']
theorem p_spec_ReadyOf (y : Yd) (ht : totYd y ≤ 2000000) : Pure Try.prog 39 [.agg (encYd y)] (.c (encEns (readyL y))) := by
  refine pure_fn Try.func39 code_spec_ReadyOf (by simp) ?_
  unfold c_spec_ReadyOf
  have hf := shelf_flat ht
  simp only [go_sem, encYd]
  intro b η0
  refine run_call (p_spec_l10Entries y ht) (by simp only [go_sem, encYd]) fun η1 => ?_
  unfold readyL
  generalize y.shelf.flatten = L at *
  simp only [go_sem]
  refine wp_loop_ (fun s => ∃ (k g ty : Nat) (η ηL : Heads), k ≤ L.length ∧ (g = 600 ∨ g = 2700) ∧ s.t 1 = .c (.bp 100 0 b) ∧ s.o 100 = .box b ty ((encYd y).map fun x => .a x.toRo) ∧ s.t 4 = .c (.h 800 0 [] (ηL [])) ∧ s.o 800 = .loose (encEns L) ηL ∧ s.t 5 = .c (.v (.int .i64 k)) ∧ s.t 3 = .c (.h g 0 [] (η [])) ∧ s.o g = .loose (encEns ((L.take k).filter (fresh y))) η) (fun s => L.length - s.n 5) ?_ ?_
  · exact ⟨0, 600, _, η0, η1 0, Nat.zero_le _, .inl rfl, by simp only [go_sem] <;> rfl, by simp only [go_sem] <;> rfl, by simp only [go_sem] <;> rfl, by simp only [go_sem] <;> rfl, by simp only [go_sem] <;> rfl, by simp only [go_sem] <;> rfl, by simp only [go_sem] <;> rfl⟩
  · rintro s ⟨k, g, ty, η, ηL, hk, hg, h1, ho1, h4, ho8, h5, h3, hob⟩
    by_cases hlt : k < L.length
    · have hlt' : (k : Int) < L.length := by omega
      obtain ⟨x, hx⟩ := get_some hlt
      have hw : IntKind.i64.wrap ((k : Int) + 1) = ((k + 1 : Nat) : Int) := wrap64 (by omega) (by omega)
      have hn := filter_take (f := fresh y) hx
      have hle : ((L.take k).filter (fresh y)).length ≤ k := by
        have := List.length_filter_le (fresh y) (L.take k)
        rw [List.length_take] at this; omega
      generalize (L.take k).filter (fresh y) = l at *
      have h1' : l.length + 1 ≤ maxLen := by unfold maxLen; omega
      have h2' : (l.length + 1) * 32 ≤ 140737488355328 := by omega
      have hsn := ens_snoc l x
      simp only [encEn] at hsn
      simp only [go_sem, h1, ho1, h4, ho8, h5, h3, encYd, hlt, hlt', at_encEns hx, in_encEns hlt, encEn]
      refine run_call (p_spec_Fresh y x) (by simp only [go_sem, encYd, encEn]) fun η2 => ?_
      cases hfr : fresh y x
      · rw [hfr, if_neg (by simp)] at hn
        simp only [go_sem, h1, ho1, h4, ho8, h5, h3, hlt, hlt', hw]
        refine ⟨⟨k + 1, g, ty, η, ηL, ?_⟩, ?_⟩
        · and_intros <;> first | rfl | assumption | omega | (rw [hn]; assumption)
        · rw [st_n (k := .i64) (n := ((k + 1 : Nat) : Int)) (by simp only [go_sem]), st_n h5]; omega
      · rw [hfr, if_pos rfl] at hn
        rcases hg with rfl | rfl
        all_goals
          simp only [go_sem, h1, ho1, h4, ho8, h5, h3, hob, hlt, hlt', at_encEns hx, in_encEns hlt, encEn, hw, h1', h2', hsn]
          intro η3 η4
          refine ⟨⟨k + 1, 2700, ty, η4, ηL, ?_⟩, ?_⟩
          · and_intros <;> first | rfl | assumption | omega | exact .inr rfl | (rw [hn]; rfl)
          · rw [st_n (k := .i64) (n := ((k + 1 : Nat) : Int)) (by simp only [go_sem]), st_n h5]; omega
    · have hlt' : ¬ (k : Int) < L.length := by omega
      rw [List.take_of_length_le (by omega)] at hob
      rcases hg with rfl | rfl
      all_goals
        simp only [go_sem, h1, ho1, h4, ho8, h5, h3, hob, hlt']
theorem p_impl_ReadyOf (y : Yd) (ht : totYd y ≤ 2000000) : Pure Try.prog 40 [.agg (encYd y)] (.c (encEns (readyL y))) := by
  refine pure_fn Try.func40 code_impl_ReadyOf (by simp) ?_
  unfold c_impl_ReadyOf
  have hf := shelf_flat ht
  simp only [go_sem, encYd]
  intro b
  refine run_call (p_impl_allEntries y ht) (by simp only [go_sem, encYd]) fun η1 => ?_
  unfold readyL
  generalize y.shelf.flatten = L at *
  simp only [go_sem]
  refine wp_loop_ (fun s => ∃ (k ty : Nat) (ηL : Heads), k ≤ L.length ∧ s.t 1 = .c (.bp 100 0 b) ∧ s.o 100 = .box b ty ((encYd y).map fun x => .a x.toRo) ∧ s.t 7 = .c (.h 700 0 [] (ηL [])) ∧ s.o 700 = .loose (encEns L) ηL ∧ s.t 8 = .c (.v (.int .i64 L.length)) ∧ s.t 9 = .c (.v (.int .i64 k)) ∧ (((L.take k).filter (fresh y) = [] ∧ s.t 3 = .c (.v (.slice none 0 0))) ∨ ∃ η : Heads, s.t 3 = .c (.h 1900 0 [] (η [])) ∧ s.o 1900 = .loose (encEns ((L.take k).filter (fresh y))) η)) (fun s => L.length - s.n 9) ?_ ?_
  · exact ⟨0, _, η1 0, Nat.zero_le _, by simp only [go_sem] <;> rfl, by simp only [go_sem] <;> rfl, by simp only [go_sem] <;> rfl, by simp only [go_sem] <;> rfl, by simp only [go_sem] <;> rfl, by simp only [go_sem] <;> rfl, .inl ⟨rfl, by simp only [go_sem]⟩⟩
  · rintro s ⟨k, ty, ηL, hk, h1, ho1, h7, ho7, h8, h9, hg⟩
    by_cases hlt : k < L.length
    · have hlt' : (k : Int) < L.length := by omega
      obtain ⟨x, hx⟩ := get_some hlt
      have hw : IntKind.i64.wrap ((k : Int) + 1) = ((k + 1 : Nat) : Int) := wrap64 (by omega) (by omega)
      have hn := filter_take (f := fresh y) hx
      have hle : ((L.take k).filter (fresh y)).length ≤ k := by
        have := List.length_filter_le (fresh y) (L.take k)
        rw [List.length_take] at this; omega
      generalize (L.take k).filter (fresh y) = l at *
      have h1' : l.length + 1 ≤ maxLen := by unfold maxLen; omega
      have h2' : (l.length + 1) * 32 ≤ 140737488355328 := by omega
      have hmax : 1 ≤ maxLen := by unfold maxLen; omega
      have hsn := ens_snoc l x
      have hone : D.sl 4 tEn (encEn x) = encEns [x] := by simp [encEns]
      simp only [encEn] at hsn hone
      rcases hg with ⟨hnil, h3⟩ | ⟨η, h3, hob⟩
      · simp only [go_sem, h1, ho1, h7, ho7, h8, h9, h3, encYd, hlt, hlt', at_encEns hx, in_encEns hlt, encEn]
        intro b1
        refine run_call (p_impl_Fresh y x) (by simp only [go_sem, encYd, encEn]) fun η2 => ?_
        cases hfr : fresh y x
        · rw [hfr, if_neg (by simp)] at hn
          simp only [go_sem, h1, ho1, h7, ho7, h8, h9, h3, hlt, hlt', hw]
          refine ⟨⟨k + 1, ty, ηL, by omega, rfl, rfl, rfl, rfl, .inl (by rw [hn, hnil])⟩, ?_⟩
          rw [st_n (k := .i64) (n := ((k + 1 : Nat) : Int)) (by simp only [go_sem]), st_n h9]; omega
        · rw [hfr, if_pos rfl, hnil, List.nil_append] at hn
          simp only [go_sem, h1, ho1, h7, ho7, h8, h9, h3, hlt, hlt', encEn, hw, hmax, hone]
          intro η3 η4
          refine ⟨⟨k + 1, ty, ηL, by omega, rfl, rfl, rfl, rfl, .inr ⟨η4, rfl, by rw [hn]⟩⟩, ?_⟩
          rw [st_n (k := .i64) (n := ((k + 1 : Nat) : Int)) (by simp only [go_sem]), st_n h9]; omega
      · simp only [go_sem, h1, ho1, h7, ho7, h8, h9, h3, hob, encYd, hlt, hlt', at_encEns hx, in_encEns hlt, encEn]
        intro b1
        refine run_call (p_impl_Fresh y x) (by simp only [go_sem, encYd, encEn]) fun η2 => ?_
        cases hfr : fresh y x
        · rw [hfr, if_neg (by simp)] at hn
          simp only [go_sem, h1, ho1, h7, ho7, h8, h9, h3, hob, hlt, hlt', hw]
          refine ⟨⟨k + 1, ty, ηL, by omega, rfl, rfl, rfl, rfl, .inr ⟨η, rfl, by rw [hn]⟩⟩, ?_⟩
          rw [st_n (k := .i64) (n := ((k + 1 : Nat) : Int)) (by simp only [go_sem]), st_n h9]; omega
        · rw [hfr, if_pos rfl] at hn
          simp only [go_sem, h1, ho1, h7, ho7, h8, h9, h3, hob, hlt, hlt', encEn, hw, h1', h2', hsn]
          intro η3 η4
          refine ⟨⟨k + 1, ty, ηL, by omega, rfl, rfl, rfl, rfl, .inr ⟨η4, rfl, by rw [hn]⟩⟩, ?_⟩
          rw [st_n (k := .i64) (n := ((k + 1 : Nat) : Int)) (by simp only [go_sem]), st_n h9]; omega
    · have hlt' : ¬ (k : Int) < L.length := by omega
      have hk' : L.take k = L := List.take_of_length_le (by omega)
      rcases hg with ⟨hnil, h3⟩ | ⟨η, h3, hob⟩
      · rw [hk'] at hnil
        simp only [go_sem, h1, ho1, h7, ho7, h8, h9, h3, hlt', hnil]
      · rw [hk'] at hob
        simp only [go_sem, h1, ho1, h7, ho7, h8, h9, h3, hob, hlt']
end Go.Proofs.Ythobdkipjbamfaa
