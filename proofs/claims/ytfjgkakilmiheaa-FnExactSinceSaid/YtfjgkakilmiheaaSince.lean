/- Since, both. -/
import Derived.Test.YtfjgkakilmiheaaCopy
set_option linter.unusedSimpArgs false
set_option linter.unusedVariables false
set_option maxRecDepth 100000
namespace Go.Proofs.Ytfjgkakilmiheaa
open Go.RowKit Go.Sort
def c_spec_Since : C := .seq (.reg [⟨some 4, none, .mov (.c (.slice none 0 0))⟩]) (.seq (.reg [⟨some 7, none, .bsl 49 12 0 [] []⟩, ⟨some 5, none, .mov (.t 7)⟩]) (.seq (.seq (.reg [⟨some 6, none, .mov (.c (.int .i64 0))⟩]) (.blk 0 (.loop (.seq (.seq (.reg [⟨some 8, none, .mov (.t 6)⟩, ⟨some 9, none, .mov (.t 0)⟩, ⟨some 10, none, .len false (.t 9)⟩, ⟨some 11, none, .bin .lss 3 (.t 8) (.t 10)⟩]) (.cond (.t 11) .skip (.exit 0))) (.seq (.blk 1 (.seq (.seq (.reg [⟨some 14, none, .mov (.t 0)⟩, ⟨some 15, none, .mov (.t 6)⟩, ⟨some 16, none, .ia 12 (.t 14) (.t 15)⟩, ⟨some 17, none, .fa 0 (.t 16)⟩, ⟨some 18, none, .ld false 1 (.t 17)⟩, ⟨some 19, none, .mov (.t 1)⟩, ⟨some 20, none, .bin .leq 3 (.t 18) (.t 19)⟩]) (.cond (.t 20) (.exit 1) .skip)) (.seq (.seq (.reg [⟨some 21, none, .mov (.t 0)⟩, ⟨some 22, none, .mov (.t 6)⟩, ⟨some 23, none, .ia 12 (.t 21) (.t 22)⟩, ⟨some 24, none, .fa 0 (.t 23)⟩, ⟨some 25, none, .ld false 1 (.t 24)⟩, ⟨some 26, none, .bin .sub 3 (.t 25) (.c (.int .i64 1))⟩, ⟨some 27, none, .mov (.t 1)⟩, ⟨some 28, none, .bin .neq 3 (.t 26) (.t 27)⟩]) (.cond (.t 28) (.exit 0) .skip)) (.seq (.reg [⟨some 29, none, .mov (.t 0)⟩, ⟨some 30, none, .mov (.t 6)⟩, ⟨some 31, none, .ia 12 (.t 29) (.t 30)⟩, ⟨some 32, none, .fa 0 (.t 31)⟩, ⟨some 33, none, .ld false 1 (.t 32)⟩, ⟨some 1, none, .mov (.t 33)⟩]) (.reg [⟨some 34, none, .mov (.t 5)⟩, ⟨some 35, none, .mov (.t 0)⟩, ⟨some 36, none, .mov (.t 6)⟩, ⟨some 37, none, .ia 12 (.t 35) (.t 36)⟩, ⟨some 38, none, .ld true 12 (.t 37)⟩, ⟨some 39, none, .call 78 [.t 38]⟩, ⟨some 40, none, .bsl 49 12 1 [none, none, none, none, none, none, none, some (2, 100), none, none, none, none] [(0, 12, .t 39)]⟩, ⟨some 41, none, .app 49 12 112 (.t 34) (.t 40)⟩, ⟨some 5, none, .mov (.t 41)⟩]))))) (.reg [⟨some 12, none, .mov (.t 6)⟩, ⟨some 13, none, .bin .add 3 (.t 12) (.c (.int .i64 1))⟩, ⟨some 6, none, .mov (.t 13)⟩])))))) (.seq (.reg [⟨some 42, none, .mov (.t 5)⟩, ⟨some 4, none, .mov (.t 42)⟩]) .ret)))
theorem code_spec_Since : fnC Try.prog Try.f33 = some (c_spec_Since, [.t 4], 43) := by kernel_rfl
def c_impl_Since : C := .seq (.reg [⟨some 4, none, .mov (.c (.slice none 0 0))⟩]) (.seq (.reg [⟨some 5, none, .mov (.c (.slice none 0 0))⟩]) (.seq (.reg [⟨some 9, none, .mov (.t 1)⟩, ⟨some 6, none, .mov (.t 9)⟩]) (.seq (.seq (.reg [⟨some 10, none, .mov (.t 0)⟩, ⟨some 11, none, .len false (.t 10)⟩, ⟨some 12, none, .mov (.c (.int .i64 0))⟩]) (.blk 0 (.loop (.seq (.reg [⟨some 13, none, .bin .lss 3 (.t 12) (.t 11)⟩]) (.seq (.cond (.t 13) .skip (.exit 0)) (.seq (.blk 1 (.seq (.reg [⟨some 14, none, .ia 12 (.t 10) (.t 12)⟩, ⟨some 15, none, .ld true 12 (.t 14)⟩, ⟨some 8, none, .alloc 49 [.int .i64 0, .int .i64 0, .int .i64 0, .int .i64 0, .int .i64 0, .int .i64 0, .int .i64 0, .slice none 0 0, .int .i64 0, .int .i64 0, .int .i64 0, .int .i64 0]⟩, ⟨none, none, .st 12 [none, none, none, none, none, none, none, some (2, 100), none, none, none, none] (.t 8) (.t 15)⟩]) (.seq (.seq (.reg [⟨some 16, none, .fa 0 (.t 8)⟩, ⟨some 17, none, .ld false 1 (.t 16)⟩, ⟨some 18, none, .mov (.t 6)⟩, ⟨some 19, none, .bin .leq 3 (.t 17) (.t 18)⟩]) (.cond (.t 19) (.exit 1) .skip)) (.seq (.seq (.reg [⟨some 20, none, .fa 0 (.t 8)⟩, ⟨some 21, none, .ld false 1 (.t 20)⟩, ⟨some 22, none, .bin .sub 3 (.t 21) (.c (.int .i64 1))⟩, ⟨some 23, none, .mov (.t 6)⟩, ⟨some 24, none, .bin .neq 3 (.t 22) (.t 23)⟩]) (.cond (.t 24) (.exit 0) .skip)) (.seq (.reg [⟨some 25, none, .mov (.t 5)⟩, ⟨some 26, none, .ld true 12 (.t 8)⟩, ⟨some 27, none, .call 79 [.t 26]⟩, ⟨some 28, none, .bsl 49 12 1 [none, none, none, none, none, none, none, some (2, 100), none, none, none, none] [(0, 12, .t 27)]⟩, ⟨some 29, none, .app 49 12 112 (.t 25) (.t 28)⟩, ⟨some 5, none, .mov (.t 29)⟩]) (.reg [⟨some 30, none, .fa 0 (.t 8)⟩, ⟨some 31, none, .ld false 1 (.t 30)⟩, ⟨some 6, none, .mov (.t 31)⟩])))))) (.reg [⟨some 32, none, .bin .add 3 (.t 12) (.c (.int .i64 1))⟩, ⟨some 12, none, .mov (.t 32)⟩]))))))) (.seq (.reg [⟨some 33, none, .mov (.t 5)⟩, ⟨some 4, none, .mov (.t 33)⟩]) .ret))))
theorem code_impl_Since : fnC Try.prog Try.f35 = some (c_impl_Since, [.t 4], 34) := by kernel_rfl
/-- The notes behind a mark, one behind the other. -/
def sinceL : List Nt → Int → List Nt
  | [], _ => []
  | n :: l, last => if n.seq ≤ last then sinceL l last else if (IntKind.i64.wrap (n.seq - 1) != last) = true then [] else n :: sinceL l n.seq
theorem drop_some {α : Type} {l : List α} {k : Nat} {x : α} (h : l[k]? = some x) : l.drop k = x :: l.drop (k + 1) := by
  obtain ⟨hlt, he⟩ := List.getElem?_eq_some_iff.1 h
  rw [List.drop_eq_getElem_cons hlt, he]
theorem drop_none {α : Type} {l : List α} {k : Nat} (h : ¬ k < l.length) : l.drop k = [] := List.drop_eq_nil_of_le (by omega)
theorem nts_snoc (l : List Nt) (x : Nt) : D.sl 12 tNt (l.flatMap encNt ++ encNt x) = encNts (l ++ [x]) := app_encNts l x
theorem nt_edges {l : List Nt} {k : Nat} {x : Nt} (h : l[k]? = some x) (ht : totNts l ≤ 2000000) : x.deed.plan.edges.length ≤ 4000000 := by
  have h1 := tsum_get (tot := totNt) h
  have h2 : totNt x = x.deed.plan.edges.length := rfl
  have h3 : tsum totNt l ≤ totNts l := Nat.le_add_left _ _
  omega
theorem p_spec_Since (l : List Nt) (seq : Int) (ht : totNts l ≤ 2000000) : Pure Try.prog 33 [.c (encNts l), .c (.val (.int .i64 seq))] (.c (encNts (sinceL l seq))) := by
  refine pure_fn Try.func33 code_spec_Since (by simp) ?_
  unfold c_spec_Since
  have hl : l.length ≤ 2000000 := Nat.le_trans (Nat.le_add_right _ _) ht
  simp only [go_sem]
  intro η1
  refine wp_loop_ (fun s => ∃ (k : Nat) (out : List Nt) (last : Int) (g : Nat) (η : Heads), k ≤ l.length ∧ out.length ≤ k ∧ out ++ sinceL (l.drop k) last = sinceL l seq ∧ (g = 700 ∨ g = 4100) ∧ s.t 0 = .c (.ro (encNts l)) ∧ s.t 1 = .c (.v (.int .i64 last)) ∧ s.t 6 = .c (.v (.int .i64 k)) ∧ s.t 5 = .c (.h g 0 [] (η [])) ∧ s.o g = .loose (encNts out) η) (fun s => l.length - s.n 6) ?_ ?_
  · exact ⟨0, [], seq, 700, η1, Nat.zero_le _, Nat.le_refl _, rfl, .inl rfl, by simp only [go_sem], by simp only [go_sem], by simp only [go_sem] <;> rfl, by simp only [go_sem], by simp only [go_sem] <;> rfl⟩
  · rintro s ⟨k, out, last, g, η, hk, ho, he, hg, h0, h1, h6, h5, hob⟩
    by_cases hlt : k < l.length
    · have hlt' : (k : Int) < l.length := by omega
      obtain ⟨x, hx⟩ := get_some hlt
      have hw : IntKind.i64.wrap ((k : Int) + 1) = ((k + 1 : Nat) : Int) := wrap64 (by omega) (by omega)
      rw [drop_some hx, sinceL] at he
      by_cases hle : x.seq ≤ last
      · rw [if_pos hle] at he
        simp only [go_sem, h0, h1, h5, h6, hlt, hlt', elem_encNts hx, encNt, hle, hw]
        refine ⟨⟨k + 1, out, last, g, η, ?_⟩, ?_⟩
        · and_intros <;> first | rfl | assumption | omega | exact .inr rfl | exact .inl rfl | exact .inl ⟨rfl, rfl⟩ | exact .inr ⟨_, rfl, rfl⟩ | (rw [← he]; done) | (rw [← he]; simp; done) | (simp; done) | (simp; omega)
        · rw [st_n (k := .i64) (n := ((k + 1 : Nat) : Int)) (by simp only [go_sem]), st_n h6]; omega
      · rw [if_neg hle] at he
        cases hne : IntKind.i64.wrap (x.seq - 1) != last with
        | true =>
          rw [if_pos hne, List.append_nil] at he
          subst he
          rcases hg with rfl | rfl
          · simp only [go_sem, h0, h1, h5, h6, hob, hlt, hlt', elem_encNts hx, encNt, hle, hne]
          · simp only [go_sem, h0, h1, h5, h6, hob, hlt, hlt', elem_encNts hx, encNt, hle, hne]
        | false =>
          rw [hne, if_neg (by simp)] at he
          have h1' : out.length + 1 ≤ maxLen := by unfold maxLen; omega
          have h2' : (out.length + 1) * 112 ≤ 140737488355328 := by omega
          have hsn := nts_snoc out x
          simp only [encNt, encDd, encPl, List.cons_append, List.nil_append] at hsn
          rcases hg with rfl | rfl
          all_goals
            simp only [go_sem, h0, h1, h5, h6, hob, hlt, hlt', elem_encNts hx, encNt, encDd, encPl, hle, hne]
            refine run_call (p_spec_l19Note x (nt_edges hx ht)) (by simp only [go_sem, encNt, encDd, encPl]) fun η2 => ?_
            simp only [go_sem, h0, h1, h5, h6, hob, hw, encNt, encDd, encPl, h1', h2', hsn]
            intro η3 η4
            refine ⟨⟨k + 1, out ++ [x], x.seq, 4100, η4, ?_⟩, ?_⟩
            · and_intros <;> first | rfl | assumption | omega | exact .inr rfl | exact .inl rfl | exact .inl ⟨rfl, rfl⟩ | exact .inr ⟨_, rfl, rfl⟩ | (rw [← he]; done) | (rw [← he]; simp; done) | (simp; done) | (simp; omega)
            · rw [st_n (k := .i64) (n := ((k + 1 : Nat) : Int)) (by simp only [go_sem]), st_n h6]; omega
    · have hlt' : ¬ (k : Int) < l.length := by omega
      rw [drop_none hlt, sinceL, List.append_nil] at he
      subst he
      rcases hg with rfl | rfl
      · simp only [go_sem, h0, h1, h5, h6, hob, hlt']
      · simp only [go_sem, h0, h1, h5, h6, hob, hlt']
theorem p_impl_Since (l : List Nt) (seq : Int) (ht : totNts l ≤ 2000000) : Pure Try.prog 35 [.c (encNts l), .c (.val (.int .i64 seq))] (.c (encNts (sinceL l seq))) := by
  refine pure_fn Try.func35 code_impl_Since (by simp) ?_
  unfold c_impl_Since
  have hl : l.length ≤ 2000000 := Nat.le_trans (Nat.le_add_right _ _) ht
  simp only [go_sem]
  refine wp_loop_ (fun s => ∃ (k : Nat) (out : List Nt) (last : Int), k ≤ l.length ∧ out.length ≤ k ∧ out ++ sinceL (l.drop k) last = sinceL l seq ∧ s.t 10 = .c (.ro (encNts l)) ∧ s.t 11 = .c (.v (.int .i64 l.length)) ∧ s.t 6 = .c (.v (.int .i64 last)) ∧ s.t 12 = .c (.v (.int .i64 k)) ∧ ((out = [] ∧ s.t 5 = .c (.v (.slice none 0 0))) ∨ ∃ η : Heads, s.t 5 = .c (.h 2900 0 [] (η [])) ∧ s.o 2900 = .loose (encNts out) η)) (fun s => l.length - s.n 12) ?_ ?_
  · exact ⟨0, [], seq, Nat.zero_le _, Nat.le_refl _, rfl, by simp only [go_sem], by simp only [go_sem], by simp only [go_sem], by simp only [go_sem] <;> rfl, .inl ⟨rfl, by simp only [go_sem]⟩⟩
  · rintro s ⟨k, out, last, hk, ho, he, h0, h11, h1, h6, hg⟩
    by_cases hlt : k < l.length
    · have hlt' : (k : Int) < l.length := by omega
      obtain ⟨x, hx⟩ := get_some hlt
      have hw : IntKind.i64.wrap ((k : Int) + 1) = ((k + 1 : Nat) : Int) := wrap64 (by omega) (by omega)
      rw [drop_some hx, sinceL] at he
      by_cases hle : x.seq ≤ last
      · rw [if_pos hle] at he
        simp only [go_sem, h0, h1, h6, h11, hlt, hlt', elem_encNts hx, encNt, encDd, encPl, hle, hw]
        intro b
        refine ⟨⟨k + 1, out, last, ?_⟩, ?_⟩
        · and_intros <;> first | rfl | assumption | omega | exact .inr rfl | exact .inl rfl | exact .inl ⟨rfl, rfl⟩ | exact .inr ⟨_, rfl, rfl⟩ | (rw [← he]; done) | (rw [← he]; simp; done) | (simp; done) | (simp; omega)
        · rw [st_n (k := .i64) (n := ((k + 1 : Nat) : Int)) (by simp only [go_sem]), st_n h6]; omega
      · rw [if_neg hle] at he
        cases hne : IntKind.i64.wrap (x.seq - 1) != last with
        | true =>
          rw [if_pos hne, List.append_nil] at he
          subst he
          rcases hg with ⟨e, h5⟩ | ⟨η, h5, hob⟩
          · simp only [go_sem, h0, h1, h5, h6, h11, hlt, hlt', elem_encNts hx, encNt, encDd, encPl, hle, hne, e]
          · simp only [go_sem, h0, h1, h5, h6, h11, hob, hlt, hlt', elem_encNts hx, encNt, encDd, encPl, hle, hne]
        | false =>
          rw [hne, if_neg (by simp)] at he
          have h1' : out.length + 1 ≤ maxLen := by unfold maxLen; omega
          have h2' : (out.length + 1) * 112 ≤ 140737488355328 := by omega
          have hsn := nts_snoc out x
          simp only [encNt, encDd, encPl, List.cons_append, List.nil_append] at hsn
          have hsn0 := nts_snoc [] x
          simp only [encNt, encDd, encPl, List.cons_append, List.nil_append, List.flatMap_nil] at hsn0
          rcases hg with ⟨rfl, h5⟩ | ⟨η, h5, hob⟩
          · simp only [go_sem, h0, h1, h5, h6, h11, hlt, hlt', elem_encNts hx, encNt, encDd, encPl, hle, hne]
            intro b
            refine run_call (p_impl_copyNote x (nt_edges hx ht)) (by simp only [go_sem, encNt, encDd, encPl]) fun η2 => ?_
            simp only [go_sem, h0, h1, h5, h6, h11, hw, encNt, encDd, encPl, hsn0, maxLen]
            intro η3 η4
            refine ⟨⟨k + 1, [x], x.seq, ?_⟩, ?_⟩
            · and_intros <;> first | rfl | assumption | omega | exact .inr rfl | exact .inl rfl | exact .inl ⟨rfl, rfl⟩ | exact .inr ⟨_, rfl, rfl⟩ | (rw [← he]; done) | (rw [← he]; simp; done) | (simp; done) | (simp; omega)
            · rw [st_n (k := .i64) (n := ((k + 1 : Nat) : Int)) (by simp only [go_sem]), st_n h6]; omega
          · simp only [go_sem, h0, h1, h5, h6, h11, hob, hlt, hlt', elem_encNts hx, encNt, encDd, encPl, hle, hne]
            intro b
            refine run_call (p_impl_copyNote x (nt_edges hx ht)) (by simp only [go_sem, encNt, encDd, encPl]) fun η2 => ?_
            simp only [go_sem, h0, h1, h5, h6, h11, hob, hw, encNt, encDd, encPl, h1', h2', hsn]
            intro η3 η4
            refine ⟨⟨k + 1, out ++ [x], x.seq, ?_⟩, ?_⟩
            · and_intros <;> first | rfl | assumption | omega | exact .inr rfl | exact .inl rfl | exact .inl ⟨rfl, rfl⟩ | exact .inr ⟨_, rfl, rfl⟩ | (rw [← he]; done) | (rw [← he]; simp; done) | (simp; done) | (simp; omega)
            · rw [st_n (k := .i64) (n := ((k + 1 : Nat) : Int)) (by simp only [go_sem]), st_n h6]; omega
    · have hlt' : ¬ (k : Int) < l.length := by omega
      rw [drop_none hlt, sinceL, List.append_nil] at he
      subst he
      rcases hg with ⟨e, h5⟩ | ⟨η, h5, hob⟩
      · simp only [go_sem, h0, h1, h5, h6, h11, hlt', e]
      · simp only [go_sem, h0, h1, h5, h6, h11, hob, hlt']
theorem tot_since : ∀ (l : List Nt) (k : Int), totNts l ≤ 2000000 → totNts (sinceL l k) ≤ 2000000 := by
  have key : ∀ (l : List Nt) (k : Int), totNts (sinceL l k) ≤ totNts l := by
    intro l
    induction l with
    | nil => intro k; exact Nat.le_refl _
    | cons n l ih =>
      intro k
      have e : ∀ (n : Nt) (l : List Nt), totNts (n :: l) = totNts l + 1 + totNt n := fun n l => by simp [totNts, tsum]; omega
      rw [sinceL, e]
      split
      · have := ih k; omega
      · split
        · simp [totNts, tsum]
        · rw [e]; have := ih n.seq; omega
  intro l k h
  exact Nat.le_trans (key l k) h
end Go.Proofs.Ytfjgkakilmiheaa
