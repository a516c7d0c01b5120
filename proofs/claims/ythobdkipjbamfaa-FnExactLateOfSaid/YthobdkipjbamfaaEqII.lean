/- eqIntSS, as the engine's contract. -/
import Derived.Test.YthobdkipjbamfaaEqI
import Derived.Test.YthobdkipjbamfaaIss
set_option linter.unusedSimpArgs false
set_option linter.unusedVariables false
set_option maxRecDepth 100000
namespace Go.Proofs.Ythobdkipjbamfaa
open Go.RowKit Go.Sort
def c_laws_eqIntSS : C := .seq (.reg [⟨some 4, none, .mov (.c (.bool false))⟩]) (.seq (.seq (.reg [⟨some 6, none, .mov (.t 0)⟩, ⟨some 7, none, .len false (.t 6)⟩, ⟨some 8, none, .mov (.t 1)⟩, ⟨some 9, none, .len false (.t 8)⟩, ⟨some 10, none, .bin .neq 3 (.t 7) (.t 9)⟩]) (.cond (.t 10) (.seq (.reg [⟨some 4, none, .mov (.c (.bool false))⟩]) .ret) .skip)) (.seq (.seq (.reg [⟨some 5, none, .mov (.c (.int .i64 0))⟩]) (.blk 0 (.loop (.seq (.seq (.reg [⟨some 11, none, .mov (.t 5)⟩, ⟨some 12, none, .mov (.t 0)⟩, ⟨some 13, none, .len false (.t 12)⟩, ⟨some 14, none, .bin .lss 3 (.t 11) (.t 13)⟩]) (.cond (.t 14) .skip (.exit 0))) (.seq (.blk 1 (.seq (.dreg (T.pure 0 ⟨some 17, none, .mov (.t 0)⟩ (T.pure 1 ⟨some 18, none, .mov (.t 5)⟩ (T.pure 2 ⟨some 19, none, .ia 1 (.t 17) (.t 18)⟩ (T.pure 3 ⟨some 20, none, .ld false 1 (.t 19)⟩ (T.pure 4 ⟨some 21, none, .mov (.t 1)⟩ (T.pure 5 ⟨some 22, none, .mov (.t 5)⟩ (T.pure 6 ⟨some 23, none, .ia 1 (.t 21) (.t 22)⟩ (T.pure 7 ⟨some 24, none, .ld false 1 (.t 23)⟩ (T.alt ⟨some 25, none, .call 19 [.t 20, .t 24]⟩ [] (T.pure 9 ⟨some 26, none, .un .not (.t 25)⟩ T.done) T.stop)))))))))) (.cond (.t 26) (.seq (.reg [⟨some 4, none, .mov (.c (.bool false))⟩]) .ret) .skip))) (.reg [⟨some 15, none, .mov (.t 5)⟩, ⟨some 16, none, .bin .add 3 (.t 15) (.c (.int .i64 1))⟩, ⟨some 5, none, .mov (.t 16)⟩])))))) (.seq (.reg [⟨some 4, none, .mov (.c (.bool true))⟩]) .ret)))
theorem code_laws_eqIntSS : fnC Try.prog Try.f36 = some (c_laws_eqIntSS, [.t 4], 27) := by kernel_rfl
theorem p_eqIntSS (l m : List (List Int)) (hl0 : l.length < 4611686018427387904) (hin : ∀ x ∈ l, x.length < 4611686018427387904) : Pure Try.prog 36 [.c (encIss l), .c (encIss m)] (.c (.val (.bool (decide (l = m))))) := by
  refine pure_fn Try.func36 code_laws_eqIntSS (by simp) ?_
  unfold c_laws_eqIntSS
  by_cases hl : l.length = m.length
  · simp only [go_sem, hl, bne_self_eq_false]
    refine wp_loop_ (fun s => ∃ k : Nat, k ≤ l.length ∧ s.t 0 = .c (.ro (encIss l)) ∧ s.t 1 = .c (.ro (encIss m)) ∧ s.t 5 = .c (.v (.int .i64 k)) ∧ l.take k = m.take k) (fun s => l.length - s.n 5) ?_ ?_
    · exact ⟨0, Nat.zero_le _, by simp only [go_sem], by simp only [go_sem], by simp only [go_sem] <;> rfl, rfl⟩
    · rintro s ⟨k, hk, h0, h1, h5, he⟩
      by_cases hlt : k < l.length
      · have hlt' : (k : Int) < l.length := by omega
        obtain ⟨x, hx⟩ := get_some hlt
        obtain ⟨y, hy⟩ := get_some (show k < m.length by omega)
        have hw : IntKind.i64.wrap ((k : Int) + 1) = ((k + 1 : Nat) : Int) := wrap64 (by omega) (by omega)
        have hkm : k < m.length := by omega
        simp only [go_sem, h0, h1, h5, hlt, hlt', hkm, elem_encIss hx, elem_encIss hy]
        refine run_call (p_eqIntS x y (hin x (List.mem_of_getElem? hx))) (by simp only [go_sem]) fun η => ?_
        by_cases hxy : x = y
        · subst hxy
          simp only [go_sem, h0, h1, h5, hw]
          exact ⟨⟨k + 1, by omega, rfl, eqS_step hx hy he⟩, by rw [st_n (k := .i64) (n := ((k + 1 : Nat) : Int)) (by simp only [go_sem]), st_n h5]; omega⟩
        · have hne : l ≠ m := eqS_ne hx hy hxy
          simp only [go_sem, h0, h1, h5, hxy, hne]
      · have hlt' : ¬ (k : Int) < l.length := by omega
        have hee : decide (l = m) = true := decide_eq_true (eqS_done (by omega) (by omega) he)
        simp only [go_sem, h0, h1, h5, hlt', hee]
  · have hne : l ≠ m := fun e => hl (by rw [e])
    have hb : ((l.length : Int) != (m.length : Int)) = true := by simp; omega
    simp only [go_sem, hb, hne]
end Go.Proofs.Ythobdkipjbamfaa
