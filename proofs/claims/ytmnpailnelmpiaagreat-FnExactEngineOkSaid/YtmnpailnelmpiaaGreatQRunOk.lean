/- Texts for laws: RunOk. -/
import Derived.Test.YtmnpailnelmpiaaGreatQPlanF
import Derived.Test.YtmnpailnelmpiaaGreatQRunP
import Derived.Test.YtmnpailnelmpiaaGreatQSort
set_option linter.unusedSimpArgs false
set_option linter.unusedVariables false
set_option maxRecDepth 100000
namespace Go.Proofs.YtmnpailnelmpiaaGreat
open Go.RowKit Go.Sort
def c_spec_l06Before : C := .seq (.reg [⟨some 2, none, .box 71 5 (.t 0)⟩, ⟨some 4, none, .mov (.c (.slice none 0 0))⟩]) (.seq (.reg [⟨some 8, none, .bsl 3 1 0 [] []⟩, ⟨some 5, none, .mov (.t 8)⟩]) (.seq (.seq (.reg [⟨some 6, none, .mov (.c (.int .i64 0))⟩]) (.blk 0 (.loop (.seq (.seq (.reg [⟨some 9, none, .mov (.t 6)⟩, ⟨some 10, none, .fa 3 (.t 2)⟩, ⟨some 11, none, .ld false 1 (.t 10)⟩, ⟨some 12, none, .bin .lss 3 (.t 9) (.t 11)⟩]) (.cond (.t 12) .skip (.exit 0))) (.seq (.blk 1 (.seq (.reg [⟨some 7, none, .mov (.c (.int .i64 0))⟩]) (.blk 2 (.loop (.seq (.seq (.reg [⟨some 15, none, .mov (.t 7)⟩, ⟨some 16, none, .fa 4 (.t 2)⟩, ⟨some 17, none, .ld false 1 (.t 16)⟩, ⟨some 18, none, .len false (.t 17)⟩, ⟨some 19, none, .bin .lss 3 (.t 15) (.t 18)⟩]) (.cond (.t 19) .skip (.exit 2))) (.seq (.blk 3 (.seq (.reg [⟨some 22, none, .fa 4 (.t 2)⟩, ⟨some 23, none, .ld false 1 (.t 22)⟩, ⟨some 24, none, .mov (.t 7)⟩, ⟨some 25, none, .ia 2 (.t 23) (.t 24)⟩, ⟨some 26, none, .fa 0 (.t 25)⟩, ⟨some 27, none, .ld false 1 (.t 26)⟩, ⟨some 28, none, .mov (.t 6)⟩, ⟨some 29, none, .bin .eql 3 (.t 27) (.t 28)⟩, ⟨some 30, none, .mov (.t 29)⟩, ⟨some 31, some (30, true), .fa 4 (.t 2)⟩, ⟨some 32, some (30, true), .ld false 1 (.t 31)⟩, ⟨some 33, some (30, true), .mov (.t 7)⟩, ⟨some 34, some (30, true), .ia 2 (.t 32) (.t 33)⟩, ⟨some 35, some (30, true), .fa 1 (.t 34)⟩, ⟨some 36, some (30, true), .ld false 1 (.t 35)⟩, ⟨some 37, some (30, true), .mov (.t 1)⟩, ⟨some 38, some (30, true), .bin .eql 3 (.t 36) (.t 37)⟩, ⟨some 39, none, .pick (.t 30) (.t 38) (.c (.bool false))⟩]) (.cond (.t 39) (.reg [⟨some 40, none, .mov (.t 5)⟩, ⟨some 41, none, .mov (.t 6)⟩, ⟨some 42, none, .bsl 3 1 1 [none] [(0, 1, .t 41)]⟩, ⟨some 43, none, .app 3 1 8 (.t 40) (.t 42)⟩, ⟨some 5, none, .mov (.t 43)⟩]) .skip))) (.reg [⟨some 20, none, .mov (.t 7)⟩, ⟨some 21, none, .bin .add 3 (.t 20) (.c (.int .i64 1))⟩, ⟨some 7, none, .mov (.t 21)⟩]))))))) (.reg [⟨some 13, none, .mov (.t 6)⟩, ⟨some 14, none, .bin .add 3 (.t 13) (.c (.int .i64 1))⟩, ⟨some 6, none, .mov (.t 14)⟩])))))) (.seq (.reg [⟨some 44, none, .mov (.t 5)⟩, ⟨some 4, none, .mov (.t 44)⟩]) .ret)))
theorem code_spec_l06Before : fnC Tryz.prog Tryz.f259 = some (c_spec_l06Before, [.t 4], 45) := by kernel_rfl
def c_impl_BeforeOf : C := .seq (.reg [⟨some 2, none, .box 71 5 (.t 0)⟩, ⟨some 4, none, .mov (.c (.slice none 0 0))⟩]) (.seq (.seq (.reg [⟨some 8, none, .ld true 5 (.t 2)⟩, ⟨some 9, none, .call 210 [.t 8]⟩, ⟨some 10, none, .bin .neq 3 (.t 9) (.c (.int .i64 0))⟩]) (.cond (.t 10) (.seq (.reg [⟨some 4, none, .mov (.c (.slice none 0 0))⟩]) .ret) .skip)) (.seq (.reg [⟨some 5, none, .mov (.c (.slice none 0 0))⟩]) (.seq (.seq (.reg [⟨some 11, none, .fa 4 (.t 2)⟩, ⟨some 12, none, .ld false 1 (.t 11)⟩, ⟨some 13, none, .len false (.t 12)⟩, ⟨some 14, none, .mov (.c (.int .i64 0))⟩]) (.blk 0 (.loop (.seq (.reg [⟨some 15, none, .bin .lss 3 (.t 14) (.t 13)⟩]) (.seq (.cond (.t 15) .skip (.exit 0)) (.seq (.blk 1 (.seq (.reg [⟨some 16, none, .ia 2 (.t 12) (.t 14)⟩, ⟨some 17, none, .ld true 2 (.t 16)⟩, ⟨some 7, none, .alloc 253 [.int .i64 0, .int .i64 0]⟩, ⟨none, none, .st 2 [none, none] (.t 7) (.t 17)⟩]) (.seq (.reg [⟨some 18, none, .fa 1 (.t 7)⟩, ⟨some 19, none, .ld false 1 (.t 18)⟩, ⟨some 20, none, .mov (.t 1)⟩, ⟨some 21, none, .bin .eql 3 (.t 19) (.t 20)⟩]) (.cond (.t 21) (.reg [⟨some 22, none, .mov (.t 5)⟩, ⟨some 23, none, .fa 0 (.t 7)⟩, ⟨some 24, none, .ld false 1 (.t 23)⟩, ⟨some 25, none, .bsl 3 1 1 [none] [(0, 1, .t 24)]⟩, ⟨some 26, none, .app 3 1 8 (.t 22) (.t 25)⟩, ⟨some 5, none, .mov (.t 26)⟩]) .skip)))) (.reg [⟨some 27, none, .bin .add 3 (.t 14) (.c (.int .i64 1))⟩, ⟨some 14, none, .mov (.t 27)⟩]))))))) (.seq (.reg [⟨some 28, none, .mov (.t 5)⟩, ⟨some 29, none, .call 288 [.t 28]⟩]) (.seq (.reg [⟨some 30, none, .mov (.t 5)⟩, ⟨some 4, none, .mov (.t 30)⟩]) .ret)))))
theorem code_impl_BeforeOf : fnC Tryz.prog Tryz.f273 = some (c_impl_BeforeOf, [.t 4], 31) := by kernel_rfl
theorem srtL_le (A : List Int) : ∀ n : Nat, (srtL n A).length ≤ n * A.length
  | 0 => by simp [srtL]
  | n + 1 => by
    rw [srtL_succ, List.length_append, List.length_replicate, Nat.succ_mul]
    have := srtL_le A n
    have := List.count_le_length (a := (n : Int)) (l := A)
    omega
/-- The numbers below x, in order, and x, as often as among the first j. -/
def rowG (F : List Ed → List Int) (es : List Ed) (x j : Nat) : List Int := srtL x (F es) ++ List.replicate ((F (es.take j)).count (x : Int)) (x : Int)
section
variable {F : List Ed → List Int} {es : List Ed} {x j : Nat}
theorem rowG_0 (h : F [] = []) : rowG F es x 0 = srtL x (F es) := by simp [rowG, h]
theorem rowG_end : rowG F es x es.length = srtL (x + 1) (F es) := by simp [rowG, srtL_succ]
theorem rowG_yes (h : (F (es.take (j + 1))).count (x : Int) = (F (es.take j)).count (x : Int) + 1) : rowG F es x (j + 1) = rowG F es x j ++ [(x : Int)] := by simp only [rowG, h, List.replicate_succ', List.append_assoc]
theorem rowG_no (h : (F (es.take (j + 1))).count (x : Int) = (F (es.take j)).count (x : Int)) : rowG F es x (j + 1) = rowG F es x j := by simp only [rowG, h]
theorem rowG_len (hF : ∀ l : List Ed, (F l).length ≤ l.length) (hx : x ≤ 12) (he : es.length ≤ 30) : (rowG F es x j).length ≤ 1000 := by
  have h1 := srtL_le (F es) x
  have h2 := List.count_le_length (a := (x : Int)) (l := F (es.take j))
  have h3 := hF es
  have h4 := hF (es.take j)
  rw [List.length_take] at h4
  have h5 : x * (F es).length ≤ 12 * 30 := Nat.mul_le_mul hx (by omega)
  simp only [rowG, List.length_append, List.length_replicate]
  omega
end
theorem befA_le (l : List Ed) (t : Int) : (befA l t).length ≤ l.length := by simp only [befA, List.length_map]; exact List.length_filter_le _ _
set_option maxHeartbeats 4000000 in
theorem p_spec_l06Before (p : Pl) (t : Int) (n : Nat) (hn : p.tasks = n) (h12 : n ≤ 12) (h30 : p.edges.length ≤ 30) : Pure Tryz.prog 259 [.agg (encPl p), .c (.val (.int .i64 t))] (.c (encInts (befL p t))) := by
  refine pure_fn Tryz.func259 code_spec_l06Before (by simp) ?_
  unfold c_spec_l06Before
  simp -implicitDefEqProofs only [go_sem, encPl]
  intro b η0
  refine wp_loopW (fun i : Nat × Heads => St.of [(1, Ni t), (2, Bx 200 b), (5, Hd 5 i.2), (6, Ni i.1)] [(200, Bi b _ (encPl p)), (5, .loose (encInts (srtL i.1 (befA p.edges t))) i.2)]) (fun i => i.1 ≤ n) (fun i => n - i.1) (0, η0) (by (try dsimp only); first | omega | (simp; done) | (and_intros <;> first | omega | simp)) (wk_of [some 200, some 800] (by simp -implicitDefEqProofs only [go_sem, encPl, srtL_0] <;> and_intros <;> first | rfl | assumption)) ?_
  rintro ⟨x, η1⟩ hx
  dsimp only at hx
  by_cases hlt : x < n
  · have hlt' : (x : Int) < n := by omega
    have hw : IntKind.i64.wrap ((x : Int) + 1) = ((x + 1 : Nat) : Int) := wrap64 (by omega) (by omega)
    have h0 := rowG_0 (F := fun l => befA l t) (es := p.edges) (x := x) rfl
    have he := rowG_end (F := fun l => befA l t) (es := p.edges) (x := x)
    simp -implicitDefEqProofs only [go_sem, encPl, hn, hlt']
    refine wp_loopW (fun i : Nat × Heads => St.of [(1, Ni t), (2, Bx 200 b), (5, Hd 5 i.2), (6, Ni x), (7, Ni i.1)] [(200, Bi b _ (encPl p)), (5, .loose (encInts (rowG (fun l => befA l t) p.edges x i.1)) i.2)]) (fun i => i.1 ≤ p.edges.length) (fun i => p.edges.length - i.1) (0, η1) (by (try dsimp only); first | omega | (simp; done) | (and_intros <;> first | omega | simp)) (wk_of [some 200, some 5] (by simp -implicitDefEqProofs only [go_sem, encPl, hn, h0] <;> and_intros <;> first | rfl | assumption)) ?_
    rintro ⟨j, η2⟩ hj
    dsimp only at hj
    by_cases hjt : j < p.edges.length
    · have hjt' : (j : Int) < p.edges.length := by omega
      obtain ⟨e, hee⟩ := get_some hjt
      have hwj : IntKind.i64.wrap ((j : Int) + 1) = ((j + 1 : Nat) : Int) := wrap64 (by omega) (by omega)
      have hc := befA_count hee x t
      have hle := rowG_len (F := fun l => befA l t) (es := p.edges) (x := x) (j := j) (fun l => befA_le l t) (by omega) h30
      have hm1 : (rowG (fun l => befA l t) p.edges x j).length + 1 ≤ maxLen := by unfold maxLen; omega
      have hm2 : ((rowG (fun l => befA l t) p.edges x j).length + 1) * 8 ≤ 140737488355328 := by omega
      by_cases h1 : e.src = x
      · by_cases h2 : e.dst = t
        · have hs := rowG_yes (F := fun l => befA l t) (es := p.edges) (x := x) (j := j) (by rw [hc, if_pos ⟨h1, h2⟩])
          have h1' : (e.src == (x : Int)) = true := by simpa using h1
          have h2' : (e.dst == t) = true := by simpa using h2
          generalize rowG (fun l => befA l t) p.edges x j = R at *
          simp -implicitDefEqProofs only [go_sem, encPl, hn, hjt, hjt', elem_encEds hee, encEd, h1', h2', hwj, hm1, hm2, ints_snoc1]
          intro η3 η4
          exact ⟨(j + 1, η4), by (try dsimp only); first | omega | assumption | (and_intros <;> first | omega | assumption), (wk_of [some 200, some 4300] (by simp -implicitDefEqProofs only [go_sem, encPl, hn, hs] <;> and_intros <;> first | rfl | assumption)), by (try dsimp only); omega⟩
        · have hs := rowG_no (F := fun l => befA l t) (es := p.edges) (x := x) (j := j) (by rw [hc, if_neg (fun h => h2 h.2)]; rfl)
          have h1' : (e.src == (x : Int)) = true := by simpa using h1
          have h2' : (e.dst == t) = false := by simpa using h2
          simp -implicitDefEqProofs only [go_sem, encPl, hn, hjt, hjt', elem_encEds hee, encEd, h1', h2', hwj]
          exact ⟨(j + 1, η2), by (try dsimp only); first | omega | assumption | (and_intros <;> first | omega | assumption), (wk_of [some 200, some 5] (by simp -implicitDefEqProofs only [go_sem, encPl, hn, hs] <;> and_intros <;> first | rfl | assumption)), by (try dsimp only); omega⟩
      · have hs := rowG_no (F := fun l => befA l t) (es := p.edges) (x := x) (j := j) (by rw [hc, if_neg (fun h => h1 h.1)]; rfl)
        have h1' : (e.src == (x : Int)) = false := by simpa using h1
        simp -implicitDefEqProofs only [go_sem, encPl, hn, hjt, hjt', elem_encEds hee, encEd, h1', hwj]
        exact ⟨(j + 1, η2), by (try dsimp only); first | omega | assumption | (and_intros <;> first | omega | assumption), (wk_of [some 200, some 5] (by simp -implicitDefEqProofs only [go_sem, encPl, hn, hs] <;> and_intros <;> first | rfl | assumption)), by (try dsimp only); omega⟩
    · have hjt' : ¬ (j : Int) < p.edges.length := by omega
      obtain rfl : j = p.edges.length := by omega
      simp -implicitDefEqProofs only [go_sem, encPl, hn, hjt', hw]
      exact ⟨(x + 1, η2), by (try dsimp only); first | omega | assumption | (and_intros <;> first | omega | assumption), (wk_of [some 200, some 5] (by simp -implicitDefEqProofs only [go_sem, encPl, hn, he] <;> and_intros <;> first | rfl | assumption)), by (try dsimp only); omega⟩
  · have hlt' : ¬ (x : Int) < n := by omega
    obtain rfl : x = n := by omega
    simp -implicitDefEqProofs only [go_sem, encPl, hn, hlt', befL, Int.toNat_natCast]
set_option maxHeartbeats 4000000 in
theorem p_impl_BeforeOf (p : Pl) (t : Int) (h0 : planFault p = 0) : Pure Tryz.prog 273 [.agg (encPl p), .c (.val (.int .i64 t))] (.c (encInts (befL p t))) := by
  obtain ⟨n, hn, hn1, h12, h30, hes, hnd, -⟩ := pf_0 h0
  refine pure_fn Tryz.func273 code_impl_BeforeOf (by simp) ?_
  unfold c_impl_BeforeOf
  simp -implicitDefEqProofs only [go_sem, encPl]
  intro b
  refine run_call (p_impl_PlanFault p (by omega)) (by simp -implicitDefEqProofs only [go_sem, encPl]) fun η => ?_
  simp -implicitDefEqProofs only [go_sem, encPl]
  simp -implicitDefEqProofs only [go_sem, encPl, h0, bne_self_eq_false]
  refine wp_loopW (fun i : Nat × Heads => St.of [(1, Ni t), (5, Hd 5 i.2), (12, Ro (encEds p.edges)), (13, Ni p.edges.length), (14, Ni i.1)] [(5, .loose (encInts (befA (p.edges.take i.1) t)) i.2)]) (fun i => i.1 ≤ p.edges.length) (fun i => p.edges.length - i.1) (0, nilH) (by (try dsimp only); first | omega | (simp; done) | (and_intros <;> first | omega | simp)) (wk_of [none] (by simp -implicitDefEqProofs only [go_sem, encPl] <;> and_intros <;> first | rfl | assumption)) ?_
  rintro ⟨j, η2⟩ hj
  dsimp only at hj
  by_cases hjt : j < p.edges.length
  · have hjt' : (j : Int) < p.edges.length := by omega
    obtain ⟨e, hee⟩ := get_some hjt
    have hwj : IntKind.i64.wrap ((j : Int) + 1) = ((j + 1 : Nat) : Int) := wrap64 (by omega) (by omega)
    have hc := befA_take hee t
    have hle := befA_le (p.edges.take j) t
    rw [List.length_take] at hle
    generalize befA (p.edges.take j) t = R at *
    have hm1 : R.length + 1 ≤ maxLen := by unfold maxLen; omega
    have hm2 : (R.length + 1) * 8 ≤ 140737488355328 := by omega
    by_cases h2 : e.dst = t
    · have h2' : (e.dst == t) = true := by simpa using h2
      rw [if_pos h2] at hc
      simp -implicitDefEqProofs only [go_sem, encPl, hn, hjt, hjt', elem_encEds hee, encEd]
      intro b2
      simp -implicitDefEqProofs only [go_sem, encPl, hn, hjt, hjt', elem_encEds hee, encEd, h2', hwj, hm1, hm2, ints_snoc1]
      intro η3 η4
      exact ⟨(j + 1, η4), by (try dsimp only); first | omega | assumption | (and_intros <;> first | omega | assumption), (wk_of [some 2600] (by simp -implicitDefEqProofs only [go_sem, encPl, hn, hc] <;> and_intros <;> first | rfl | assumption)), by (try dsimp only); omega⟩
    · have h2' : (e.dst == t) = false := by simpa using h2
      rw [if_neg h2, List.append_nil] at hc
      simp -implicitDefEqProofs only [go_sem, encPl, hn, hjt, hjt', elem_encEds hee, encEd]
      intro b2
      simp -implicitDefEqProofs only [go_sem, encPl, hn, hjt, hjt', elem_encEds hee, encEd, h2', hwj]
      exact ⟨(j + 1, η2), by (try dsimp only); first | omega | assumption | (and_intros <;> first | omega | assumption), (wk_of [some 5] (by simp -implicitDefEqProofs only [go_sem, encPl, hn, hc] <;> and_intros <;> first | rfl | assumption)), by (try dsimp only); omega⟩
  · have hjt' : ¬ (j : Int) < p.edges.length := by omega
    rw [List.take_of_length_le (by omega)]
    have hA := befA_len hnd hes t
    simp -implicitDefEqProofs only [go_sem, encPl, hn, hjt']
    refine run_inl (inl_mono (inl_sort (befA p.edges t) (by omega) _ 5 η2 (by simp -implicitDefEqProofs only [go_sem])) ?_)
    rintro av o' ⟨rfl, l, i, rfl, h1, h2⟩
    obtain rfl := srt_of (befA_in hes t) h1 (by rw [h1.1.length_eq]; exact h2)
    simp -implicitDefEqProofs only [go_sem, up1_at, befL, hn, Int.toNat_natCast]
end Go.Proofs.YtmnpailnelmpiaaGreat
set_option linter.unusedSimpArgs false
set_option linter.unusedVariables false
set_option maxRecDepth 100000
namespace Go.Proofs.YtmnpailnelmpiaaGreat
open Go.RowKit Go.Sort
def c_spec_l09Task : C := .seq (.reg [⟨some 2, none, .box 108 8 (.t 0)⟩, ⟨some 4, none, .mov (.c (.bool false))⟩]) (.seq (.reg [⟨some 9, none, .fa 7 (.t 2)⟩, ⟨some 10, none, .ld false 1 (.t 9)⟩, ⟨some 11, none, .mov (.t 1)⟩, ⟨some 12, none, .ia 4 (.t 10) (.t 11)⟩, ⟨some 13, none, .ld true 4 (.t 12)⟩, ⟨some 5, none, .alloc 172 [.int .i64 0, .int .i64 0, .int .i64 0, .int .i64 0]⟩, ⟨none, none, .st 4 [none, none, none, none] (.t 5) (.t 13)⟩]) (.seq (.reg [⟨some 6, none, .mov (.c (.int .i64 0))⟩]) (.seq (.reg [⟨some 14, none, .fa 1 (.t 2)⟩, ⟨some 15, none, .ld true 5 (.t 14)⟩, ⟨some 16, none, .mov (.t 1)⟩, ⟨some 17, none, .call 259 [.t 15, .t 16]⟩, ⟨some 7, none, .mov (.t 17)⟩]) (.seq (.seq (.reg [⟨some 8, none, .mov (.c (.int .i64 0))⟩]) (.blk 0 (.loop (.seq (.seq (.reg [⟨some 18, none, .mov (.t 8)⟩, ⟨some 19, none, .mov (.t 7)⟩, ⟨some 20, none, .len false (.t 19)⟩, ⟨some 21, none, .bin .lss 3 (.t 18) (.t 20)⟩]) (.cond (.t 21) .skip (.exit 0))) (.seq (.blk 1 (.seq (.dreg (T.pure 0 ⟨some 24, none, .fa 7 (.t 2)⟩ (T.pure 1 ⟨some 25, none, .ld false 1 (.t 24)⟩ (T.pure 2 ⟨some 26, none, .mov (.t 7)⟩ (T.pure 3 ⟨some 27, none, .mov (.t 8)⟩ (T.pure 4 ⟨some 28, none, .ia 1 (.t 26) (.t 27)⟩ (T.pure 5 ⟨some 29, none, .ld false 1 (.t 28)⟩ (T.pure 6 ⟨some 30, none, .ia 4 (.t 25) (.t 29)⟩ (T.pure 7 ⟨some 31, none, .fa 0 (.t 30)⟩ (T.pure 8 ⟨some 32, none, .ld false 1 (.t 31)⟩ (T.pure 9 ⟨some 33, none, .bin .neq 3 (.t 32) (.c (.int .i64 4))⟩ T.done))))))))))) (.cond (.t 33) (.reg [⟨some 34, none, .mov (.t 6)⟩, ⟨some 35, none, .bin .add 3 (.t 34) (.c (.int .i64 1))⟩, ⟨some 6, none, .mov (.t 35)⟩]) .skip))) (.reg [⟨some 22, none, .mov (.t 8)⟩, ⟨some 23, none, .bin .add 3 (.t 22) (.c (.int .i64 1))⟩, ⟨some 8, none, .mov (.t 23)⟩])))))) (.seq (.seq (.reg [⟨some 36, none, .fa 1 (.t 5)⟩, ⟨some 37, none, .ld false 1 (.t 36)⟩, ⟨some 38, none, .mov (.t 6)⟩, ⟨some 39, none, .bin .neq 3 (.t 37) (.t 38)⟩, ⟨some 40, none, .mov (.t 39)⟩, ⟨some 41, some (40, false), .fa 2 (.t 5)⟩, ⟨some 42, some (40, false), .ld false 1 (.t 41)⟩, ⟨some 43, some (40, false), .fa 1 (.t 2)⟩, ⟨some 44, some (40, false), .fa 1 (.t 43)⟩, ⟨some 45, some (40, false), .ld false 1 (.t 44)⟩, ⟨some 46, some (40, false), .call 74 [.t 42, .c (.int .i64 0), .t 45]⟩, ⟨some 47, some (40, false), .un .not (.t 46)⟩, ⟨some 48, none, .pick (.t 40) (.c (.bool true)) (.t 47)⟩]) (.cond (.t 48) (.seq (.reg [⟨some 4, none, .mov (.c (.bool false))⟩]) .ret) .skip)) (.seq (.seq (.reg [⟨some 49, none, .fa 0 (.t 5)⟩, ⟨some 50, none, .ld false 1 (.t 49)⟩, ⟨some 51, none, .bin .eql 3 (.t 50) (.c (.int .i64 3))⟩, ⟨some 52, none, .mov (.t 51)⟩, ⟨some 53, some (52, true), .fa 3 (.t 5)⟩, ⟨some 54, some (52, true), .ld false 1 (.t 53)⟩, ⟨some 55, some (52, true), .call 74 [.t 54, .c (.int .i64 1), .c (.int .i64 1000000000)]⟩, ⟨some 56, some (52, true), .un .not (.t 55)⟩, ⟨some 57, none, .pick (.t 52) (.t 56) (.c (.bool false))⟩, ⟨some 58, none, .mov (.t 57)⟩, ⟨some 59, some (58, false), .fa 0 (.t 5)⟩, ⟨some 60, some (58, false), .ld false 1 (.t 59)⟩, ⟨some 61, some (58, false), .bin .neq 3 (.t 60) (.c (.int .i64 3))⟩, ⟨some 62, some (58, false), .mov (.t 61)⟩, ⟨some 63, some (62, true), .fa 3 (.t 5)⟩, ⟨some 64, some (62, true), .ld false 1 (.t 63)⟩, ⟨some 65, some (62, true), .bin .neq 3 (.t 64) (.c (.int .i64 0))⟩, ⟨some 66, some (58, false), .pick (.t 62) (.t 65) (.c (.bool false))⟩, ⟨some 67, none, .pick (.t 58) (.c (.bool true)) (.t 66)⟩]) (.cond (.t 67) (.seq (.reg [⟨some 4, none, .mov (.c (.bool false))⟩]) .ret) .skip)) (.seq (.seq (.reg [⟨some 68, none, .fa 0 (.t 5)⟩, ⟨some 69, none, .ld false 1 (.t 68)⟩]) (.blk 2 (.seq (.reg [⟨some 71, none, .bin .eql 3 (.t 69) (.c (.int .i64 1))⟩, ⟨some 70, none, .mov (.t 71)⟩]) (.cond (.t 70) (.seq (.reg [⟨some 72, none, .mov (.t 6)⟩, ⟨some 73, none, .bin .gtr 3 (.t 72) (.c (.int .i64 0))⟩, ⟨some 4, none, .mov (.t 73)⟩]) .ret) (.seq (.reg [⟨some 75, none, .bin .eql 3 (.t 69) (.c (.int .i64 2))⟩, ⟨some 74, none, .mov (.t 75)⟩]) (.cond (.t 74) (.seq (.reg [⟨some 76, none, .mov (.t 6)⟩, ⟨some 77, none, .bin .eql 3 (.t 76) (.c (.int .i64 0))⟩, ⟨some 78, none, .mov (.t 77)⟩, ⟨some 79, some (78, true), .fa 2 (.t 5)⟩, ⟨some 80, some (78, true), .ld false 1 (.t 79)⟩, ⟨some 81, some (78, true), .fa 1 (.t 2)⟩, ⟨some 82, some (78, true), .fa 1 (.t 81)⟩, ⟨some 83, some (78, true), .ld false 1 (.t 82)⟩, ⟨some 84, some (78, true), .bin .lss 3 (.t 80) (.t 83)⟩, ⟨some 85, none, .pick (.t 78) (.t 84) (.c (.bool false))⟩, ⟨some 4, none, .mov (.t 85)⟩]) .ret) (.seq (.seq (.reg [⟨some 87, none, .bin .eql 3 (.t 69) (.c (.int .i64 3))⟩, ⟨some 86, none, .mov (.t 87)⟩]) (.cond (.t 86) .skip (.seq (.reg [⟨some 88, none, .bin .eql 3 (.t 69) (.c (.int .i64 4))⟩, ⟨some 86, none, .mov (.t 88)⟩]) (.cond (.t 86) .skip (.reg [⟨some 89, none, .bin .eql 3 (.t 69) (.c (.int .i64 5))⟩, ⟨some 86, none, .mov (.t 89)⟩]))))) (.cond (.t 86) (.seq (.reg [⟨some 90, none, .mov (.t 6)⟩, ⟨some 91, none, .bin .eql 3 (.t 90) (.c (.int .i64 0))⟩, ⟨some 92, none, .mov (.t 91)⟩, ⟨some 93, some (92, true), .fa 2 (.t 5)⟩, ⟨some 94, some (92, true), .ld false 1 (.t 93)⟩, ⟨some 95, some (92, true), .bin .geq 3 (.t 94) (.c (.int .i64 1))⟩, ⟨some 96, none, .pick (.t 92) (.t 95) (.c (.bool false))⟩, ⟨some 4, none, .mov (.t 96)⟩]) .ret) .skip)))))))) (.seq (.reg [⟨some 97, none, .fa 0 (.t 5)⟩, ⟨some 98, none, .ld false 1 (.t 97)⟩, ⟨some 99, none, .bin .eql 3 (.t 98) (.c (.int .i64 6))⟩, ⟨some 4, none, .mov (.t 99)⟩]) .ret))))))))
theorem code_spec_l09Task : fnC Tryz.prog Tryz.f240 = some (c_spec_l09Task, [.t 4], 100) := by kernel_rfl
def c_spec_l09State : C := .seq (.reg [⟨some 1, none, .box 108 8 (.t 0)⟩, ⟨some 2, none, .mov (.c (.int .i64 0))⟩]) (.seq (.reg [⟨some 6, none, .bsl 3 1 7 [none, none, none, none, none, none, none] [(0, 1, .c (.int .i64 0)), (1, 1, .c (.int .i64 0)), (2, 1, .c (.int .i64 0)), (3, 1, .c (.int .i64 0)), (4, 1, .c (.int .i64 0)), (5, 1, .c (.int .i64 0)), (6, 1, .c (.int .i64 0))]⟩, ⟨some 3, none, .mov (.t 6)⟩]) (.seq (.seq (.reg [⟨some 4, none, .mov (.c (.int .i64 0))⟩]) (.blk 0 (.loop (.seq (.seq (.reg [⟨some 7, none, .mov (.t 4)⟩, ⟨some 8, none, .fa 7 (.t 1)⟩, ⟨some 9, none, .ld false 1 (.t 8)⟩, ⟨some 10, none, .len false (.t 9)⟩, ⟨some 11, none, .bin .lss 3 (.t 7) (.t 10)⟩]) (.cond (.t 11) .skip (.exit 0))) (.seq (.blk 1 (.reg [⟨some 14, none, .mov (.t 3)⟩, ⟨some 15, none, .fa 7 (.t 1)⟩, ⟨some 16, none, .ld false 1 (.t 15)⟩, ⟨some 17, none, .mov (.t 4)⟩, ⟨some 18, none, .ia 4 (.t 16) (.t 17)⟩, ⟨some 19, none, .fa 0 (.t 18)⟩, ⟨some 20, none, .ld false 1 (.t 19)⟩, ⟨some 21, none, .ia 1 (.t 14) (.t 20)⟩, ⟨some 22, none, .ld false 1 (.t 21)⟩, ⟨some 23, none, .bin .add 3 (.t 22) (.c (.int .i64 1))⟩, ⟨some 24, none, .ia 1 (.t 14) (.t 20)⟩, ⟨none, none, .st 1 [none] (.t 24) (.t 23)⟩])) (.reg [⟨some 12, none, .mov (.t 4)⟩, ⟨some 13, none, .bin .add 3 (.t 12) (.c (.int .i64 1))⟩, ⟨some 4, none, .mov (.t 13)⟩])))))) (.seq (.dreg (T.pure 0 ⟨some 25, none, .mov (.t 3)⟩ (T.pure 1 ⟨some 26, none, .ia 1 (.t 25) (.c (.int .i64 1))⟩ (T.pure 2 ⟨some 27, none, .ld false 1 (.t 26)⟩ (T.pure 3 ⟨some 28, none, .mov (.t 3)⟩ (T.pure 4 ⟨some 29, none, .ia 1 (.t 28) (.c (.int .i64 2))⟩ (T.pure 5 ⟨some 30, none, .ld false 1 (.t 29)⟩ (T.pure 6 ⟨some 31, none, .bin .add 3 (.t 27) (.t 30)⟩ (T.pure 7 ⟨some 32, none, .mov (.t 3)⟩ (T.pure 8 ⟨some 33, none, .ia 1 (.t 32) (.c (.int .i64 3))⟩ (T.pure 9 ⟨some 34, none, .ld false 1 (.t 33)⟩ (T.pure 10 ⟨some 35, none, .bin .add 3 (.t 31) (.t 34)⟩ (T.pure 11 ⟨some 5, none, .mov (.t 35)⟩ T.done))))))))))))) (.seq (.blk 2 (.seq (.dreg (T.pure 0 ⟨some 37, none, .mov (.t 3)⟩ (T.pure 1 ⟨some 38, none, .ia 1 (.t 37) (.c (.int .i64 4))⟩ (T.pure 2 ⟨some 39, none, .ld false 1 (.t 38)⟩ (T.pure 3 ⟨some 40, none, .fa 7 (.t 1)⟩ (T.pure 4 ⟨some 41, none, .ld false 1 (.t 40)⟩ (T.pure 5 ⟨some 42, none, .len false (.t 41)⟩ (T.pure 6 ⟨some 43, none, .bin .eql 3 (.t 39) (.t 42)⟩ (T.pure 7 ⟨some 36, none, .mov (.t 43)⟩ T.done))))))))) (.cond (.t 36) (.seq (.reg [⟨some 2, none, .mov (.c (.int .i64 2))⟩]) .ret) (.seq (.reg [⟨some 45, none, .mov (.t 3)⟩, ⟨some 46, none, .ia 1 (.t 45) (.c (.int .i64 5))⟩, ⟨some 47, none, .ld false 1 (.t 46)⟩, ⟨some 48, none, .bin .eql 3 (.t 47) (.c (.int .i64 1))⟩, ⟨some 49, none, .mov (.t 48)⟩, ⟨some 50, some (49, true), .mov (.t 5)⟩, ⟨some 51, some (49, true), .bin .eql 3 (.t 50) (.c (.int .i64 0))⟩, ⟨some 52, none, .pick (.t 49) (.t 51) (.c (.bool false))⟩, ⟨some 44, none, .mov (.t 52)⟩]) (.cond (.t 44) (.seq (.reg [⟨some 2, none, .mov (.c (.int .i64 3))⟩]) .ret) (.seq (.reg [⟨some 54, none, .mov (.t 3)⟩, ⟨some 55, none, .ia 1 (.t 54) (.c (.int .i64 5))⟩, ⟨some 56, none, .ld false 1 (.t 55)⟩, ⟨some 57, none, .bin .eql 3 (.t 56) (.c (.int .i64 0))⟩, ⟨some 58, none, .mov (.t 57)⟩, ⟨some 59, some (58, true), .mov (.t 3)⟩, ⟨some 60, some (58, true), .ia 1 (.t 59) (.c (.int .i64 6))⟩, ⟨some 61, some (58, true), .ld false 1 (.t 60)⟩, ⟨some 62, some (58, true), .bin .gtr 3 (.t 61) (.c (.int .i64 0))⟩, ⟨some 63, none, .pick (.t 58) (.t 62) (.c (.bool false))⟩, ⟨some 64, none, .mov (.t 63)⟩, ⟨some 65, some (64, true), .mov (.t 5)⟩, ⟨some 66, some (64, true), .bin .eql 3 (.t 65) (.c (.int .i64 0))⟩, ⟨some 67, none, .pick (.t 64) (.t 66) (.c (.bool false))⟩, ⟨some 53, none, .mov (.t 67)⟩]) (.cond (.t 53) (.seq (.reg [⟨some 2, none, .mov (.c (.int .i64 4))⟩]) .ret) (.seq (.reg [⟨some 69, none, .mov (.t 3)⟩, ⟨some 70, none, .ia 1 (.t 69) (.c (.int .i64 5))⟩, ⟨some 71, none, .ld false 1 (.t 70)⟩, ⟨some 72, none, .bin .eql 3 (.t 71) (.c (.int .i64 0))⟩, ⟨some 73, none, .mov (.t 72)⟩, ⟨some 74, some (73, true), .mov (.t 3)⟩, ⟨some 75, some (73, true), .ia 1 (.t 74) (.c (.int .i64 6))⟩, ⟨some 76, some (73, true), .ld false 1 (.t 75)⟩, ⟨some 77, some (73, true), .bin .eql 3 (.t 76) (.c (.int .i64 0))⟩, ⟨some 78, none, .pick (.t 73) (.t 77) (.c (.bool false))⟩, ⟨some 68, none, .mov (.t 78)⟩]) (.cond (.t 68) (.seq (.reg [⟨some 2, none, .mov (.c (.int .i64 1))⟩]) .ret) .skip))))))))) (.seq (.reg [⟨some 2, none, .mov (.c (.int .i64 0))⟩]) .ret)))))
theorem code_spec_l09State : fnC Tryz.prog Tryz.f241 = some (c_spec_l09State, [.t 2], 79) := by kernel_rfl
def c_spec_RunOk : C := .seq (.reg [⟨some 1, none, .box 108 8 (.t 0)⟩, ⟨some 2, none, .mov (.c (.bool false))⟩]) (.seq (.seq (.reg [⟨some 5, none, .fa 0 (.t 1)⟩, ⟨some 6, none, .ld false 1 (.t 5)⟩, ⟨some 7, none, .call 74 [.t 6, .c (.int .i64 1), .c (.int .i64 9999)]⟩, ⟨some 8, none, .un .not (.t 7)⟩, ⟨some 9, none, .mov (.t 8)⟩, ⟨some 10, some (9, false), .fa 1 (.t 1)⟩, ⟨some 11, some (9, false), .ld true 5 (.t 10)⟩, ⟨some 12, some (9, false), .call 186 [.t 11]⟩, ⟨some 13, some (9, false), .bin .neq 3 (.t 12) (.c (.int .i64 0))⟩, ⟨some 14, none, .pick (.t 9) (.c (.bool true)) (.t 13)⟩, ⟨some 15, none, .mov (.t 14)⟩, ⟨some 16, some (15, false), .fa 7 (.t 1)⟩, ⟨some 17, some (15, false), .ld false 1 (.t 16)⟩, ⟨some 18, some (15, false), .len false (.t 17)⟩, ⟨some 19, some (15, false), .fa 1 (.t 1)⟩, ⟨some 20, some (15, false), .fa 3 (.t 19)⟩, ⟨some 21, some (15, false), .ld false 1 (.t 20)⟩, ⟨some 22, some (15, false), .bin .neq 3 (.t 18) (.t 21)⟩, ⟨some 23, none, .pick (.t 15) (.c (.bool true)) (.t 22)⟩]) (.cond (.t 23) (.seq (.reg [⟨some 2, none, .mov (.c (.bool false))⟩]) .ret) .skip)) (.seq (.seq (.reg [⟨some 3, none, .mov (.c (.int .i64 0))⟩]) (.blk 0 (.loop (.seq (.seq (.reg [⟨some 24, none, .mov (.t 3)⟩, ⟨some 25, none, .fa 7 (.t 1)⟩, ⟨some 26, none, .ld false 1 (.t 25)⟩, ⟨some 27, none, .len false (.t 26)⟩, ⟨some 28, none, .bin .lss 3 (.t 24) (.t 27)⟩]) (.cond (.t 28) .skip (.exit 0))) (.seq (.blk 1 (.seq (.reg [⟨some 31, none, .fa 7 (.t 1)⟩, ⟨some 32, none, .ld false 1 (.t 31)⟩, ⟨some 33, none, .mov (.t 3)⟩, ⟨some 34, none, .ia 4 (.t 32) (.t 33)⟩, ⟨some 35, none, .fa 0 (.t 34)⟩, ⟨some 36, none, .ld false 1 (.t 35)⟩, ⟨some 37, none, .call 74 [.t 36, .c (.int .i64 1), .c (.int .i64 6)]⟩, ⟨some 38, none, .un .not (.t 37)⟩]) (.cond (.t 38) (.seq (.reg [⟨some 2, none, .mov (.c (.bool false))⟩]) .ret) .skip))) (.reg [⟨some 29, none, .mov (.t 3)⟩, ⟨some 30, none, .bin .add 3 (.t 29) (.c (.int .i64 1))⟩, ⟨some 3, none, .mov (.t 30)⟩])))))) (.seq (.seq (.reg [⟨some 4, none, .mov (.c (.int .i64 0))⟩]) (.blk 2 (.loop (.seq (.seq (.reg [⟨some 39, none, .mov (.t 4)⟩, ⟨some 40, none, .fa 7 (.t 1)⟩, ⟨some 41, none, .ld false 1 (.t 40)⟩, ⟨some 42, none, .len false (.t 41)⟩, ⟨some 43, none, .bin .lss 3 (.t 39) (.t 42)⟩]) (.cond (.t 43) .skip (.exit 2))) (.seq (.blk 3 (.seq (.reg [⟨some 46, none, .ld true 8 (.t 1)⟩, ⟨some 47, none, .mov (.t 4)⟩, ⟨some 48, none, .call 240 [.t 46, .t 47]⟩, ⟨some 49, none, .un .not (.t 48)⟩]) (.cond (.t 49) (.seq (.reg [⟨some 2, none, .mov (.c (.bool false))⟩]) .ret) .skip))) (.reg [⟨some 44, none, .mov (.t 4)⟩, ⟨some 45, none, .bin .add 3 (.t 44) (.c (.int .i64 1))⟩, ⟨some 4, none, .mov (.t 45)⟩])))))) (.seq (.dreg (T.pure 0 ⟨some 50, none, .fa 6 (.t 1)⟩ (T.pure 1 ⟨some 51, none, .ld false 1 (.t 50)⟩ (T.pure 2 ⟨some 52, none, .ld true 8 (.t 1)⟩ (T.alt ⟨some 53, none, .call 241 [.t 52]⟩ [1, 0] (T.pure 4 ⟨some 54, none, .bin .eql 3 (.t 51) (.t 53)⟩ (T.pure 5 ⟨some 55, none, .mov (.t 54)⟩ (T.pure 6 ⟨some 56, some (55, true), .fa 6 (.t 1)⟩ (T.pure 7 ⟨some 57, some (55, true), .ld false 1 (.t 56)⟩ (T.pure 8 ⟨some 58, some (55, true), .bin .neq 3 (.t 57) (.c (.int .i64 0))⟩ (T.pure 9 ⟨some 59, none, .pick (.t 55) (.t 58) (.c (.bool false))⟩ (T.pure 10 ⟨some 2, none, .mov (.t 59)⟩ T.done))))))) T.stop))))) .ret))))
theorem code_spec_RunOk : fnC Tryz.prog Tryz.f151 = some (c_spec_RunOk, [.t 2], 60) := by kernel_rfl
def cntL (ts : List Tk) (l : List Int) : Nat := (l.filter fun b => stT ts b != 4).length
theorem cntL_yes {ts : List Tk} {l : List Int} {k : Nat} {v : Int} {y : Tk} (hv : l[k]? = some v) (hy : ts[v.toNat]? = some y) (h : (y.state != 4) = true) : cntL ts (l.take (k + 1)) = cntL ts (l.take k) + 1 := by
  rw [List.take_add_one, hv]
  simp [cntL, List.filter_append, stT_get hy, h]
theorem cntL_no {ts : List Tk} {l : List Int} {k : Nat} {v : Int} {y : Tk} (hv : l[k]? = some v) (hy : ts[v.toNat]? = some y) (h : (y.state != 4) = false) : cntL ts (l.take (k + 1)) = cntL ts (l.take k) := by
  rw [List.take_add_one, hv]
  simp [cntL, List.filter_append, stT_get hy, h]
theorem cntL_le (ts : List Tk) (l : List Int) : cntL ts l ≤ l.length := List.length_filter_le _ _
theorem befL_in {p : Pl} {n : Nat} (hn : p.tasks = n) {t v : Int} (h : v ∈ befL p t) : 0 ≤ v ∧ v < n := by
  have := (srtL_mem h).1
  rw [hn, Int.toNat_natCast] at this
  exact this
theorem befL_len {p : Pl} {n : Nat} (hn : p.tasks = n) (h12 : n ≤ 12) (h30 : p.edges.length ≤ 30) (t : Int) : (befL p t).length ≤ 1000 := by
  have h1 := srtL_le (befA p.edges t) p.tasks.toNat
  have h3 := befA_le p.edges t
  have h5 : p.tasks.toNat * (befA p.edges t).length ≤ 12 * 30 := Nat.mul_le_mul (by omega) (by omega)
  unfold befL; omega
theorem stcases (s : Int) : s = 1 ∨ s = 2 ∨ s = 3 ∨ s = 4 ∨ s = 5 ∨ s = 6 ∨ ((s == 1) = false ∧ (s == 2) = false ∧ (s == 3) = false ∧ (s == 4) = false ∧ (s == 5) = false ∧ (s == 6) = false) := by
  by_cases h1 : s = 1; · simp [h1]
  by_cases h2 : s = 2; · simp [h2]
  by_cases h3 : s = 3; · simp [h3]
  by_cases h4 : s = 4; · simp [h4]
  by_cases h5 : s = 5; · simp [h5]
  by_cases h6 : s = 6; · simp [h6]
  simp [h1, h2, h3, h4, h5, h6]
set_option maxHeartbeats 8000000 in
theorem p_spec_l09Task (r : Rn) (t : Nat) (x : Tk) (hx : r.tasks[t]? = some x) (h0 : planFault r.plan = 0) (hlen : (r.tasks.length : Int) = r.plan.tasks) : Pure Tryz.prog 240 [.agg (encRn r), .c (.val (.int .i64 t))] (.c (.val (.bool (taskB r.plan r.tasks t x)))) := by
  obtain ⟨n, hn, hn1, h12, h30, hes, hnd, -⟩ := pf_0 h0
  have htl := (List.getElem?_eq_some_iff.1 hx).1
  refine pure_fn Tryz.func240 code_spec_l09Task (by simp) ?_
  unfold c_spec_l09Task
  have hbl := befL_len hn h12 h30 t
  have h0t : (t : Int) ≥ 0 := by omega
  simp -implicitDefEqProofs only [go_sem, encRn, encPl, htl, h0t, elem_encTks hx, encTk]
  intro b b2
  refine run_call (p_spec_l06Before r.plan t n hn h12 h30) (by simp -implicitDefEqProofs only [go_sem, encRn, encPl]) fun η => ?_
  simp -implicitDefEqProofs only [go_sem, encRn, encPl]
  refine wp_loopW (fun i : Nat => St.of [(2, Bx 200 b), (5, Bx 500 b2), (6, Ni (cntL r.tasks ((befL r.plan t).take i))), (7, Hd 7 (η 0)), (8, Ni i)] [(200, Bi b _ (encRn r)), (500, Bi b2 _ (encTk x)), (7, .loose (encInts (befL r.plan t)) (η 0))]) (fun i => i ≤ (befL r.plan t).length) (fun i => (befL r.plan t).length - i) 0 (by (try dsimp only); first | omega | (simp; done) | (and_intros <;> first | omega | simp)) (wk_of [some 200, some 500, some 1700] (by simp -implicitDefEqProofs only [go_sem, encRn, encPl, encTk, List.take_zero, cntL, List.filter_nil, List.length_nil] <;> and_intros <;> first | rfl | assumption)) ?_
  rintro k hk
  by_cases hlt : k < (befL r.plan t).length
  · have hlt' : (k : Int) < (befL r.plan t).length := by omega
    obtain ⟨v, hv⟩ := get_some hlt
    have hvb := befL_in hn (List.mem_of_getElem? hv)
    have hvl : v.toNat < r.tasks.length := by omega
    have hv0 := hvb.1
    obtain ⟨y, hy⟩ := get_some hvl
    have hw : IntKind.i64.wrap ((k : Int) + 1) = ((k + 1 : Nat) : Int) := wrap64 (by omega) (by omega)
    have hcl := cntL_le r.tasks ((befL r.plan t).take k)
    rw [List.length_take] at hcl
    have hw2 : IntKind.i64.wrap ((cntL r.tasks ((befL r.plan t).take k) : Int) + 1) = ((cntL r.tasks ((befL r.plan t).take k) + 1 : Nat) : Int) := wrap64 (by omega) (by omega)
    cases hc : y.state != 4
    · have hs := cntL_no hv hy hc
      simp -implicitDefEqProofs only [go_sem, encRn, encPl, hlt, hlt', at_encInts hv, in_encInts hlt, hvl, hv0, elem_encTks hy, encTk, hc, hw]
      exact ⟨k + 1, by (try dsimp only); first | omega | assumption | (and_intros <;> first | omega | assumption), (wk_of [some 200, some 500, some 7] (by simp -implicitDefEqProofs only [go_sem, encRn, encPl, encTk, hs] <;> and_intros <;> first | rfl | assumption)), by (try dsimp only); omega⟩
    · have hs := cntL_yes hv hy hc
      simp -implicitDefEqProofs only [go_sem, encRn, encPl, hlt, hlt', at_encInts hv, in_encInts hlt, hvl, hv0, elem_encTks hy, encTk, hc, hw, hw2]
      exact ⟨k + 1, by (try dsimp only); first | omega | assumption | (and_intros <;> first | omega | assumption), (wk_of [some 200, some 500, some 7] (by simp -implicitDefEqProofs only [go_sem, encRn, encPl, encTk, hs] <;> and_intros <;> first | rfl | assumption)), by (try dsimp only); omega⟩
  have hlt' : ¬ (k : Int) < (befL r.plan t).length := by omega
  rw [List.take_of_length_le (by omega)]
  have hnd : needL r.plan r.tasks t = (cntL r.tasks (befL r.plan t) : Int) := rfl
  generalize cntL r.tasks (befL r.plan t) = N at *
  cases hne : x.need != (N : Int)
  rotate_left
  · have hb : taskB r.plan r.tasks t x = false := by
      have : ¬ x.need = N := by simpa using hne
      simp [taskB, hnd, this]
    simp -implicitDefEqProofs only [go_sem, encRn, encPl, encTk, hlt', hne, hb]
  have hne' : x.need = N := by simpa using hne
  simp -implicitDefEqProofs only [go_sem, encRn, encPl, encTk, hlt', hne]
  refine run_call (p_spec_l01In x.tri 0 r.plan.most) (by simp -implicitDefEqProofs only [go_sem, encRn, encPl, encTk]) fun η => ?_
  simp -implicitDefEqProofs only [go_sem, encRn, encPl, encTk]
  cases htr : decide (0 ≤ x.tri ∧ x.tri ≤ r.plan.most)
  · have hb : taskB r.plan r.tasks t x = false := by simp [taskB, inB, htr]
    simp -implicitDefEqProofs only [go_sem, encRn, encPl, encTk, hb]
  have htr' : 0 ≤ x.tri ∧ x.tri ≤ r.plan.most := by simpa using htr
  rcases stcases x.state with hs | hs | hs | hs | hs | hs | ⟨s1, s2, s3, s4, s5, s6⟩
  · cases ht : x.til != 0
    rotate_left
    · have hb : taskB r.plan r.tasks t x = false := by
        have : ¬ x.til = 0 := by simpa using ht
        simp [taskB, tilB, hs, this]
      simp -implicitDefEqProofs only [go_sem, encRn, encPl, encTk, htr, hs, ht, hb]
    have ht' : x.til = 0 := by simpa using ht
    have hb : taskB r.plan r.tasks t x = decide ((N : Int) > 0) := by simp [taskB, tilB, lastB, inB, hs, hnd, hne', ht', htr']
    simp -implicitDefEqProofs only [go_sem, encRn, encPl, encTk, htr, hs, ht, hb]
  · cases ht : x.til != 0
    rotate_left
    · have hb : taskB r.plan r.tasks t x = false := by
        have : ¬ x.til = 0 := by simpa using ht
        simp [taskB, tilB, hs, this]
      simp -implicitDefEqProofs only [go_sem, encRn, encPl, encTk, htr, hs, ht, hb]
    have ht' : x.til = 0 := by simpa using ht
    cases hz : (N : Int) == 0
    · have hz' : ¬ N = 0 := by simpa using hz
      have hb : taskB r.plan r.tasks t x = false := by simp [taskB, tilB, lastB, inB, hs, hnd, hne', ht', htr', hz']
      simp -implicitDefEqProofs only [go_sem, encRn, encPl, encTk, htr, hs, ht, hz, hb]
    · have hz' : N = 0 := by simpa using hz
      have hb : taskB r.plan r.tasks t x = decide (x.tri < r.plan.most) := by simp [taskB, tilB, lastB, inB, hs, hnd, hne', ht', htr', hz']
      simp -implicitDefEqProofs only [go_sem, encRn, encPl, encTk, htr, hs, ht, hz, hb]
  · simp -implicitDefEqProofs only [go_sem, encRn, encPl, encTk, htr, hs]
    refine run_call (p_spec_l01In x.til 1 1000000000) (by simp -implicitDefEqProofs only [go_sem, encRn, encPl, encTk, hs]) fun η => ?_
    simp -implicitDefEqProofs only [go_sem, encRn, encPl, encTk, hs]
    cases ht : decide (1 ≤ x.til ∧ x.til ≤ 1000000000)
    · have hb : taskB r.plan r.tasks t x = false := by simp [taskB, tilB, inB, hs, ht]
      simp -implicitDefEqProofs only [go_sem, encRn, encPl, encTk, htr, hs, hb]
    have ht' : 1 ≤ x.til ∧ x.til ≤ 1000000000 := by simpa using ht
    cases hz : (N : Int) == 0
    · have hz' : ¬ N = 0 := by simpa using hz
      have hb : taskB r.plan r.tasks t x = false := by simp [taskB, tilB, lastB, inB, hs, hnd, hne', ht', htr', hz']
      simp -implicitDefEqProofs only [go_sem, encRn, encPl, encTk, htr, hs, ht, hz, hb]
    · have hz' : N = 0 := by simpa using hz
      have hb : taskB r.plan r.tasks t x = decide (x.tri ≥ 1) := by simp [taskB, tilB, lastB, inB, hs, hnd, hne', ht', htr', hz']
      simp -implicitDefEqProofs only [go_sem, encRn, encPl, encTk, htr, hs, ht, hz, hb]
  · cases ht : x.til != 0
    rotate_left
    · have hb : taskB r.plan r.tasks t x = false := by
        have : ¬ x.til = 0 := by simpa using ht
        simp [taskB, tilB, hs, this]
      simp -implicitDefEqProofs only [go_sem, encRn, encPl, encTk, htr, hs, ht, hb]
    have ht' : x.til = 0 := by simpa using ht
    cases hz : (N : Int) == 0
    · have hz' : ¬ N = 0 := by simpa using hz
      have hb : taskB r.plan r.tasks t x = false := by simp [taskB, tilB, lastB, inB, hs, hnd, hne', ht', htr', hz']
      simp -implicitDefEqProofs only [go_sem, encRn, encPl, encTk, htr, hs, ht, hz, hb]
    · have hz' : N = 0 := by simpa using hz
      have hb : taskB r.plan r.tasks t x = decide (x.tri ≥ 1) := by simp [taskB, tilB, lastB, inB, hs, hnd, hne', ht', htr', hz']
      simp -implicitDefEqProofs only [go_sem, encRn, encPl, encTk, htr, hs, ht, hz, hb]
  · cases ht : x.til != 0
    rotate_left
    · have hb : taskB r.plan r.tasks t x = false := by
        have : ¬ x.til = 0 := by simpa using ht
        simp [taskB, tilB, hs, this]
      simp -implicitDefEqProofs only [go_sem, encRn, encPl, encTk, htr, hs, ht, hb]
    have ht' : x.til = 0 := by simpa using ht
    cases hz : (N : Int) == 0
    · have hz' : ¬ N = 0 := by simpa using hz
      have hb : taskB r.plan r.tasks t x = false := by simp [taskB, tilB, lastB, inB, hs, hnd, hne', ht', htr', hz']
      simp -implicitDefEqProofs only [go_sem, encRn, encPl, encTk, htr, hs, ht, hz, hb]
    · have hz' : N = 0 := by simpa using hz
      have hb : taskB r.plan r.tasks t x = decide (x.tri ≥ 1) := by simp [taskB, tilB, lastB, inB, hs, hnd, hne', ht', htr', hz']
      simp -implicitDefEqProofs only [go_sem, encRn, encPl, encTk, htr, hs, ht, hz, hb]
  · cases ht : x.til != 0
    rotate_left
    · have hb : taskB r.plan r.tasks t x = false := by
        have : ¬ x.til = 0 := by simpa using ht
        simp [taskB, tilB, hs, this]
      simp -implicitDefEqProofs only [go_sem, encRn, encPl, encTk, htr, hs, ht, hb]
    have ht' : x.til = 0 := by simpa using ht
    have hb : taskB r.plan r.tasks t x = true := by simp [taskB, tilB, lastB, inB, hs, hnd, hne', ht', htr']
    simp -implicitDefEqProofs only [go_sem, encRn, encPl, encTk, htr, hs, ht, hb]
  · have hb : taskB r.plan r.tasks t x = false := by
      have h1 : ¬ x.state = 1 := by simpa using s1
      have h2 : ¬ x.state = 2 := by simpa using s2
      have h3 : ¬ x.state = 3 := by simpa using s3
      have h4 : ¬ x.state = 4 := by simpa using s4
      have h5 : ¬ x.state = 5 := by simpa using s5
      have h6 : ¬ x.state = 6 := by simpa using s6
      have : ¬ (1 ≤ x.state ∧ x.state ≤ 6) := by omega
      simp [taskB, inB, this]
    have s3' : (x.state != 3) = true := by simp [bne, s3]
    cases ht : x.til != 0
    · simp -implicitDefEqProofs only [go_sem, encRn, encPl, encTk, htr, s1, s2, s3, s3', s4, s5, s6, ht, hb]
    · simp -implicitDefEqProofs only [go_sem, encRn, encPl, encTk, htr, s1, s2, s3, s3', s4, s5, s6, ht, hb]
end Go.Proofs.YtmnpailnelmpiaaGreat
set_option linter.unusedSimpArgs false
set_option linter.unusedVariables false
set_option maxRecDepth 100000
namespace Go.Proofs.YtmnpailnelmpiaaGreat
open Go.RowKit Go.Sort
theorem ib_t {a b : Nat} (h : ((a : Int) == (b : Int)) = true) : a = b := by have := eq_of_beq h; omega
theorem ib_f {a b : Nat} (h : ((a : Int) == (b : Int)) = false) : ¬ a = b := by have := ne_of_beq_false h; omega
/-- How many tasks of each state there are among the first k. -/
def cN (ts : List Tk) (k : Nat) : List Int := (List.range 7).map fun (s : Nat) => (((tinF (s : Int) ts k).length : Nat) : Int)
theorem cN_len (ts : List Tk) (k : Nat) : (cN ts k).length = 7 := by simp [cN]
theorem cN_get {ts : List Tk} {k s : Nat} (h : s < 7) : (cN ts k)[s]? = some (((tinF (s : Int) ts k).length : Nat) : Int) := by simp [cN, h]
theorem cN_succ {ts : List Tk} {k : Nat} {x : Tk} (hx : ts[k]? = some x) (h : 1 ≤ x.state ∧ x.state ≤ 6) : (cN ts k).set x.state.toNat (((tinF x.state ts k).length + 1 : Nat) : Int) = cN ts (k + 1) := by
  apply List.ext_getElem?
  intro s
  rw [List.getElem?_set, cN_len]
  by_cases e : x.state.toNat = s
  · subst e
    rw [if_pos rfl, if_pos (by omega), cN_get (by omega), tinF_succ hx]
    have : ((x.state.toNat : Nat) : Int) = x.state := by omega
    simp [this]
  · rw [if_neg e]
    by_cases hs : s < 7
    · rw [cN_get hs, cN_get hs, tinF_succ hx, if_neg (by omega)]; simp
    · rw [List.getElem?_eq_none (by rw [cN_len]; omega), List.getElem?_eq_none (by rw [cN_len]; omega)]
set_option maxHeartbeats 8000000 in
theorem p_spec_l09State (r : Rn) (hst : ∀ x ∈ r.tasks, 1 ≤ x.state ∧ x.state ≤ 6) (hl : r.tasks.length ≤ 2000000) : Pure Tryz.prog 241 [.agg (encRn r)] (.c (.val (.int .i64 (stOf r.tasks)))) := by
  refine pure_fn Tryz.func241 code_spec_l09State (by simp) ?_
  unfold c_spec_l09State
  have hz : D.sl 1 tInt [.val (.int .i64 0), .val (.int .i64 0), .val (.int .i64 0), .val (.int .i64 0), .val (.int .i64 0), .val (.int .i64 0), .val (.int .i64 0)] = encInts (cN r.tasks 0) := rfl
  simp -implicitDefEqProofs only [go_sem, encRn, encPl, hz]
  intro b η0
  refine wp_loopW (fun i : Nat × Heads => St.of [(1, Bx 100 b), (3, Hd 3 i.2), (4, Ni i.1)] [(100, Bi b _ (encRn r)), (3, .loose (encInts (cN r.tasks i.1)) i.2)]) (fun i => i.1 ≤ r.tasks.length) (fun i => r.tasks.length - i.1) (0, η0) (by (try dsimp only); first | omega | (simp; done) | (and_intros <;> first | omega | simp)) (wk_of [some 100, some 600] (by simp -implicitDefEqProofs only [go_sem, encRn, encPl] <;> and_intros <;> first | rfl | assumption)) ?_
  rintro ⟨k, η⟩ hk
  dsimp only at hk
  by_cases hlt : k < r.tasks.length
  · have hlt' : (k : Int) < r.tasks.length := by omega
    obtain ⟨x, hx⟩ := get_some hlt
    have hs := hst x (List.mem_of_getElem? hx)
    have hs0 := hs.1
    have hs1 : x.state ≥ 0 := by omega
    have hs2 : 0 ≤ x.state := by omega
    have hs7 : x.state.toNat < 7 := by omega
    have hsn : x.state.toNat < (cN r.tasks k).length := by rw [cN_len]; exact hs7
    have hw : IntKind.i64.wrap ((k : Int) + 1) = ((k + 1 : Nat) : Int) := wrap64 (by omega) (by omega)
    have hg := cN_get (ts := r.tasks) (k := k) hs7
    rw [show ((x.state.toNat : Nat) : Int) = x.state by omega] at hg
    have hle := tinF_len x.state r.tasks k
    have hw2 : IntKind.i64.wrap (((tinF x.state r.tasks k).length : Int) + 1) = (((tinF x.state r.tasks k).length + 1 : Nat) : Int) := wrap64 (by omega) (by omega)
    have hset := cN_succ hx hs
    generalize cN r.tasks k = L at *
    simp -implicitDefEqProofs only [go_sem, encRn, encPl, hlt, hlt', elem_encTks hx, encTk, hs1, hs2, hsn, at_encInts hg, in_encInts hsn, hw2, put_encInts _ hsn, hset, hw]
    exact ⟨(k + 1, η), by (try dsimp only); first | omega | assumption | (and_intros <;> first | omega | assumption), (wk_of [some 100, some 3] (by simp -implicitDefEqProofs only [go_sem, encRn, encPl] <;> and_intros <;> first | rfl | assumption)), by (try dsimp only); omega⟩
  have hlt' : ¬ (k : Int) < r.tasks.length := by omega
  obtain rfl : k = r.tasks.length := by omega
  have hsum := tin_sum hst r.tasks.length (Nat.le_refl _)
  have hdef : stOf r.tasks = if (tinF 4 r.tasks r.tasks.length).length = r.tasks.length then 2 else if (tinF 5 r.tasks r.tasks.length).length = 1 ∧ (tinF 4 r.tasks r.tasks.length).length + (tinF 5 r.tasks r.tasks.length).length + (tinF 6 r.tasks r.tasks.length).length = r.tasks.length then 3 else if (tinF 5 r.tasks r.tasks.length).length = 0 ∧ 0 < (tinF 6 r.tasks r.tasks.length).length ∧ (tinF 4 r.tasks r.tasks.length).length + (tinF 5 r.tasks r.tasks.length).length + (tinF 6 r.tasks r.tasks.length).length = r.tasks.length then 4 else if (tinF 5 r.tasks r.tasks.length).length = 0 ∧ (tinF 6 r.tasks r.tasks.length).length = 0 then 1 else 0 := rfl
  have g1 : (cN r.tasks r.tasks.length)[1]? = some (((tinF 1 r.tasks r.tasks.length).length : Nat) : Int) := cN_get (s := 1) (by omega)
  have g2 : (cN r.tasks r.tasks.length)[2]? = some (((tinF 2 r.tasks r.tasks.length).length : Nat) : Int) := cN_get (s := 2) (by omega)
  have g3 : (cN r.tasks r.tasks.length)[3]? = some (((tinF 3 r.tasks r.tasks.length).length : Nat) : Int) := cN_get (s := 3) (by omega)
  have g4 : (cN r.tasks r.tasks.length)[4]? = some (((tinF 4 r.tasks r.tasks.length).length : Nat) : Int) := cN_get (s := 4) (by omega)
  have g5 : (cN r.tasks r.tasks.length)[5]? = some (((tinF 5 r.tasks r.tasks.length).length : Nat) : Int) := cN_get (s := 5) (by omega)
  have g6 : (cN r.tasks r.tasks.length)[6]? = some (((tinF 6 r.tasks r.tasks.length).length : Nat) : Int) := cN_get (s := 6) (by omega)
  have hcl := cN_len r.tasks r.tasks.length
  rw [hdef]
  generalize hL : r.tasks.length = len at *
  generalize (tinF 1 r.tasks len).length = c1 at *
  generalize (tinF 2 r.tasks len).length = c2 at *
  generalize (tinF 3 r.tasks len).length = c3 at *
  generalize (tinF 4 r.tasks len).length = c4 at *
  generalize (tinF 5 r.tasks len).length = c5 at *
  generalize (tinF 6 r.tasks len).length = c6 at *
  generalize cN r.tasks len = L at *
  clear hdef
  have i1 : 1 < L.length := by omega
  have i2 : 2 < L.length := by omega
  have i3 : 3 < L.length := by omega
  have i4 : 4 < L.length := by omega
  have i5 : 5 < L.length := by omega
  have i6 : 6 < L.length := by omega
  have w12 : IntKind.i64.wrap ((c1 : Int) + c2) = ((c1 + c2 : Nat) : Int) := by rw [wrap64 (by omega) (by omega)]; omega
  have w123 : IntKind.i64.wrap (((c1 + c2 : Nat) : Int) + c3) = ((c1 + c2 + c3 : Nat) : Int) := by rw [wrap64 (by omega) (by omega)]; omega
  simp -implicitDefEqProofs only [go_sem, encRn, encPl, hL, hlt', i1, i2, i3, i4, i5, i6, at_encInts g1, at_encInts g2, at_encInts g3, at_encInts g4, at_encInts g5, at_encInts g6, in_encInts i1, in_encInts i2, in_encInts i3, in_encInts i4, in_encInts i5, in_encInts i6, w12, w123]
  cases hA : (c4 : Int) == len
  rotate_left
  · have hA' : c4 = len := ib_t hA
    rw [if_pos (by omega)]
    simp -implicitDefEqProofs only [go_sem, encRn, encPl, hL, i1, i2, i3, i4, i5, i6, at_encInts g1, at_encInts g2, at_encInts g3, at_encInts g4, at_encInts g5, at_encInts g6, in_encInts i1, in_encInts i2, in_encInts i3, in_encInts i4, in_encInts i5, in_encInts i6, w12, w123, hA]
  have hA' : ¬ c4 = len := ib_f hA
  cases hB : (c5 : Int) == 1
  rotate_left
  · have hB' : c5 = 1 := ib_t hB
    have hB0 : ((c5 : Int) == 0) = false := by rw [hB']; rfl
    cases hR : ((c1 + c2 + c3 : Nat) : Int) == 0
    · have hR' : ¬ c1 + c2 + c3 = 0 := ib_f hR
      rw [if_neg (by omega), if_neg (by omega), if_neg (by omega), if_neg (by omega)]
      simp -implicitDefEqProofs only [go_sem, encRn, encPl, hL, i1, i2, i3, i4, i5, i6, at_encInts g1, at_encInts g2, at_encInts g3, at_encInts g4, at_encInts g5, at_encInts g6, in_encInts i1, in_encInts i2, in_encInts i3, in_encInts i4, in_encInts i5, in_encInts i6, w12, w123, hA, hB, hB0, hR]
    · have hR' : c1 + c2 + c3 = 0 := ib_t hR
      rw [if_neg (by omega), if_pos (by omega)]
      simp -implicitDefEqProofs only [go_sem, encRn, encPl, hL, i1, i2, i3, i4, i5, i6, at_encInts g1, at_encInts g2, at_encInts g3, at_encInts g4, at_encInts g5, at_encInts g6, in_encInts i1, in_encInts i2, in_encInts i3, in_encInts i4, in_encInts i5, in_encInts i6, w12, w123, hA, hB, hR]
  have hB' : ¬ c5 = 1 := ib_f hB
  cases hC : (c5 : Int) == 0
  · have hC' : ¬ c5 = 0 := ib_f hC
    rw [if_neg (by omega), if_neg (by omega), if_neg (by omega), if_neg (by omega)]
    simp -implicitDefEqProofs only [go_sem, encRn, encPl, hL, i1, i2, i3, i4, i5, i6, at_encInts g1, at_encInts g2, at_encInts g3, at_encInts g4, at_encInts g5, at_encInts g6, in_encInts i1, in_encInts i2, in_encInts i3, in_encInts i4, in_encInts i5, in_encInts i6, w12, w123, hA, hB, hC]
  have hC' : c5 = 0 := ib_t hC
  by_cases h6 : 0 < c6
  · have h6' : (c6 : Int) > 0 := by omega
    have h60 : ((c6 : Int) == 0) = false := by simp only [beq_eq_false_iff_ne, ne_eq]; omega
    cases hR : ((c1 + c2 + c3 : Nat) : Int) == 0
    · have hR' : ¬ c1 + c2 + c3 = 0 := ib_f hR
      rw [if_neg (by omega), if_neg (by omega), if_neg (by omega), if_neg (by omega)]
      simp -implicitDefEqProofs only [go_sem, encRn, encPl, hL, i1, i2, i3, i4, i5, i6, at_encInts g1, at_encInts g2, at_encInts g3, at_encInts g4, at_encInts g5, at_encInts g6, in_encInts i1, in_encInts i2, in_encInts i3, in_encInts i4, in_encInts i5, in_encInts i6, w12, w123, hA, hB, hC, h6', h60, hR]
    · have hR' : c1 + c2 + c3 = 0 := ib_t hR
      rw [if_neg (by omega), if_neg (by omega), if_pos (by omega)]
      simp -implicitDefEqProofs only [go_sem, encRn, encPl, hL, i1, i2, i3, i4, i5, i6, at_encInts g1, at_encInts g2, at_encInts g3, at_encInts g4, at_encInts g5, at_encInts g6, in_encInts i1, in_encInts i2, in_encInts i3, in_encInts i4, in_encInts i5, in_encInts i6, w12, w123, hA, hB, hC, h6', hR]
  · have h6' : ¬ (c6 : Int) > 0 := by omega
    have h60 : ((c6 : Int) == 0) = true := by simp only [beq_iff_eq]; omega
    rw [if_neg (by omega), if_neg (by omega), if_neg (by omega), if_pos (by omega)]
    simp -implicitDefEqProofs only [go_sem, encRn, encPl, hL, i1, i2, i3, i4, i5, i6, at_encInts g1, at_encInts g2, at_encInts g3, at_encInts g4, at_encInts g5, at_encInts g6, in_encInts i1, in_encInts i2, in_encInts i3, in_encInts i4, in_encInts i5, in_encInts i6, w12, w123, hA, hB, hC, h6', h60]
end Go.Proofs.YtmnpailnelmpiaaGreat
set_option linter.unusedSimpArgs false
set_option linter.unusedVariables false
set_option maxRecDepth 100000
namespace Go.Proofs.YtmnpailnelmpiaaGreat
open Go.RowKit Go.Sort
theorem runOk_yes {r : Rn} (h1 : inB r.id 1 9999 = true) (h2 : planFault r.plan = 0) (h3 : (r.tasks.length : Int) = r.plan.tasks) (h4 : ∀ (t : Nat) (x : Tk), r.tasks[t]? = some x → taskB r.plan r.tasks t x = true) (h5 : r.state = stOf r.tasks) (h6 : r.state ≠ 0) : runOkB r = true := runOk_iff.2 ⟨h1, h2, h3, h4, h5, h6⟩
theorem taskB_st {p : Pl} {ts : List Tk} {t : Nat} {x : Tk} (h : ¬ (1 ≤ x.state ∧ x.state ≤ 6)) : taskB p ts t x = false := by simp [taskB, inB, h]
set_option maxHeartbeats 8000000 in
theorem p_spec_RunOk (r : Rn) : Pure Tryz.prog 151 [.agg (encRn r)] (.c (.val (.bool (runOkB r)))) := by
  refine pure_fn Tryz.func151 code_spec_RunOk (by simp) ?_
  unfold c_spec_RunOk
  simp -implicitDefEqProofs only [go_sem, encRn, encPl]
  intro b
  refine run_call (p_spec_l01In r.id 1 9999) (by simp -implicitDefEqProofs only [go_sem, encRn, encPl]) fun η => ?_
  simp -implicitDefEqProofs only [go_sem, encRn, encPl]
  cases h1 : decide (1 ≤ r.id ∧ r.id ≤ 9999)
  · have hb : runOkB r = false := runOk_no fun h => by have := h.id; simp [inB, h1] at this
    simp -implicitDefEqProofs only [go_sem, encRn, encPl, h1, hb]
  simp -implicitDefEqProofs only [go_sem, encRn, encPl, h1]
  refine run_call (p_spec_PlanFault r.plan) (by simp -implicitDefEqProofs only [go_sem, encRn, encPl]) fun η => ?_
  simp -implicitDefEqProofs only [go_sem, encRn, encPl]
  cases h2 : planFault r.plan != 0
  rotate_left
  · have hb : runOkB r = false := runOk_no fun h => by have := h.plan; simp [this] at h2
    simp -implicitDefEqProofs only [go_sem, encRn, encPl, h2, hb]
  have h0 : planFault r.plan = 0 := by simpa using h2
  obtain ⟨n, hn, hn1, h12, h30, hes, hnd, -⟩ := pf_0 h0
  simp -implicitDefEqProofs only [go_sem, encRn, encPl, h2]
  cases h3 : (r.tasks.length : Int) != r.plan.tasks
  rotate_left
  · have hb : runOkB r = false := runOk_no fun h => by have := h.len; simp [this] at h3
    simp -implicitDefEqProofs only [go_sem, encRn, encPl, h3, hb]
  have hlen : (r.tasks.length : Int) = r.plan.tasks := by simpa using h3
  have hlb : r.tasks.length ≤ 12 := by omega
  simp -implicitDefEqProofs only [go_sem, encRn, encPl, h3]
  refine wp_loopW (fun i : Nat => St.of [(1, Bx 100 b), (3, Ni i)] [(100, Bi b _ (encRn r))]) (fun i => i ≤ r.tasks.length ∧ ∀ x ∈ r.tasks.take i, 1 ≤ x.state ∧ x.state ≤ 6) (fun i => r.tasks.length - i) 0 (by (try dsimp only); first | omega | (simp; done) | (and_intros <;> first | omega | simp)) (wk_of [some 100] (by simp -implicitDefEqProofs only [go_sem, encRn, encPl] <;> and_intros <;> first | rfl | assumption)) ?_
  rintro k ⟨hk, hko⟩
  by_cases hlt : k < r.tasks.length
  · have hlt' : (k : Int) < r.tasks.length := by omega
    obtain ⟨x, hx⟩ := get_some hlt
    have hw : IntKind.i64.wrap ((k : Int) + 1) = ((k + 1 : Nat) : Int) := wrap64 (by omega) (by omega)
    simp -implicitDefEqProofs only [go_sem, encRn, encPl, hlt, hlt', elem_encTks hx, encTk]
    refine run_call (p_spec_l01In x.state 1 6) (by simp -implicitDefEqProofs only [go_sem, encRn, encPl]) fun η => ?_
    simp -implicitDefEqProofs only [go_sem, encRn, encPl]
    cases hs : decide (1 ≤ x.state ∧ x.state ≤ 6)
    · have hb : runOkB r = false := runOk_no fun h => by have := h.tasks k x hx; rw [taskB_st (by simpa using hs)] at this; cases this
      simp -implicitDefEqProofs only [go_sem, encRn, encPl, hs, hb]
    · have hs' : 1 ≤ x.state ∧ x.state ≤ 6 := by simpa using hs
      simp -implicitDefEqProofs only [go_sem, encRn, encPl, hs, hw]
      exact ⟨k + 1, ⟨hlt, fun y hy => by rw [List.take_add_one, hx] at hy; simp at hy; rcases hy with hy | hy; exact hko y hy; exact hy ▸ hs'⟩, (wk_of [some 100] (by simp -implicitDefEqProofs only [go_sem, encRn, encPl] <;> and_intros <;> first | rfl | assumption)), by (try dsimp only); omega⟩
  have hlt' : ¬ (k : Int) < r.tasks.length := by omega
  rw [List.take_of_length_le (by omega)] at hko
  simp -implicitDefEqProofs only [go_sem, encRn, encPl, hlt']
  refine wp_loopW (fun i : Nat => St.of [(1, Bx 100 b), (4, Ni i)] [(100, Bi b _ (encRn r))]) (fun i => i ≤ r.tasks.length ∧ ∀ (t : Nat) (x : Tk), t < i → r.tasks[t]? = some x → taskB r.plan r.tasks t x = true) (fun i => r.tasks.length - i) 0 (by (try dsimp only); first | omega | (simp; done) | (and_intros <;> first | omega | simp)) (wk_of [some 100] (by simp -implicitDefEqProofs only [go_sem, encRn, encPl] <;> and_intros <;> first | rfl | assumption)) ?_
  rintro j ⟨hj, hjo⟩
  by_cases hjl : j < r.tasks.length
  · have hjl' : (j : Int) < r.tasks.length := by omega
    obtain ⟨x, hx⟩ := get_some hjl
    have hw : IntKind.i64.wrap ((j : Int) + 1) = ((j + 1 : Nat) : Int) := wrap64 (by omega) (by omega)
    simp -implicitDefEqProofs only [go_sem, encRn, encPl, hjl']
    refine run_call (p_spec_l09Task r j x hx h0 hlen) (by simp -implicitDefEqProofs only [go_sem, encRn, encPl]) fun η => ?_
    simp -implicitDefEqProofs only [go_sem, encRn, encPl]
    cases hs : taskB r.plan r.tasks j x
    · have hb : runOkB r = false := runOk_no fun h => by have := h.tasks j x hx; rw [hs] at this; cases this
      simp -implicitDefEqProofs only [go_sem, encRn, encPl, hs, hb]
    · simp -implicitDefEqProofs only [go_sem, encRn, encPl, hs, hw]
      exact ⟨j + 1, ⟨hjl, fun t y ht hy => by rcases Nat.lt_or_ge t j with h' | h'; exact hjo t y h' hy; obtain rfl : t = j := (by omega); rw [hx] at hy; cases hy; exact hs⟩, (wk_of [some 100] (by simp -implicitDefEqProofs only [go_sem, encRn, encPl] <;> and_intros <;> first | rfl | assumption)), by (try dsimp only); omega⟩
  have hjl' : ¬ (j : Int) < r.tasks.length := by omega
  have hall : ∀ (t : Nat) (x : Tk), r.tasks[t]? = some x → taskB r.plan r.tasks t x = true := fun t x hx => hjo t x (by have := (List.getElem?_eq_some_iff.1 hx).1; omega) hx
  simp -implicitDefEqProofs only [go_sem, encRn, encPl, hjl']
  refine run_call (p_spec_l09State r hko (by omega)) (by simp -implicitDefEqProofs only [go_sem, encRn, encPl]) fun η => ?_
  simp -implicitDefEqProofs only [go_sem, encRn, encPl]
  cases h5 : r.state == stOf r.tasks
  · have hb : runOkB r = false := runOk_no fun h => by have := h.state; simp [← this] at h5
    simp -implicitDefEqProofs only [go_sem, encRn, encPl, h5, hb]
  cases h6 : r.state != 0
  · have hb : runOkB r = false := runOk_no fun h => h.live (by simpa using h6)
    simp -implicitDefEqProofs only [go_sem, encRn, encPl, h5, h6, hb]
  · have hb : runOkB r = true := runOk_yes (by simpa [inB] using h1) h0 hlen hall (by simpa using h5) (by simpa using h6)
    simp -implicitDefEqProofs only [go_sem, encRn, encPl, h5, h6, hb]
end Go.Proofs.YtmnpailnelmpiaaGreat
set_option linter.unusedSimpArgs false
set_option linter.unusedVariables false
set_option maxRecDepth 100000
namespace Go.Proofs.YtmnpailnelmpiaaGreat
open Go.RowKit Go.Sort
def c_impl_needOf : C := .seq (.reg [⟨some 2, none, .box 108 8 (.t 0)⟩, ⟨some 4, none, .mov (.c (.int .i64 0))⟩]) (.seq (.reg [⟨some 5, none, .mov (.c (.int .i64 0))⟩]) (.seq (.seq (.reg [⟨some 8, none, .fa 1 (.t 2)⟩, ⟨some 9, none, .ld true 5 (.t 8)⟩, ⟨some 10, none, .mov (.t 1)⟩, ⟨some 11, none, .call 273 [.t 9, .t 10]⟩, ⟨some 12, none, .len false (.t 11)⟩, ⟨some 13, none, .mov (.c (.int .i64 0))⟩]) (.blk 0 (.loop (.seq (.reg [⟨some 14, none, .bin .lss 3 (.t 13) (.t 12)⟩]) (.seq (.cond (.t 14) .skip (.exit 0)) (.seq (.blk 1 (.seq (.reg [⟨some 15, none, .ia 1 (.t 11) (.t 13)⟩, ⟨some 16, none, .ld false 1 (.t 15)⟩, ⟨some 7, none, .mov (.t 16)⟩]) (.seq (.reg [⟨some 17, none, .fa 7 (.t 2)⟩, ⟨some 18, none, .ld false 1 (.t 17)⟩, ⟨some 19, none, .mov (.t 7)⟩, ⟨some 20, none, .ia 4 (.t 18) (.t 19)⟩, ⟨some 21, none, .fa 0 (.t 20)⟩, ⟨some 22, none, .ld false 1 (.t 21)⟩, ⟨some 23, none, .bin .neq 3 (.t 22) (.c (.int .i64 4))⟩]) (.cond (.t 23) (.reg [⟨some 24, none, .mov (.t 5)⟩, ⟨some 25, none, .bin .add 3 (.t 24) (.c (.int .i64 1))⟩, ⟨some 5, none, .mov (.t 25)⟩]) .skip)))) (.reg [⟨some 26, none, .bin .add 3 (.t 13) (.c (.int .i64 1))⟩, ⟨some 13, none, .mov (.t 26)⟩]))))))) (.seq (.reg [⟨some 27, none, .mov (.t 5)⟩, ⟨some 4, none, .mov (.t 27)⟩]) .ret)))
theorem code_impl_needOf : fnC Tryz.prog Tryz.f282 = some (c_impl_needOf, [.t 4], 28) := by kernel_rfl
def c_impl_taskOk : C := .seq (.reg [⟨some 2, none, .box 108 8 (.t 0)⟩, ⟨some 4, none, .mov (.c (.bool false))⟩]) (.seq (.reg [⟨some 6, none, .fa 7 (.t 2)⟩, ⟨some 7, none, .ld false 1 (.t 6)⟩, ⟨some 8, none, .mov (.t 1)⟩, ⟨some 9, none, .ia 4 (.t 7) (.t 8)⟩, ⟨some 10, none, .ld true 4 (.t 9)⟩, ⟨some 5, none, .alloc 172 [.int .i64 0, .int .i64 0, .int .i64 0, .int .i64 0]⟩, ⟨none, none, .st 4 [none, none, none, none] (.t 5) (.t 10)⟩]) (.seq (.seq (.dreg (T.pure 0 ⟨some 11, none, .fa 0 (.t 5)⟩ (T.pure 1 ⟨some 12, none, .ld false 1 (.t 11)⟩ (T.alt ⟨some 13, none, .call 78 [.t 12, .c (.int .i64 1), .c (.int .i64 6)]⟩ [] (T.pure 3 ⟨some 14, none, .un .not (.t 13)⟩ (T.pure 4 ⟨some 15, none, .mov (.t 14)⟩ (T.pure 5 ⟨some 16, some (15, false), .fa 1 (.t 5)⟩ (T.pure 6 ⟨some 17, some (15, false), .ld false 1 (.t 16)⟩ (T.pure 7 ⟨some 18, some (15, false), .ld true 8 (.t 2)⟩ (T.pure 8 ⟨some 19, some (15, false), .mov (.t 1)⟩ (T.alt ⟨some 20, some (15, false), .call 282 [.t 18, .t 19]⟩ [6, 5] (T.pure 10 ⟨some 21, some (15, false), .bin .neq 3 (.t 17) (.t 20)⟩ (T.pure 11 ⟨some 22, none, .pick (.t 15) (.c (.bool true)) (.t 21)⟩ (T.pure 12 ⟨some 23, none, .mov (.t 22)⟩ (T.pure 13 ⟨some 24, some (23, false), .fa 2 (.t 5)⟩ (T.pure 14 ⟨some 25, some (23, false), .ld false 1 (.t 24)⟩ (T.pure 15 ⟨some 26, some (23, false), .fa 1 (.t 2)⟩ (T.pure 16 ⟨some 27, some (23, false), .fa 1 (.t 26)⟩ (T.pure 17 ⟨some 28, some (23, false), .ld false 1 (.t 27)⟩ (T.alt ⟨some 29, some (23, false), .call 78 [.t 25, .c (.int .i64 0), .t 28]⟩ [] (T.pure 19 ⟨some 30, some (23, false), .un .not (.t 29)⟩ (T.pure 20 ⟨some 31, none, .pick (.t 23) (.c (.bool true)) (.t 30)⟩ T.done)) T.stop))))))))) T.stop))))))) T.stop)))) (.cond (.t 31) (.seq (.reg [⟨some 4, none, .mov (.c (.bool false))⟩]) .ret) .skip)) (.seq (.seq (.reg [⟨some 32, none, .fa 0 (.t 5)⟩, ⟨some 33, none, .ld false 1 (.t 32)⟩, ⟨some 34, none, .bin .eql 3 (.t 33) (.c (.int .i64 3))⟩, ⟨some 35, none, .mov (.t 34)⟩, ⟨some 36, some (35, true), .fa 3 (.t 5)⟩, ⟨some 37, some (35, true), .ld false 1 (.t 36)⟩, ⟨some 38, some (35, true), .call 78 [.t 37, .c (.int .i64 1), .c (.int .i64 1000000000)]⟩, ⟨some 39, some (35, true), .un .not (.t 38)⟩, ⟨some 40, none, .pick (.t 35) (.t 39) (.c (.bool false))⟩, ⟨some 41, none, .mov (.t 40)⟩, ⟨some 42, some (41, false), .fa 0 (.t 5)⟩, ⟨some 43, some (41, false), .ld false 1 (.t 42)⟩, ⟨some 44, some (41, false), .bin .neq 3 (.t 43) (.c (.int .i64 3))⟩, ⟨some 45, some (41, false), .mov (.t 44)⟩, ⟨some 46, some (45, true), .fa 3 (.t 5)⟩, ⟨some 47, some (45, true), .ld false 1 (.t 46)⟩, ⟨some 48, some (45, true), .bin .neq 3 (.t 47) (.c (.int .i64 0))⟩, ⟨some 49, some (41, false), .pick (.t 45) (.t 48) (.c (.bool false))⟩, ⟨some 50, none, .pick (.t 41) (.c (.bool true)) (.t 49)⟩]) (.cond (.t 50) (.seq (.reg [⟨some 4, none, .mov (.c (.bool false))⟩]) .ret) .skip)) (.seq (.seq (.reg [⟨some 51, none, .fa 0 (.t 5)⟩, ⟨some 52, none, .ld false 1 (.t 51)⟩]) (.blk 0 (.seq (.reg [⟨some 54, none, .bin .eql 3 (.t 52) (.c (.int .i64 1))⟩, ⟨some 53, none, .mov (.t 54)⟩]) (.cond (.t 53) (.seq (.reg [⟨some 55, none, .fa 1 (.t 5)⟩, ⟨some 56, none, .ld false 1 (.t 55)⟩, ⟨some 57, none, .bin .gtr 3 (.t 56) (.c (.int .i64 0))⟩, ⟨some 4, none, .mov (.t 57)⟩]) .ret) (.seq (.reg [⟨some 59, none, .bin .eql 3 (.t 52) (.c (.int .i64 2))⟩, ⟨some 58, none, .mov (.t 59)⟩]) (.cond (.t 58) (.seq (.reg [⟨some 60, none, .fa 1 (.t 5)⟩, ⟨some 61, none, .ld false 1 (.t 60)⟩, ⟨some 62, none, .bin .eql 3 (.t 61) (.c (.int .i64 0))⟩, ⟨some 63, none, .mov (.t 62)⟩, ⟨some 64, some (63, true), .fa 2 (.t 5)⟩, ⟨some 65, some (63, true), .ld false 1 (.t 64)⟩, ⟨some 66, some (63, true), .fa 1 (.t 2)⟩, ⟨some 67, some (63, true), .fa 1 (.t 66)⟩, ⟨some 68, some (63, true), .ld false 1 (.t 67)⟩, ⟨some 69, some (63, true), .bin .lss 3 (.t 65) (.t 68)⟩, ⟨some 70, none, .pick (.t 63) (.t 69) (.c (.bool false))⟩, ⟨some 4, none, .mov (.t 70)⟩]) .ret) (.seq (.seq (.reg [⟨some 72, none, .bin .eql 3 (.t 52) (.c (.int .i64 3))⟩, ⟨some 71, none, .mov (.t 72)⟩]) (.cond (.t 71) .skip (.seq (.reg [⟨some 73, none, .bin .eql 3 (.t 52) (.c (.int .i64 4))⟩, ⟨some 71, none, .mov (.t 73)⟩]) (.cond (.t 71) .skip (.reg [⟨some 74, none, .bin .eql 3 (.t 52) (.c (.int .i64 5))⟩, ⟨some 71, none, .mov (.t 74)⟩]))))) (.cond (.t 71) (.seq (.reg [⟨some 75, none, .fa 1 (.t 5)⟩, ⟨some 76, none, .ld false 1 (.t 75)⟩, ⟨some 77, none, .bin .eql 3 (.t 76) (.c (.int .i64 0))⟩, ⟨some 78, none, .mov (.t 77)⟩, ⟨some 79, some (78, true), .fa 2 (.t 5)⟩, ⟨some 80, some (78, true), .ld false 1 (.t 79)⟩, ⟨some 81, some (78, true), .bin .geq 3 (.t 80) (.c (.int .i64 1))⟩, ⟨some 82, none, .pick (.t 78) (.t 81) (.c (.bool false))⟩, ⟨some 4, none, .mov (.t 82)⟩]) .ret) .skip)))))))) (.seq (.reg [⟨some 4, none, .mov (.c (.bool true))⟩]) .ret)))))
theorem code_impl_taskOk : fnC Tryz.prog Tryz.f235 = some (c_impl_taskOk, [.t 4], 83) := by kernel_rfl
def c_impl_TasksIn : C := .seq (.reg [⟨some 2, none, .box 108 8 (.t 0)⟩, ⟨some 4, none, .mov (.c (.slice none 0 0))⟩]) (.seq (.reg [⟨some 5, none, .mov (.c (.slice none 0 0))⟩]) (.seq (.seq (.reg [⟨some 8, none, .fa 7 (.t 2)⟩, ⟨some 9, none, .ld false 1 (.t 8)⟩, ⟨some 10, none, .len false (.t 9)⟩, ⟨some 11, none, .mov (.c (.int .i64 0))⟩]) (.blk 0 (.loop (.seq (.reg [⟨some 12, none, .bin .lss 3 (.t 11) (.t 10)⟩]) (.seq (.cond (.t 12) .skip (.exit 0)) (.seq (.blk 1 (.seq (.reg [⟨some 13, none, .mov (.t 11)⟩, ⟨some 14, none, .ia 4 (.t 9) (.t 11)⟩, ⟨some 15, none, .ld true 4 (.t 14)⟩, ⟨some 7, none, .alloc 172 [.int .i64 0, .int .i64 0, .int .i64 0, .int .i64 0]⟩, ⟨some 6, none, .mov (.t 13)⟩, ⟨none, none, .st 4 [none, none, none, none] (.t 7) (.t 15)⟩]) (.seq (.reg [⟨some 16, none, .fa 0 (.t 7)⟩, ⟨some 17, none, .ld false 1 (.t 16)⟩, ⟨some 18, none, .mov (.t 1)⟩, ⟨some 19, none, .bin .eql 3 (.t 17) (.t 18)⟩]) (.cond (.t 19) (.reg [⟨some 20, none, .mov (.t 5)⟩, ⟨some 21, none, .mov (.t 6)⟩, ⟨some 22, none, .bsl 3 1 1 [none] [(0, 1, .t 21)]⟩, ⟨some 23, none, .app 3 1 8 (.t 20) (.t 22)⟩, ⟨some 5, none, .mov (.t 23)⟩]) .skip)))) (.reg [⟨some 24, none, .bin .add 3 (.t 11) (.c (.int .i64 1))⟩, ⟨some 11, none, .mov (.t 24)⟩]))))))) (.seq (.reg [⟨some 25, none, .mov (.t 5)⟩, ⟨some 4, none, .mov (.t 25)⟩]) .ret)))
theorem code_impl_TasksIn : fnC Tryz.prog Tryz.f214 = some (c_impl_TasksIn, [.t 4], 26) := by kernel_rfl
def c_impl_RunOk : C := .seq (.reg [⟨some 1, none, .box 108 8 (.t 0)⟩, ⟨some 2, none, .mov (.c (.bool false))⟩]) (.seq (.seq (.reg [⟨some 8, none, .fa 0 (.t 1)⟩, ⟨some 9, none, .ld false 1 (.t 8)⟩, ⟨some 10, none, .call 78 [.t 9, .c (.int .i64 1), .c (.int .i64 9999)]⟩, ⟨some 11, none, .un .not (.t 10)⟩, ⟨some 12, none, .mov (.t 11)⟩, ⟨some 13, some (12, false), .fa 1 (.t 1)⟩, ⟨some 14, some (12, false), .ld true 5 (.t 13)⟩, ⟨some 15, some (12, false), .call 210 [.t 14]⟩, ⟨some 16, some (12, false), .bin .neq 3 (.t 15) (.c (.int .i64 0))⟩, ⟨some 17, none, .pick (.t 12) (.c (.bool true)) (.t 16)⟩, ⟨some 18, none, .mov (.t 17)⟩, ⟨some 19, some (18, false), .fa 7 (.t 1)⟩, ⟨some 20, some (18, false), .ld false 1 (.t 19)⟩, ⟨some 21, some (18, false), .len false (.t 20)⟩, ⟨some 22, some (18, false), .fa 1 (.t 1)⟩, ⟨some 23, some (18, false), .fa 3 (.t 22)⟩, ⟨some 24, some (18, false), .ld false 1 (.t 23)⟩, ⟨some 25, some (18, false), .bin .neq 3 (.t 21) (.t 24)⟩, ⟨some 26, none, .pick (.t 18) (.c (.bool true)) (.t 25)⟩]) (.cond (.t 26) (.seq (.reg [⟨some 2, none, .mov (.c (.bool false))⟩]) .ret) .skip)) (.seq (.seq (.reg [⟨some 27, none, .fa 7 (.t 1)⟩, ⟨some 28, none, .ld false 1 (.t 27)⟩, ⟨some 29, none, .len false (.t 28)⟩, ⟨some 30, none, .mov (.c (.int .i64 0))⟩]) (.blk 0 (.loop (.seq (.reg [⟨some 31, none, .bin .lss 3 (.t 30) (.t 29)⟩]) (.seq (.cond (.t 31) .skip (.exit 0)) (.seq (.blk 1 (.seq (.reg [⟨some 32, none, .mov (.t 30)⟩, ⟨some 3, none, .mov (.t 32)⟩]) (.seq (.reg [⟨some 33, none, .ld true 8 (.t 1)⟩, ⟨some 34, none, .mov (.t 3)⟩, ⟨some 35, none, .call 235 [.t 33, .t 34]⟩, ⟨some 36, none, .un .not (.t 35)⟩]) (.cond (.t 36) (.seq (.reg [⟨some 2, none, .mov (.c (.bool false))⟩]) .ret) .skip)))) (.reg [⟨some 37, none, .bin .add 3 (.t 30) (.c (.int .i64 1))⟩, ⟨some 30, none, .mov (.t 37)⟩]))))))) (.seq (.dreg (T.pure 0 ⟨some 38, none, .ld true 8 (.t 1)⟩ (T.pure 3 ⟨some 41, none, .ld true 8 (.t 1)⟩ (T.pure 6 ⟨some 44, none, .ld true 8 (.t 1)⟩ (T.alt ⟨some 39, none, .call 214 [.t 38, .c (.int .i64 4)]⟩ [6, 3] (T.pure 2 ⟨some 40, none, .len false (.t 39)⟩ (T.alt ⟨some 42, none, .call 214 [.t 41, .c (.int .i64 5)]⟩ [2, 6] (T.pure 5 ⟨some 43, none, .len false (.t 42)⟩ (T.alt ⟨some 45, none, .call 214 [.t 44, .c (.int .i64 6)]⟩ [5, 2] (T.pure 8 ⟨some 46, none, .len false (.t 45)⟩ (T.pure 9 ⟨some 4, none, .mov (.t 40)⟩ (T.pure 10 ⟨some 5, none, .mov (.t 43)⟩ (T.pure 11 ⟨some 6, none, .mov (.t 46)⟩ T.done)))) T.stop)) T.stop)) T.stop))))) (.seq (.reg [⟨some 47, none, .mov (.t 4)⟩, ⟨some 48, none, .mov (.t 5)⟩, ⟨some 49, none, .bin .add 3 (.t 47) (.t 48)⟩, ⟨some 50, none, .mov (.t 6)⟩, ⟨some 51, none, .bin .add 3 (.t 49) (.t 50)⟩, ⟨some 52, none, .fa 7 (.t 1)⟩, ⟨some 53, none, .ld false 1 (.t 52)⟩, ⟨some 54, none, .len false (.t 53)⟩, ⟨some 55, none, .bin .eql 3 (.t 51) (.t 54)⟩, ⟨some 7, none, .mov (.t 55)⟩]) (.seq (.blk 2 (.seq (.reg [⟨some 57, none, .mov (.t 4)⟩, ⟨some 58, none, .fa 7 (.t 1)⟩, ⟨some 59, none, .ld false 1 (.t 58)⟩, ⟨some 60, none, .len false (.t 59)⟩, ⟨some 61, none, .bin .eql 3 (.t 57) (.t 60)⟩, ⟨some 56, none, .mov (.t 61)⟩]) (.cond (.t 56) (.seq (.reg [⟨some 62, none, .fa 6 (.t 1)⟩, ⟨some 63, none, .ld false 1 (.t 62)⟩, ⟨some 64, none, .bin .eql 3 (.t 63) (.c (.int .i64 2))⟩, ⟨some 2, none, .mov (.t 64)⟩]) .ret) (.seq (.reg [⟨some 66, none, .mov (.t 5)⟩, ⟨some 67, none, .bin .eql 3 (.t 66) (.c (.int .i64 1))⟩, ⟨some 68, none, .mov (.t 67)⟩, ⟨some 69, some (68, true), .mov (.t 7)⟩, ⟨some 70, none, .pick (.t 68) (.t 69) (.c (.bool false))⟩, ⟨some 65, none, .mov (.t 70)⟩]) (.cond (.t 65) (.seq (.reg [⟨some 71, none, .fa 6 (.t 1)⟩, ⟨some 72, none, .ld false 1 (.t 71)⟩, ⟨some 73, none, .bin .eql 3 (.t 72) (.c (.int .i64 3))⟩, ⟨some 2, none, .mov (.t 73)⟩]) .ret) (.seq (.reg [⟨some 75, none, .mov (.t 5)⟩, ⟨some 76, none, .bin .eql 3 (.t 75) (.c (.int .i64 0))⟩, ⟨some 77, none, .mov (.t 76)⟩, ⟨some 78, some (77, true), .mov (.t 6)⟩, ⟨some 79, some (77, true), .bin .gtr 3 (.t 78) (.c (.int .i64 0))⟩, ⟨some 80, none, .pick (.t 77) (.t 79) (.c (.bool false))⟩, ⟨some 81, none, .mov (.t 80)⟩, ⟨some 82, some (81, true), .mov (.t 7)⟩, ⟨some 83, none, .pick (.t 81) (.t 82) (.c (.bool false))⟩, ⟨some 74, none, .mov (.t 83)⟩]) (.cond (.t 74) (.seq (.reg [⟨some 84, none, .fa 6 (.t 1)⟩, ⟨some 85, none, .ld false 1 (.t 84)⟩, ⟨some 86, none, .bin .eql 3 (.t 85) (.c (.int .i64 4))⟩, ⟨some 2, none, .mov (.t 86)⟩]) .ret) .skip))))))) (.seq (.reg [⟨some 87, none, .fa 6 (.t 1)⟩, ⟨some 88, none, .ld false 1 (.t 87)⟩, ⟨some 89, none, .bin .eql 3 (.t 88) (.c (.int .i64 1))⟩, ⟨some 90, none, .mov (.t 89)⟩, ⟨some 91, some (90, true), .mov (.t 5)⟩, ⟨some 92, some (90, true), .bin .eql 3 (.t 91) (.c (.int .i64 0))⟩, ⟨some 93, none, .pick (.t 90) (.t 92) (.c (.bool false))⟩, ⟨some 94, none, .mov (.t 93)⟩, ⟨some 95, some (94, true), .mov (.t 6)⟩, ⟨some 96, some (94, true), .bin .eql 3 (.t 95) (.c (.int .i64 0))⟩, ⟨some 97, none, .pick (.t 94) (.t 96) (.c (.bool false))⟩, ⟨some 2, none, .mov (.t 97)⟩]) .ret))))))
theorem code_impl_RunOk : fnC Tryz.prog Tryz.f138 = some (c_impl_RunOk, [.t 2], 98) := by kernel_rfl
set_option maxHeartbeats 4000000 in
theorem p_impl_needOf (r : Rn) (t : Nat) (h0 : planFault r.plan = 0) (hlen : (r.tasks.length : Int) = r.plan.tasks) : Pure Tryz.prog 282 [.agg (encRn r), .c (.val (.int .i64 t))] (.c (.val (.int .i64 (cntL r.tasks (befL r.plan t))))) := by
  obtain ⟨n, hn, hn1, h12, h30, hes, hnd, -⟩ := pf_0 h0
  refine pure_fn Tryz.func282 code_impl_needOf (by simp) ?_
  unfold c_impl_needOf
  have hbl := befL_len hn h12 h30 t
  simp -implicitDefEqProofs only [go_sem, encRn, encPl]
  intro b
  refine run_call (p_impl_BeforeOf r.plan t h0) (by simp -implicitDefEqProofs only [go_sem, encRn, encPl]) fun η => ?_
  simp -implicitDefEqProofs only [go_sem, encRn, encPl]
  refine wp_loopW (fun i : Nat => St.of [(2, Bx 200 b), (5, Ni (cntL r.tasks ((befL r.plan t).take i))), (11, Hd 11 (η 0)), (12, Ni (befL r.plan t).length), (13, Ni i)] [(200, Bi b _ (encRn r)), (11, .loose (encInts (befL r.plan t)) (η 0))]) (fun i => i ≤ (befL r.plan t).length) (fun i => (befL r.plan t).length - i) 0 (by (try dsimp only); first | omega | (simp; done) | (and_intros <;> first | omega | simp)) (wk_of [some 200, some 1100] (by simp -implicitDefEqProofs only [go_sem, encRn, encPl, encTk, List.take_zero, cntL, List.filter_nil, List.length_nil] <;> and_intros <;> first | rfl | assumption)) ?_
  rintro k hk
  by_cases hlt : k < (befL r.plan t).length
  · have hlt' : (k : Int) < (befL r.plan t).length := by omega
    obtain ⟨v, hv⟩ := get_some hlt
    have hvb := befL_in hn (List.mem_of_getElem? hv)
    have hvl : v.toNat < r.tasks.length := by omega
    have hv0 := hvb.1
    obtain ⟨y, hy⟩ := get_some hvl
    have hw : IntKind.i64.wrap ((k : Int) + 1) = ((k + 1 : Nat) : Int) := wrap64 (by omega) (by omega)
    have hcl := cntL_le r.tasks ((befL r.plan t).take k)
    rw [List.length_take] at hcl
    have hw2 : IntKind.i64.wrap ((cntL r.tasks ((befL r.plan t).take k) : Int) + 1) = ((cntL r.tasks ((befL r.plan t).take k) + 1 : Nat) : Int) := wrap64 (by omega) (by omega)
    cases hc : y.state != 4
    · have hs := cntL_no hv hy hc
      simp -implicitDefEqProofs only [go_sem, encRn, encPl, hlt, hlt', at_encInts hv, in_encInts hlt, hvl, hv0, elem_encTks hy, encTk, hc, hw]
      exact ⟨k + 1, by (try dsimp only); first | omega | assumption | (and_intros <;> first | omega | assumption), (wk_of [some 200, some 11] (by simp -implicitDefEqProofs only [go_sem, encRn, encPl, encTk, hs] <;> and_intros <;> first | rfl | assumption)), by (try dsimp only); omega⟩
    · have hs := cntL_yes hv hy hc
      simp -implicitDefEqProofs only [go_sem, encRn, encPl, hlt, hlt', at_encInts hv, in_encInts hlt, hvl, hv0, elem_encTks hy, encTk, hc, hw, hw2]
      exact ⟨k + 1, by (try dsimp only); first | omega | assumption | (and_intros <;> first | omega | assumption), (wk_of [some 200, some 11] (by simp -implicitDefEqProofs only [go_sem, encRn, encPl, encTk, hs] <;> and_intros <;> first | rfl | assumption)), by (try dsimp only); omega⟩
  have hlt' : ¬ (k : Int) < (befL r.plan t).length := by omega
  rw [List.take_of_length_le (by omega)]
  simp -implicitDefEqProofs only [go_sem, hlt']
set_option maxHeartbeats 4000000 in
theorem p_impl_TasksIn (r : Rn) (s : Int) (hl : r.tasks.length ≤ 2000000) : Pure Tryz.prog 214 [.agg (encRn r), .c (.val (.int .i64 s))] (.c (encInts (tinL s r.tasks))) := by
  refine pure_fn Tryz.func214 code_impl_TasksIn (by simp) ?_
  unfold c_impl_TasksIn
  simp -implicitDefEqProofs only [go_sem, encRn, encPl]
  intro b
  refine wp_loopW (fun i : Nat × Heads => St.of [(1, Ni s), (5, Hd 5 i.2), (9, Ro (encTks r.tasks)), (10, Ni r.tasks.length), (11, Ni i.1)] [(5, .loose (encInts (tinF s r.tasks i.1)) i.2)]) (fun i => i.1 ≤ r.tasks.length) (fun i => r.tasks.length - i.1) (0, nilH) (by (try dsimp only); first | omega | (simp; done) | (and_intros <;> first | omega | simp)) (wk_of [none] (by simp -implicitDefEqProofs only [go_sem, encRn, encPl, tinF_0] <;> and_intros <;> first | rfl | assumption)) ?_
  rintro ⟨k, η⟩ hk
  dsimp only at hk
  by_cases hlt : k < r.tasks.length
  · have hlt' : (k : Int) < r.tasks.length := by omega
    obtain ⟨x, hx⟩ := get_some hlt
    have hw : IntKind.i64.wrap ((k : Int) + 1) = ((k + 1 : Nat) : Int) := wrap64 (by omega) (by omega)
    have hc := tinF_succ hx s
    have hle := tinF_len s r.tasks k
    generalize tinF s r.tasks k = R at *
    have hm1 : R.length + 1 ≤ maxLen := by unfold maxLen; omega
    have hm2 : (R.length + 1) * 8 ≤ 140737488355328 := by omega
    by_cases h2 : x.state = s
    · have h2' : (x.state == s) = true := by simpa using h2
      rw [if_pos h2] at hc
      simp -implicitDefEqProofs only [go_sem, encRn, encPl, hlt, hlt', elem_encTks hx, encTk]
      intro b2
      simp -implicitDefEqProofs only [go_sem, encTk, h2', hw, hm1, hm2, ints_snoc1]
      intro η3 η4
      exact ⟨(k + 1, η4), by (try dsimp only); first | omega | assumption | (and_intros <;> first | omega | assumption), (wk_of [some 2300] (by simp -implicitDefEqProofs only [go_sem, hc] <;> and_intros <;> first | rfl | assumption)), by (try dsimp only); omega⟩
    · have h2' : (x.state == s) = false := by simpa using h2
      rw [if_neg h2, List.append_nil] at hc
      simp -implicitDefEqProofs only [go_sem, encRn, encPl, hlt, hlt', elem_encTks hx, encTk]
      intro b2
      simp -implicitDefEqProofs only [go_sem, encTk, h2', hw]
      exact ⟨(k + 1, η), by (try dsimp only); first | omega | assumption | (and_intros <;> first | omega | assumption), (wk_of [some 5] (by simp -implicitDefEqProofs only [go_sem, hc] <;> and_intros <;> first | rfl | assumption)), by (try dsimp only); omega⟩
  have hlt' : ¬ (k : Int) < r.tasks.length := by omega
  obtain rfl : k = r.tasks.length := by omega
  simp -implicitDefEqProofs only [go_sem, hlt', tinL]
set_option maxHeartbeats 8000000 in
theorem p_impl_taskOk (r : Rn) (t : Nat) (x : Tk) (hx : r.tasks[t]? = some x) (h0 : planFault r.plan = 0) (hlen : (r.tasks.length : Int) = r.plan.tasks) : Pure Tryz.prog 235 [.agg (encRn r), .c (.val (.int .i64 t))] (.c (.val (.bool (taskB r.plan r.tasks t x)))) := by
  have htl := (List.getElem?_eq_some_iff.1 hx).1
  refine pure_fn Tryz.func235 code_impl_taskOk (by simp) ?_
  unfold c_impl_taskOk
  have h0t : (t : Int) ≥ 0 := by omega
  simp -implicitDefEqProofs only [go_sem, encRn, encPl, htl, h0t, elem_encTks hx, encTk]
  intro b b2
  refine run_call (p_impl_within x.state 1 6) (by simp -implicitDefEqProofs only [go_sem, encRn, encPl, encTk]) fun η => ?_
  simp -implicitDefEqProofs only [go_sem, encRn, encPl, encTk]
  cases hsr : decide (1 ≤ x.state ∧ x.state ≤ 6)
  · have hb : taskB r.plan r.tasks t x = false := taskB_st (by simpa using hsr)
    simp -implicitDefEqProofs only [go_sem, encRn, encPl, encTk, hsr, hb]
  simp -implicitDefEqProofs only [go_sem, encRn, encPl, encTk, hsr]
  refine run_call (p_impl_needOf r t h0 hlen) (by simp -implicitDefEqProofs only [go_sem, encRn, encPl, encTk]) fun η => ?_
  simp -implicitDefEqProofs only [go_sem, encRn, encPl, encTk]
  have hnd : needL r.plan r.tasks t = (cntL r.tasks (befL r.plan t) : Int) := rfl
  generalize cntL r.tasks (befL r.plan t) = N at *
  cases hne : x.need != (N : Int)
  rotate_left
  · have hb : taskB r.plan r.tasks t x = false := by
      have : ¬ x.need = N := by simpa using hne
      simp [taskB, hnd, this]
    simp -implicitDefEqProofs only [go_sem, encRn, encPl, encTk, hne, hb]
  have hne' : x.need = N := by simpa using hne
  simp -implicitDefEqProofs only [go_sem, encRn, encPl, encTk, hne]
  refine run_call (p_impl_within x.tri 0 r.plan.most) (by simp -implicitDefEqProofs only [go_sem, encRn, encPl, encTk]) fun η => ?_
  simp -implicitDefEqProofs only [go_sem, encRn, encPl, encTk]
  cases htr : decide (0 ≤ x.tri ∧ x.tri ≤ r.plan.most)
  · have hb : taskB r.plan r.tasks t x = false := by simp [taskB, inB, htr]
    simp -implicitDefEqProofs only [go_sem, encRn, encPl, encTk, hb]
  have htr' : 0 ≤ x.tri ∧ x.tri ≤ r.plan.most := by simpa using htr
  rcases stcases x.state with hs | hs | hs | hs | hs | hs | ⟨s1, s2, s3, s4, s5, s6⟩
  · cases ht : x.til != 0
    rotate_left
    · have hb : taskB r.plan r.tasks t x = false := by
        have : ¬ x.til = 0 := by simpa using ht
        simp [taskB, tilB, hs, this]
      simp -implicitDefEqProofs only [go_sem, encRn, encPl, encTk, htr, hs, ht, hb]
    have ht' : x.til = 0 := by simpa using ht
    have hb : taskB r.plan r.tasks t x = decide ((N : Int) > 0) := by simp [taskB, tilB, lastB, inB, hs, hnd, hne', ht', htr']
    simp -implicitDefEqProofs only [go_sem, encRn, encPl, encTk, htr, hs, ht, hb, hne']
  · cases ht : x.til != 0
    rotate_left
    · have hb : taskB r.plan r.tasks t x = false := by
        have : ¬ x.til = 0 := by simpa using ht
        simp [taskB, tilB, hs, this]
      simp -implicitDefEqProofs only [go_sem, encRn, encPl, encTk, htr, hs, ht, hb]
    have ht' : x.til = 0 := by simpa using ht
    cases hz : (N : Int) == 0
    · have hz' : ¬ N = 0 := by simpa using hz
      have hb : taskB r.plan r.tasks t x = false := by simp [taskB, tilB, lastB, inB, hs, hnd, hne', ht', htr', hz']
      simp -implicitDefEqProofs only [go_sem, encRn, encPl, encTk, htr, hs, ht, hz, hb, hne']
    · have hz' : N = 0 := by simpa using hz
      have hb : taskB r.plan r.tasks t x = decide (x.tri < r.plan.most) := by simp [taskB, tilB, lastB, inB, hs, hnd, hne', ht', htr', hz']
      simp -implicitDefEqProofs only [go_sem, encRn, encPl, encTk, htr, hs, ht, hz, hb, hne']
  · simp -implicitDefEqProofs only [go_sem, encRn, encPl, encTk, htr, hs]
    refine run_call (p_impl_within x.til 1 1000000000) (by simp -implicitDefEqProofs only [go_sem, encRn, encPl, encTk, hs]) fun η => ?_
    simp -implicitDefEqProofs only [go_sem, encRn, encPl, encTk, hs]
    cases ht : decide (1 ≤ x.til ∧ x.til ≤ 1000000000)
    · have hb : taskB r.plan r.tasks t x = false := by simp [taskB, tilB, inB, hs, ht]
      simp -implicitDefEqProofs only [go_sem, encRn, encPl, encTk, htr, hs, hb]
    have ht' : 1 ≤ x.til ∧ x.til ≤ 1000000000 := by simpa using ht
    cases hz : (N : Int) == 0
    · have hz' : ¬ N = 0 := by simpa using hz
      have hb : taskB r.plan r.tasks t x = false := by simp [taskB, tilB, lastB, inB, hs, hnd, hne', ht', htr', hz']
      simp -implicitDefEqProofs only [go_sem, encRn, encPl, encTk, htr, hs, ht, hz, hb, hne']
    · have hz' : N = 0 := by simpa using hz
      have hb : taskB r.plan r.tasks t x = decide (x.tri ≥ 1) := by simp [taskB, tilB, lastB, inB, hs, hnd, hne', ht', htr', hz']
      simp -implicitDefEqProofs only [go_sem, encRn, encPl, encTk, htr, hs, ht, hz, hb, hne']
  · cases ht : x.til != 0
    rotate_left
    · have hb : taskB r.plan r.tasks t x = false := by
        have : ¬ x.til = 0 := by simpa using ht
        simp [taskB, tilB, hs, this]
      simp -implicitDefEqProofs only [go_sem, encRn, encPl, encTk, htr, hs, ht, hb]
    have ht' : x.til = 0 := by simpa using ht
    cases hz : (N : Int) == 0
    · have hz' : ¬ N = 0 := by simpa using hz
      have hb : taskB r.plan r.tasks t x = false := by simp [taskB, tilB, lastB, inB, hs, hnd, hne', ht', htr', hz']
      simp -implicitDefEqProofs only [go_sem, encRn, encPl, encTk, htr, hs, ht, hz, hb, hne']
    · have hz' : N = 0 := by simpa using hz
      have hb : taskB r.plan r.tasks t x = decide (x.tri ≥ 1) := by simp [taskB, tilB, lastB, inB, hs, hnd, hne', ht', htr', hz']
      simp -implicitDefEqProofs only [go_sem, encRn, encPl, encTk, htr, hs, ht, hz, hb, hne']
  · cases ht : x.til != 0
    rotate_left
    · have hb : taskB r.plan r.tasks t x = false := by
        have : ¬ x.til = 0 := by simpa using ht
        simp [taskB, tilB, hs, this]
      simp -implicitDefEqProofs only [go_sem, encRn, encPl, encTk, htr, hs, ht, hb]
    have ht' : x.til = 0 := by simpa using ht
    cases hz : (N : Int) == 0
    · have hz' : ¬ N = 0 := by simpa using hz
      have hb : taskB r.plan r.tasks t x = false := by simp [taskB, tilB, lastB, inB, hs, hnd, hne', ht', htr', hz']
      simp -implicitDefEqProofs only [go_sem, encRn, encPl, encTk, htr, hs, ht, hz, hb, hne']
    · have hz' : N = 0 := by simpa using hz
      have hb : taskB r.plan r.tasks t x = decide (x.tri ≥ 1) := by simp [taskB, tilB, lastB, inB, hs, hnd, hne', ht', htr', hz']
      simp -implicitDefEqProofs only [go_sem, encRn, encPl, encTk, htr, hs, ht, hz, hb, hne']
  · cases ht : x.til != 0
    rotate_left
    · have hb : taskB r.plan r.tasks t x = false := by
        have : ¬ x.til = 0 := by simpa using ht
        simp [taskB, tilB, hs, this]
      simp -implicitDefEqProofs only [go_sem, encRn, encPl, encTk, htr, hs, ht, hb]
    have ht' : x.til = 0 := by simpa using ht
    have hb : taskB r.plan r.tasks t x = true := by simp [taskB, tilB, lastB, inB, hs, hnd, hne', ht', htr']
    simp -implicitDefEqProofs only [go_sem, encRn, encPl, encTk, htr, hs, ht, hb]
  · have := of_decide_eq_true hsr
    have h1 : ¬ x.state = 1 := by simpa using s1
    have h2 : ¬ x.state = 2 := by simpa using s2
    have h3 : ¬ x.state = 3 := by simpa using s3
    have h4 : ¬ x.state = 4 := by simpa using s4
    have h5 : ¬ x.state = 5 := by simpa using s5
    have h6 : ¬ x.state = 6 := by simpa using s6
    omega
end Go.Proofs.YtmnpailnelmpiaaGreat
set_option linter.unusedSimpArgs false
set_option linter.unusedVariables false
set_option maxRecDepth 100000
namespace Go.Proofs.YtmnpailnelmpiaaGreat
open Go.RowKit Go.Sort
theorem runOk_last {r : Rn} {v : Int} (h1 : inB r.id 1 9999 = true) (h2 : planFault r.plan = 0) (h3 : (r.tasks.length : Int) = r.plan.tasks) (h4 : ∀ (t : Nat) (x : Tk), r.tasks[t]? = some x → taskB r.plan r.tasks t x = true) (hv : stOf r.tasks = v) (h0 : v ≠ 0) : runOkB r = (r.state == v) := by
  by_cases h : r.state = v
  · rw [runOk_yes h1 h2 h3 h4 (h.trans hv.symm) (h ▸ h0)]; simp [h]
  · rw [runOk_no fun h' => h (h'.state.trans hv)]; simp [h]
set_option maxHeartbeats 8000000 in
theorem p_impl_RunOk (r : Rn) (hsz : r.plan.edges.length ≤ 4000000) : Pure Tryz.prog 138 [.agg (encRn r)] (.c (.val (.bool (runOkB r)))) := by
  refine pure_fn Tryz.func138 code_impl_RunOk (by simp) ?_
  unfold c_impl_RunOk
  simp -implicitDefEqProofs only [go_sem, encRn, encPl]
  intro b
  refine run_call (p_impl_within r.id 1 9999) (by simp -implicitDefEqProofs only [go_sem, encRn, encPl]) fun η => ?_
  simp -implicitDefEqProofs only [go_sem, encRn, encPl]
  cases h1 : decide (1 ≤ r.id ∧ r.id ≤ 9999)
  · have hb : runOkB r = false := runOk_no fun h => by have := h.id; simp [inB, h1] at this
    simp -implicitDefEqProofs only [go_sem, encRn, encPl, h1, hb]
  simp -implicitDefEqProofs only [go_sem, encRn, encPl, h1]
  refine run_call (p_impl_PlanFault r.plan hsz) (by simp -implicitDefEqProofs only [go_sem, encRn, encPl]) fun η => ?_
  simp -implicitDefEqProofs only [go_sem, encRn, encPl]
  cases h2 : planFault r.plan != 0
  rotate_left
  · have hb : runOkB r = false := runOk_no fun h => by have := h.plan; simp [this] at h2
    simp -implicitDefEqProofs only [go_sem, encRn, encPl, h2, hb]
  have h0 : planFault r.plan = 0 := by simpa using h2
  obtain ⟨n, hn, hn1, h12, h30, hes, hnd, -⟩ := pf_0 h0
  simp -implicitDefEqProofs only [go_sem, encRn, encPl, h2]
  cases h3 : (r.tasks.length : Int) != r.plan.tasks
  rotate_left
  · have hb : runOkB r = false := runOk_no fun h => by have := h.len; simp [this] at h3
    simp -implicitDefEqProofs only [go_sem, encRn, encPl, h3, hb]
  have hlen : (r.tasks.length : Int) = r.plan.tasks := by simpa using h3
  have hlb : r.tasks.length ≤ 12 := by omega
  simp -implicitDefEqProofs only [go_sem, encRn, encPl, h3]
  refine wp_loopW (fun i : Nat => St.of [(1, Bx 100 b), (29, Ni r.tasks.length), (30, Ni i)] [(100, Bi b _ (encRn r))]) (fun i => i ≤ r.tasks.length ∧ ∀ (t : Nat) (x : Tk), t < i → r.tasks[t]? = some x → taskB r.plan r.tasks t x = true) (fun i => r.tasks.length - i) 0 (by (try dsimp only); first | omega | (simp; done) | (and_intros <;> first | omega | simp)) (wk_of [some 100] (by simp -implicitDefEqProofs only [go_sem, encRn, encPl] <;> and_intros <;> first | rfl | assumption)) ?_
  rintro j ⟨hj, hjo⟩
  by_cases hjl : j < r.tasks.length
  · have hjl' : (j : Int) < r.tasks.length := by omega
    obtain ⟨x, hx⟩ := get_some hjl
    have hw : IntKind.i64.wrap ((j : Int) + 1) = ((j + 1 : Nat) : Int) := wrap64 (by omega) (by omega)
    simp -implicitDefEqProofs only [go_sem, encRn, encPl, hjl']
    refine run_call (p_impl_taskOk r j x hx h0 hlen) (by simp -implicitDefEqProofs only [go_sem, encRn, encPl]) fun η => ?_
    simp -implicitDefEqProofs only [go_sem, encRn, encPl]
    cases hs : taskB r.plan r.tasks j x
    · have hb : runOkB r = false := runOk_no fun h => by have := h.tasks j x hx; rw [hs] at this; cases this
      simp -implicitDefEqProofs only [go_sem, encRn, encPl, hs, hb]
    · simp -implicitDefEqProofs only [go_sem, encRn, encPl, hs, hw]
      exact ⟨j + 1, ⟨hjl, fun t y ht hy => by rcases Nat.lt_or_ge t j with h' | h'; exact hjo t y h' hy; obtain rfl : t = j := (by omega); rw [hx] at hy; cases hy; exact hs⟩, (wk_of [some 100] (by simp -implicitDefEqProofs only [go_sem, encRn, encPl] <;> and_intros <;> first | rfl | assumption)), by (try dsimp only); omega⟩
  have hjl' : ¬ (j : Int) < r.tasks.length := by omega
  have hall : ∀ (t : Nat) (x : Tk), r.tasks[t]? = some x → taskB r.plan r.tasks t x = true := fun t x hx => hjo t x (by have := (List.getElem?_eq_some_iff.1 hx).1; omega) hx
  simp -implicitDefEqProofs only [go_sem, encRn, encPl, hjl']
  refine run_call (p_impl_TasksIn r 4 (by omega)) (by simp -implicitDefEqProofs only [go_sem, encRn, encPl]) fun η => ?_
  simp -implicitDefEqProofs only [go_sem, encRn, encPl]
  refine run_call (p_impl_TasksIn r 5 (by omega)) (by simp -implicitDefEqProofs only [go_sem, encRn, encPl]) fun η => ?_
  simp -implicitDefEqProofs only [go_sem, encRn, encPl]
  refine run_call (p_impl_TasksIn r 6 (by omega)) (by simp -implicitDefEqProofs only [go_sem, encRn, encPl]) fun η => ?_
  simp -implicitDefEqProofs only [go_sem, encRn, encPl]
  have hyes : ∀ v : Int, stOf r.tasks = v → v ≠ 0 → runOkB r = (r.state == v) := fun v hv h0' => runOk_last (by simpa [inB] using h1) h0 hlen hall hv h0'
  have hdef : stOf r.tasks = if (tinL 4 r.tasks).length = r.tasks.length then 2 else if (tinL 5 r.tasks).length = 1 ∧ (tinL 4 r.tasks).length + (tinL 5 r.tasks).length + (tinL 6 r.tasks).length = r.tasks.length then 3 else if (tinL 5 r.tasks).length = 0 ∧ 0 < (tinL 6 r.tasks).length ∧ (tinL 4 r.tasks).length + (tinL 5 r.tasks).length + (tinL 6 r.tasks).length = r.tasks.length then 4 else if (tinL 5 r.tasks).length = 0 ∧ (tinL 6 r.tasks).length = 0 then 1 else 0 := rfl
  have b4 := tinF_len 4 r.tasks r.tasks.length
  have b5 := tinF_len 5 r.tasks r.tasks.length
  have b6 := tinF_len 6 r.tasks r.tasks.length
  change (tinL 4 r.tasks).length ≤ _ at b4
  change (tinL 5 r.tasks).length ≤ _ at b5
  change (tinL 6 r.tasks).length ≤ _ at b6
  generalize (tinL 4 r.tasks).length = c4 at *
  generalize (tinL 5 r.tasks).length = c5 at *
  generalize (tinL 6 r.tasks).length = c6 at *
  generalize r.tasks.length = L at *
  have w45 : IntKind.i64.wrap ((c4 : Int) + c5) = ((c4 + c5 : Nat) : Int) := by rw [wrap64 (by omega) (by omega)]; omega
  have w456 : IntKind.i64.wrap (((c4 + c5 : Nat) : Int) + c6) = ((c4 + c5 + c6 : Nat) : Int) := by rw [wrap64 (by omega) (by omega)]; omega
  simp -implicitDefEqProofs only [go_sem, encRn, encPl, w45, w456]
  cases hA : (c4 : Int) == L
  rotate_left
  · have hA' : c4 = L := ib_t hA
    have hst : stOf r.tasks = 2 := by rw [hdef, if_pos (by omega)]
    have hb : runOkB r = (r.state == 2) := hyes _ hst (by decide)
    simp -implicitDefEqProofs only [go_sem, encRn, encPl, hA, hb]
  have hA' : ¬ c4 = L := ib_f hA
  cases hB : (c5 : Int) == 1
  rotate_left
  · have hB' : c5 = 1 := ib_t hB
    have hB0 : ((c5 : Int) == 0) = false := by rw [hB']; rfl
    cases hR : ((c4 + c5 + c6 : Nat) : Int) == L
    · have hR' : ¬ c4 + c5 + c6 = L := ib_f hR
      have hst : stOf r.tasks = 0 := by rw [hdef, if_neg (by omega), if_neg (by omega), if_neg (by omega), if_neg (by omega)]
      have hb : runOkB r = false := runOk_no fun h => h.live (h.state.trans hst)
      simp -implicitDefEqProofs only [go_sem, encRn, encPl, hA, hB, hB0, hR, hb]
      cases hs1 : r.state == 1
      · simp -implicitDefEqProofs only [go_sem, encRn, encPl, hA, hB, hB0, hR, hs1, hb]
      · simp -implicitDefEqProofs only [go_sem, encRn, encPl, hA, hB, hB0, hR, hs1, hb]
    · have hR' : c4 + c5 + c6 = L := ib_t hR
      have hst : stOf r.tasks = 3 := by rw [hdef, if_neg (by omega), if_pos (by omega)]
      have hb : runOkB r = (r.state == 3) := hyes _ hst (by decide)
      simp -implicitDefEqProofs only [go_sem, encRn, encPl, hA, hB, hR, hb]
  have hB' : ¬ c5 = 1 := ib_f hB
  cases hC : (c5 : Int) == 0
  · have hC' : ¬ c5 = 0 := ib_f hC
    have hst : stOf r.tasks = 0 := by rw [hdef, if_neg (by omega), if_neg (by omega), if_neg (by omega), if_neg (by omega)]
    have hb : runOkB r = false := runOk_no fun h => h.live (h.state.trans hst)
    simp -implicitDefEqProofs only [go_sem, encRn, encPl, hA, hB, hC, hb]
    cases hs1 : r.state == 1
    · simp -implicitDefEqProofs only [go_sem, encRn, encPl, hA, hB, hC, hs1, hb]
    · simp -implicitDefEqProofs only [go_sem, encRn, encPl, hA, hB, hC, hs1, hb]
  have hC' : c5 = 0 := ib_t hC
  by_cases h6 : 0 < c6
  · have h6' : (c6 : Int) > 0 := by omega
    have h60 : ((c6 : Int) == 0) = false := by simp only [beq_eq_false_iff_ne, ne_eq]; omega
    cases hR : ((c4 + c5 + c6 : Nat) : Int) == L
    · have hR' : ¬ c4 + c5 + c6 = L := ib_f hR
      have hst : stOf r.tasks = 0 := by rw [hdef, if_neg (by omega), if_neg (by omega), if_neg (by omega), if_neg (by omega)]
      have hb : runOkB r = false := runOk_no fun h => h.live (h.state.trans hst)
      simp -implicitDefEqProofs only [go_sem, encRn, encPl, hA, hB, hC, h6', h60, hR, hb]
      cases hs1 : r.state == 1
      · simp -implicitDefEqProofs only [go_sem, encRn, encPl, hA, hB, hC, h6', h60, hR, hs1, hb]
      · simp -implicitDefEqProofs only [go_sem, encRn, encPl, hA, hB, hC, h6', h60, hR, hs1, hb]
    · have hR' : c4 + c5 + c6 = L := ib_t hR
      have hst : stOf r.tasks = 4 := by rw [hdef, if_neg (by omega), if_neg (by omega), if_pos (by omega)]
      have hb : runOkB r = (r.state == 4) := hyes _ hst (by decide)
      simp -implicitDefEqProofs only [go_sem, encRn, encPl, hA, hB, hC, h6', hR, hb]
  · have h6' : ¬ (c6 : Int) > 0 := by omega
    have h60 : ((c6 : Int) == 0) = true := by simp only [beq_iff_eq]; omega
    have hst : stOf r.tasks = 1 := by rw [hdef, if_neg (by omega), if_neg (by omega), if_neg (by omega), if_pos (by omega)]
    have hb : runOkB r = (r.state == 1) := hyes _ hst (by decide)
    simp -implicitDefEqProofs only [go_sem, encRn, encPl, hA, hB, hC, h6', h60, hb]
    cases hs1 : r.state == 1
    · rw [hs1] at hb
      simp -implicitDefEqProofs only [go_sem, encRn, encPl, hA, hB, hC, h6', h60, hs1, hb]
    · rw [hs1] at hb
      simp -implicitDefEqProofs only [go_sem, encRn, encPl, hA, hB, hC, h6', h60, hs1, hb]
end Go.Proofs.YtmnpailnelmpiaaGreat
