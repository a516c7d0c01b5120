/- Texts for laws: Tick. -/
import Derived.Test.YtnhdcbhcocgjhaaGreatQLateOf
import Derived.Test.YtnhdcbhcocgjhaaGreatQRest
set_option linter.unusedSimpArgs false
set_option linter.unusedVariables false
set_option maxRecDepth 100000
namespace Go.Proofs.YtnhdcbhcocgjhaaGreat
open Go.RowKit Go.Sort
theorem lateR_get (now : Int) (r : Rn) : ∀ (ts : List Tk) (k : Nat) (l : List Int), l ∈ lateR now r k ts → ∃ (t : Nat) (x : Tk), ts[t]? = some x ∧ x.state = 3 ∧ l = [r.id, ((k + t : Nat) : Int), x.tri]
  | [], _, _, h => by simp [lateR] at h
  | z :: ts, k, l, h => by
    rw [lateR] at h
    rcases List.mem_append.1 h with h | h
    · unfold lateT at h
      split at h
      · rename_i hc
        simp at h
        simp only [Bool.and_eq_true, beq_iff_eq] at hc
        exact ⟨0, z, rfl, hc.1, by rw [h]; rfl⟩
      · simp at h
    · obtain ⟨t, x, h1, h2, h3⟩ := lateR_get now r ts (k + 1) l h
      exact ⟨t + 1, x, by simpa using h1, h2, by rw [h3, Nat.add_right_comm, Nat.add_assoc]⟩
theorem late_mem {y : Yd} (hP : YardOkP y) {l : List Int} (h : l ∈ lateL y) : ∃ (k t : Nat) (r : Rn) (x : Tk), y.runs[k]? = some r ∧ r.tasks[t]? = some x ∧ runAt y r.id = k ∧ x.state = 3 ∧ l = [r.id, (t : Int), x.tri] := by
  obtain ⟨r, hr, hl⟩ := List.mem_flatMap.1 h
  obtain ⟨k, hk, rfl⟩ := List.getElem_of_mem hr
  have hk2 : y.runs[k]? = some y.runs[k] := List.getElem?_eq_getElem hk
  obtain ⟨t, x, h1, h2, h3⟩ := lateR_get _ _ _ _ _ hl
  exact ⟨k, t, _, x, hk2, h1, hP.place k _ hk2, h2, by rw [h3, Nat.zero_add]⟩
theorem late_96 {y : Yd} (hP : YardOkP y) : (lateL y).length ≤ 96 := by
  have h : ∀ l : List Rn, (∀ r ∈ l, r.tasks.length ≤ 12) → (l.flatMap fun r => lateR y.now r 0 r.tasks).length ≤ 12 * l.length := by
    intro l
    induction l with
    | nil => intro; simp
    | cons r l ih =>
      intro h
      have h1 := h r (by simp)
      have h2 := ih fun r hr => h r (by simp [hr])
      have h3 := lateR_le y.now r r.tasks 0
      simp only [List.flatMap_cons, List.length_append, List.length_cons] at h2 ⊢
      omega
  have h1 := h y.runs fun r hr => (hP.right r hr).le12
  have h2 := hP.eight
  have e : (lateL y).length = (y.runs.flatMap fun r => lateR y.now r 0 r.tasks).length := rfl
  omega
noncomputable def stepL (z : Yd) (l : List Int) : Yd := failK z (runAt z (l.headD 0)).toNat (l.tail.headD 0).toNat
noncomputable def tickI (y : Yd) (i : Nat) : Yd := ((lateL y).take i).foldl stepL y
noncomputable def tickC (y : Yd) : Int := if yardOkB y = false then 8 else if y.now + 1 > 999999980 then 7 else 0
noncomputable def tickY (y : Yd) : Yd := if tickC y = 0 then ⟨y.now + 1, (tickI y (lateL y).length).seq, (tickI y (lateL y).length).shelf, (tickI y (lateL y).length).runs⟩ else y
theorem tickI_s {y : Yd} {i : Nat} {l : List Int} (h : (lateL y)[i]? = some l) : tickI y (i + 1) = stepL (tickI y i) l := by
  rw [tickI, List.take_add_one, h, List.foldl_append]; rfl
theorem tickI_step {y : Yd} (hP : YardOkP y) : ∀ i, StepI y (tickI y i) i
  | 0 => .refl hP
  | i + 1 => by
    have ih := tickI_step hP i
    cases h : (lateL y)[i]? with
    | none =>
      have : tickI y (i + 1) = tickI y i := by rw [tickI, tickI, List.take_add_one, h]; simp
      rw [this]; exact ih.mono (Nat.le_succ i)
    | some l => rw [tickI_s h]; exact ih.fail _ _
section
variable {L : List (List Int)} {i : Nat} {l : List Int}
theorem get_iss (h : L[i]? = some l) : D.get [i] (encIss L) = some (encInts l) := by
  have e : L.flatMap (fun es => [encInts es]) = L.map encInts := by clear h; induction L <;> simp_all
  simp [encIss, D.get, e, h, get_nil]
theorem at_iss (h : L[i]? = some l) : ((L.flatMap fun es => [encInts es]).drop i).take 1 = [encInts l] := by have := at_encIss h; rwa [Nat.mul_one] at this
theorem in_iss (h : L[i]? = some l) : i + 1 ≤ (L.flatMap fun es => [encInts es]).length := by have := in_encIss (List.getElem?_eq_some_iff.1 h).1; rwa [Nat.mul_one] at this
end
def c_spec_Tick : C := .seq (.reg [⟨some 1, none, .box 30 4 (.t 0)⟩, ⟨some 2, none, .alloc 30 [.int .i64 0, .int .i64 0, .slice none 0 0, .slice none 0 0]⟩, ⟨some 3, none, .mov (.c (.int .i64 0))⟩]) (.seq (.reg [⟨some 8, none, .ld true 4 (.t 1)⟩, ⟨some 9, none, .call 43 [.t 8]⟩, ⟨some 4, none, .alloc 30 [.int .i64 0, .int .i64 0, .slice none 0 0, .slice none 0 0]⟩, ⟨none, none, .st 4 [none, none, some (1, 103), some (8, 80)] (.t 4) (.t 9)⟩]) (.seq (.seq (.reg [⟨some 10, none, .ld true 4 (.t 1)⟩, ⟨some 11, none, .call 65 [.t 10]⟩, ⟨some 12, none, .un .not (.t 11)⟩]) (.cond (.t 12) (.seq (.reg [⟨some 13, none, .ld true 4 (.t 4)⟩, ⟨none, none, .st 4 [none, none, some (1, 103), some (8, 80)] (.t 2) (.t 13)⟩, ⟨some 3, none, .mov (.c (.int .i64 8))⟩]) .ret) .skip)) (.seq (.seq (.reg [⟨some 14, none, .fa 0 (.t 1)⟩, ⟨some 15, none, .ld false 1 (.t 14)⟩, ⟨some 16, none, .bin .add 3 (.t 15) (.c (.int .i64 1))⟩, ⟨some 17, none, .bin .gtr 3 (.t 16) (.c (.int .i64 999999980))⟩]) (.cond (.t 17) (.seq (.reg [⟨some 18, none, .ld true 4 (.t 4)⟩, ⟨none, none, .st 4 [none, none, some (1, 103), some (8, 80)] (.t 2) (.t 18)⟩, ⟨some 3, none, .mov (.c (.int .i64 7))⟩]) .ret) .skip)) (.seq (.reg [⟨some 19, none, .ld true 4 (.t 1)⟩, ⟨some 20, none, .call 66 [.t 19]⟩, ⟨some 5, none, .mov (.t 20)⟩]) (.seq (.seq (.reg [⟨some 6, none, .mov (.c (.int .i64 0))⟩]) (.blk 0 (.loop (.seq (.seq (.reg [⟨some 21, none, .mov (.t 6)⟩, ⟨some 22, none, .mov (.t 5)⟩, ⟨some 23, none, .len false (.t 22)⟩, ⟨some 24, none, .bin .lss 3 (.t 21) (.t 23)⟩]) (.cond (.t 24) .skip (.exit 0))) (.seq (.blk 1 (.seq (.dreg (T.pure 0 ⟨some 27, none, .ld true 4 (.t 4)⟩ (T.pure 1 ⟨some 28, none, .mov (.t 5)⟩ (T.pure 2 ⟨some 29, none, .mov (.t 6)⟩ (T.pure 3 ⟨some 30, none, .ia 1 (.t 28) (.t 29)⟩ (T.pure 4 ⟨some 31, none, .ld false 1 (.t 30)⟩ (T.pure 5 ⟨some 32, none, .ia 1 (.t 31) (.c (.int .i64 0))⟩ (T.pure 6 ⟨some 33, none, .ld false 1 (.t 32)⟩ (T.alt ⟨some 34, none, .call 45 [.t 27, .t 33]⟩ [] (T.pure 8 ⟨some 7, none, .mov (.t 34)⟩ T.done) T.stop))))))))) (.seq (.dreg (T.pure 0 ⟨some 35, none, .fa 3 (.t 4)⟩ (T.pure 1 ⟨some 36, none, .ld false 1 (.t 35)⟩ (T.pure 2 ⟨some 37, none, .mov (.t 7)⟩ (T.pure 3 ⟨some 38, none, .ia 8 (.t 36) (.t 37)⟩ (T.pure 4 ⟨some 39, none, .fa 7 (.t 38)⟩ (T.pure 5 ⟨some 40, none, .ld false 1 (.t 39)⟩ (T.pure 6 ⟨some 41, none, .mov (.t 5)⟩ (T.pure 7 ⟨some 42, none, .mov (.t 6)⟩ (T.pure 8 ⟨some 43, none, .ia 1 (.t 41) (.t 42)⟩ (T.pure 9 ⟨some 44, none, .ld false 1 (.t 43)⟩ (T.pure 10 ⟨some 45, none, .ia 1 (.t 44) (.c (.int .i64 1))⟩ (T.pure 11 ⟨some 46, none, .ld false 1 (.t 45)⟩ (T.pure 12 ⟨some 47, none, .ia 4 (.t 40) (.t 46)⟩ (T.pure 13 ⟨some 48, none, .fa 0 (.t 47)⟩ (T.pure 14 ⟨some 49, none, .ld false 1 (.t 48)⟩ (T.pure 15 ⟨some 50, none, .bin .eql 3 (.t 49) (.c (.int .i64 3))⟩ T.done))))))))))))))))) (.cond (.t 50) (.dreg (T.pure 0 ⟨some 51, none, .ld true 4 (.t 4)⟩ (T.pure 1 ⟨some 52, none, .mov (.t 7)⟩ (T.pure 2 ⟨some 53, none, .fa 3 (.t 4)⟩ (T.pure 3 ⟨some 54, none, .ld false 1 (.t 53)⟩ (T.pure 4 ⟨some 55, none, .mov (.t 7)⟩ (T.pure 5 ⟨some 56, none, .ia 8 (.t 54) (.t 55)⟩ (T.pure 6 ⟨some 57, none, .ld true 8 (.t 56)⟩ (T.pure 7 ⟨some 58, none, .mov (.t 5)⟩ (T.pure 8 ⟨some 59, none, .mov (.t 6)⟩ (T.pure 9 ⟨some 60, none, .ia 1 (.t 58) (.t 59)⟩ (T.pure 10 ⟨some 61, none, .ld false 1 (.t 60)⟩ (T.pure 11 ⟨some 62, none, .ia 1 (.t 61) (.c (.int .i64 1))⟩ (T.pure 12 ⟨some 63, none, .ld false 1 (.t 62)⟩ (T.alt ⟨some 64, none, .call 62 [.t 57, .t 63]⟩ [1, 0] (T.alt ⟨some 65, none, .call 46 [.t 51, .t 52, .t 64]⟩ [] (T.alt ⟨none, none, .st 4 [none, none, some (1, 103), some (8, 80)] (.t 4) (.t 65)⟩ [] T.done T.stop) T.stop) T.stop))))))))))))))) .skip)))) (.reg [⟨some 25, none, .mov (.t 6)⟩, ⟨some 26, none, .bin .add 3 (.t 25) (.c (.int .i64 1))⟩, ⟨some 6, none, .mov (.t 26)⟩])))))) (.seq (.reg [⟨some 66, none, .fa 0 (.t 4)⟩, ⟨some 67, none, .ld false 1 (.t 66)⟩, ⟨some 68, none, .bin .add 3 (.t 67) (.c (.int .i64 1))⟩, ⟨some 69, none, .fa 0 (.t 4)⟩, ⟨none, none, .st 1 [none] (.t 69) (.t 68)⟩]) (.seq (.reg [⟨some 70, none, .ld true 4 (.t 4)⟩, ⟨none, none, .st 4 [none, none, some (1, 103), some (8, 80)] (.t 2) (.t 70)⟩, ⟨some 3, none, .mov (.c (.int .i64 0))⟩]) .ret)))))))
theorem code_spec_Tick : fnC Tryz.prog Tryz.f20 = some (c_spec_Tick, [.cell 2 true 4, .t 3], 71) := by kernel_rfl
def c_impl_Tick : C := .seq (.reg [⟨some 1, none, .box 30 4 (.t 0)⟩, ⟨some 2, none, .alloc 30 [.int .i64 0, .int .i64 0, .slice none 0 0, .slice none 0 0]⟩, ⟨some 3, none, .mov (.c (.int .i64 0))⟩]) (.seq (.reg [⟨some 7, none, .ld true 4 (.t 1)⟩, ⟨some 8, none, .call 50 [.t 7]⟩, ⟨some 4, none, .alloc 30 [.int .i64 0, .int .i64 0, .slice none 0 0, .slice none 0 0]⟩, ⟨none, none, .st 4 [none, none, some (1, 103), some (8, 80)] (.t 4) (.t 8)⟩]) (.seq (.blk 0 (.seq (.reg [⟨some 10, none, .ld true 4 (.t 1)⟩, ⟨some 11, none, .call 67 [.t 10]⟩, ⟨some 12, none, .un .not (.t 11)⟩, ⟨some 9, none, .mov (.t 12)⟩]) (.cond (.t 9) (.seq (.reg [⟨some 13, none, .ld true 4 (.t 4)⟩, ⟨none, none, .st 4 [none, none, some (1, 103), some (8, 80)] (.t 2) (.t 13)⟩, ⟨some 3, none, .mov (.c (.int .i64 8))⟩]) .ret) (.seq (.reg [⟨some 15, none, .fa 0 (.t 1)⟩, ⟨some 16, none, .ld false 1 (.t 15)⟩, ⟨some 17, none, .bin .add 3 (.t 16) (.c (.int .i64 1))⟩, ⟨some 18, none, .bin .gtr 3 (.t 17) (.c (.int .i64 999999980))⟩, ⟨some 14, none, .mov (.t 18)⟩]) (.cond (.t 14) (.seq (.reg [⟨some 19, none, .ld true 4 (.t 4)⟩, ⟨none, none, .st 4 [none, none, some (1, 103), some (8, 80)] (.t 2) (.t 19)⟩, ⟨some 3, none, .mov (.c (.int .i64 7))⟩]) .ret) .skip))))) (.seq (.reg [⟨some 20, none, .fa 0 (.t 4)⟩, ⟨some 21, none, .ld false 1 (.t 20)⟩, ⟨some 22, none, .bin .add 3 (.t 21) (.c (.int .i64 1))⟩, ⟨some 23, none, .fa 0 (.t 4)⟩, ⟨none, none, .st 1 [none] (.t 23) (.t 22)⟩]) (.seq (.seq (.reg [⟨some 24, none, .ld true 4 (.t 1)⟩, ⟨some 25, none, .call 68 [.t 24]⟩, ⟨some 26, none, .len false (.t 25)⟩, ⟨some 27, none, .mov (.c (.int .i64 0))⟩]) (.blk 1 (.loop (.seq (.reg [⟨some 28, none, .bin .lss 3 (.t 27) (.t 26)⟩]) (.seq (.cond (.t 28) .skip (.exit 1)) (.seq (.blk 2 (.seq (.reg [⟨some 29, none, .ia 1 (.t 25) (.t 27)⟩, ⟨some 30, none, .ld false 1 (.t 29)⟩, ⟨some 6, none, .alloc 96 [.slice none 0 0]⟩, ⟨none, none, .st 1 [some (1, 3)] (.t 6) (.t 30)⟩]) (.seq (.dreg (T.pure 0 ⟨some 31, none, .ld true 4 (.t 4)⟩ (T.pure 1 ⟨some 32, none, .ld false 1 (.t 6)⟩ (T.pure 2 ⟨some 33, none, .ia 1 (.t 32) (.c (.int .i64 0))⟩ (T.pure 3 ⟨some 34, none, .ld false 1 (.t 33)⟩ (T.pure 4 ⟨some 35, none, .ld false 1 (.t 6)⟩ (T.pure 5 ⟨some 36, none, .ia 1 (.t 35) (.c (.int .i64 1))⟩ (T.pure 6 ⟨some 37, none, .ld false 1 (.t 36)⟩ (T.pure 7 ⟨some 38, none, .ld false 1 (.t 6)⟩ (T.pure 8 ⟨some 39, none, .ia 1 (.t 38) (.c (.int .i64 2))⟩ (T.pure 9 ⟨some 40, none, .ld false 1 (.t 39)⟩ (T.alt ⟨some 41, none, .call 69 [.t 31, .t 34, .t 37, .t 40]⟩ [] T.done T.stop)))))))))))) (.cond (.t 41) (.dreg (T.pure 0 ⟨some 42, none, .ld true 4 (.t 4)⟩ (T.pure 1 ⟨some 43, none, .ld false 1 (.t 6)⟩ (T.pure 2 ⟨some 44, none, .ia 1 (.t 43) (.c (.int .i64 0))⟩ (T.pure 3 ⟨some 45, none, .ld false 1 (.t 44)⟩ (T.pure 5 ⟨some 47, none, .mkf 70 [.t 6]⟩ (T.alt ⟨some 46, none, .call 53 [.t 42, .t 45]⟩ [5] (T.alt ⟨some 48, none, .call 52 [.t 4, .t 46, .t 47]⟩ [] T.done T.stop) T.stop))))))) .skip)))) (.reg [⟨some 49, none, .bin .add 3 (.t 27) (.c (.int .i64 1))⟩, ⟨some 27, none, .mov (.t 49)⟩]))))))) (.seq (.reg [⟨some 50, none, .ld true 4 (.t 4)⟩, ⟨none, none, .st 4 [none, none, some (1, 103), some (8, 80)] (.t 2) (.t 50)⟩, ⟨some 3, none, .mov (.c (.int .i64 0))⟩]) .ret)))))
theorem code_impl_Tick : fnC Tryz.prog Tryz.f21 = some (c_impl_Tick, [.cell 2 true 4, .t 3], 51) := by kernel_rfl
def c_impl_Tick_1 : C := .reg [⟨some 3, none, .mov (.t 0)⟩, ⟨some 4, none, .ld false 1 (.t 1)⟩, ⟨some 5, none, .ia 1 (.t 4) (.c (.int .i64 1))⟩, ⟨some 6, none, .ld false 1 (.t 5)⟩, ⟨some 7, none, .call 64 [.t 3, .t 6]⟩]
theorem code_impl_Tick_1 : fnC Tryz.prog Tryz.f70 = some (c_impl_Tick_1, [], 8) := by kernel_rfl
set_option maxHeartbeats 8000000 in
theorem p_spec_Tick (y : Yd) (ht : totYd y ≤ 1990000) (wf : y.wf) : Pure Tryz.prog 20 [.agg (encYd y)] (.tup [(true, encYd (tickY y)), (false, [.val (.int .i64 (tickC y))])]) := by
  refine pure_fn Tryz.func20 code_spec_Tick (by simp) ?_
  unfold c_spec_Tick
  have ht2 : totYd y ≤ 2000000 := by omega
  simp -implicitDefEqProofs only [go_sem, encYd]
  intro b1 b2
  refine run_call (p_spec_l10Copy y ht2) (by simp -implicitDefEqProofs only [go_sem, encYd]) fun ηc => ?_
  simp -implicitDefEqProofs only [go_sem, encYd]
  intro b4
  refine run_call (p_spec_YardOk y ht2) (by simp -implicitDefEqProofs only [go_sem, encYd]) fun η => ?_
  simp -implicitDefEqProofs only [go_sem, encYd]
  cases hok : yardOkB y
  · have hc : tickC y = 8 := by simp [tickC, hok]
    have hy : tickY y = y := by rw [tickY, if_neg (by rw [hc]; decide)]
    simp -implicitDefEqProofs only [go_sem, encYd, hok, hc, hy]
    refine ret2_ _ _ _ _ _ ?_
    simp -implicitDefEqProofs only [go_sem, encYd]
  have hP := yard_iff.1 hok
  have hnow := hP.now
  have hw1 : IntKind.i64.wrap (y.now + 1) = y.now + 1 := wrap64 (by omega) (by omega)
  by_cases hgt : y.now + 1 > 999999980
  · have hc : tickC y = 7 := by rw [tickC, if_neg (by rw [hok]; decide), if_pos hgt]
    have hy : tickY y = y := by rw [tickY, if_neg (by rw [hc]; decide)]
    simp -implicitDefEqProofs only [go_sem, encYd, hok, hw1, hgt, hc, hy]
    refine ret2_ _ _ _ _ _ ?_
    simp -implicitDefEqProofs only [go_sem, encYd]
  have hc : tickC y = 0 := by rw [tickC, if_neg (by rw [hok]; decide), if_neg hgt]
  rw [hc, tickY, if_pos hc]
  simp -implicitDefEqProofs only [go_sem, encYd, hok, hw1, hgt]
  refine run_call (p_spec_LateOf y ht2 wf) (by simp -implicitDefEqProofs only [go_sem, encYd]) fun ηl => ?_
  simp -implicitDefEqProofs only [go_sem, encYd]
  have h96 := late_96 hP
  refine wp_loopW (fun i : Nat × Heads × Heads => St.of [(2, Bx 92 b2), (4, Bx 90 b4), (5, Hd 93 (ηl 0)), (6, Ni i.1)] [(92, ZYd b2 tYd), (90, YdBox b4 tYd (tickI y i.1).now (tickI y i.1).seq (tickI y i.1).shelf i.2.1 (tickI y i.1).runs i.2.2), (93, .loose (encIss (lateL y)) (ηl 0))]) (fun i => i.1 ≤ (lateL y).length) (fun i => (lateL y).length - i.1) (0, ηc 2, ηc 3) (by (try dsimp only); first | omega | (simp; done) | (and_intros <;> first | omega | simp)) (wk_of [some 200, some 400, some 2000] (by simp -implicitDefEqProofs only [go_sem, encYd, show tickI y 0 = y from rfl] <;> and_intros <;> first | rfl | assumption)) ?_
  rintro ⟨i, f2, f3⟩ hi
  dsimp only at hi
  have hJ := tickI_step hP i
  by_cases hlt : i < (lateL y).length
  · have hlt' : (i : Int) < (lateL y).length := by omega
    have h0i : (i : Int) ≥ 0 := by omega
    obtain ⟨l, hl⟩ := get_some hlt
    obtain ⟨k, t, r0, x0, hr0, hx0, hra, hs0, hll⟩ := late_mem hP (List.mem_of_getElem? hl)
    have hw : IntKind.i64.wrap ((i : Int) + 1) = ((i + 1 : Nat) : Int) := wrap64 (by omega) (by omega)
    have hnt : tickI y (i + 1) = failK (tickI y i) k t := by rw [tickI_s hl, hll, stepL]; simp only [List.headD_cons, List.tail_cons, hJ.later.runAt, hra, Int.toNat_natCast]
    generalize tickI y i = z at *
    obtain ⟨r, hr, hid, hpl, hR, hrl, hr3⟩ := hJ.later.runs k r0 hr0
    have hkl := (List.getElem?_eq_some_iff.1 hr).1
    have h0k : (k : Int) ≥ 0 := by omega
    have h12 := hR.le12
    have htl := (List.getElem?_eq_some_iff.1 hx0).1
    have hlt3 : t < r.tasks.length := by omega
    have h0t : (t : Int) ≥ 0 := by omega
    obtain ⟨x, hx⟩ := get_some hlt3
    have hfy : failK z k t = if x.state == 3 then turnY z k (runFails r t) else z := by rw [failK, hr, Option.getD_some, stT_nat hx]
    have hrz : runAt z r0.id = (k : Int) := by rw [hJ.later.runAt, hra]
    subst hll
    simp -implicitDefEqProofs only [go_sem, hlt', hlt, h0i, Nat.mul_one, at_iss hl, in_iss hl, get_iss hl]
    refine run_call (p_spec_RunAt z r0.id) (by simp -implicitDefEqProofs only [go_sem, encYd]) fun η => ?_
    simp -implicitDefEqProofs only [go_sem, encYd]
    rw [hrz]
    simp -implicitDefEqProofs only [go_sem, hlt', hlt, h0i, Nat.mul_one, at_iss hl, in_iss hl, get_iss hl, Nat.add_zero, hkl, h0k, at_rn7 hr, in_rn7 hr, get_rns7 hr, hlt3, h0t, at_tk0 hx, in_tk0 hx]
    cases hs : x.state == 3
    · rw [hs, if_neg (by decide)] at hfy
      rw [hfy] at hnt
      simp -implicitDefEqProofs only [go_sem, hs, hw]
      exact ⟨(i + 1, f2, f3), by (try dsimp only); first | omega | assumption | (and_intros <;> first | omega | assumption), (wk_of [some 92, some 90, some 93] (by simp -implicitDefEqProofs only [go_sem, hnt] <;> and_intros <;> first | rfl | assumption)), by (try dsimp only); omega⟩
    · rw [hs, if_pos rfl] at hfy
      rw [hfy] at hnt
      simp -implicitDefEqProofs only [go_sem, hs, hlt', hlt, h0i, Nat.mul_one, at_iss hl, in_iss hl, get_iss hl, Nat.add_zero, hkl, h0k, at_rn hr, in_rn hr, encRn, encPl]
      refine run_call (p_spec_RunFails r t (by have := pf_0 hR.plan; obtain ⟨n, _, _, _, h30, _⟩ := this; omega) (by omega)) (by simp -implicitDefEqProofs only [go_sem, encRn, encPl, get_rns5' hr, get_rns7' hr]) fun ηr => ?_
      simp -implicitDefEqProofs only [go_sem, encRn, encPl, get_rns5' hr, get_rns7' hr]
      have hl2 := runFails_len r t
      generalize runFails r t = r2 at *
      refine run_inl_ren [some 90, some 92, some 93, some 6405, some 6407] [(90, YdBox b4 tYd z.now z.seq z.shelf f2 z.runs f3), (92, ZYd b2 tYd), (93, .loose (encIss (lateL y)) (ηl 0)), (97, .loose (encEds r2.plan.edges) (ηr 5)), (98, .loose (encTks r2.tasks) (ηr 7))] [.agg [.v (.int .i64 z.now), .v (.int .i64 z.seq), .h 90 2 [] (f2 []), .h 90 3 [] (f3 [])], Ni k, .agg [.v (.int .i64 r2.id), .v (.int .i64 r2.plan.prio), .v (.int .i64 r2.plan.most), .v (.int .i64 r2.plan.wait), .v (.int .i64 r2.plan.tasks), .h 97 0 [] (ηr 5 []), .v (.int .i64 r2.state), .h 98 0 [] (ηr 7 [])]] (by simp -implicitDefEqProofs only [go_sem] <;> and_intros <;> rfl) (by simp -implicitDefEqProofs only [go_sem] <;> and_intros <;> rfl) (inl_turnS hr hl2 h12 hJ.four (by have := hJ.seq; omega) (by have := hJ.tot; omega) rfl rfl rfl) ?_
      rintro _ o1 ⟨c, g2, g3, x2, x3, rfl, j99, j90, j91, j92, j93, j94, j95, j96⟩
      have j92' : o1 92 = ZYd b2 tYd := j92
      have j93' : o1 93 = .loose (encIss (lateL y)) (ηl 0) := j93
      generalize turnY z k r2 = z2 at *
      simp -implicitDefEqProofs only [go_sem, j99, j90, j92', hw]
      exact ⟨(i + 1, g2, g3), by (try dsimp only); first | omega | assumption | (and_intros <;> first | omega | assumption), (wk_of [some 92, some 90, some 93] (by simp -implicitDefEqProofs only [go_sem, hnt, j90, j92', j93'] <;> and_intros <;> first | rfl | assumption)), by (try dsimp only); omega⟩
  have hlt' : ¬ (i : Int) < (lateL y).length := by omega
  obtain rfl : i = (lateL y).length := by omega
  have hzn := hJ.now
  generalize tickI y (lateL y).length = z at *
  have hw1z : IntKind.i64.wrap (z.now + 1) = y.now + 1 := by rw [hzn, hw1]
  simp -implicitDefEqProofs only [go_sem, hlt', hw1z]
  refine ret2_ _ _ _ _ _ ?_
  simp -implicitDefEqProofs only [go_sem, encYd]
section
variable {L : List (List Int)} {i : Nat} {d : D}
theorem iss_len (L : List (List Int)) : (L.flatMap fun es => [encInts es]).length = L.length := by rw [len_flat (enc := fun es => [encInts es]) (size := 1) (fun _ => rfl), Nat.mul_one]
theorem iss_cut_len : ((L.flatMap fun es => [encInts es]).set i d).length = L.length := by rw [List.length_set, iss_len]
theorem iss_cut_dlen : (D.sl 1 tIs ((L.flatMap fun es => [encInts es]).set i d)).len = L.length := by
  simp only [D.len, D.cells, D.size, iss_cut_len, Nat.div_one]
theorem iss_cut_at (h : i < L.length) : (((L.flatMap fun es => [encInts es]).set i d).drop i).take 1 = [d] := by
  have hl : i < ((L.flatMap fun es => [encInts es]).set i d).length := by rw [iss_cut_len]; exact h
  rw [List.drop_eq_getElem_cons hl, List.take_succ_cons, List.take_zero, List.getElem_set_self]
theorem iss_get {l : List Int} (h : L[i]? = some l) : (L.flatMap fun es => [encInts es])[i]? = some (encInts l) := by
  have e : L.flatMap (fun es => [encInts es]) = L.map encInts := by clear h; induction L <;> simp_all
  simp [e, h]
end
set_option maxHeartbeats 4000000 in
theorem clos_Tick {k t b6 : Nat} {y : Yd} {r : Rn} {id tri : Int} {η6 : Heads} (hr : y.runs[k]? = some r) (hrun : runsB r t = true) : ClosK Tryz.prog 70 [.bp 91 0 b6] (.box b6 tIs [.own (encInts [id, (t : Int), tri]) η6]) k y (runFails r t) := by
  intro o b e2 e3 h90 h91
  refine turns_fn (β := 6000000) Tryz.func70 code_impl_Tick_1 (by simp) ?_
  unfold c_impl_Tick_1
  simp -implicitDefEqProofs only [go_sem, h91, Nat.mul_one]
  refine run_inl_at (vs := [.c (.ep 90 3 [] (k * 8) (e3 [])), Ni t]) (by simp -implicitDefEqProofs only [go_sem]) (ep_fails hr hrun _ b e2 e3 (by simp -implicitDefEqProofs only [go_sem]; exact h90)) ?_
  rintro _ o1 ⟨rfl, j90, j91, j92, j93, j94, j95, j96, j97⟩
  simp -implicitDefEqProofs only [go_sem] at j91 j92 j93 j94 j95 j96 j97
  rw [h91] at j91
  exact ⟨.tup [], ⟨by decide, rfl⟩, rfl, rfl, j90, j91, j92, j93, j94, j95, j96, j97⟩
set_option maxHeartbeats 8000000 in
theorem p_impl_Tick (y : Yd) (ht : totYd y ≤ 1990000) (wf : y.wf) : Pure Tryz.prog 21 [.agg (encYd y)] (.tup [(true, encYd (tickY y)), (false, [.val (.int .i64 (tickC y))])]) := by
  refine pure_gn [[1,1,1,1,0,1,0,0,1,1,0,0,0], [1,1,1,1,0,1,0,0,1,1,0,0,1,0], [1,1,1,1,0,1,0,0,1,1,1]] Tryz.func21 code_impl_Tick (by simp) ?_
  unfold c_impl_Tick
  simp only [C.ghs, C.ghAt, List.foldr]
  have ht2 : totYd y ≤ 2000000 := by omega
  simp -implicitDefEqProofs only [go_sem, encYd]
  intro b1 b2
  refine run_call (p_impl_copyYard y ht2) (by simp -implicitDefEqProofs only [go_sem, encYd]) fun ηc => ?_
  simp -implicitDefEqProofs only [go_sem, encYd]
  intro b4
  refine run_call (p_impl_YardOk y ht2) (by simp -implicitDefEqProofs only [go_sem, encYd]) fun η => ?_
  simp -implicitDefEqProofs only [go_sem, encYd]
  cases hok : yardOkB y
  · have hc : tickC y = 8 := by simp [tickC, hok]
    have hy : tickY y = y := by rw [tickY, if_neg (by rw [hc]; decide)]
    simp -implicitDefEqProofs only [go_sem, encYd, hok, hc, hy]
    refine ret2_ _ _ _ _ _ ?_
    simp -implicitDefEqProofs only [go_sem, encYd]
  have hP := yard_iff.1 hok
  have hnow := hP.now
  have hw1 : IntKind.i64.wrap (y.now + 1) = y.now + 1 := wrap64 (by omega) (by omega)
  by_cases hgt : y.now + 1 > 999999980
  · have hc : tickC y = 7 := by rw [tickC, if_neg (by rw [hok]; decide), if_pos hgt]
    have hy : tickY y = y := by rw [tickY, if_neg (by rw [hc]; decide)]
    simp -implicitDefEqProofs only [go_sem, encYd, hok, hw1, hgt, hc, hy]
    refine ret2_ _ _ _ _ _ ?_
    simp -implicitDefEqProofs only [go_sem, encYd]
  have hc : tickC y = 0 := by rw [tickC, if_neg (by rw [hok]; decide), if_neg hgt]
  rw [hc, tickY, if_pos hc]
  simp -implicitDefEqProofs only [go_sem, encYd, hok, hw1, hgt]
  refine run_call (p_impl_LateOf y ht2 wf) (by simp -implicitDefEqProofs only [go_sem, encYd]) fun ηl => ?_
  simp -implicitDefEqProofs only [go_sem, encYd]
  have h96 := late_96 hP
  refine wp_loopW (fun i : Nat × Heads × Heads × Heads => St.of [(2, Bx 92 b2), (4, Bx 90 b4), (25, Hd 93 i.2.2.2), (26, Ni (lateL y).length), (27, Ni i.1)] [(92, ZYd b2 tYd), (90, YdBox b4 tYd (y.now + 1) (tickI y i.1).seq (tickI y i.1).shelf i.2.1 (tickI y i.1).runs i.2.2.1), (93, .loose (encIss (lateL y)) i.2.2.2)]) (fun i => i.1 ≤ (lateL y).length) (fun i => (lateL y).length - i.1) (0, ηc 2, ηc 3, ηl 0) (by (try dsimp only); first | omega | (simp; done) | (and_intros <;> first | omega | simp)) (wk_of [some 200, some 400, some 2500] (by simp -implicitDefEqProofs only [go_sem, encYd, show tickI y 0 = y from rfl] <;> and_intros <;> first | rfl | assumption)) ?_
  rintro ⟨i, f2, f3, f9⟩ hi
  dsimp only at hi
  have hJ := tickI_step hP i
  by_cases hlt : i < (lateL y).length
  · have hlt' : (i : Int) < (lateL y).length := by omega
    have h0i : (i : Int) ≥ 0 := by omega
    obtain ⟨l, hl⟩ := get_some hlt
    obtain ⟨k, t, r0, x0, hr0, hx0, hra, hs0, hll⟩ := late_mem hP (List.mem_of_getElem? hl)
    have hw : IntKind.i64.wrap ((i : Int) + 1) = ((i + 1 : Nat) : Int) := wrap64 (by omega) (by omega)
    have hnt : tickI y (i + 1) = failK (tickI y i) k t := by rw [tickI_s hl, hll, stepL]; simp only [List.headD_cons, List.tail_cons, hJ.later.runAt, hra, Int.toNat_natCast]
    generalize tickI y i = z at *
    obtain ⟨r, hr, hid, hpl, hR, hrl, hr3⟩ := hJ.later.runs k r0 hr0
    have h12 := hR.le12
    have htl := (List.getElem?_eq_some_iff.1 hx0).1
    have hlt3 : t < r.tasks.length := by omega
    obtain ⟨x, hx⟩ := get_some hlt3
    have hfy : failK z k t = if x.state == 3 then turnY z k (runFails r t) else z := by rw [failK, hr, Option.getD_some, stT_nat hx]
    have hho : holds z r0.id t x0.tri = (x.state == 3) := by rw [hold_later hJ.later hr0 hra hx0, hr, Option.getD_some, stT_nat hx]
    have hrz : runAt z r0.id = (k : Int) := by rw [hJ.later.runAt, hra]
    subst hll
    simp -implicitDefEqProofs only [go_sem, hlt']
    refine wp_gk ?_
    refine wk_cutN 93 0 i 94 (η := f9) (sz := 1) (tyo := tIs) (ds0 := (lateL y).flatMap fun es => [encInts es]) (cs := [r0.id, (t : Int), x0.tri].flatMap fun n => [iv n]) rfl (iss_get hl) rfl (by decide) fun ηa ηA hA1 hA2 hA3 => ?_
    rw [← hA2]
    rw [← hA2] at hA3
    refine WkK.wk (s' := St.of [(2, Bx 92 b2), (4, Bx 90 b4), (25, Hd 93 ηA), (26, Ni (lateL y).length), (27, Ni i)] [(92, ZYd b2 tYd), (90, YdBox b4 tYd (y.now + 1) z.seq z.shelf f2 z.runs f3), (93, .loose (.sl 1 tIs (((lateL y).flatMap fun es => [encInts es]).set i (.val (ηa [])))) ηA), (94, .loose (encInts [r0.id, (t : Int), x0.tri]) ηa)]) (wk_of [some 92, some 90, some 93, some 94] (by simp -implicitDefEqProofs only [go_sem, hA1] <;> and_intros <;> first | rfl | assumption)) ?_
    refine WkK.of ?_
    have hi1 : i + 1 ≤ (lateL y).length := hlt
    simp -implicitDefEqProofs only [go_sem, hlt', hlt, h0i, Nat.mul_one, iss_cut_dlen, iss_cut_len, iss_cut_at hlt, hA3, hi1]
    intro b6
    refine wp_gk ?_
    refine WkK.wk (s' := St.of [(2, Bx 92 b2), (4, Bx 90 b4), (6, Bx 91 b6), (25, Hd 93 ηA), (26, Ni (lateL y).length), (27, Ni i)] [(92, ZYd b2 tYd), (90, YdBox b4 tYd (y.now + 1) z.seq z.shelf f2 z.runs f3), (93, .loose (.sl 1 tIs (((lateL y).flatMap fun es => [encInts es]).set i (.val (ηa [])))) ηA), (94, .loose (encInts [r0.id, (t : Int), x0.tri]) ηa), (91, .box b6 tIs [.a (.v (ηa []))])]) (wk_of [some 92, some 90, some 93, some 94, some 600] (by simp -implicitDefEqProofs only [go_sem] <;> and_intros <;> first | rfl | assumption)) ?_
    refine wk_graft0 91 0 94 (d := encInts [r0.id, (t : Int), x0.tri]) (η := ηa) rfl rfl rfl ?_
    refine WkK.wk (s' := St.of [(2, Bx 92 b2), (4, Bx 90 b4), (6, Bx 91 b6), (25, Hd 93 ηA), (26, Ni (lateL y).length), (27, Ni i)] [(92, ZYd b2 tYd), (90, YdBox b4 tYd (y.now + 1) z.seq z.shelf f2 z.runs f3), (93, .loose (.sl 1 tIs (((lateL y).flatMap fun es => [encInts es]).set i (.val (ηa [])))) ηA), (91, .box b6 tIs [.own (encInts [r0.id, (t : Int), x0.tri]) ηa])]) (wk_of [some 92, some 90, some 93, some 91] (by simp -implicitDefEqProofs only [go_sem] <;> and_intros <;> first | rfl | assumption)) ?_
    refine WkK.of ?_
    simp -implicitDefEqProofs only [go_sem, Nat.mul_one]
    refine run_call (p_impl_Holds ⟨y.now + 1, z.seq, z.shelf, z.runs⟩ r0.id t x0.tri) (by simp -implicitDefEqProofs only [go_sem, encYd]) fun η => ?_
    simp -implicitDefEqProofs only [go_sem, encYd]
    rw [show holds ⟨y.now + 1, z.seq, z.shelf, z.runs⟩ r0.id t x0.tri = (x.state == 3) from hho]
    cases hs : x.state == 3
    · rw [hs, if_neg (by decide)] at hfy
      rw [hfy] at hnt
      simp -implicitDefEqProofs only [go_sem, hs]
      refine wp_gk ?_
      refine WkK.wk (s' := St.of [(2, Bx 92 b2), (4, Bx 90 b4), (25, Hd 93 ηA), (26, Ni (lateL y).length), (27, Ni i)] [(92, ZYd b2 tYd), (90, YdBox b4 tYd (y.now + 1) z.seq z.shelf f2 z.runs f3), (93, .loose (.sl 1 tIs (((lateL y).flatMap fun es => [encInts es]).set i (.val (ηa [])))) ηA), (91, .box b6 tIs [.own (encInts [r0.id, (t : Int), x0.tri]) ηa])]) (wk_of [some 92, some 90, some 93, some 91] (by simp -implicitDefEqProofs only [go_sem] <;> and_intros <;> first | rfl | assumption)) ?_
      refine wk_cut0 91 0 94 (d := encInts [r0.id, (t : Int), x0.tri]) (η := ηa) rfl rfl (by decide) fun _ => ?_
      refine wk_graftN 93 0 i 94 (η := ηA) (η2 := ηa) (sz := 1) (tyo := tIs) (ds0 := ((lateL y).flatMap fun es => [encInts es]).set i (.val (ηa []))) (cs := [r0.id, (t : Int), x0.tri].flatMap fun n => [iv n]) rfl (List.getElem?_set_self (by rw [iss_len]; exact hlt)) (.inl rfl) rfl (by decide) fun ηE hE => ?_
      rw [List.set_set, show D.sl 1 tInt ([r0.id, (t : Int), x0.tri].flatMap fun n => [iv n]) = encInts [r0.id, (t : Int), x0.tri] from rfl, set_same (iss_get hl)]
      refine WkK.of ?_
      simp -implicitDefEqProofs only [go_sem, hw]
      exact ⟨(i + 1, f2, f3, ηE), by (try dsimp only); first | omega | assumption | (and_intros <;> first | omega | assumption), (wk_of [some 92, some 90, some 93] (by simp -implicitDefEqProofs only [go_sem, hnt, hE, encIss] <;> and_intros <;> first | rfl | assumption)), by (try dsimp only); omega⟩
    · rw [hs, if_pos rfl] at hfy
      rw [hfy] at hnt
      have hs' : x.state = 3 := by simpa using hs
      simp -implicitDefEqProofs only [go_sem, hs, Nat.mul_one]
      refine run_call (p_impl_RunAt ⟨y.now + 1, z.seq, z.shelf, z.runs⟩ r0.id) (by simp -implicitDefEqProofs only [go_sem, encYd]) fun η => ?_
      simp -implicitDefEqProofs only [go_sem, encYd]
      rw [show runAt ⟨y.now + 1, z.seq, z.shelf, z.runs⟩ r0.id = (k : Int) from hrz]
      have hq := hJ.seq
      have htz := hJ.tot
      have hte : totYd ⟨y.now + 1, z.seq, z.shelf, z.runs⟩ ≤ 2000000 := by
        have e : totYd ⟨y.now + 1, z.seq, z.shelf, z.runs⟩ = totYd z := rfl
        rw [e]; omega
      refine run_inl_at (vs := [Bx 90 b4, Ni k, .fn 70 [.bp 91 0 b6]]) (by simp -implicitDefEqProofs only [go_sem]) (inl_change (y := ⟨y.now + 1, z.seq, z.shelf, z.runs⟩) (H := .box b6 tIs [.own (encInts [r0.id, (t : Int), x0.tri]) ηa]) hr (runFails_len r t) h12 hJ.four (by dsimp only; omega) hte (clos_Tick hr (runs_of hR hx hs')) (e2 := f2) (e3 := f3) (by simp -implicitDefEqProofs only [go_sem]) (by simp -implicitDefEqProofs only [go_sem])) ?_
      rintro _ o1 ⟨rfl, ⟨g2, g3, j90⟩, j91, j92, j93, j94, j95, j96⟩
      have j92' : o1 92 = ZYd b2 tYd := j92
      have j93' : o1 93 = .loose (.sl 1 tIs (((lateL y).flatMap fun es => [encInts es]).set i (.val (ηa [])))) ηA := j93
      have j90' : o1 90 = YdBox b4 tYd (y.now + 1) (turnY z k (runFails r t)).seq (turnY z k (runFails r t)).shelf g2 (turnY z k (runFails r t)).runs g3 := j90
      generalize turnY z k (runFails r t) = z2 at *
      refine wp_gk ?_
      refine WkK.wk (s' := St.of [(2, Bx 92 b2), (4, Bx 90 b4), (25, Hd 93 ηA), (26, Ni (lateL y).length), (27, Ni i)] [(92, ZYd b2 tYd), (90, YdBox b4 tYd (y.now + 1) z2.seq z2.shelf g2 z2.runs g3), (93, .loose (.sl 1 tIs (((lateL y).flatMap fun es => [encInts es]).set i (.val (ηa [])))) ηA), (91, .box b6 tIs [.own (encInts [r0.id, (t : Int), x0.tri]) ηa])]) (wk_of [some 92, some 90, some 93, some 91] (by simp -implicitDefEqProofs only [go_sem, j90', j91, j92', j93'] <;> and_intros <;> first | rfl | assumption)) ?_
      refine wk_cut0 91 0 94 (d := encInts [r0.id, (t : Int), x0.tri]) (η := ηa) rfl rfl (by decide) fun _ => ?_
      refine wk_graftN 93 0 i 94 (η := ηA) (η2 := ηa) (sz := 1) (tyo := tIs) (ds0 := ((lateL y).flatMap fun es => [encInts es]).set i (.val (ηa []))) (cs := [r0.id, (t : Int), x0.tri].flatMap fun n => [iv n]) rfl (List.getElem?_set_self (by rw [iss_len]; exact hlt)) (.inl rfl) rfl (by decide) fun ηE hE => ?_
      rw [List.set_set, show D.sl 1 tInt ([r0.id, (t : Int), x0.tri].flatMap fun n => [iv n]) = encInts [r0.id, (t : Int), x0.tri] from rfl, set_same (iss_get hl)]
      refine WkK.of ?_
      simp -implicitDefEqProofs only [go_sem, hw]
      exact ⟨(i + 1, g2, g3, ηE), by (try dsimp only); first | omega | assumption | (and_intros <;> first | omega | assumption), (wk_of [some 92, some 90, some 93] (by simp -implicitDefEqProofs only [go_sem, hnt, hE, encIss] <;> and_intros <;> first | rfl | assumption)), by (try dsimp only); omega⟩
  have hlt' : ¬ (i : Int) < (lateL y).length := by omega
  obtain rfl : i = (lateL y).length := by omega
  generalize tickI y (lateL y).length = z at *
  simp -implicitDefEqProofs only [go_sem, hlt']
  refine ret2_ _ _ _ _ _ ?_
  simp -implicitDefEqProofs only [go_sem, encYd]
theorem tot_tick (y : Yd) (ht : totYd y ≤ 1900000) : totYd (tickY y) ≤ 2000000 := by
  unfold tickY
  split
  · rename_i h
    have hok : yardOkB y = true := by
      unfold tickC at h
      split at h
      · cases h
      · rename_i h1; simpa using h1
    have hP := yard_iff.1 hok
    have h1 := (tickI_step hP (lateL y).length).tot
    have h2 := late_96 hP
    have e : totYd ⟨y.now + 1, (tickI y (lateL y).length).seq, (tickI y (lateL y).length).shelf, (tickI y (lateL y).length).runs⟩ = totYd (tickI y (lateL y).length) := rfl
    rw [e]; omega
  · omega
end Go.Proofs.YtnhdcbhcocgjhaaGreat
