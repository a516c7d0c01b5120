/- Texts for laws: PollP. -/
import Derived.Test.YtnhdcbhcocgjhaaGreatQCopy
import Derived.Test.YtnhdcbhcocgjhaaGreatQPut
import Derived.Test.YtnhdcbhcocgjhaaGreatQRet2
set_option linter.unusedSimpArgs false
set_option linter.unusedVariables false
set_option maxRecDepth 100000
namespace Go.Proofs.YtnhdcbhcocgjhaaGreat
open Go.RowKit Go.Sort
/-- A part of the code. -/
def C.sub : List Nat → C → C
  | [], c => c
  | 0 :: p, .seq a _ => a.sub p
  | _ :: p, .seq _ b => b.sub p
  | 0 :: p, .cond _ a _ => a.sub p
  | _ :: p, .cond _ _ b => b.sub p
  | _ :: p, .blk _ a => a.sub p
  | _ :: p, .loop a => a.sub p
  | _, c => c
section
variable {s : St}
def resT (s : St) (rs : List R) (K : List (Bool × List A0) → Prop) : AV → Prop
  | .agg l => resK s rs fun ps => K ((true, l) :: ps)
  | .c a => resK s rs fun ps => K ((false, [a]) :: ps)
  | _ => False
def resC (s : St) (agg : Bool) (size : Nat) (rs : List R) (K : List (Bool × List A0) → Prop) : AV → Prop
  | .c (.bp g c b) => ldB (s.o g) g c b size fun l => (agg = true ∨ l.length = 1) ∧ resK s rs fun ps => K ((agg, l) :: ps)
  | _ => False
theorem retQ_ (rs : List R) (rt : RT) : RetQ rs rt s = resK s rs fun ps => ShapeIs rt ps ∧ TakeK s (ps.flatMap (·.2)) fun cs _ => IsD cs rt.flat := rfl
theorem resK_nil (K : List (Bool × List A0) → Prop) : resK s [] K = K [] := rfl
theorem resK_t (n : Nat) (rs : List R) (K : List (Bool × List A0) → Prop) : resK s (.t n :: rs) K = resT s rs K (s.t n) := by
  simp only [resK, resT]
  split <;> simp_all
theorem resT_c (rs : List R) (K : List (Bool × List A0) → Prop) (a : A0) : resT s rs K (.c a) = resK s rs fun ps => K ((false, [a]) :: ps) := rfl
theorem resC_bp (agg : Bool) (size : Nat) (rs : List R) (K : List (Bool × List A0) → Prop) (g c b : Nat) : resC s agg size rs K (.c (.bp g c b)) = ldB (s.o g) g c b size fun l => (agg = true ∨ l.length = 1) ∧ resK s rs fun ps => K ((agg, l) :: ps) := rfl
theorem resK_cell (n : Nat) (agg : Bool) (size : Nat) (rs : List R) (K : List (Bool × List A0) → Prop) (h : resC s agg size rs K (s.t n)) : resK s (.cell n agg size :: rs) K := by
  unfold resC at h
  split at h
  · rename_i g c b he
    simp only [ldB] at h
    split at h
    · rename_i b' ty cs ho
      obtain ⟨e1, e2, e3, e4⟩ := h
      subst e1
      simp only [resK, he]
      exact ⟨_, ⟨ty, cs, ho, e2, rfl⟩, e3, e4⟩
    · exact h.elim
  · exact h.elim
theorem shape_tup (l : List (Bool × List D)) (ps : List (Bool × List A0)) : ShapeIs (.tup l) ps = (ps.length ≠ 1 ∧ ps.map (fun p => (p.1, p.2.length)) = l.map (fun p => (p.1, p.2.length))) := rfl
end
def halfA (l : List En) : List En := l.take ((l.length + 1) / 2)
def halfB (l : List En) : List En := l.drop ((l.length + 1) / 2)
def c_spec_HalfOf : C := .seq (.reg [⟨some 2, none, .mov (.c (.slice none 0 0))⟩, ⟨some 3, none, .mov (.c (.slice none 0 0))⟩]) (.seq (.reg [⟨some 5, none, .mov (.t 0)⟩, ⟨some 6, none, .len false (.t 5)⟩, ⟨some 7, none, .bin .add 3 (.t 6) (.c (.int .i64 1))⟩, ⟨some 8, none, .bin .quo 3 (.t 7) (.c (.int .i64 2))⟩, ⟨some 4, none, .mov (.t 8)⟩]) (.seq (.dreg (T.pure 1 ⟨some 10, none, .mov (.t 0)⟩ (T.pure 2 ⟨some 11, none, .mov (.t 4)⟩ (T.pure 3 ⟨some 12, none, .sl 4 (.t 10) none (some (.t 11))⟩ (T.pure 6 ⟨some 15, none, .mov (.t 0)⟩ (T.pure 7 ⟨some 16, none, .mov (.t 4)⟩ (T.pure 8 ⟨some 17, none, .sl 4 (.t 15) (some (.t 16)) none⟩ (T.alt ⟨some 9, none, .bsl 108 4 0 [] []⟩ [8, 7, 6, 3, 2, 1] (T.alt ⟨some 13, none, .app 108 4 32 (.t 9) (.t 12)⟩ [8, 7, 6] (T.alt ⟨some 14, none, .bsl 108 4 0 [] []⟩ [8, 7, 6, 3, 2, 1] (T.alt ⟨some 18, none, .app 108 4 32 (.t 14) (.t 17)⟩ [] (T.pure 10 ⟨some 2, none, .mov (.t 13)⟩ (T.pure 11 ⟨some 3, none, .mov (.t 18)⟩ T.done)) T.stop) T.stop) (T.alt ⟨some 14, none, .bsl 108 4 0 [] []⟩ [8, 7, 6, 3, 2, 1] (T.alt ⟨some 13, none, .app 108 4 32 (.t 9) (.t 12)⟩ [8, 7, 6] (T.alt ⟨some 18, none, .app 108 4 32 (.t 14) (.t 17)⟩ [] (T.pure 10 ⟨some 2, none, .mov (.t 13)⟩ (T.pure 11 ⟨some 3, none, .mov (.t 18)⟩ T.done)) T.stop) T.stop) T.stop)) (T.alt ⟨some 14, none, .bsl 108 4 0 [] []⟩ [8, 7, 6, 3, 2, 1] (T.alt ⟨some 9, none, .bsl 108 4 0 [] []⟩ [8, 7, 6, 3, 2, 1] (T.alt ⟨some 13, none, .app 108 4 32 (.t 9) (.t 12)⟩ [8, 7, 6] (T.alt ⟨some 18, none, .app 108 4 32 (.t 14) (.t 17)⟩ [] (T.pure 10 ⟨some 2, none, .mov (.t 13)⟩ (T.pure 11 ⟨some 3, none, .mov (.t 18)⟩ T.done)) T.stop) T.stop) T.stop) T.stop))))))))) .ret))
theorem code_spec_HalfOf : fnC Tryz.prog Tryz.f75 = some (c_spec_HalfOf, [.t 2, .t 3], 19) := by kernel_rfl
def c_impl_HalfOf : C := .seq (.reg [⟨some 2, none, .mov (.c (.slice none 0 0))⟩, ⟨some 3, none, .mov (.c (.slice none 0 0))⟩]) (.seq (.reg [⟨some 5, none, .mov (.t 0)⟩, ⟨some 6, none, .len false (.t 5)⟩, ⟨some 7, none, .bin .add 3 (.t 6) (.c (.int .i64 1))⟩, ⟨some 8, none, .bin .quo 3 (.t 7) (.c (.int .i64 2))⟩, ⟨some 4, none, .mov (.t 8)⟩]) (.seq (.dreg (T.pure 0 ⟨some 9, none, .mov (.t 0)⟩ (T.pure 1 ⟨some 10, none, .mov (.t 4)⟩ (T.pure 2 ⟨some 11, none, .sl 4 (.t 9) none (some (.t 10))⟩ (T.pure 4 ⟨some 13, none, .mov (.t 0)⟩ (T.pure 5 ⟨some 14, none, .mov (.t 4)⟩ (T.pure 6 ⟨some 15, none, .sl 4 (.t 13) (some (.t 14)) none⟩ (T.alt ⟨some 12, none, .call 113 [.t 11]⟩ [6, 5, 4] (T.alt ⟨some 16, none, .call 113 [.t 15]⟩ [] (T.pure 8 ⟨some 2, none, .mov (.t 12)⟩ (T.pure 9 ⟨some 3, none, .mov (.t 16)⟩ T.done)) T.stop) T.stop)))))))) .ret))
theorem code_impl_HalfOf : fnC Tryz.prog Tryz.f82 = some (c_impl_HalfOf, [.t 2, .t 3], 17) := by kernel_rfl
set_option maxHeartbeats 4000000 in
theorem p_spec_HalfOf (l : List En) (hl : l.length ≤ 4000000) : Pure Tryz.prog 75 [.c (encEns l)] (.tup [(false, [encEns (halfA l)]), (false, [encEns (halfB l)])]) := by
  refine pure_fn Tryz.func75 code_spec_HalfOf (by simp) ?_
  unfold c_spec_HalfOf
  have hw : IntKind.i64.wrap ((l.length : Int) + 1) = (l.length : Int) + 1 := wrap64 (by omega) (by omega)
  have hq : IntKind.i64.wrap (((l.length : Int) + 1).tdiv 2) = (((l.length + 1) / 2 : Nat) : Int) := by
    rw [Int.tdiv_eq_ediv_of_nonneg (by omega)]; exact wrap64 (by omega) (by omega) |>.trans (by omega)
  have hn : (l.length + 1) / 2 ≤ l.length ∨ l.length = 0 := by omega
  have hn2 : (l.length + 1) / 2 ≤ l.length := by omega
  unfold halfA halfB
  generalize (l.length + 1) / 2 = n at *
  have h0n : (n : Int) ≥ 0 := by omega
  have m1 : (l.take n).length ≤ maxLen := by unfold maxLen; rw [List.length_take]; omega
  have m2 : (l.take n).length * 32 ≤ 140737488355328 := by rw [List.length_take]; omega
  have m3 : (l.drop n).length ≤ maxLen := by unfold maxLen; rw [List.length_drop]; omega
  have m4 : (l.drop n).length * 32 ≤ 140737488355328 := by rw [List.length_drop]; omega
  have htd : (l.drop n).take (l.length - n) = l.drop n := List.take_of_length_le (by rw [List.length_drop]; omega)
  simp -implicitDefEqProofs only [go_sem, hw, hq, hn2, h0n, Nat.le_refl, htd, m1, m2, m3, m4, fold_encEns']
  simp -implicitDefEqProofs only [go_sem, retQ_, resK_t, resT_c, resK_nil, shape_tup]
theorem p_impl_HalfOf (l : List En) (hl : l.length ≤ 4000000) : Pure Tryz.prog 82 [.c (encEns l)] (.tup [(false, [encEns (halfA l)]), (false, [encEns (halfB l)])]) := by
  refine pure_fn Tryz.func82 code_impl_HalfOf (by simp) ?_
  unfold c_impl_HalfOf
  have hw : IntKind.i64.wrap ((l.length : Int) + 1) = (l.length : Int) + 1 := wrap64 (by omega) (by omega)
  have hq : IntKind.i64.wrap (((l.length : Int) + 1).tdiv 2) = (((l.length + 1) / 2 : Nat) : Int) := by
    rw [Int.tdiv_eq_ediv_of_nonneg (by omega)]; exact wrap64 (by omega) (by omega) |>.trans (by omega)
  have hn2 : (l.length + 1) / 2 ≤ l.length := by omega
  unfold halfA halfB
  generalize (l.length + 1) / 2 = n at *
  have h0n : (n : Int) ≥ 0 := by omega
  have htd : (l.drop n).take (l.length - n) = l.drop n := List.take_of_length_le (by rw [List.length_drop]; omega)
  simp -implicitDefEqProofs only [go_sem, hw, hq, hn2, h0n, Nat.le_refl, htd]
  refine run_call (p_impl_copyEntries (l.take n) (by rw [List.length_take]; omega)) (by simp -implicitDefEqProofs only [go_sem, Nat.le_refl, htd]) fun ηa => ?_
  simp -implicitDefEqProofs only [go_sem, Nat.le_refl, htd]
  refine run_call (p_impl_copyEntries (l.drop n) (by rw [List.length_drop]; omega)) (by simp -implicitDefEqProofs only [go_sem, Nat.le_refl, htd]) fun ηb => ?_
  simp -implicitDefEqProofs only [go_sem, Nat.le_refl, htd]
  simp -implicitDefEqProofs only [go_sem, retQ_, resK_t, resT_c, resK_nil, shape_tup]
def mergedL (a b : List En) : List En := if a.length + b.length > 80 then a else b.foldl putL a
theorem putF_len : ∀ (b a : List En), (b.foldl putL a).length = a.length + b.length
  | [], a => by simp
  | e :: b, a => by rw [List.foldl_cons, putF_len b, putL_len, List.length_cons]; omega
theorem merged_len (a b : List En) : (mergedL a b).length ≤ a.length + b.length := by
  unfold mergedL
  split
  · omega
  · rw [putF_len]; exact Nat.le_refl _
theorem putF_take {b : List En} {k : Nat} {e : En} (h : b[k]? = some e) (a : List En) : (b.take (k + 1)).foldl putL a = putL ((b.take k).foldl putL a) e := by
  rw [List.take_add_one, h]; simp
def c_spec_Merged : C := .seq (.reg [⟨some 4, none, .mov (.c (.slice none 0 0))⟩]) (.seq (.reg [⟨some 7, none, .bsl 108 4 0 [] []⟩, ⟨some 8, none, .mov (.t 0)⟩, ⟨some 9, none, .app 108 4 32 (.t 7) (.t 8)⟩, ⟨some 5, none, .mov (.t 9)⟩]) (.seq (.seq (.reg [⟨some 10, none, .mov (.t 0)⟩, ⟨some 11, none, .len false (.t 10)⟩, ⟨some 12, none, .mov (.t 1)⟩, ⟨some 13, none, .len false (.t 12)⟩, ⟨some 14, none, .bin .add 3 (.t 11) (.t 13)⟩, ⟨some 15, none, .bin .gtr 3 (.t 14) (.c (.int .i64 80))⟩]) (.cond (.t 15) (.seq (.reg [⟨some 16, none, .mov (.t 5)⟩, ⟨some 4, none, .mov (.t 16)⟩]) .ret) .skip)) (.seq (.seq (.reg [⟨some 6, none, .mov (.c (.int .i64 0))⟩]) (.blk 0 (.loop (.seq (.seq (.reg [⟨some 17, none, .mov (.t 6)⟩, ⟨some 18, none, .mov (.t 1)⟩, ⟨some 19, none, .len false (.t 18)⟩, ⟨some 20, none, .bin .lss 3 (.t 17) (.t 19)⟩]) (.cond (.t 20) .skip (.exit 0))) (.seq (.blk 1 (.reg [⟨some 23, none, .mov (.t 5)⟩, ⟨some 24, none, .mov (.t 1)⟩, ⟨some 25, none, .mov (.t 6)⟩, ⟨some 26, none, .ia 4 (.t 24) (.t 25)⟩, ⟨some 27, none, .ld true 4 (.t 26)⟩, ⟨some 28, none, .call 143 [.t 23, .t 27]⟩, ⟨some 5, none, .mov (.t 28)⟩])) (.reg [⟨some 21, none, .mov (.t 6)⟩, ⟨some 22, none, .bin .add 3 (.t 21) (.c (.int .i64 1))⟩, ⟨some 6, none, .mov (.t 22)⟩])))))) (.seq (.reg [⟨some 29, none, .mov (.t 5)⟩, ⟨some 4, none, .mov (.t 29)⟩]) .ret))))
theorem code_spec_Merged : fnC Tryz.prog Tryz.f76 = some (c_spec_Merged, [.t 4], 30) := by kernel_rfl
def c_impl_Merged : C := .seq (.reg [⟨some 4, none, .mov (.c (.slice none 0 0))⟩]) (.seq (.reg [⟨some 8, none, .mov (.t 0)⟩, ⟨some 9, none, .call 113 [.t 8]⟩, ⟨some 5, none, .mov (.t 9)⟩]) (.seq (.seq (.reg [⟨some 10, none, .mov (.t 0)⟩, ⟨some 11, none, .len false (.t 10)⟩, ⟨some 12, none, .mov (.t 1)⟩, ⟨some 13, none, .len false (.t 12)⟩, ⟨some 14, none, .bin .add 3 (.t 11) (.t 13)⟩, ⟨some 15, none, .bin .gtr 3 (.t 14) (.c (.int .i64 80))⟩]) (.cond (.t 15) (.seq (.reg [⟨some 16, none, .mov (.t 5)⟩, ⟨some 4, none, .mov (.t 16)⟩]) .ret) .skip)) (.seq (.seq (.reg [⟨some 17, none, .mov (.t 1)⟩, ⟨some 18, none, .len false (.t 17)⟩, ⟨some 19, none, .mov (.c (.int .i64 0))⟩]) (.blk 0 (.loop (.seq (.reg [⟨some 20, none, .bin .lss 3 (.t 19) (.t 18)⟩]) (.seq (.cond (.t 20) .skip (.exit 0)) (.seq (.blk 1 (.seq (.reg [⟨some 21, none, .ia 4 (.t 17) (.t 19)⟩, ⟨some 22, none, .ld true 4 (.t 21)⟩, ⟨some 7, none, .alloc 108 [.int .i64 0, .int .i64 0, .int .i64 0, .int .i64 0]⟩, ⟨none, none, .st 4 [none, none, none, none] (.t 7) (.t 22)⟩]) (.reg [⟨some 23, none, .mov (.t 5)⟩, ⟨some 24, none, .ld true 4 (.t 7)⟩, ⟨some 25, none, .call 147 [.t 23, .t 24]⟩, ⟨some 5, none, .mov (.t 25)⟩]))) (.reg [⟨some 26, none, .bin .add 3 (.t 19) (.c (.int .i64 1))⟩, ⟨some 19, none, .mov (.t 26)⟩]))))))) (.seq (.reg [⟨some 27, none, .mov (.t 5)⟩, ⟨some 4, none, .mov (.t 27)⟩]) .ret))))
theorem code_impl_Merged : fnC Tryz.prog Tryz.f83 = some (c_impl_Merged, [.t 4], 28) := by kernel_rfl
set_option maxHeartbeats 4000000 in
theorem p_spec_Merged (a b : List En) (hl : a.length + b.length ≤ 4000000) : Pure Tryz.prog 76 [.c (encEns a), .c (encEns b)] (.c (encEns (mergedL a b))) := by
  refine pure_fn Tryz.func76 code_spec_Merged (by simp) ?_
  unfold c_spec_Merged
  have m1 : a.length ≤ maxLen := by unfold maxLen; omega
  have m2 : a.length * 32 ≤ 140737488355328 := by omega
  have hw : IntKind.i64.wrap ((a.length : Int) + b.length) = ((a.length + b.length : Nat) : Int) := by rw [wrap64 (by omega) (by omega)]; omega
  simp -implicitDefEqProofs only [go_sem, m1, m2, fold_encEns']
  intro η0 η1
  by_cases hgt : a.length + b.length > 80
  · have hgt' : ((a.length + b.length : Nat) : Int) > 80 := by omega
    have e : mergedL a b = a := if_pos hgt
    simp -implicitDefEqProofs only [go_sem, hw, hgt', e, fold_encEns']
  have hgt' : ¬ ((a.length + b.length : Nat) : Int) > 80 := by omega
  have e : mergedL a b = b.foldl putL a := if_neg hgt
  simp -implicitDefEqProofs only [go_sem, hw, hgt']
  refine wp_loopW (fun i : Nat × Heads => St.of [(1, Ro (encEns b)), (5, Hd 5 i.2), (6, Ni i.1)] [(5, .loose (encEns ((b.take i.1).foldl putL a)) i.2)]) (fun i => i.1 ≤ b.length) (fun i => b.length - i.1) (0, η1) (by (try dsimp only); first | omega | (simp; done) | (and_intros <;> first | omega | simp)) (wk_of [some 900] (by simp -implicitDefEqProofs only [go_sem, List.take_zero, List.foldl_nil, fold_encEns'] <;> and_intros <;> first | rfl | assumption)) ?_
  rintro ⟨k, η⟩ hk
  dsimp only at hk
  by_cases hlt : k < b.length
  · have hlt' : (k : Int) < b.length := by omega
    have h0k : (k : Int) ≥ 0 := by omega
    obtain ⟨x, hx⟩ := get_some hlt
    have hwk : IntKind.i64.wrap ((k : Int) + 1) = ((k + 1 : Nat) : Int) := wrap64 (by omega) (by omega)
    have hnx := putF_take hx a
    have hln := putF_len (b.take k) a
    rw [List.length_take] at hln
    generalize (b.take k).foldl putL a = L at *
    simp -implicitDefEqProofs only [go_sem, hlt', hlt, h0k, elem_encEns hx, encEn]
    refine run_call (p_spec_PutEntry L x (by omega)) (by simp -implicitDefEqProofs only [go_sem, encEn]) fun ηp => ?_
    simp -implicitDefEqProofs only [go_sem, encEn]
    simp -implicitDefEqProofs only [go_sem, hwk]
    exact ⟨(k + 1, ηp 0), by (try dsimp only); first | omega | assumption | (and_intros <;> first | omega | assumption), (wk_of [some 2800] (by simp -implicitDefEqProofs only [go_sem, hnx] <;> and_intros <;> first | rfl | assumption)), by (try dsimp only); omega⟩
  have hlt' : ¬ (k : Int) < b.length := by omega
  rw [List.take_of_length_le (by omega), e]
  simp -implicitDefEqProofs only [go_sem, hlt']
set_option maxHeartbeats 4000000 in
theorem p_impl_Merged (a b : List En) (hl : a.length + b.length ≤ 4000000) : Pure Tryz.prog 83 [.c (encEns a), .c (encEns b)] (.c (encEns (mergedL a b))) := by
  refine pure_fn Tryz.func83 code_impl_Merged (by simp) ?_
  unfold c_impl_Merged
  have hw : IntKind.i64.wrap ((a.length : Int) + b.length) = ((a.length + b.length : Nat) : Int) := by rw [wrap64 (by omega) (by omega)]; omega
  simp -implicitDefEqProofs only [go_sem]
  refine run_call (p_impl_copyEntries a (by omega)) (by simp -implicitDefEqProofs only [go_sem]) fun ηa => ?_
  simp -implicitDefEqProofs only [go_sem]
  by_cases hgt : a.length + b.length > 80
  · have hgt' : ((a.length + b.length : Nat) : Int) > 80 := by omega
    have e : mergedL a b = a := if_pos hgt
    simp -implicitDefEqProofs only [go_sem, hw, hgt', e]
  have hgt' : ¬ ((a.length + b.length : Nat) : Int) > 80 := by omega
  have e : mergedL a b = b.foldl putL a := if_neg hgt
  simp -implicitDefEqProofs only [go_sem, hw, hgt']
  refine wp_loopW (fun i : Nat × Heads => St.of [(5, Hd 5 i.2), (17, Ro (encEns b)), (18, Ni b.length), (19, Ni i.1)] [(5, .loose (encEns ((b.take i.1).foldl putL a)) i.2)]) (fun i => i.1 ≤ b.length) (fun i => b.length - i.1) (0, ηa 0) (by (try dsimp only); first | omega | (simp; done) | (and_intros <;> first | omega | simp)) (wk_of [some 900] (by simp -implicitDefEqProofs only [go_sem, List.take_zero, List.foldl_nil] <;> and_intros <;> first | rfl | assumption)) ?_
  rintro ⟨k, η⟩ hk
  dsimp only at hk
  by_cases hlt : k < b.length
  · have hlt' : (k : Int) < b.length := by omega
    have h0k : (k : Int) ≥ 0 := by omega
    obtain ⟨x, hx⟩ := get_some hlt
    have hwk : IntKind.i64.wrap ((k : Int) + 1) = ((k + 1 : Nat) : Int) := wrap64 (by omega) (by omega)
    have hnx := putF_take hx a
    have hln := putF_len (b.take k) a
    rw [List.length_take] at hln
    generalize (b.take k).foldl putL a = L at *
    simp -implicitDefEqProofs only [go_sem, hlt', hlt, h0k, elem_encEns hx, encEn]
    intro b7
    refine run_call (p_impl_PutEntry L x (by omega)) (by simp -implicitDefEqProofs only [go_sem, encEn]) fun ηp => ?_
    simp -implicitDefEqProofs only [go_sem, encEn]
    simp -implicitDefEqProofs only [go_sem, hwk]
    exact ⟨(k + 1, ηp 0), by (try dsimp only); first | omega | assumption | (and_intros <;> first | omega | assumption), (wk_of [some 2500] (by simp -implicitDefEqProofs only [go_sem, hnx] <;> and_intros <;> first | rfl | assumption)), by (try dsimp only); omega⟩
  have hlt' : ¬ (k : Int) < b.length := by omega
  rw [List.take_of_length_le (by omega), e]
  simp -implicitDefEqProofs only [go_sem, hlt']
def takE (l : List En) : En := l.headD ⟨0, 0, 0, 0⟩
def takOk (l : List En) : Bool := !l.isEmpty
def c_spec_TakeEntry : C := .seq (.reg [⟨some 2, none, .alloc 108 [.int .i64 0, .int .i64 0, .int .i64 0, .int .i64 0]⟩, ⟨some 3, none, .mov (.c (.slice none 0 0))⟩, ⟨some 4, none, .mov (.c (.bool false))⟩]) (.seq (.seq (.reg [⟨some 5, none, .mov (.t 0)⟩, ⟨some 6, none, .len false (.t 5)⟩, ⟨some 7, none, .bin .eql 3 (.t 6) (.c (.int .i64 0))⟩]) (.cond (.t 7) (.seq (.reg [⟨some 8, none, .bld [.int .i64 0, .int .i64 0, .int .i64 0, .int .i64 0] []⟩, ⟨some 9, none, .bsl 108 4 0 [] []⟩, ⟨none, none, .st 4 [none, none, none, none] (.t 2) (.t 8)⟩, ⟨some 3, none, .mov (.t 9)⟩, ⟨some 4, none, .mov (.c (.bool false))⟩]) .ret) .skip)) (.seq (.dreg (T.pure 0 ⟨some 10, none, .mov (.t 0)⟩ (T.pure 1 ⟨some 11, none, .ia 4 (.t 10) (.c (.int .i64 0))⟩ (T.pure 2 ⟨some 12, none, .ld true 4 (.t 11)⟩ (T.pure 4 ⟨some 14, none, .mov (.t 0)⟩ (T.pure 5 ⟨some 15, none, .sl 4 (.t 14) (some (.c (.int .i64 1))) none⟩ (T.alt ⟨some 13, none, .bsl 108 4 0 [] []⟩ [5, 4, 2, 1, 0] (T.alt ⟨some 16, none, .app 108 4 32 (.t 13) (.t 15)⟩ [2, 1, 0] (T.alt ⟨none, none, .st 4 [none, none, none, none] (.t 2) (.t 12)⟩ [] (T.pure 8 ⟨some 3, none, .mov (.t 16)⟩ (T.pure 9 ⟨some 4, none, .mov (.c (.bool true))⟩ T.done)) T.stop) T.stop) T.stop))))))) .ret))
theorem code_spec_TakeEntry : fnC Tryz.prog Tryz.f77 = some (c_spec_TakeEntry, [.cell 2 true 4, .t 3, .t 4], 17) := by kernel_rfl
def c_impl_TakeEntry : C := .seq (.reg [⟨some 2, none, .alloc 108 [.int .i64 0, .int .i64 0, .int .i64 0, .int .i64 0]⟩, ⟨some 3, none, .mov (.c (.slice none 0 0))⟩, ⟨some 4, none, .mov (.c (.bool false))⟩]) (.seq (.seq (.reg [⟨some 5, none, .mov (.t 0)⟩, ⟨some 6, none, .len false (.t 5)⟩, ⟨some 7, none, .bin .eql 3 (.t 6) (.c (.int .i64 0))⟩]) (.cond (.t 7) (.seq (.reg [⟨some 8, none, .bld [.int .i64 0, .int .i64 0, .int .i64 0, .int .i64 0] []⟩, ⟨none, none, .st 4 [none, none, none, none] (.t 2) (.t 8)⟩, ⟨some 3, none, .mov (.c (.slice none 0 0))⟩, ⟨some 4, none, .mov (.c (.bool false))⟩]) .ret) .skip)) (.seq (.dreg (T.pure 0 ⟨some 9, none, .mov (.t 0)⟩ (T.pure 1 ⟨some 10, none, .ia 4 (.t 9) (.c (.int .i64 0))⟩ (T.pure 2 ⟨some 11, none, .ld true 4 (.t 10)⟩ (T.pure 3 ⟨some 12, none, .mov (.t 0)⟩ (T.pure 4 ⟨some 13, none, .sl 4 (.t 12) (some (.c (.int .i64 1))) none⟩ (T.alt ⟨some 14, none, .call 113 [.t 13]⟩ [2, 1, 0] (T.alt ⟨none, none, .st 4 [none, none, none, none] (.t 2) (.t 11)⟩ [] (T.pure 7 ⟨some 3, none, .mov (.t 14)⟩ (T.pure 8 ⟨some 4, none, .mov (.c (.bool true))⟩ T.done)) T.stop) T.stop))))))) .ret))
theorem code_impl_TakeEntry : fnC Tryz.prog Tryz.f84 = some (c_impl_TakeEntry, [.cell 2 true 4, .t 3, .t 4], 15) := by kernel_rfl
set_option maxHeartbeats 4000000 in
theorem p_spec_TakeEntry (l : List En) (hl : l.length ≤ 4000000) : Pure Tryz.prog 77 [.c (encEns l)] (.tup [(true, encEn (takE l)), (false, [encEns l.tail]), (false, [.val (.bool (takOk l))])]) := by
  refine pure_fn Tryz.func77 code_spec_TakeEntry (by simp) ?_
  unfold c_spec_TakeEntry
  cases l with
  | nil =>
    simp -implicitDefEqProofs only [go_sem, encEn, takE, takOk, List.headD_nil, List.isEmpty_nil, List.tail_nil]
    intro b2 η0
    simp only [retQ_]
    refine resK_cell _ _ _ _ _ ?_
    simp -implicitDefEqProofs only [go_sem, resC_bp, resK_t, resT_c, resK_nil, shape_tup, true_or, nil_encEns]
  | cons x l =>
    have hle : l.length ≤ 4000000 := by rw [List.length_cons] at hl; omega
    have h0 : (x :: l)[0]? = some x := rfl
    have h1 : (((l.length + 1 : Nat) : Int) == 0) = false := by simp only [beq_eq_false_iff_ne, ne_eq]; omega
    have h2 : 1 ≤ l.length + 1 := by omega
    have h3 : 0 < l.length + 1 := by omega
    have m1 : l.length ≤ maxLen := by unfold maxLen; omega
    have m2 : l.length * 32 ≤ 140737488355328 := by omega
    have hd : List.take l.length l = l := List.take_length
    simp -implicitDefEqProofs only [go_sem, encEn, takE, takOk, List.headD_cons, List.isEmpty_cons, List.tail_cons, h1]
    intro b2
    simp -implicitDefEqProofs only [go_sem, h2, h3, elem_encEns h0, encEn, hd, Nat.le_refl, m1, m2, fold_encEns', Nat.add_sub_cancel]
    intro η η1
    simp only [retQ_]
    refine resK_cell _ _ _ _ _ ?_
    simp -implicitDefEqProofs only [go_sem, resC_bp, resK_t, resT_c, resK_nil, shape_tup, true_or]
def startT (ts : List Tk) (t : Nat) (x : Tk) (til : Int) : List Tk := ts.set t ⟨3, x.need, IntKind.i64.wrap (x.tri + 1), til⟩
def startR (r : Rn) (t : Nat) (x : Tk) (now : Int) : Rn := ⟨r.id, r.plan, r.state, startT r.tasks t x (IntKind.i64.wrap (now + r.plan.wait))⟩
def c_spec_l09Started : C := .seq (.reg [⟨some 3, none, .box 80 8 (.t 0)⟩, ⟨some 6, none, .alloc 80 [.int .i64 0, .int .i64 0, .int .i64 0, .int .i64 0, .int .i64 0, .slice none 0 0, .int .i64 0, .slice none 0 0]⟩]) (.seq (.reg [⟨some 9, none, .ld true 8 (.t 3)⟩, ⟨some 10, none, .call 105 [.t 9]⟩, ⟨some 7, none, .alloc 80 [.int .i64 0, .int .i64 0, .int .i64 0, .int .i64 0, .int .i64 0, .slice none 0 0, .int .i64 0, .slice none 0 0]⟩, ⟨none, none, .st 8 [none, none, none, none, none, some (2, 182), none, some (4, 98)] (.t 7) (.t 10)⟩]) (.seq (.reg [⟨some 11, none, .fa 7 (.t 7)⟩, ⟨some 12, none, .ld false 1 (.t 11)⟩, ⟨some 13, none, .mov (.t 1)⟩, ⟨some 14, none, .ia 4 (.t 12) (.t 13)⟩, ⟨some 15, none, .ld true 4 (.t 14)⟩, ⟨some 8, none, .alloc 98 [.int .i64 0, .int .i64 0, .int .i64 0, .int .i64 0]⟩, ⟨none, none, .st 4 [none, none, none, none] (.t 8) (.t 15)⟩]) (.seq (.reg [⟨some 16, none, .fa 0 (.t 8)⟩, ⟨none, none, .st 1 [none] (.t 16) (.c (.int .i64 3))⟩]) (.seq (.reg [⟨some 17, none, .fa 2 (.t 8)⟩, ⟨some 18, none, .ld false 1 (.t 17)⟩, ⟨some 19, none, .bin .add 3 (.t 18) (.c (.int .i64 1))⟩, ⟨some 20, none, .fa 2 (.t 8)⟩, ⟨none, none, .st 1 [none] (.t 20) (.t 19)⟩]) (.seq (.reg [⟨some 21, none, .mov (.t 2)⟩, ⟨some 22, none, .fa 1 (.t 3)⟩, ⟨some 23, none, .fa 2 (.t 22)⟩, ⟨some 24, none, .ld false 1 (.t 23)⟩, ⟨some 25, none, .bin .add 3 (.t 21) (.t 24)⟩, ⟨some 26, none, .fa 3 (.t 8)⟩, ⟨none, none, .st 1 [none] (.t 26) (.t 25)⟩]) (.seq (.reg [⟨some 27, none, .fa 7 (.t 7)⟩, ⟨some 28, none, .ld false 1 (.t 27)⟩, ⟨some 29, none, .mov (.t 1)⟩, ⟨some 30, none, .ld true 4 (.t 8)⟩, ⟨some 31, none, .ia 4 (.t 28) (.t 29)⟩, ⟨none, none, .st 4 [none, none, none, none] (.t 31) (.t 30)⟩]) (.seq (.reg [⟨some 32, none, .ld true 8 (.t 7)⟩, ⟨none, none, .st 8 [none, none, none, none, none, some (2, 182), none, some (4, 98)] (.t 6) (.t 32)⟩]) .ret)))))))
theorem code_spec_l09Started : fnC Tryz.prog Tryz.f78 = some (c_spec_l09Started, [.cell 6 true 8], 33) := by kernel_rfl
set_option maxHeartbeats 4000000 in
theorem p_spec_l09Started (r : Rn) (t : Nat) (x : Tk) (now : Int) (hx : r.tasks[t]? = some x) (hsz : r.plan.edges.length ≤ 4000000) (ht : r.tasks.length ≤ 4000000) : Pure Tryz.prog 78 [.agg (encRn r), .c (.val (.int .i64 t)), .c (.val (.int .i64 now))] (.agg (encRn (startR r t x now))) := by
  refine pure_fn Tryz.func78 code_spec_l09Started (by simp) ?_
  unfold c_spec_l09Started
  have htl := (List.getElem?_eq_some_iff.1 hx).1
  have h0t : (t : Int) ≥ 0 := by omega
  simp -implicitDefEqProofs only [go_sem, encRn, encPl]
  intro b3 b6
  refine run_call (p_spec_l09Copy r hsz ht) (by simp -implicitDefEqProofs only [go_sem, encRn, encPl]) fun ηc => ?_
  simp -implicitDefEqProofs only [go_sem, encRn, encPl]
  intro b7
  simp -implicitDefEqProofs only [go_sem, Nat.add_zero, htl, h0t, at_tk hx, in_tk hx, encTk, startR, startT, put_tk4 3 x.need (IntKind.i64.wrap (x.tri + 1)) (IntKind.i64.wrap (now + r.plan.wait)) htl]
end Go.Proofs.YtnhdcbhcocgjhaaGreat
