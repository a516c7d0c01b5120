/- Texts for laws: Put. -/
import Derived.Test.YtnhdcbhcocgjhaaGreatQInsert
import Derived.Test.YtnhdcbhcocgjhaaGreatQSwept
import Derived.Test.YtnhdcbhcocgjhaaGreatQYardB
set_option linter.unusedSimpArgs false
set_option linter.unusedVariables false
set_option maxRecDepth 100000
namespace Go.Proofs.YtnhdcbhcocgjhaaGreat
open Go.RowKit Go.Sort
def putK (l : List En) (e : En) : Nat := if findI (fun x => !aheadB x e) l < 0 then l.length else (findI (fun x => !aheadB x e) l).toNat
def putL (l : List En) (e : En) : List En := insL l (putK l e) e
theorem putK_at {l : List En} {e x : En} {k : Nat} (h : l[k]? = some x) (hx : aheadB x e = false) (hn : ∀ y ∈ l.take k, (fun x => !aheadB x e) y = false) : putK l e = k := by
  have h1 := findI_hit (f := fun x => !aheadB x e) h (by simp [hx]) hn
  rw [putK, h1, if_neg (by omega)]; exact Int.toNat_natCast k
theorem putK_end {l : List En} {e : En} (hn : ∀ y ∈ l, (fun x => !aheadB x e) y = false) : putK l e = l.length := by
  rw [putK, findI_none hn]; rfl
theorem putK_le (l : List En) (e : En) : putK l e ≤ l.length := by
  rcases findI_cases (fun x => !aheadB x e) l with ⟨_, h2⟩ | ⟨k, x, h1, h2, h3, h4⟩
  · rw [putK_end h2]; exact Nat.le_refl _
  · rw [putK, h1, if_neg (by omega), Int.toNat_natCast]; exact Nat.le_of_lt (List.getElem?_eq_some_iff.1 h2).1
theorem putL_len (l : List En) (e : En) : (putL l e).length = l.length + 1 := by
  have := putK_le l e
  simp [putL, insL]; omega
theorem ens_1 (e : En) : D.sl 4 tEn [.val (.int .i64 e.prio), .val (.int .i64 e.seq), .val (.int .i64 e.run), .val (.int .i64 e.task)] = encEns [e] := rfl
theorem ens_sn (l : List En) (e : En) : l.flatMap encEn ++ [.val (.int .i64 e.prio), .val (.int .i64 e.seq), .val (.int .i64 e.run), .val (.int .i64 e.task)] = (l ++ [e]).flatMap encEn := by simp [encEn]
theorem ens_fl (l m : List En) : l.flatMap encEn ++ m.flatMap encEn = (l ++ m).flatMap encEn := List.flatMap_append.symm
def c_spec_PutEntry : C := .seq (.reg [⟨some 3, none, .box 108 4 (.t 1)⟩, ⟨some 4, none, .mov (.c (.slice none 0 0))⟩]) (.seq (.reg [⟨some 5, none, .mov (.c (.int .i64 0))⟩]) (.seq (.blk 0 (.loop (.seq (.seq (.dreg (T.pure 0 ⟨some 7, none, .mov (.t 5)⟩ (T.pure 1 ⟨some 8, none, .mov (.t 0)⟩ (T.pure 2 ⟨some 9, none, .len false (.t 8)⟩ (T.pure 3 ⟨some 10, none, .bin .lss 3 (.t 7) (.t 9)⟩ (T.pure 4 ⟨some 11, none, .mov (.t 10)⟩ (T.pure 5 ⟨some 12, some (11, true), .mov (.t 0)⟩ (T.pure 6 ⟨some 13, some (11, true), .mov (.t 5)⟩ (T.pure 7 ⟨some 14, some (11, true), .ia 4 (.t 12) (.t 13)⟩ (T.pure 8 ⟨some 15, some (11, true), .ld true 4 (.t 14)⟩ (T.pure 9 ⟨some 16, some (11, true), .ld true 4 (.t 3)⟩ (T.alt ⟨some 17, some (11, true), .call 181 [.t 15, .t 16]⟩ [] (T.pure 11 ⟨some 18, none, .pick (.t 11) (.t 17) (.c (.bool false))⟩ T.done) T.stop)))))))))))) (.cond (.t 18) .skip (.exit 0))) (.blk 1 (.reg [⟨some 19, none, .mov (.t 5)⟩, ⟨some 20, none, .bin .add 3 (.t 19) (.c (.int .i64 1))⟩, ⟨some 5, none, .mov (.t 20)⟩]))))) (.seq (.reg [⟨some 21, none, .bsl 108 4 0 [] []⟩, ⟨some 22, none, .mov (.t 0)⟩, ⟨some 23, none, .mov (.t 5)⟩, ⟨some 24, none, .sl 4 (.t 22) none (some (.t 23))⟩, ⟨some 25, none, .app 108 4 32 (.t 21) (.t 24)⟩, ⟨some 6, none, .mov (.t 25)⟩]) (.seq (.reg [⟨some 26, none, .mov (.t 6)⟩, ⟨some 27, none, .ld true 4 (.t 3)⟩, ⟨some 28, none, .bsl 108 4 1 [none, none, none, none] [(0, 4, .t 27)]⟩, ⟨some 29, none, .app 108 4 32 (.t 26) (.t 28)⟩, ⟨some 6, none, .mov (.t 29)⟩]) (.seq (.reg [⟨some 30, none, .mov (.t 6)⟩, ⟨some 31, none, .mov (.t 0)⟩, ⟨some 32, none, .mov (.t 5)⟩, ⟨some 33, none, .sl 4 (.t 31) (some (.t 32)) none⟩, ⟨some 34, none, .app 108 4 32 (.t 30) (.t 33)⟩, ⟨some 4, none, .mov (.t 34)⟩]) .ret)))))
theorem code_spec_PutEntry : fnC Tryz.prog Tryz.f143 = some (c_spec_PutEntry, [.t 4], 35) := by kernel_rfl
def c_impl_PutEntry : C := .seq (.reg [⟨some 3, none, .box 108 4 (.t 1)⟩, ⟨some 4, none, .mov (.c (.slice none 0 0))⟩]) (.seq (.reg [⟨some 6, none, .mov (.t 0)⟩, ⟨some 7, none, .mkf 182 [.t 3]⟩, ⟨some 8, none, .call 148 [.t 6, .t 7]⟩, ⟨some 5, none, .mov (.t 8)⟩]) (.seq (.seq (.reg [⟨some 9, none, .mov (.t 5)⟩, ⟨some 10, none, .bin .lss 3 (.t 9) (.c (.int .i64 0))⟩]) (.cond (.t 10) (.reg [⟨some 11, none, .mov (.t 0)⟩, ⟨some 12, none, .len false (.t 11)⟩, ⟨some 5, none, .mov (.t 12)⟩]) .skip)) (.seq (.dreg (T.pure 0 ⟨some 13, none, .mov (.t 0)⟩ (T.pure 2 ⟨some 15, none, .mov (.t 5)⟩ (T.pure 3 ⟨some 16, none, .ld true 4 (.t 3)⟩ (T.alt ⟨some 14, none, .call 113 [.t 13]⟩ [3, 2] (T.alt ⟨some 17, none, .bsl 108 4 1 [none, none, none, none] [(0, 4, .t 16)]⟩ [2, 0] (T.alt ⟨some 18, none, .call 183 [.t 14, .t 15, .t 17]⟩ [] (T.pure 6 ⟨some 4, none, .mov (.t 18)⟩ T.done) T.stop) T.stop) (T.alt ⟨some 17, none, .bsl 108 4 1 [none, none, none, none] [(0, 4, .t 16)]⟩ [2, 0] (T.alt ⟨some 14, none, .call 113 [.t 13]⟩ [3, 2] (T.alt ⟨some 18, none, .call 183 [.t 14, .t 15, .t 17]⟩ [] (T.pure 6 ⟨some 4, none, .mov (.t 18)⟩ T.done) T.stop) T.stop) T.stop)))))) .ret)))
theorem code_impl_PutEntry : fnC Tryz.prog Tryz.f147 = some (c_impl_PutEntry, [.t 4], 19) := by kernel_rfl
def c_impl_PutEntry_1 : C := .seq (.reg [⟨some 2, none, .box 108 4 (.t 0)⟩, ⟨some 3, none, .mov (.c (.bool false))⟩]) (.seq (.reg [⟨some 4, none, .ld true 4 (.t 2)⟩, ⟨some 5, none, .ld true 4 (.t 1)⟩, ⟨some 6, none, .call 179 [.t 4, .t 5]⟩, ⟨some 7, none, .un .not (.t 6)⟩, ⟨some 3, none, .mov (.t 7)⟩]) .ret)
theorem code_impl_PutEntry_1 : fnC Tryz.prog Tryz.f182 = some (c_impl_PutEntry_1, [.t 3], 8) := by kernel_rfl
set_option maxHeartbeats 4000000 in
theorem p_spec_PutEntry (l : List En) (e : En) (hl : l.length ≤ 4000000) : Pure Tryz.prog 143 [.c (encEns l), .agg (encEn e)] (.c (encEns (putL l e))) := by
  refine pure_fn Tryz.func143 code_spec_PutEntry (by simp) ?_
  unfold c_spec_PutEntry
  simp -implicitDefEqProofs only [go_sem, encEn]
  intro b3
  refine wp_loopW (fun i : Nat => St.of [(0, Ro (encEns l)), (3, Bx 300 b3), (5, Ni i)] [(300, Bi b3 _ (encEn e))]) (fun i => i ≤ l.length ∧ ∀ y ∈ l.take i, (fun x => !aheadB x e) y = false) (fun i => l.length - i) 0 (by (try dsimp only); first | omega | (simp; done) | (and_intros <;> first | omega | simp)) (wk_of [some 300] (by simp -implicitDefEqProofs only [go_sem, encEn] <;> and_intros <;> first | rfl | assumption)) ?_
  rintro k ⟨hk, hko⟩
  have h0k : (k : Int) ≥ 0 := by omega
  have hkl := hk
  have htd : (l.drop k).take (l.length - k) = l.drop k := List.take_of_length_le (by rw [List.length_drop]; omega)
  obtain ⟨A, hA⟩ : ∃ A, l.take k ++ [e] = A := ⟨_, rfl⟩
  have hAl : A.length = k + 1 := by rw [← hA, List.length_append, List.length_take, Nat.min_eq_left hk]; rfl
  have hM : ∀ (hp : putK l e = k), encEns (putL l e) = encEns (A ++ l.drop k) := fun hp => by rw [putL, hp, insL, ← hA]; simp
  have l1 : (l.take k).length ≤ 4000000 := by rw [List.length_take]; omega
  have l2 : (l.drop k).length ≤ 4000000 := by rw [List.length_drop]; omega
  have m1 : (l.take k).length ≤ maxLen := by unfold maxLen; omega
  have m2 : (l.take k).length * 32 ≤ 140737488355328 := by omega
  have m3 : (l.take k).length + 1 ≤ maxLen := by unfold maxLen; omega
  have m4 : ((l.take k).length + 1) * 32 ≤ 140737488355328 := by omega
  have m5 : A.length + (l.drop k).length ≤ maxLen := by unfold maxLen; omega
  have m6 : (A.length + (l.drop k).length) * 32 ≤ 140737488355328 := by omega
  by_cases hlt : k < l.length
  · have hlt' : (k : Int) < l.length := by omega
    obtain ⟨x, hx⟩ := get_some hlt
    have hw : IntKind.i64.wrap ((k : Int) + 1) = ((k + 1 : Nat) : Int) := wrap64 (by omega) (by omega)
    simp -implicitDefEqProofs only [go_sem, encEn, hlt, hlt', h0k, elem_encEns hx]
    refine run_call (p_spec_Ahead x e) (by simp -implicitDefEqProofs only [go_sem, encEn]) fun η => ?_
    simp -implicitDefEqProofs only [go_sem, encEn]
    cases ha : aheadB x e
    · rw [hM (putK_at hx ha hko)]
      simp -implicitDefEqProofs only [go_sem, encEn, ha, hk, h0k, Nat.le_refl, htd, m1, m2, m3, m4, ens_sn, hA, m5, m6, ens_fl, fold_encEns']
    · simp -implicitDefEqProofs only [go_sem, encEn, ha, hw]
      exact ⟨k + 1, ⟨hlt, take_no hx (by simp [ha]) hko⟩, (wk_of [some 300] (by simp -implicitDefEqProofs only [go_sem, encEn] <;> and_intros <;> first | rfl | assumption)), by (try dsimp only); omega⟩
  have hlt' : ¬ (k : Int) < l.length := by omega
  have hko' : ∀ y ∈ l, (fun x => !aheadB x e) y = false := by rw [List.take_of_length_le (by omega)] at hko; exact hko
  rw [hM (by rw [putK_end hko']; omega)]
  simp -implicitDefEqProofs only [go_sem, encEn, hlt', hk, h0k, Nat.le_refl, htd, m1, m2, m3, m4, ens_sn, hA, m5, m6, ens_fl, fold_encEns']
theorem p_PutC (x e : En) : Pure Tryz.prog 182 [.agg (encEn x), .ptr (encEn e)] (.c (.val (.bool (!aheadB x e)))) := by
  refine pure_fn Tryz.func182 code_impl_PutEntry_1 (by simp) ?_
  unfold c_impl_PutEntry_1
  simp -implicitDefEqProofs only [go_sem, encEn]
  intro b2
  refine run_call (p_impl_Ahead x e) (by simp -implicitDefEqProofs only [go_sem, encEn]) fun η => ?_
  simp -implicitDefEqProofs only [go_sem, encEn]
set_option maxHeartbeats 4000000 in
theorem p_impl_PutEntry (l : List En) (e : En) (hl : l.length ≤ 4000000) : Pure Tryz.prog 147 [.c (encEns l), .agg (encEn e)] (.c (encEns (putL l e))) := by
  refine pure_fn Tryz.func147 code_impl_PutEntry (by simp) ?_
  unfold c_impl_PutEntry
  simp -implicitDefEqProofs only [go_sem, encEn]
  intro b3
  refine run_call (p_IndexFuncEn l _ (encEn e) (fun x => !aheadB x e) (fun x => p_PutC x e) hl) (by simp -implicitDefEqProofs only [go_sem, encEn]) fun η => ?_
  have hkl := putK_le l e
  have hfin : ∀ (n : Nat), putK l e = n → putL l e = insL l n e := fun n h => by rw [putL, h]
  by_cases hneg : findI (fun x => !aheadB x e) l < 0
  · have hp : putK l e = l.length := by rw [putK, if_pos hneg]
    rw [hfin _ hp]
    simp -implicitDefEqProofs only [go_sem, encEn, hneg]
    refine ⟨?_, ?_⟩
    · refine run_call (p_impl_copyEntries l hl) (by simp -implicitDefEqProofs only [go_sem, encEn, ens_1]) fun ηa => ?_
      simp -implicitDefEqProofs only [go_sem, encEn, ens_1]
      intro η17
      refine run_turn (R := fun rt _ => rt = .c (encEns (insL l l.length e))) (by simp -implicitDefEqProofs only [go_sem]; exact (t_Insert l l.length e (by omega) hl (by simp -implicitDefEqProofs only [go_sem]) (by simp -implicitDefEqProofs only [go_sem]) (by decide)).mono fun rt o' h => h.1) fun rt o' hR η => ?_
      subst hR
      simp -implicitDefEqProofs only [go_sem]
    · simp -implicitDefEqProofs only [go_sem, encEn, ens_1]
      intro η17
      refine run_call (p_impl_copyEntries l hl) (by simp -implicitDefEqProofs only [go_sem, encEn, ens_1]) fun ηa => ?_
      simp -implicitDefEqProofs only [go_sem, encEn, ens_1]
      refine run_turn (R := fun rt _ => rt = .c (encEns (insL l l.length e))) (by simp -implicitDefEqProofs only [go_sem]; exact (t_Insert l l.length e (by omega) hl (by simp -implicitDefEqProofs only [go_sem]) (by simp -implicitDefEqProofs only [go_sem]) (by decide)).mono fun rt o' h => h.1) fun rt o' hR η => ?_
      subst hR
      simp -implicitDefEqProofs only [go_sem]
  · have hn : findI (fun x => !aheadB x e) l = ((putK l e : Nat) : Int) := by rw [putK, if_neg hneg]; omega
    rw [hfin _ rfl]
    generalize putK l e = n at *
    have hn0 : ¬ (n : Int) < 0 := by omega
    rw [hn]
    simp -implicitDefEqProofs only [go_sem, encEn, hn0]
    refine ⟨?_, ?_⟩
    · refine run_call (p_impl_copyEntries l hl) (by simp -implicitDefEqProofs only [go_sem, encEn, ens_1]) fun ηa => ?_
      simp -implicitDefEqProofs only [go_sem, encEn, ens_1]
      intro η17
      refine run_turn (R := fun rt _ => rt = .c (encEns (insL l n e))) (by simp -implicitDefEqProofs only [go_sem]; exact (t_Insert l n e (by omega) hl (by simp -implicitDefEqProofs only [go_sem]) (by simp -implicitDefEqProofs only [go_sem]) (by decide)).mono fun rt o' h => h.1) fun rt o' hR η => ?_
      subst hR
      simp -implicitDefEqProofs only [go_sem]
    · simp -implicitDefEqProofs only [go_sem, encEn, ens_1]
      intro η17
      refine run_call (p_impl_copyEntries l hl) (by simp -implicitDefEqProofs only [go_sem, encEn, ens_1]) fun ηa => ?_
      simp -implicitDefEqProofs only [go_sem, encEn, ens_1]
      refine run_turn (R := fun rt _ => rt = .c (encEns (insL l n e))) (by simp -implicitDefEqProofs only [go_sem]; exact (t_Insert l n e (by omega) hl (by simp -implicitDefEqProofs only [go_sem]) (by simp -implicitDefEqProofs only [go_sem]) (by decide)).mono fun rt o' h => h.1) fun rt o' hR η => ?_
      subst hR
      simp -implicitDefEqProofs only [go_sem]
end Go.Proofs.YtnhdcbhcocgjhaaGreat
