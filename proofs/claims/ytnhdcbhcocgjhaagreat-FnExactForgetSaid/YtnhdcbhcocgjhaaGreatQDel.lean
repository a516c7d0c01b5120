/- Texts for laws: Del. -/
import Derived.Test.YtnhdcbhcocgjhaaGreatQFam
import Derived.Lib.SliceRun
import Derived.Deep.RegionLaw
set_option linter.unusedSimpArgs false
set_option linter.unusedVariables false
set_option maxRecDepth 100000
namespace Go.Proofs.YtnhdcbhcocgjhaaGreat
open Go.RowKit Go.Sort Go.Lib
abbrev fDel : FuncId := 85
theorem run_clear_one {P : Program} (w : World) (t e ty : TypeId) (z : Value) (ht : P.underlying t = some (.slice e)) (hv : ∀ w, (zeroValue e).run P w = .ok z w) (h1 : ∀ v ∈ z.cells.toList, v.oneCell' = true) (hs : z.cells.size = 8) (b o c : Nat)
    (hc : ∀ j, j < 8 → (w.cell? ⟨b, o + j, none⟩).isSome = true) (hf : ∀ j, j < 8 → w.frozen? ⟨b, o + j, none⟩ = false) :
    (Builtin.clear_ #[t] ty #[.slice (some ⟨b, o, none⟩) 1 c]).run P w = .ok (.tuple #[]) (w.setCells b o z.cells.toList) := by
  have hzc : (Builtin.zeroCells z.cells 1).toList = z.cells.toList := by
    simp only [Builtin.zeroCells, Nat.one_mul]
    apply List.ext_getElem
    · simp
    · intro i h1 h2
      have : i < z.cells.size := by simpa using h2
      simp [Nat.mod_eq_of_lt this]
      exact getElem!_pos z.cells i this
  have hst := run_storeCells_cells (P := P) b o z.cells.toList 0 w (by simpa [hs] using hc) (by simpa [hs] using hf) h1
  simp only [Nat.add_zero] at hst
  simp [Builtin.clear_, run_underlying ht, hv, hzc, hst]
abbrev zRnL : List Value := [.int .i64 0, .int .i64 0, .int .i64 0, .int .i64 0, .int .i64 0, .slice none 0 0, .int .i64 0, .slice none 0 0]
set_option maxHeartbeats 4000000 in
theorem del_run (b n c k : Nat) (cs : List Value) (w : World) (hk : k < n) (hnc : n ≤ c) (hc63 : c ≤ 9223372036854775807) (hcl : cs.length = n * 8)
    (hcs : ∀ j v, cs[j]? = some v → w.cell? ⟨b, j, none⟩ = some v) (hfz : ∀ j, w.frozen? ⟨b, j, none⟩ = false) (h1c : ∀ v ∈ cs, v.oneCell' = true) :
    Calls Tryz.prog fDel #[.slice (some ⟨b, 0, none⟩) n c, .int .i64 k, .int .i64 ((k : Int) + 1)] w fun e w' =>
      e = .returned (.slice (some ⟨b, 0, none⟩) (n - 1) c) ∧ w' = (w.drew.setCells b (k * 8) (cs.drop ((k + 1) * 8))).setCells b ((n - 1) * 8) zRnL := by
  have mixed : Tryz.prog.follows .mixedOrders = true := by kernel_rfl
  have t22 := Tryz.underlying28
  have a22 := Tryz.isAgg28
  have z22 := Tryz.sizeOf28
  have u3 := Tryz.underlying3
  have a3 := Tryz.isAgg3
  have z3 := Tryz.sizeOf3
  have u4 := Tryz.underlying4
  have z23 := Tryz.sizeOf80
  have hu : Tryz.prog.underlying tRnS = some (.slice tRn) := slRn.1
  obtain ⟨i0, zv, hi0, hz0, hzc, hzs, hzb⟩ := slRn.info
  obtain ⟨news, hnews⟩ : ∃ news, news = cs.drop ((k + 1) * 8) := ⟨_, rfl⟩
  have hlen : news.length = (n - (k + 1)) * 8 := by rw [hnews, List.length_drop, hcl]; omega
  have hget : ∀ t u, news[t]? = some u → w.cell? ⟨b, (k + 1) * 8 + t, none⟩ = some u := fun t u hu => by
    rw [hnews, List.getElem?_drop] at hu
    exact hcs _ u hu
  obtain ⟨A, hA, hsrc⟩ : ∃ A : Addr, (if c = k + 1 then some (⟨b, 0, none⟩ : Addr) else some ⟨b, (k + 1) * 8, none⟩) = some A ∧ Hid (∀ t u, news[t]? = some u → w.drew.cell? (A.add t) = some u) := by
    by_cases h : c = k + 1
    · refine ⟨⟨b, 0, none⟩, by simp [h], fun t u hu => ?_⟩
      have h0 : news.length = 0 := by rw [hlen]; omega
      rw [List.length_eq_zero_iff.1 h0] at hu
      simp at hu
    · refine ⟨⟨b, (k + 1) * 8, none⟩, by simp [h], fun t u hu => ?_⟩
      rw [Addr.add_lit]
      exact hget t u hu
  have s1 : Hid (news.length = (n - (k + 1)) * 8) := hlen
  have s2 : Hid (∀ u ∈ news, u.oneCell' = true) := fun u hu => by rw [hnews] at hu; exact h1c u (List.mem_of_mem_drop hu)
  have hsome : ∀ j, j < n * 8 → (w.cell? ⟨b, j, none⟩).isSome = true := fun j hj => by rw [hcs j _ (List.getElem?_eq_getElem (by omega))]; rfl
  have s3 : Hid (∀ t, t < news.length → (w.drew.cell? ⟨b, 0 + k * 8 + t, none⟩).isSome = true ∧ w.drew.frozen? ⟨b, 0 + k * 8 + t, none⟩ = false) := fun t ht => by
    rw [hlen] at ht
    exact ⟨hsome _ (by omega), hfz _⟩
  obtain ⟨W1, hW1⟩ : ∃ W1, W1 = w.drew.setCells b (0 + k * 8) news := ⟨_, rfl⟩
  have hsome1 : ∀ j, j < n * 8 → (W1.cell? ⟨b, j, none⟩).isSome = true := fun j hj => by
    rw [hW1]
    exact isSome_setCells b news (0 + k * 8) w.drew (fun t ht => hsome _ (by omega)) j (hsome j hj)
  have hz : ∀ w, (zeroValue tRn).run Tryz.prog w = .ok zv w := fun w => by simp [zeroValue, typeInfo, hi0, hz0]
  have hzl : zv.cells.toList = zRnL := by rw [hzc]
  have hcl2 : ∀ ty q, (Builtin.clear_ #[tRnS] ty #[.slice (some ⟨b, (k + (n - (k + 1))) * 8, none⟩) 1 q]).run Tryz.prog W1 = .ok (.tuple #[]) (W1.setCells b ((k + (n - (k + 1))) * 8) zRnL) := fun ty q => by
    rw [← hzl]
    exact run_clear_one W1 tRnS tRn ty zv hu hz (by rw [hzl]; decide) (by rw [hzc]; rfl) b _ q (fun j hj => hsome1 _ (by omega)) (fun j hj => by rw [hW1, World.frozen?_setCells]; exact hfz _)
  have hW : Hid (W1 = w.drew.setCells b (0 + k * 8) news) := hW1
  have hkc : k ≤ c := by omega
  have hjc : k + 1 ≤ c := by omega
  have hne : ¬ ((k : Int) = (k : Int) + 1) := by omega
  have hb1 : (0 : Int) ≤ (k : Int) + 1 := by omega
  have hb2 : (k : Int) ≤ (n : Int) := by omega
  have hb3 : (k : Int) + 1 ≤ (n : Int) := by omega
  have hb4 : (k : Int) ≤ (k : Int) + 1 := by omega
  have htn : ((k : Int) + 1).toNat = k + 1 := by omega
  have hkn : k ≤ n := by omega
  have hjn : k + 1 ≤ n := hk
  have h1n : n - (k + (n - (k + 1))) = 1 := by omega
  clear hW1 hsome1 hget hlen hsome hcs
  go_enter Tryz.func85, Tryz.ntmps85
  go_wp2_with fail
  go_region_law_o (refine step_append_room rfl (.tmp 22) (.tmp 25) tRnS rfl tRn i0 8 hu hi0 hzs b 0 k c (by simp [Act.eval, Act.put]) A (n - (k + 1)) (c - (k + 1)) news (by simp [Act.eval, Act.put, hA]) s1.out hsrc.out s2.out (by omega) s3.out ?_; rw [← hW.out])
  go_wp2
  go_ret
  have e1 : k + (n - (k + 1)) = n - 1 := by omega
  refine ⟨by rw [e1]; rfl, ?_⟩
  rw [hW.out, hnews, e1, Nat.zero_add]
def valOf : D → Value
  | .val u => u
  | .sl _ _ _ => undef
theorem d_vals : ∀ {ds : List D} {w : World} {own : Bool} {vs : List Value} {S : List Nat}, flatB ds = true → RepL w own ds vs S → vs = ds.map valOf ∧ S = []
  | [], _, _, _, _, _, ⟨h1, h2⟩ => ⟨h1, h2⟩
  | .sl _ _ _ :: _, _, _, _, _, h, _ => by cases h
  | .val u :: ds, w, own, _, _, h, ⟨v, vs', S1, S2, rfl, rfl, ⟨h1, h2⟩, h3⟩ => by
    simp only [flatB, Bool.and_eq_true] at h
    obtain ⟨k1, k2⟩ := d_vals h.2 h3
    subst h1 h2 k1 k2
    exact ⟨rfl, rfl⟩
theorem d_mk (w : World) (own : Bool) : ∀ {ds : List D}, flatB ds = true → RepL w own ds (ds.map valOf) []
  | [], _ => ⟨rfl, rfl⟩
  | .sl _ _ _ :: _, h => by cases h
  | .val u :: ds, h => by
    simp only [flatB, Bool.and_eq_true] at h
    exact ⟨u, ds.map valOf, [], [], rfl, rfl, ⟨rfl, rfl⟩, d_mk w own h.2⟩
theorem d_one : ∀ {ds : List D}, flatB ds = true → ∀ v ∈ ds.map valOf, v.oneCell' = true
  | [], _, _, hv => by simp at hv
  | .sl _ _ _ :: _, h, _, _ => by cases h
  | .val u :: ds, h, v, hv => by
    simp only [flatB, Bool.and_eq_true] at h
    rcases List.mem_cons.1 hv with rfl | hv
    · exact h.1
    · exact d_one h.2 v hv
set_option maxHeartbeats 1000000 in
/-- The contract: given rows of one's own, it returns them without row k. -/
theorem t_Delete (rows : List D) (n k : Nat) (hf : flatB rows = true) (hf2 : flatB (rows.take (k * 8) ++ rows.drop ((k + 1) * 8)) = true) (hl : rows.length = n * 8) (hk : k < n) {o : Nat → Ob} {g : Nat} {η : Heads} (ho : o g = .loose (.sl 8 tRn rows) η) :
    Turns Tryz.prog fDel [.c (.v (η [])), .c (.v (.int .i64 k)), .c (.v (.int .i64 ((k : Int) + 1)))] o (fun rt o' => rt = .c (.sl 8 tRn (rows.take (k * 8) ++ rows.drop ((k + 1) * 8))) ∧ o' = fun j => if j = g then .none else o j) :=
  ⟨⟨_, Tryz.func85, by kernel_rfl, by kernel_rfl⟩, fun B w F xs hR hxs => by
    obtain ⟨x, xs1, rfl, rfl, _, xs2, rfl, rfl, x2, xs3, rfl, rfl, rfl⟩ := hxs
    have h1 := hR.ob g
    simp only at h1
    rw [ho] at h1
    obtain ⟨_, u, r1, e1⟩ := h1
    have q1 : η [] = u := e1 []
    rw [q1]
    have hB : B ≤ w.heap.size := Nat.le_trans hR.hB hR.below.size
    have hF1 := hR.fr g
    have hlt : ∀ k, ∀ b ∈ F k, b < w.heap.size := fun k b hb => (hR.ob k).lt b hb
    obtain ⟨vs, T, S', hrow, hrl, hS⟩ := r1
    obtain ⟨rfl, rfl⟩ := d_vals hf hrl
    have hv1 := d_one hf
    have hvl : (rows.map valOf).length = n * 8 := by rw [List.length_map, hl]
    generalize hvs : rows.map valOf = vs at *
    obtain ⟨m, hrow, rfl⟩ := hrow
    rcases hrow.2 with ⟨_, h0⟩ | ⟨b, c, cu, rfl, _, hbc, hc1, hc2, hc3, hc4⟩
    · have := hrow.1; omega
    have hmn : m = n := by have := hrow.1; omega
    subst hmn
    have hFg : F g = [b] := by rw [hS]; simp [blk]
    have hbB : B ≤ b := hF1.2 b (by rw [hFg]; simp)
    have hcs : ∀ j v, vs[j]? = some v → w.cell? ⟨b, j, none⟩ = some v := fun j v hj => by
      rw [cell_of hbc, ← Array.getElem?_toList]; exact take_get hc4 hj
    obtain ⟨_, sb2⟩ := shape_of hbc
    have hcul : cu.toList.length = c * 8 := by simpa using hc3
    refine (del_run b m c k vs w hk hc1 (by unfold maxLen at hc2; omega) hvl hcs sb2 hv1).mono ?_
    rintro en w' ⟨rfl, rfl⟩
    have hcu : w.drew.heap[b]? = some (.cells cu.toList.toArray tRn (0, 0)) := by rw [Array.toArray_toList]; exact hbc
    have hdl : (vs.drop ((k + 1) * 8)).length = (m - (k + 1)) * 8 := by rw [List.length_drop, hvl]; omega
    obtain ⟨w1, w2⟩ := heap_setCells (vs.drop ((k + 1) * 8)) w.drew b (k * 8) cu.toList tRn hcu
    obtain ⟨w3, w4⟩ := heap_setCells zRnL _ b ((m - 1) * 8) _ tRn w1
    have s1 := setCells_rest (vs.drop ((k + 1) * 8)) w.drew b (k * 8)
    have s2 := setCells_rest zRnL (w.drew.setCells b (k * 8) (vs.drop ((k + 1) * 8))) b ((m - 1) * 8)
    have hmc : m * 8 ≤ c * 8 := by omega
    have hA : setAt cu.toList (k * 8) (vs.drop ((k + 1) * 8)) = cu.toList.take (k * 8) ++ vs.drop ((k + 1) * 8) ++ cu.toList.drop (k * 8 + (vs.drop ((k + 1) * 8)).length) := setAt_eq _ _ _ (by rw [hdl, hcul]; omega)
    have hAl : (setAt cu.toList (k * 8) (vs.drop ((k + 1) * 8))).length = c * 8 := by
      rw [hA]; simp only [List.length_append, List.length_take, List.length_drop, hcul, hvl]; omega
    have hz8 : zRnL.length = 8 := rfl
    have hBz : setAt (setAt cu.toList (k * 8) (vs.drop ((k + 1) * 8))) ((m - 1) * 8) zRnL = (setAt cu.toList (k * 8) (vs.drop ((k + 1) * 8))).take ((m - 1) * 8) ++ zRnL ++ (setAt cu.toList (k * 8) (vs.drop ((k + 1) * 8))).drop ((m - 1) * 8 + zRnL.length) := setAt_eq _ _ _ (by rw [hz8, hAl]; omega)
    have hct : cu.toList.take (k * 8) = vs.take (k * 8) := by rw [← hc4, List.take_take, Nat.min_eq_left (by omega)]
    have hvn : (rows.take (k * 8) ++ rows.drop ((k + 1) * 8)).map valOf = vs.take (k * 8) ++ vs.drop ((k + 1) * 8) := by rw [List.map_append, List.map_take, List.map_drop, hvs]
    have hnl : (vs.take (k * 8) ++ vs.drop ((k + 1) * 8)).length = (m - 1) * 8 := by rw [List.length_append, List.length_take, hdl, hvl]; omega
    have htk : (setAt (setAt cu.toList (k * 8) (vs.drop ((k + 1) * 8))) ((m - 1) * 8) zRnL).take ((m - 1) * 8) = vs.take (k * 8) ++ vs.drop ((k + 1) * 8) := by
      rw [hBz, List.append_assoc, List.take_append_of_le_length (by rw [List.length_take, hAl]; omega), List.take_take, Nat.min_self, hA, hct]
      exact List.take_left' hnl
    have hfl : (setAt (setAt cu.toList (k * 8) (vs.drop ((k + 1) * 8))) ((m - 1) * 8) zRnL).length = c * 8 := by
      rw [hBz]; simp only [List.length_append, List.length_take, List.length_drop, hAl, hz8]; omega
    generalize setAt (setAt cu.toList (k * 8) (vs.drop ((k + 1) * 8))) ((m - 1) * 8) zRnL = us at *
    have hon : Only [b] w ((w.drew.setCells b (k * 8) (vs.drop ((k + 1) * 8))).setCells b ((m - 1) * 8) zRnL) := ⟨by rw [s2.1, s1.1]; rfl, by rw [s2.2.1, s1.2.1]; rfl, by rw [s2.2.2.1, s1.2.2.1]; rfl, by rw [s2.2.2.2, s1.2.2.2]; exact Nat.le_refl _, fun q hq hqn => by
      have hqb : q ≠ b := by simpa using hqn
      rw [w4 q hqb, w2 q hqb]; rfl⟩
    have t1 := hR.setO (g := g) (ob := .none) (S := []) rfl (Fresh.nil _) (by simp)
    have t2 := t1.world' (hon.below (fun s hs => by simp at hs; omega) hB) fun q x hx => by
      split at hx
      · simp at hx
      · rename_i hq
        exact hon.block x (hlt q x hx) fun h => hR.dj q g hq x hx (by rw [hFg]; exact h)
    refine ⟨_, .c (.sl 8 tRn (rows.take (k * 8) ++ rows.drop ((k + 1) * 8))), _, [b], _, rfl, t2, ?_, Fresh.one _ _ hbB, fun q x hx => ?_, rfl, rfl⟩
    · refine ⟨(rows.take (k * 8) ++ rows.drop ((k + 1) * 8)).map valOf, [b], [], ⟨m - 1, ⟨?_, .inr ⟨b, c, us.toArray, rfl, Nat.zero_le _, w3, by omega, hc2, by simpa using hfl, ?_⟩⟩, rfl⟩, d_mk _ _ hf2, by simp⟩
      · rw [hvn, hnl]
      · rw [hvn]; simpa [hnl] using htk
    · split
      · simp
      · rename_i hq
        intro hx'
        simp at hx
        subst hx
        exact hR.dj q g hq x hx' (by rw [hFg]; simp)⟩
end Go.Proofs.YtnhdcbhcocgjhaaGreat
