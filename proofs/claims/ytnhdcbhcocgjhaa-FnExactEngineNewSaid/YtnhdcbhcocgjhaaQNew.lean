/- Texts for laws: New. -/
import Derived.Test.YtnhdcbhcocgjhaaQLaw
namespace Go.Proofs.Ytnhdcbhcocgjhaa
open Go.RowKit Go.Sort Go.BigFrame

/-- The new yard. -/
def newYd : Yd := ⟨0, 1, List.replicate 4 [], []⟩

set_option maxHeartbeats 2000000 in
theorem iYardNew_c (w : World) : Calls Try.prog 27 #[] w (RetAgg w (encYd newYd)) := by
  go_enter Try.func27, Try.ntmps27
  go_wp2_with (at_make; refine wpList_make_rep (enc := (fun es => [encEns es])) rfl _ _ rfl slEnS ([] : List En) zEnS .i64 .i64 4 4 4 rfl rfl rfl rfl (by omega) (by unfold maxLen; omega) ?_; intro w1 A1 hr1 hb1; obtain ⟨hc1, hf1⟩ := bcell hb1; (have hz1 := hb1.size); simp at hz1; (have hx1 := (by omega : w.heap.size < w1.heap.size)))
  refine bodyPost_ret (v := .agg #[.int .i64 0, .int .i64 1, .slice A1 4 4, .slice none 0 0]) (by simp [results, Try.results27, go_sem, hc1]) rfl ?_
  refine ⟨_, [w.heap.size + 1], rfl, ⟨_, rfl, yd_mk (y := newYd) (S1 := [w.heap.size + 1]) (S2 := []) ?_ ?_⟩, ?_, ?_⟩
  · have hr1' : Rep w1 true (encSh newYd.shelf) (.slice A1 4 4) [w.heap.size + 1] := by have h := hr1; simp at h; exact h
    repeat (first | (with_reducible exact hr1') | ((with_reducible refine keep_set ?_ ?_); rotate_left; focus (intro b hb; simp at hb ⊢; omega)))
  · exact Rep.nil_ _ _ _
  · exact ⟨by simp, by simp⟩
  · repeat (first | (with_reducible exact Below.refl _ _) | (with_reducible assumption) | ((with_reducible refine Below.alloc ?_ ?_ _); rotate_left; focus (simp; try omega)) | ((with_reducible refine Below.setCell ?_ ?_ _); rotate_left; focus (simp; try omega)) | (with_reducible refine bl_dn ?_ (by assumption)))

theorem only_cells {S : List Nat} {w w1 w' : World} (ho : Only S w1 w') (hb : Below w.heap.size w w1) {b : Nat} (h : b < w.heap.size) (hS : b ∉ S) : (∀ o, w'.cell? ⟨b, o, none⟩ = w.cell? ⟨b, o, none⟩) ∧ (∀ o, w'.frozen? ⟨b, o, none⟩ = w.frozen? ⟨b, o, none⟩) := by
  have e : w'.heap[b]? = w.heap[b]? := (ho.block b (Nat.lt_of_lt_of_le h hb.size) hS).trans (hb.block b h)
  exact ⟨fun o => World.cell?_of_block (w := w) (a := ⟨b, o, none⟩) e, fun o => World.frozen?_of_block (w := w) (a := ⟨b, o, none⟩) e⟩
theorem rep_made0 (w : World) : Rep (w.alloc (.cells #[] tEn)) true (encEns []) (.slice (some ⟨w.heap.size, 0, none⟩) 0 0) [w.heap.size] :=
  Rep.of_own (size := 4) (enc := encEn) (xs := []) (World.ownsRow_made w #[] 0 (Nat.zero_le _) (by unfold maxLen; omega) rfl) RepL.nil_
theorem news_one (w : World) {o : Obj} {x : Value} {t : TypeId} : ∀ ad, (some ⟨w.heap.size + 1, 0, none⟩ : Option Addr) = some ad → ∀ j u, [x][j]? = some u → ((w.alloc o).alloc (.cells #[x] t)).cell? (ad.add j) = some u := by
  intro ad h j u hu
  cases h
  obtain rfl : j = 0 := by
    have := (List.getElem?_eq_some_iff.1 hu).1
    simpa using this
  simp at hu
  subst hu
  simp [go_sem, Addr.add]

set_option maxRecDepth 4000 in
set_option maxHeartbeats 2000000 in
theorem sYardNew_c (w : World) : Calls Try.prog 26 #[] w (RetAgg w (encYd newYd)) := by
  go_enter Try.func26, Try.ntmps26
  go_wp2
  go_loopw [2] (fun i wr => ∃ (k : Nat) (sv : Value) (S : List Nat), k ≤ 4 ∧ i = .int .i64 k ∧ Rep wr true (encSh (List.replicate k [])) sv S ∧ Fresh (w.heap.size + 2) S ∧ Below w.heap.size w wr ∧ w.heap.size + 2 ≤ wr.heap.size ∧
    wr.cell? ⟨w.heap.size + 1, 0, none⟩ = some (.int .i64 0) ∧ wr.cell? ⟨w.heap.size + 1, 1, none⟩ = some (.int .i64 1) ∧ wr.cell? ⟨w.heap.size + 1, 2, none⟩ = some sv ∧ wr.cell? ⟨w.heap.size + 1, 3, none⟩ = some (.slice none 0 0) ∧ wr.frozen? ⟨w.heap.size + 1, 2, none⟩ = false ∧
    (∃ u, wr.cell? ⟨w.heap.size, 0, none⟩ = some u) ∧ (∃ u, wr.cell? ⟨w.heap.size, 1, none⟩ = some u) ∧ (∃ u, wr.cell? ⟨w.heap.size, 2, none⟩ = some u) ∧ (∃ u, wr.cell? ⟨w.heap.size, 3, none⟩ = some u) ∧
    wr.frozen? ⟨w.heap.size, 0, none⟩ = false ∧ wr.frozen? ⟨w.heap.size, 1, none⟩ = false ∧ wr.frozen? ⟨w.heap.size, 2, none⟩ = false ∧ wr.frozen? ⟨w.heap.size, 3, none⟩ = false) (fun i _ => 4 - (intOf i).toNat)
  case atStart =>
    refine ⟨0, _, [], by omega, rfl, Rep.nil_ _ _ _, Fresh.nil _, ?_, by simp, ?_⟩
    · repeat (first | (with_reducible exact Below.refl _ _) | (with_reducible assumption) | ((with_reducible refine Below.alloc ?_ ?_ _); rotate_left; focus (simp; try omega)) | ((with_reducible refine Below.setCell ?_ ?_ _); rotate_left; focus (simp; try omega)))
    · simp [go_sem]
  case round =>
    obtain ⟨k, sv, S, hk, rfl, hrep, hF, hbel, hsz, c0, c1, c2, c3, f2, ⟨u0, r0⟩, ⟨u1, r1⟩, ⟨u2, r2⟩, ⟨u3, r3⟩, g0, g1, g2, g3⟩ := hrel
    by_cases hlt : k < 4
    · have hbox : w.heap.size + 1 ∉ S := fun h => by have := hF.2 _ h; omega
      have hres : w.heap.size ∉ S := fun h => by have := hF.2 _ h; omega
      obtain ⟨A0, n0, m0, rfl⟩ := Rep.form hrep
      go_wp2_with ((with_reducible refine at_append (.tmp 9) (.tmp 11) ?_); refine wpList_append_rep (enc := (fun es => [encEns es])) (xs := List.replicate k ([] : List En)) (ys := [[]]) rfl _ _ rfl slEnS (fun _ => rfl) rfl (upA (upA hrep _) _) (some ⟨wr.heap.size + 1, 0, none⟩) 1 1 [.slice (some ⟨wr.heap.size, 0, none⟩) 0 0] rfl (RepL.cons_ (upA (rep_made0 wr) _) RepL.nil_) rfl (by simp) (news_one wr) encEnS_one (w.heap.size + 2) (by simp; omega) (by simpa using Fresh.join hF (Fresh.one wr.heap.size wr.heap.size (Nat.le_refl _)) hsz (fun s hs => Rep.lt _ hrep s hs)) (by unfold maxLen; simp; omega) (by simp; omega) ?_; intro v' w' S' hrep' hF' ho' _; obtain ⟨A1, n1, m1, rfl⟩ := Rep.form hrep'; obtain ⟨hd, hd'⟩ := only_cells ho' (upB (upB (Below.refl wr.heap.size wr) _) _) (by omega) hbox; obtain ⟨he, he'⟩ := only_cells ho' (upB (upB (Below.refl wr.heap.size wr) _) _) (by omega) hres; (have hz := ho'.size); simp at hz; (have hz1 := (by omega : w.heap.size + 1 < w'.heap.size)))
      go_roundw
      case rel =>
        refine ⟨k + 1, .slice A1 n1 m1, S', by omega, by go_num, ?_, hF', ?_, by simp; omega, ?_⟩
        · refine keep_set ?_ (fun b hb => by have := hF'.2 b hb; simp; omega)
          rw [List.replicate_succ']; exact hrep'
        · exact ((upB (upB hbel _) _).trans (ho'.below (fun s hs => by have := hF.2 s hs; omega) (by simp; omega))).setCell (by simp) _
        · simp [go_sem, hd, hd', he, he', c0, c1, c2, c3, f2, r0, r1, r2, r3, g0, g1, g2, g3]
      case measure => simp [intOf]; omega
    · obtain rfl : k = 4 := by omega
      obtain ⟨A0, n0, m0, rfl⟩ := Rep.form hrep
      go_wp2
      refine bodyPost_ret (v := .agg #[.int .i64 0, .int .i64 1, .slice A0 n0 m0, .slice none 0 0]) (by simp [results, Try.results26, go_sem, r0, r1, r2, r3]) rfl ?_
      refine ⟨_, S ++ [], rfl, ⟨_, rfl, yd_mk (y := newYd) ?_ (Rep.nil_ _ _ _)⟩, ?_, ?_⟩
      · have hrep4 : Rep wr true (encSh newYd.shelf) (.slice A0 n0 m0) S := hrep
        repeat (first | (with_reducible exact hrep4) | ((with_reducible refine keep_set ?_ ?_); rotate_left; focus (intro b hb; have := hF.2 b hb; simp; try omega)))
      · rw [List.append_nil]; exact hF.mono (by omega)
      · repeat (first | (with_reducible assumption) | ((with_reducible refine Below.setCell ?_ ?_ _); rotate_left; focus (simp; try omega)))
end Go.Proofs.Ytnhdcbhcocgjhaa
