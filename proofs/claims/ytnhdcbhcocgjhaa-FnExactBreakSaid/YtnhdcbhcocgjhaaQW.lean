/- Texts for laws: W. -/
import Derived.Test.YtnhdcbhcocgjhaaQAb
set_option linter.unusedVariables false
set_option linter.unusedSimpArgs false
namespace Go.Proofs.Ytnhdcbhcocgjhaa
open Go.RowKit Go.Sort
theorem setAt_flat {α : Type} {enc : α → List D} {size : Nat} (hs : ∀ x, (enc x).length = size) (l : List α) (k : Nat) (v : α) : k < l.length → setAt (l.flatMap enc) (k * size) (enc v) = (l.set k v).flatMap enc := by
  intro hk
  have h1 : (l.flatMap enc).length = l.length * size := len_flat hs l
  have h2 : (k + 1) * size ≤ l.length * size := Nat.mul_le_mul_right _ hk
  rw [setAt_eq _ _ _ (by rw [hs, h1, ← Nat.succ_mul]; exact h2), hs]
  have e : l = l.take k ++ l[k] :: l.drop (k + 1) := by rw [← List.drop_eq_getElem_cons hk, List.take_append_drop]
  have e2 : l.set k v = l.take k ++ v :: l.drop (k + 1) := by rw [List.set_eq_take_append_cons_drop, if_pos hk]
  have h3 : ((l.take k).flatMap enc).length = k * size := by rw [len_flat hs, List.length_take, Nat.min_eq_left (by omega)]
  have h4 : l.flatMap enc = (l.take k ++ l[k] :: l.drop (k + 1)).flatMap enc := congrArg (List.flatMap enc) e
  rw [List.flatMap_append, List.flatMap_cons] at h4
  rw [e2, h4, List.take_left' h3]
  simp only [List.flatMap_append, List.flatMap_cons, List.append_assoc]
  congr 2
  rw [← List.append_assoc, List.drop_left' (by rw [List.length_append, h3, hs])]
theorem put_flat {α : Type} {enc : α → List D} {size ty : Nat} (hs : ∀ x, (enc x).length = size) {l : List α} {k : Nat} (v : α) (hk : k < l.length) : D.put [] (k * size) (enc v) (.sl size ty (l.flatMap enc)) = .sl size ty ((l.set k v).flatMap enc) := by
  simp only [D.put, setAt_flat hs l k v hk]
theorem flatB_dt : ∀ {l : List D} (a b : Nat), flatB l = true → flatB ((l.drop a).take b) = true
  | [], a, b, _ => by simp [flatB]
  | .sl _ _ _ :: l, a, b, h => by simp [flatB] at h
  | .val u :: l, 0, 0, _ => rfl
  | .val u :: l, 0, b + 1, h => by
    simp only [flatB, Bool.and_eq_true] at h
    simp only [List.drop_zero, List.take_succ_cons, flatB, h.1, Bool.true_and]
    exact flatB_dt (l := l) 0 b h.2
  | .val u :: l, a + 1, b, h => by
    simp only [flatB, Bool.and_eq_true] at h
    exact flatB_dt (l := l) a b h.2
attribute [go_sem] Nat.zero_le Nat.sub_zero List.drop_zero
theorem stH_t (p : List Nat) (k n : Nat) (η : Heads) (K : Heads → Prop) : stH true p k n η K = K η := rfl
attribute [go_sem] stH_t stA_ep
end Go.Proofs.Ytnhdcbhcocgjhaa
