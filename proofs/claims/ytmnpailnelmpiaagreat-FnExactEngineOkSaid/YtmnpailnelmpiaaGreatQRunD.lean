/- Texts for laws: RunD. -/
import Derived.Test.YtmnpailnelmpiaaGreatQCopy
import Derived.Test.YtmnpailnelmpiaaGreatQRunOk
set_option linter.unusedSimpArgs false
set_option linter.unusedVariables false
set_option maxRecDepth 100000
namespace Go.Proofs.YtmnpailnelmpiaaGreat
open Go.RowKit Go.Sort
section
variable {α : Type} {enc : α → List D} {size ty : Nat} {l : List α} {k : Nat} {x : α}
theorem split_flat (hx : l[k]? = some x) : l.flatMap enc = (l.take k).flatMap enc ++ (enc x ++ (l.drop (k + 1)).flatMap enc) := by
  obtain ⟨hk, he⟩ := List.getElem?_eq_some_iff.1 hx
  have e : l = l.take k ++ x :: l.drop (k + 1) := by rw [← he, ← List.drop_eq_getElem_cons hk, List.take_append_drop]
  have h2 := congrArg (List.flatMap enc) e
  rw [h2, List.flatMap_append, List.flatMap_cons]
theorem take_len (hs : ∀ x, (enc x).length = size) (hx : l[k]? = some x) : ((l.take k).flatMap enc).length = k * size := by
  have hk := (List.getElem?_eq_some_iff.1 hx).1
  rw [len_flat hs, List.length_take, Nat.min_eq_left (by omega)]
theorem at1_flat (hs : ∀ x, (enc x).length = size) (hx : l[k]? = some x) {j n : Nat} (hj : j + n ≤ size) : ((l.flatMap enc).drop (k * size + j)).take n = ((enc x).drop j).take n := by
  rw [split_flat hx, ← List.drop_drop, List.drop_left' (take_len hs hx), List.drop_append_of_le_length (by rw [hs]; omega), List.take_append_of_le_length (by rw [List.length_drop, hs]; omega)]
theorem in1_flat (hs : ∀ x, (enc x).length = size) (hx : l[k]? = some x) {j n : Nat} (hj : j + n ≤ size) : k * size + j + n ≤ (l.flatMap enc).length := by
  have hk := (List.getElem?_eq_some_iff.1 hx).1
  rw [len_flat hs]
  have : (k + 1) * size ≤ l.length * size := Nat.mul_le_mul_right _ hk
  rw [Nat.succ_mul] at this
  omega
end
section
variable {l : List En} {k : Nat} {x : En}
theorem at_en (hx : l[k]? = some x) : ((l.flatMap encEn).drop (k * 4)).take 4 = encEn x := at1_flat (enc := encEn) (size := 4) (fun _ => rfl) hx (j := 0) (n := 4) (by decide)
theorem at_en1 (hx : l[k]? = some x) : ((l.flatMap encEn).drop (k * 4 + 1)).take 1 = [.val (.int .i64 x.seq)] := at1_flat (enc := encEn) (size := 4) (fun _ => rfl) hx (j := 1) (n := 1) (by decide)
theorem in_en (hx : l[k]? = some x) : k * 4 + 4 ≤ (l.flatMap encEn).length := in1_flat (enc := encEn) (size := 4) (fun _ => rfl) hx (j := 0) (n := 4) (by decide)
theorem in_en1 (hx : l[k]? = some x) : k * 4 + 1 + 1 ≤ (l.flatMap encEn).length := in1_flat (enc := encEn) (size := 4) (fun _ => rfl) hx (j := 1) (n := 1) (by decide)
end
end Go.Proofs.YtmnpailnelmpiaaGreat
set_option linter.unusedSimpArgs false
set_option linter.unusedVariables false
set_option maxRecDepth 100000
namespace Go.Proofs.YtmnpailnelmpiaaGreat
open Go.RowKit Go.Sort
end Go.Proofs.YtmnpailnelmpiaaGreat
set_option linter.unusedSimpArgs false
set_option linter.unusedVariables false
set_option maxRecDepth 100000
namespace Go.Proofs.YtmnpailnelmpiaaGreat
open Go.RowKit Go.Sort
-- impl.leave: NOT UNDERSTOOD
-- impl.done: NOT UNDERSTOOD
-- impl.fails: NOT UNDERSTOOD
end Go.Proofs.YtmnpailnelmpiaaGreat
