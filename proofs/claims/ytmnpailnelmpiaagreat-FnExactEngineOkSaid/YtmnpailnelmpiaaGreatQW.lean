/- Texts for laws: W. -/
import Derived.Test.YtmnpailnelmpiaaGreatQAb
set_option linter.unusedVariables false
set_option linter.unusedSimpArgs false
namespace Go.Proofs.YtmnpailnelmpiaaGreat
open Go.RowKit Go.Sort
theorem setAt_flat {α : Type} {enc : α → List D} {size : Nat} (hs : ∀ x, (enc x).length = size) (l : List α) (k : Nat) (v : α) : k < l.length → setAt (l.flatMap enc) (k * size) (enc v) = (l.set k v).flatMap enc := by
  intro hk
  have h1 : (l.flatMap enc).length = l.length * size := len_flat hs l
  have h2 : (k + 1) * size ≤ l.length * size := Nat.mul_le_mul_right _ hk
  rw [setAt_eq _ _ _ (by rw [hs, h1, ← Nat.succ_mul]; exact h2), hs]
  have e : l = l.take k ++ l[k] :: l.drop (k + 1) := by rw [← List.drop_eq_getElem_cons hk, List.take_append_drop]
  have e2 : l.set k v = l.take k ++ v :: l.drop (k + 1) := by rw [List.set_eq_take_append_cons_drop, if_pos hk]
  have h3 : ((l.take k).flatMap enc).length = k * size := by rw [len_flat hs, List.length_take, Nat.min_eq_left (by omega)]
  have h4 : l.flatMap enc = (l.take k ++ l[k] :: l.drop (k + 1)).flatMap enc := congrArg (List.flatMap enc) e
  rw [List.flatMap_append, List.flatMap_cons] at h4
  rw [e2, h4, List.take_left' h3]
  simp only [List.flatMap_append, List.flatMap_cons, List.append_assoc]
  congr 2
  rw [← List.append_assoc, List.drop_left' (by rw [List.length_append, h3, hs])]
theorem put_flat {α : Type} {enc : α → List D} {size ty : Nat} (hs : ∀ x, (enc x).length = size) {l : List α} {k : Nat} (v : α) (hk : k < l.length) : D.put [] (k * size) (enc v) (.sl size ty (l.flatMap enc)) = .sl size ty ((l.set k v).flatMap enc) := by
  simp only [D.put, setAt_flat hs l k v hk]
theorem put_encInts {l : List Int} {k : Nat} (v : Int) (hk : k < l.length) : D.put [] (k * 1) [.val (.int .i64 v)] (encInts l) = encInts (l.set k v) := put_flat (enc := fun n => [iv n]) (fun _ => rfl) v hk

abbrev tBool : TypeId := 4
def encBools (l : List Bool) : D := .sl 1 tBool (l.flatMap (fun b => [D.val (.bool b)]))
section
variable {P : Program} {β : Nat} {s : St}
theorem len_encBools (l : List Bool) : (encBools l).len = l.length := flat_len (enc := fun b => [D.val (.bool b)]) (fun _ => rfl) (by decide) _ _
theorem elem_encBools {l : List Bool} {k : Nat} {x : Bool} (h : l[k]? = some x) : (encBools l).elem k = [D.val (.bool x)] := flat_elem (enc := fun b => [D.val (.bool b)]) (fun _ => rfl) h
theorem sl_encBools (l : List Bool) : (encBools l).isSl = true := rfl
theorem sz_encBools (l : List Bool) : (encBools l).size = 1 := rfl
theorem obj_encBools (l : List Bool) (g : Nat) (η : Heads) : (encBools l).obj g η = [(g, .loose (encBools l) η)] := rfl
theorem own_encBools (l : List Bool) (g c : Nat) (p : List Nat) (η : Heads) : (encBools l).toOwn g c p η = .h g c p (η p) := rfl
theorem cells_encBools (l : List Bool) : (encBools l).cells = l.flatMap (fun b => [D.val (.bool b)]) := rfl
theorem at_encBools {l : List Bool} {k : Nat} {x : Bool} (h : l[k]? = some x) : ((l.flatMap (fun b => [D.val (.bool b)])).drop (k * 1)).take 1 = [D.val (.bool x)] := elem_encBools h
theorem in_encBools {l : List Bool} {k : Nat} (h : k < l.length) : k * 1 + 1 ≤ (l.flatMap (fun b => [D.val (.bool b)])).length := by rw [len_flat (enc := fun b => [D.val (.bool b)]) (size := 1) (fun _ => rfl)]; omega
theorem put_encBools {l : List Bool} {k : Nat} (v : Bool) (hk : k < l.length) : D.put [] (k * 1) [D.val (.bool v)] (encBools l) = encBools (l.set k v) := put_flat (enc := fun b => [D.val (.bool b)]) (fun _ => rfl) v hk
attribute [go_sem] len_encBools sl_encBools sz_encBools obj_encBools own_encBools cells_encBools
theorem flatB_encBools (l : List Bool) : flatB (l.flatMap (fun b => [D.val (.bool b)])) = true := by
  induction l with
  | nil => rfl
  | cons x l ih => rw [List.flatMap_cons, flatB_app, ih]; rfl
attribute [go_sem] flatB_encBools
end
theorem flatB_dt : ∀ {l : List D} (a b : Nat), flatB l = true → flatB ((l.drop a).take b) = true
  | [], a, b, _ => by simp [flatB]
  | .sl _ _ _ :: l, a, b, h => by simp [flatB] at h
  | .val u :: l, 0, 0, _ => rfl
  | .val u :: l, 0, b + 1, h => by
    simp only [flatB, Bool.and_eq_true] at h
    simp only [List.drop_zero, List.take_succ_cons, flatB, h.1, Bool.true_and]
    exact flatB_dt (l := l) 0 b h.2
  | .val u :: l, a + 1, b, h => by
    simp only [flatB, Bool.and_eq_true] at h
    exact flatB_dt (l := l) a b h.2
theorem fdt_encInts (l : List Int) (a b : Nat) : flatB (((l.flatMap (fun n => [iv n])).drop a).take b) = true := flatB_dt a b (flatB_encInts l)
attribute [go_sem] fdt_encInts
theorem fdt_encBools (l : List Bool) (a b : Nat) : flatB (((l.flatMap (fun b => [D.val (.bool b)])).drop a).take b) = true := flatB_dt a b (flatB_encBools l)
attribute [go_sem] fdt_encBools
theorem mk_ints (n : Nat) : D.sl 1 tInt (List.replicate n [D.val (.int .i64 0)]).flatten = encInts (List.replicate n 0) := by simp [encInts, List.flatMap, iv]
theorem mk_bools (n : Nat) : D.sl 1 tBool (List.replicate n [D.val (.bool false)]).flatten = encBools (List.replicate n false) := by simp [encBools, List.flatMap]
theorem drop_flat {α : Type} {enc : α → List D} {size : Nat} (hs : ∀ x, (enc x).length = size) : ∀ (l : List α) (k : Nat), (l.flatMap enc).drop (k * size) = (l.drop k).flatMap enc
  | [], k => by simp
  | x :: l, 0 => by simp
  | x :: l, k + 1 => by
    rw [List.flatMap_cons, List.drop_succ_cons, ← drop_flat hs l k, Nat.succ_mul, Nat.add_comm, ← List.drop_drop, List.drop_left' (hs x)]
theorem take_flat {α : Type} {enc : α → List D} {size : Nat} (hs : ∀ x, (enc x).length = size) : ∀ (l : List α) (k : Nat), (l.flatMap enc).take (k * size) = (l.take k).flatMap enc
  | [], k => by simp
  | x :: l, 0 => by simp
  | x :: l, k + 1 => by
    rw [List.flatMap_cons, List.take_succ_cons, List.flatMap_cons, ← take_flat hs l k, Nat.succ_mul, Nat.add_comm, List.take_append, hs, Nat.add_sub_cancel_left, List.take_of_length_le (by rw [hs]; omega)]
theorem sub_flat {α : Type} {enc : α → List D} {size ty : Nat} (hs : ∀ x, (enc x).length = size) (l : List α) (a b : Nat) : (D.sl size ty (l.flatMap enc)).sub a b = .sl size ty (((l.drop a).take (b - a)).flatMap enc) := by
  simp only [D.sub, drop_flat hs, take_flat hs]
theorem sub_encEds (l : List Ed) (a b : Nat) : (encEds l).sub a b = encEds ((l.drop a).take (b - a)) := sub_flat (enc := encEd) (fun _ => rfl) l a b
attribute [go_sem] Nat.zero_le sub_encEds Nat.sub_zero List.drop_zero
def findI {α : Type} (f : α → Bool) : List α → Int
  | [] => -1
  | x :: l => if f x then 0 else match findI f l with
    | .ofNat k => .ofNat (k + 1)
    | .negSucc k => .negSucc k
theorem findI_none {α : Type} {f : α → Bool} : ∀ {l : List α}, (∀ y ∈ l, f y = false) → findI f l = -1
  | [], _ => rfl
  | x :: l, h => by rw [findI, h x (by simp), findI_none fun y hy => h y (by simp [hy])]; rfl
theorem findI_hit {α : Type} {f : α → Bool} : ∀ {l : List α} {k : Nat} {x : α}, l[k]? = some x → f x = true → (∀ y ∈ l.take k, f y = false) → findI f l = k
  | [], _, _, h, _, _ => by simp at h
  | a :: l, 0, x, h, hx, _ => by simp at h; subst h; rw [findI, hx]; rfl
  | a :: l, k + 1, x, h, hx, hn => by
    rw [findI, hn a (by simp), findI_hit (k := k) (by simpa using h) hx fun y hy => hn y (by simp [hy])]; rfl
theorem findI_cases {α : Type} (f : α → Bool) (l : List α) : (findI f l = -1 ∧ ∀ y ∈ l, f y = false) ∨ ∃ k x, findI f l = ((k : Nat) : Int) ∧ l[k]? = some x ∧ f x = true ∧ ∀ y ∈ l.take k, f y = false := by
  induction l with
  | nil => exact .inl ⟨rfl, by simp⟩
  | cons a l ih =>
    cases ha : f a with
    | true => exact .inr ⟨0, a, by rw [findI, ha]; rfl, rfl, ha, by simp⟩
    | false =>
      rcases ih with ⟨h1, h2⟩ | ⟨k, x, h1, h2, h3, h4⟩
      · exact .inl ⟨findI_none (fun y hy => by rcases List.mem_cons.1 hy with rfl | hy <;> simp_all), fun y hy => by rcases List.mem_cons.1 hy with rfl | hy <;> simp_all⟩
      · have h5 : (a :: l)[k + 1]? = some x := by simpa using h2
        have h6 : ∀ y ∈ (a :: l).take (k + 1), f y = false := fun y hy => by
          rw [List.take_succ_cons] at hy
          rcases List.mem_cons.1 hy with rfl | hy
          · exact ha
          · exact h4 y hy
        exact .inr ⟨k + 1, x, findI_hit h5 h3 h6, h5, h3, h6⟩
theorem take_no {α : Type} {f : α → Bool} {l : List α} {k : Nat} {x : α} (h : l[k]? = some x) (hx : f x = false) (hn : ∀ y ∈ l.take k, f y = false) : ∀ y ∈ l.take (k + 1), f y = false := by
  intro y hy
  rw [List.take_add_one, h] at hy
  rcases List.mem_append.1 hy with hy | hy
  · exact hn y hy
  · simp at hy; subst hy; exact hx
theorem ints_snoc1 (l : List Int) (a : Int) : D.sl 1 tInt (l.flatMap (fun n => [iv n]) ++ [.val (.int .i64 a)]) = encInts (l ++ [a]) := by simp [encInts]
theorem ints_one (a : Int) : D.sl 1 tInt [.val (.int .i64 a)] = encInts [a] := by simp [encInts]
theorem stH_t (p : List Nat) (k n : Nat) (η : Heads) (K : Heads → Prop) : stH true p k n η K = K η := rfl
attribute [go_sem] stH_t stA_ep
end Go.Proofs.YtmnpailnelmpiaaGreat
