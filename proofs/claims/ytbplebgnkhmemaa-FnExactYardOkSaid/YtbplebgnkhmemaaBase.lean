/- Words for memory: data trees, how a value stands for one in a world, and what keeps that. No program. -/
import Derived.WalkKit
import Derived.WalkSpells
import Derived.WalkLawsBesides
import Derived.Lib.Hide
import Derived.Lib.QuietBelow
import Derived.BigQuiet
namespace Go.Proofs.Ytbplebgnkhmemaa
open Go.RowKit

/-- A datum: a cell that holds just this value, or a slice with its cells. -/
inductive D where
  | val (v : Value)
  | sl (size : Nat) (ty : TypeId) (cs : List D)

def blk (v : Value) : List Nat := match v with
  | .slice (some a) _ _ => [a.block]
  | _ => []

/-- A slice value whose cells are vs; T: the block that holds them. -/
def RowAt (w : World) (own : Bool) (size : Nat) (ty : TypeId) (vs : List Value) (v : Value) (T : List Nat) : Prop :=
  match own with
  | true => ∃ n, w.ownsRow 0 ty size v n vs ∧ T = blk v
  | false => (∀ b ∈ T, b < w.heap.size) ∧ ∃ A n c, v = .slice A n c ∧ vs.length = n * size ∧ n ≤ c ∧ c ≤ maxLen ∧ (A = none → c = 0) ∧
      (vs ≠ [] → ∃ b o, A = some ⟨b, o, none⟩ ∧ T = [b] ∧ ∀ j u, vs[j]? = some u → w.cell? ⟨b, o + j, none⟩ = some u)

mutual
def Rep (w : World) (own : Bool) : D → Value → List Nat → Prop
  | .val u, v, S => v = u ∧ S = []
  | .sl size ty cs, v, S => ∃ vs T S', RowAt w own size ty vs v T ∧ RepL w own cs vs S' ∧ S = T ++ S'
def RepL (w : World) (own : Bool) : List D → List Value → List Nat → Prop
  | [], vs, S => vs = [] ∧ S = []
  | d :: ds, vs, S => ∃ v vs' S1 S2, vs = v :: vs' ∧ S = S1 ++ S2 ∧ Rep w own d v S1 ∧ RepL w own ds vs' S2
end

def AggRep (w : World) (own : Bool) (ds : List D) (v : Value) (S : List Nat) : Prop := ∃ vs, v = .agg vs.toArray ∧ RepL w own ds vs S

/-- Blocks of the call's own, each once. -/
def Fresh (B : Nat) (S : List Nat) : Prop := S.Nodup ∧ ∀ b ∈ S, B ≤ b

theorem getElem_lt {α : Type} {a : Array α} {i : Nat} {x : α} (h : a[i]? = some x) : i < a.size := (Array.getElem?_eq_some_iff.1 h).1

section
variable {w w' : World} {own : Bool} {size : Nat} {ty : TypeId} {vs : List Value} {v : Value} {T : List Nat}

theorem RowAt.lt (h : RowAt w own size ty vs v T) : ∀ b ∈ T, b < w.heap.size := by
  intro b hb
  cases own with
  | true =>
    obtain ⟨n, h, rfl⟩ := h
    rcases h.2 with ⟨rfl, _⟩ | ⟨g, cap, cur, rfl, _, hg, _⟩
    · simp [blk] at hb
    · simp [blk] at hb; subst hb; exact getElem_lt hg
  | false => exact h.1 b hb

theorem lt_keep {b : Nat} (h : b < w.heap.size) (hk : w'.heap[b]? = w.heap[b]?) : b < w'.heap.size := by
  rw [Array.getElem?_eq_getElem h] at hk
  exact getElem_lt hk

theorem RowAt.keep (h : RowAt w own size ty vs v T) (hk : ∀ b ∈ T, w'.heap[b]? = w.heap[b]?) : RowAt w' own size ty vs v T := by
  cases own with
  | true =>
    obtain ⟨n, h, rfl⟩ := h
    refine ⟨n, ⟨h.1, ?_⟩, rfl⟩
    rcases h.2 with h2 | ⟨g, cap, cur, rfl, hb, hg, r⟩
    · exact .inl h2
    · exact .inr ⟨g, cap, cur, rfl, hb, (hk g (by simp [blk])).trans hg, r⟩
  | false =>
    obtain ⟨hl, A, n, c, rfl, h1, h2, h3, h5, h4⟩ := h
    refine ⟨fun b hb => lt_keep (hl b hb) (hk b hb), A, n, c, rfl, h1, h2, h3, h5, fun hne => ?_⟩
    obtain ⟨b, o, rfl, rfl, hc⟩ := h4 hne
    exact ⟨b, o, rfl, rfl, fun j u hu => (World.cell?_of_block (a := ⟨b, o + j, none⟩) (hk b (by simp))).trans (hc j u hu)⟩

theorem RowAt.ro (h : RowAt w own size ty vs v T) : RowAt w false size ty vs v T := by
  cases own with
  | false => exact h
  | true =>
    have hl := h.lt
    obtain ⟨n, h, rfl⟩ := h
    refine ⟨hl, ?_⟩
    rcases h.2 with ⟨rfl, rfl⟩ | ⟨g, cap, cur, rfl, hb, hg, hnc, hcm, hcs, ht⟩
    · exact ⟨none, 0, 0, rfl, h.1, Nat.le_refl _, Nat.zero_le _, fun _ => rfl, fun hne => absurd (List.eq_nil_of_length_eq_zero (by simpa using h.1)) hne⟩
    · refine ⟨some ⟨g, 0, none⟩, n, cap, rfl, h.1, hnc, hcm, (fun e => nomatch e), fun _ => ⟨g, 0, rfl, rfl, fun j u hu => ?_⟩⟩
      have := h.cells (g := g) rfl j u hu
      have e : (⟨g, 0, none⟩ : Addr).add j = ⟨g, 0 + j, none⟩ := by unfold Addr.add; split <;> simp_all
      rwa [e] at this
end

mutual
theorem Rep.lt {w : World} {own : Bool} : ∀ (d : D) {v : Value} {S : List Nat}, Rep w own d v S → ∀ b ∈ S, b < w.heap.size
  | .val _, _, _, h => by obtain ⟨_, rfl⟩ := h; simp
  | .sl _ _ cs, _, _, h => by
    obtain ⟨vs, T, S', h1, h2, rfl⟩ := h
    intro b hb
    rcases List.mem_append.1 hb with hb | hb
    · exact h1.lt b hb
    · exact RepL.lt cs h2 b hb
theorem RepL.lt {w : World} {own : Bool} : ∀ (ds : List D) {vs : List Value} {S : List Nat}, RepL w own ds vs S → ∀ b ∈ S, b < w.heap.size
  | [], _, _, h => by obtain ⟨_, rfl⟩ := h; simp
  | d :: ds, _, _, h => by
    obtain ⟨v, vs', S1, S2, rfl, rfl, h1, h2⟩ := h
    intro b hb
    rcases List.mem_append.1 hb with hb | hb
    · exact Rep.lt d h1 b hb
    · exact RepL.lt ds h2 b hb
end

mutual
theorem Rep.keep {w w' : World} {own : Bool} : ∀ (d : D) {v : Value} {S : List Nat}, Rep w own d v S → (∀ b ∈ S, w'.heap[b]? = w.heap[b]?) → Rep w' own d v S
  | .val _, _, _, h, _ => h
  | .sl _ _ cs, _, _, h, hk => by
    obtain ⟨vs, T, S', h1, h2, rfl⟩ := h
    exact ⟨vs, T, S', h1.keep fun b hb => hk b (List.mem_append.2 (.inl hb)), RepL.keep cs h2 fun b hb => hk b (List.mem_append.2 (.inr hb)), rfl⟩
theorem RepL.keep {w w' : World} {own : Bool} : ∀ (ds : List D) {vs : List Value} {S : List Nat}, RepL w own ds vs S → (∀ b ∈ S, w'.heap[b]? = w.heap[b]?) → RepL w' own ds vs S
  | [], _, _, h, _ => h
  | d :: ds, _, _, h, hk => by
    obtain ⟨v, vs', S1, S2, rfl, rfl, h1, h2⟩ := h
    exact ⟨v, vs', S1, S2, rfl, rfl, Rep.keep d h1 fun b hb => hk b (List.mem_append.2 (.inl hb)), RepL.keep ds h2 fun b hb => hk b (List.mem_append.2 (.inr hb))⟩
end

mutual
theorem Rep.ro {w : World} {own : Bool} : ∀ (d : D) {v : Value} {S : List Nat}, Rep w own d v S → Rep w false d v S
  | .val _, _, _, h => h
  | .sl _ _ cs, _, _, h => by
    obtain ⟨vs, T, S', h1, h2, rfl⟩ := h
    exact ⟨vs, T, S', h1.ro, RepL.ro cs h2, rfl⟩
theorem RepL.ro {w : World} {own : Bool} : ∀ (ds : List D) {vs : List Value} {S : List Nat}, RepL w own ds vs S → RepL w false ds vs S
  | [], _, _, h => h
  | d :: ds, _, _, h => by
    obtain ⟨v, vs', S1, S2, rfl, rfl, h1, h2⟩ := h
    exact ⟨v, vs', S1, S2, rfl, rfl, Rep.ro d h1, RepL.ro ds h2⟩
end

section
variable {w w' : World} {own : Bool} {d : D} {ds es : List D} {v : Value} {vs : List Value} {S : List Nat}

theorem Rep.below {B : Nat} (h : Rep w own d v S) (hb : Below B w w') (hB : w.heap.size ≤ B) : Rep w' own d v S :=
  Rep.keep d h fun b hs => hb.block b (Nat.lt_of_lt_of_le (Rep.lt d h b hs) hB)
theorem RepL.below {B : Nat} (h : RepL w own ds vs S) (hb : Below B w w') (hB : w.heap.size ≤ B) : RepL w' own ds vs S :=
  RepL.keep ds h fun b hs => hb.block b (Nat.lt_of_lt_of_le (RepL.lt ds h b hs) hB)
theorem AggRep.below {B : Nat} (h : AggRep w own ds v S) (hb : Below B w w') (hB : w.heap.size ≤ B) : AggRep w' own ds v S :=
  let ⟨vs, e, h⟩ := h; ⟨vs, e, h.below hb hB⟩
theorem AggRep.ro (h : AggRep w own ds v S) : AggRep w false ds v S := let ⟨vs, e, h⟩ := h; ⟨vs, e, RepL.ro ds h⟩
theorem AggRep.keep (h : AggRep w own ds v S) (hk : ∀ b ∈ S, w'.heap[b]? = w.heap[b]?) : AggRep w' own ds v S := let ⟨vs, e, h⟩ := h; ⟨vs, e, RepL.keep ds h hk⟩

theorem RepL.nil_ : RepL w own [] [] [] := ⟨rfl, rfl⟩
theorem RepL.cons_ {S1 S2 : List Nat} (h : Rep w own d v S1) (h2 : RepL w own ds vs S2) : RepL w own (d :: ds) (v :: vs) (S1 ++ S2) := ⟨v, vs, S1, S2, rfl, rfl, h, h2⟩
theorem RepL.val_ {u : Value} (h2 : RepL w own ds vs S) : RepL w own (.val u :: ds) (u :: vs) S := ⟨u, vs, [], S, rfl, rfl, ⟨rfl, rfl⟩, h2⟩
theorem RepL.val_inv {u : Value} (h : RepL w own (.val u :: ds) vs S) : ∃ vs', vs = u :: vs' ∧ RepL w own ds vs' S := by
  obtain ⟨v, vs', S1, S2, rfl, rfl, ⟨rfl, rfl⟩, h2⟩ := h
  exact ⟨vs', rfl, h2⟩
theorem RepL.length : ∀ (ds : List D) {vs : List Value} {S : List Nat}, RepL w own ds vs S → vs.length = ds.length
  | [], _, _, h => by obtain ⟨rfl, _⟩ := h; rfl
  | d :: ds, _, _, h => by
    obtain ⟨v, vs', S1, S2, rfl, rfl, h1, h2⟩ := h
    simp [RepL.length ds h2]
theorem RepL.append_inv : ∀ (ds : List D) {vs : List Value} {S : List Nat}, RepL w own (ds ++ es) vs S → ∃ v1 v2 S1 S2, vs = v1 ++ v2 ∧ S = S1 ++ S2 ∧ RepL w own ds v1 S1 ∧ RepL w own es v2 S2
  | [], vs, S, h => ⟨[], vs, [], S, rfl, rfl, RepL.nil_, h⟩
  | d :: ds, _, _, h => by
    obtain ⟨v, vs', S1, S2, rfl, rfl, h1, h2⟩ := h
    obtain ⟨v1, v2, S3, S4, rfl, rfl, h3, h4⟩ := RepL.append_inv ds h2
    exact ⟨v :: v1, v2, S1 ++ S3, S4, rfl, by simp, RepL.cons_ h1 h3, h4⟩
theorem RepL.append_ : ∀ (ds : List D) {v1 v2 : List Value} {S1 S2 : List Nat}, RepL w own ds v1 S1 → RepL w own es v2 S2 → RepL w own (ds ++ es) (v1 ++ v2) (S1 ++ S2)
  | [], _, _, _, _, h, h2 => by obtain ⟨rfl, rfl⟩ := h; exact h2
  | d :: ds, _, _, _, _, h, h2 => by
    obtain ⟨v, vs', S1, S2, rfl, rfl, h1, h3⟩ := h
    rw [List.append_assoc]
    exact RepL.cons_ h1 (RepL.append_ ds h3 h2)
end

/-! ### Rows of structs -/
section
variable {α : Type} {enc : α → List D} {size : Nat} {w w' : World} {own : Bool}

theorem len_flat (hl : ∀ x, (enc x).length = size) : ∀ xs : List α, (xs.flatMap enc).length = xs.length * size
  | [] => by simp
  | x :: xs => by simp [hl, len_flat hl xs, Nat.add_mul]; omega

/-- Element k's cells. -/
theorem RepL.get (hl : ∀ x, (enc x).length = size) : ∀ (xs : List α) {vs : List Value} {S : List Nat}, RepL w own (xs.flatMap enc) vs S → ∀ (k : Nat) (x : α), xs[k]? = some x →
    ∃ v1 vk v2 Sa Sk Sb, vs = v1 ++ vk ++ v2 ∧ v1.length = k * size ∧ vk.length = size ∧ S = Sa ++ Sk ++ Sb ∧ RepL w own (enc x) vk Sk
      ∧ RepL w own ((xs.take k).flatMap enc) v1 Sa ∧ RepL w own ((xs.drop (k + 1)).flatMap enc) v2 Sb := by
  intro xs vs S h k x hx
  have hk : k < xs.length := (List.getElem?_eq_some_iff.1 hx).1
  have e : xs = xs.take k ++ ([x] ++ xs.drop (k + 1)) := by
    have hx' : xs[k] = x := by rw [List.getElem?_eq_getElem hk] at hx; exact Option.some.inj hx
    rw [← hx']
    simp
  rw [e, List.flatMap_append, List.flatMap_append] at h
  obtain ⟨v1, v2, S1, S2, rfl, rfl, h1, h2⟩ := RepL.append_inv _ h
  obtain ⟨vk, v3, S3, S4, rfl, rfl, h3, h4⟩ := RepL.append_inv _ h2
  have h3' : RepL w own (enc x) vk S3 := by simpa using h3
  refine ⟨v1, vk, v3, S1, S3, S4, by simp, ?_, ?_, by simp, h3', h1, h4⟩
  · rw [RepL.length _ h1, len_flat hl, List.length_take, Nat.min_eq_left (by omega)]
  · rw [RepL.length _ h3', hl]

theorem RepL.put (xs : List α) {v1 vk v2 : List Value} {Sa Sk Sb : List Nat} {k : Nat} {y : α} (hk : k < xs.length)
    (h1 : RepL w own ((xs.take k).flatMap enc) v1 Sa) (h : RepL w own (enc y) vk Sk) (h2 : RepL w own ((xs.drop (k + 1)).flatMap enc) v2 Sb) :
    RepL w own ((xs.set k y).flatMap enc) (v1 ++ vk ++ v2) (Sa ++ Sk ++ Sb) := by
  have e : xs.set k y = xs.take k ++ ([y] ++ xs.drop (k + 1)) := by
    rw [List.set_eq_take_append_cons_drop]; simp [hk]
  rw [e, List.flatMap_append, List.flatMap_append, List.append_assoc, List.append_assoc]
  exact RepL.append_ _ h1 (RepL.append_ _ (by simpa using h) h2)

/-- A slice of structs, opened for reading: the value, its length, and of each element the cells and what stands in them. -/
theorem Rep.open_ (hl : ∀ x, (enc x).length = size) (hs : 0 < size) {ty : TypeId} {xs : List α} {v : Value} {S : List Nat} (h : Rep w own (.sl size ty (xs.flatMap enc)) v S) :
    ∃ A c, v = .slice A xs.length c ∧ xs.length ≤ c ∧ c ≤ maxLen ∧
      ∀ k x, xs[k]? = some x → ∃ b o vk Sk, A = some ⟨b, o, none⟩ ∧ vk.length = size ∧ RepL w own (enc x) vk Sk ∧ (∀ s ∈ Sk, s ∈ S) ∧ b ∈ S ∧ b < w.heap.size ∧
        ∀ j u, vk[j]? = some u → w.cell? ⟨b, o + k * size + j, none⟩ = some u := by
  obtain ⟨vs, T, S', h1, h2, rfl⟩ := h
  obtain ⟨hlt, A, n, c, rfl, hn, hnc, hcm, _, hc⟩ := h1.ro
  have hlen : vs.length = xs.length * size := by rw [RepL.length _ h2, len_flat hl]
  have hnx : n = xs.length := Nat.eq_of_mul_eq_mul_right hs (hn.symm.trans hlen)
  subst hnx
  refine ⟨A, c, rfl, hnc, hcm, fun k x hx => ?_⟩
  obtain ⟨v1, vk, v2, Sa, Sk, Sb, rfl, hv1, hvk, rfl, hr, _, _⟩ := RepL.get hl xs h2 k x hx
  have hne : v1 ++ vk ++ v2 ≠ [] := by
    intro e
    have := congrArg List.length e
    simp only [List.length_append, List.length_nil] at this
    omega
  obtain ⟨b, o, rfl, rfl, hcell⟩ := hc hne
  refine ⟨b, o, vk, Sk, rfl, hvk, hr, fun s hs => by simp [hs], by simp, hlt b (by simp), fun j u hu => ?_⟩
  have := hcell (k * size + j) u (by
    rw [List.append_assoc, List.getElem?_append_right (by omega), hv1, Nat.add_sub_cancel_left, List.getElem?_append_left (by have := (List.getElem?_eq_some_iff.1 hu).1; omega)]
    exact hu)
  rwa [← Nat.add_assoc] at this
end

theorem RepL.flat {w w' : World} {own own' : Bool} : ∀ (ds : List D) {vs : List Value} {S : List Nat}, (∀ d ∈ ds, ∃ v, d = .val v) → RepL w own ds vs S → RepL w' own' ds vs [] ∧ S = []
  | [], _, _, _, h => by obtain ⟨rfl, rfl⟩ := h; exact ⟨⟨rfl, rfl⟩, rfl⟩
  | d :: ds, _, _, hd, h => by
    obtain ⟨v, vs', S1, S2, rfl, rfl, h1, h2⟩ := h
    obtain ⟨u, rfl⟩ := hd d (by simp)
    obtain ⟨rfl, rfl⟩ := h1
    obtain ⟨h3, rfl⟩ := RepL.flat (w' := w') (own' := own') ds (fun d hd' => hd d (by simp [hd'])) h2
    exact ⟨RepL.val_ h3, rfl⟩
/-- A slice of flat structs, as the source of an append. -/
theorem Rep.src {α : Type} {enc : α → List D} {size : Nat} {w : World} {own : Bool} {ty : TypeId} {xs : List α} {v : Value} {S : List Nat} (hl : ∀ x, (enc x).length = size) (hs : 0 < size) (hf : ∀ x, ∀ d ∈ enc x, ∃ u, d = .val u) (h : Rep w own (.sl size ty (xs.flatMap enc)) v S) :
    ∃ A c news, v = .slice A xs.length c ∧ RepL w true (xs.flatMap enc) news [] ∧ (A = none → xs.length = 0 ∧ c = 0) ∧ ∀ ad, A = some ad → ∀ j u, news[j]? = some u → w.cell? (ad.add j) = some u := by
  obtain ⟨vs, T, S', h1, h2, rfl⟩ := h
  obtain ⟨hlt, A, n, c, rfl, hn, hnc, hcm, h0, hc⟩ := h1.ro
  have hlen : vs.length = xs.length * size := by rw [RepL.length _ h2, len_flat hl]
  have hnx : n = xs.length := Nat.eq_of_mul_eq_mul_right hs (hn.symm.trans hlen)
  subst hnx
  obtain ⟨h3, _⟩ := RepL.flat (w' := w) (own' := true) _ (fun d hd => by obtain ⟨x, _, hx⟩ := List.mem_flatMap.1 hd; exact hf x d hx) h2
  refine ⟨A, c, vs, rfl, h3, fun e => ⟨by have := h0 e; omega, h0 e⟩, fun ad ha j u hu => ?_⟩
  obtain ⟨b, o, rfl, _, hcell⟩ := hc (fun e => by subst e; simp at hu)
  injection ha with ha
  subst ha
  have := hcell j u hu
  have e : (⟨b, o, none⟩ : Addr).add j = ⟨b, o + j, none⟩ := by unfold Addr.add; split <;> simp_all
  rwa [e]

#print axioms Rep.open_
end Go.Proofs.Ytbplebgnkhmemaa
