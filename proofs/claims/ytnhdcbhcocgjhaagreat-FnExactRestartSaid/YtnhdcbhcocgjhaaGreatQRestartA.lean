/- Texts for the law FnExactRestart. -/
import Derived.WalkKit
import Derived.WalkSpells
import Derived.WalkLawsBesides
import Derived.Lib.Hide
import Derived.Lib.QuietBelow
import Derived.BigQuiet
import Derived.Deep.MidRow
import Derived.OwnWalk
namespace Go.Proofs.YtnhdcbhcocgjhaaGreat
open Go.RowKit

/-- A datum: a cell that holds just this value, or a slice with its cells. -/
inductive D where
  | val (v : Value)
  | sl (size : Nat) (ty : TypeId) (cs : List D)

def blk (v : Value) : List Nat := match v with
  | .slice (some a) _ _ => [a.block]
  | _ => []

/-- A slice value whose cells are vs; T: the block that holds them. -/
def RowAt (w : World) (own : Bool) (size : Nat) (ty : TypeId) (vs : List Value) (v : Value) (T : List Nat) : Prop :=
  match own with
  | true => ∃ n, w.ownsRow 0 ty size v n vs ∧ T = blk v
  | false => (∀ b ∈ T, b < w.heap.size) ∧ ∃ A n c, v = .slice A n c ∧ vs.length = n * size ∧ n ≤ c ∧ c ≤ maxLen ∧ (A = none → c = 0) ∧
      (vs ≠ [] → ∃ b o, A = some ⟨b, o, none⟩ ∧ T = [b] ∧ ∀ j u, vs[j]? = some u → w.cell? ⟨b, o + j, none⟩ = some u)

mutual
def Rep (w : World) (own : Bool) : D → Value → List Nat → Prop
  | .val u, v, S => v = u ∧ S = []
  | .sl size ty cs, v, S => ∃ vs T S', RowAt w own size ty vs v T ∧ RepL w own cs vs S' ∧ S = T ++ S'
def RepL (w : World) (own : Bool) : List D → List Value → List Nat → Prop
  | [], vs, S => vs = [] ∧ S = []
  | d :: ds, vs, S => ∃ v vs' S1 S2, vs = v :: vs' ∧ S = S1 ++ S2 ∧ Rep w own d v S1 ∧ RepL w own ds vs' S2
end

def AggRep (w : World) (own : Bool) (ds : List D) (v : Value) (S : List Nat) : Prop := ∃ vs, v = .agg vs.toArray ∧ RepL w own ds vs S

/-- Blocks of the call's own, each once. -/
def Fresh (B : Nat) (S : List Nat) : Prop := S.Nodup ∧ ∀ b ∈ S, B ≤ b

theorem getElem_lt {α : Type} {a : Array α} {i : Nat} {x : α} (h : a[i]? = some x) : i < a.size := (Array.getElem?_eq_some_iff.1 h).1

section
variable {w w' : World} {own : Bool} {size : Nat} {ty : TypeId} {vs : List Value} {v : Value} {T : List Nat}

theorem RowAt.lt (h : RowAt w own size ty vs v T) : ∀ b ∈ T, b < w.heap.size := by
  intro b hb
  cases own with
  | true =>
    obtain ⟨n, h, rfl⟩ := h
    rcases h.2 with ⟨rfl, _⟩ | ⟨g, cap, cur, rfl, _, hg, _⟩
    · simp [blk] at hb
    · simp [blk] at hb; subst hb; exact getElem_lt hg
  | false => exact h.1 b hb

theorem lt_keep {b : Nat} (h : b < w.heap.size) (hk : w'.heap[b]? = w.heap[b]?) : b < w'.heap.size := by
  rw [Array.getElem?_eq_getElem h] at hk
  exact getElem_lt hk

theorem RowAt.keep (h : RowAt w own size ty vs v T) (hk : ∀ b ∈ T, w'.heap[b]? = w.heap[b]?) : RowAt w' own size ty vs v T := by
  cases own with
  | true =>
    obtain ⟨n, h, rfl⟩ := h
    refine ⟨n, ⟨h.1, ?_⟩, rfl⟩
    rcases h.2 with h2 | ⟨g, cap, cur, rfl, hb, hg, r⟩
    · exact .inl h2
    · exact .inr ⟨g, cap, cur, rfl, hb, (hk g (by simp [blk])).trans hg, r⟩
  | false =>
    obtain ⟨hl, A, n, c, rfl, h1, h2, h3, h5, h4⟩ := h
    refine ⟨fun b hb => lt_keep (hl b hb) (hk b hb), A, n, c, rfl, h1, h2, h3, h5, fun hne => ?_⟩
    obtain ⟨b, o, rfl, rfl, hc⟩ := h4 hne
    exact ⟨b, o, rfl, rfl, fun j u hu => (World.cell?_of_block (a := ⟨b, o + j, none⟩) (hk b (by simp))).trans (hc j u hu)⟩

theorem RowAt.ro (h : RowAt w own size ty vs v T) : RowAt w false size ty vs v T := by
  cases own with
  | false => exact h
  | true =>
    have hl := h.lt
    obtain ⟨n, h, rfl⟩ := h
    refine ⟨hl, ?_⟩
    rcases h.2 with ⟨rfl, rfl⟩ | ⟨g, cap, cur, rfl, hb, hg, hnc, hcm, hcs, ht⟩
    · exact ⟨none, 0, 0, rfl, h.1, Nat.le_refl _, Nat.zero_le _, fun _ => rfl, fun hne => absurd (List.eq_nil_of_length_eq_zero (by simpa using h.1)) hne⟩
    · refine ⟨some ⟨g, 0, none⟩, n, cap, rfl, h.1, hnc, hcm, (fun e => nomatch e), fun _ => ⟨g, 0, rfl, rfl, fun j u hu => ?_⟩⟩
      have := h.cells (g := g) rfl j u hu
      have e : (⟨g, 0, none⟩ : Addr).add j = ⟨g, 0 + j, none⟩ := by unfold Addr.add; split <;> simp_all
      rwa [e] at this
end

mutual
theorem Rep.lt {w : World} {own : Bool} : ∀ (d : D) {v : Value} {S : List Nat}, Rep w own d v S → ∀ b ∈ S, b < w.heap.size
  | .val _, _, _, h => by obtain ⟨_, rfl⟩ := h; simp
  | .sl _ _ cs, _, _, h => by
    obtain ⟨vs, T, S', h1, h2, rfl⟩ := h
    intro b hb
    rcases List.mem_append.1 hb with hb | hb
    · exact h1.lt b hb
    · exact RepL.lt cs h2 b hb
theorem RepL.lt {w : World} {own : Bool} : ∀ (ds : List D) {vs : List Value} {S : List Nat}, RepL w own ds vs S → ∀ b ∈ S, b < w.heap.size
  | [], _, _, h => by obtain ⟨_, rfl⟩ := h; simp
  | d :: ds, _, _, h => by
    obtain ⟨v, vs', S1, S2, rfl, rfl, h1, h2⟩ := h
    intro b hb
    rcases List.mem_append.1 hb with hb | hb
    · exact Rep.lt d h1 b hb
    · exact RepL.lt ds h2 b hb
end

mutual
theorem Rep.keep {w w' : World} {own : Bool} : ∀ (d : D) {v : Value} {S : List Nat}, Rep w own d v S → (∀ b ∈ S, w'.heap[b]? = w.heap[b]?) → Rep w' own d v S
  | .val _, _, _, h, _ => h
  | .sl _ _ cs, _, _, h, hk => by
    obtain ⟨vs, T, S', h1, h2, rfl⟩ := h
    exact ⟨vs, T, S', h1.keep fun b hb => hk b (List.mem_append.2 (.inl hb)), RepL.keep cs h2 fun b hb => hk b (List.mem_append.2 (.inr hb)), rfl⟩
theorem RepL.keep {w w' : World} {own : Bool} : ∀ (ds : List D) {vs : List Value} {S : List Nat}, RepL w own ds vs S → (∀ b ∈ S, w'.heap[b]? = w.heap[b]?) → RepL w' own ds vs S
  | [], _, _, h, _ => h
  | d :: ds, _, _, h, hk => by
    obtain ⟨v, vs', S1, S2, rfl, rfl, h1, h2⟩ := h
    exact ⟨v, vs', S1, S2, rfl, rfl, Rep.keep d h1 fun b hb => hk b (List.mem_append.2 (.inl hb)), RepL.keep ds h2 fun b hb => hk b (List.mem_append.2 (.inr hb))⟩
end

mutual
theorem Rep.ro {w : World} {own : Bool} : ∀ (d : D) {v : Value} {S : List Nat}, Rep w own d v S → Rep w false d v S
  | .val _, _, _, h => h
  | .sl _ _ cs, _, _, h => by
    obtain ⟨vs, T, S', h1, h2, rfl⟩ := h
    exact ⟨vs, T, S', h1.ro, RepL.ro cs h2, rfl⟩
theorem RepL.ro {w : World} {own : Bool} : ∀ (ds : List D) {vs : List Value} {S : List Nat}, RepL w own ds vs S → RepL w false ds vs S
  | [], _, _, h => h
  | d :: ds, _, _, h => by
    obtain ⟨v, vs', S1, S2, rfl, rfl, h1, h2⟩ := h
    exact ⟨v, vs', S1, S2, rfl, rfl, Rep.ro d h1, RepL.ro ds h2⟩
end

section
variable {w w' : World} {own : Bool} {d : D} {ds es : List D} {v : Value} {vs : List Value} {S : List Nat}

theorem Rep.below {B : Nat} (h : Rep w own d v S) (hb : Below B w w') (hB : w.heap.size ≤ B) : Rep w' own d v S :=
  Rep.keep d h fun b hs => hb.block b (Nat.lt_of_lt_of_le (Rep.lt d h b hs) hB)
theorem RepL.below {B : Nat} (h : RepL w own ds vs S) (hb : Below B w w') (hB : w.heap.size ≤ B) : RepL w' own ds vs S :=
  RepL.keep ds h fun b hs => hb.block b (Nat.lt_of_lt_of_le (RepL.lt ds h b hs) hB)
theorem AggRep.below {B : Nat} (h : AggRep w own ds v S) (hb : Below B w w') (hB : w.heap.size ≤ B) : AggRep w' own ds v S :=
  let ⟨vs, e, h⟩ := h; ⟨vs, e, h.below hb hB⟩
theorem AggRep.ro (h : AggRep w own ds v S) : AggRep w false ds v S := let ⟨vs, e, h⟩ := h; ⟨vs, e, RepL.ro ds h⟩
theorem AggRep.keep (h : AggRep w own ds v S) (hk : ∀ b ∈ S, w'.heap[b]? = w.heap[b]?) : AggRep w' own ds v S := let ⟨vs, e, h⟩ := h; ⟨vs, e, RepL.keep ds h hk⟩

theorem RepL.nil_ : RepL w own [] [] [] := ⟨rfl, rfl⟩
theorem RepL.cons_ {S1 S2 : List Nat} (h : Rep w own d v S1) (h2 : RepL w own ds vs S2) : RepL w own (d :: ds) (v :: vs) (S1 ++ S2) := ⟨v, vs, S1, S2, rfl, rfl, h, h2⟩
theorem RepL.val_ {u : Value} (h2 : RepL w own ds vs S) : RepL w own (.val u :: ds) (u :: vs) S := ⟨u, vs, [], S, rfl, rfl, ⟨rfl, rfl⟩, h2⟩
theorem RepL.val_inv {u : Value} (h : RepL w own (.val u :: ds) vs S) : ∃ vs', vs = u :: vs' ∧ RepL w own ds vs' S := by
  obtain ⟨v, vs', S1, S2, rfl, rfl, ⟨rfl, rfl⟩, h2⟩ := h
  exact ⟨vs', rfl, h2⟩
theorem RepL.length : ∀ (ds : List D) {vs : List Value} {S : List Nat}, RepL w own ds vs S → vs.length = ds.length
  | [], _, _, h => by obtain ⟨rfl, _⟩ := h; rfl
  | d :: ds, _, _, h => by
    obtain ⟨v, vs', S1, S2, rfl, rfl, h1, h2⟩ := h
    simp [RepL.length ds h2]
theorem RepL.append_inv : ∀ (ds : List D) {vs : List Value} {S : List Nat}, RepL w own (ds ++ es) vs S → ∃ v1 v2 S1 S2, vs = v1 ++ v2 ∧ S = S1 ++ S2 ∧ RepL w own ds v1 S1 ∧ RepL w own es v2 S2
  | [], vs, S, h => ⟨[], vs, [], S, rfl, rfl, RepL.nil_, h⟩
  | d :: ds, _, _, h => by
    obtain ⟨v, vs', S1, S2, rfl, rfl, h1, h2⟩ := h
    obtain ⟨v1, v2, S3, S4, rfl, rfl, h3, h4⟩ := RepL.append_inv ds h2
    exact ⟨v :: v1, v2, S1 ++ S3, S4, rfl, by simp, RepL.cons_ h1 h3, h4⟩
theorem RepL.append_ : ∀ (ds : List D) {v1 v2 : List Value} {S1 S2 : List Nat}, RepL w own ds v1 S1 → RepL w own es v2 S2 → RepL w own (ds ++ es) (v1 ++ v2) (S1 ++ S2)
  | [], _, _, _, _, h, h2 => by obtain ⟨rfl, rfl⟩ := h; exact h2
  | d :: ds, _, _, _, _, h, h2 => by
    obtain ⟨v, vs', S1, S2, rfl, rfl, h1, h3⟩ := h
    rw [List.append_assoc]
    exact RepL.cons_ h1 (RepL.append_ ds h3 h2)
end

section
variable {α : Type} {enc : α → List D} {size : Nat} {w w' : World} {own : Bool}

theorem len_flat (hl : ∀ x, (enc x).length = size) : ∀ xs : List α, (xs.flatMap enc).length = xs.length * size
  | [] => by simp
  | x :: xs => by simp [hl, len_flat hl xs, Nat.add_mul]; omega

/-- Element k's cells. -/
theorem RepL.get (hl : ∀ x, (enc x).length = size) : ∀ (xs : List α) {vs : List Value} {S : List Nat}, RepL w own (xs.flatMap enc) vs S → ∀ (k : Nat) (x : α), xs[k]? = some x →
    ∃ v1 vk v2 Sa Sk Sb, vs = v1 ++ vk ++ v2 ∧ v1.length = k * size ∧ vk.length = size ∧ S = Sa ++ Sk ++ Sb ∧ RepL w own (enc x) vk Sk
      ∧ RepL w own ((xs.take k).flatMap enc) v1 Sa ∧ RepL w own ((xs.drop (k + 1)).flatMap enc) v2 Sb := by
  intro xs vs S h k x hx
  have hk : k < xs.length := (List.getElem?_eq_some_iff.1 hx).1
  have e : xs = xs.take k ++ ([x] ++ xs.drop (k + 1)) := by
    have hx' : xs[k] = x := by rw [List.getElem?_eq_getElem hk] at hx; exact Option.some.inj hx
    rw [← hx']
    simp
  rw [e, List.flatMap_append, List.flatMap_append] at h
  obtain ⟨v1, v2, S1, S2, rfl, rfl, h1, h2⟩ := RepL.append_inv _ h
  obtain ⟨vk, v3, S3, S4, rfl, rfl, h3, h4⟩ := RepL.append_inv _ h2
  have h3' : RepL w own (enc x) vk S3 := by simpa using h3
  refine ⟨v1, vk, v3, S1, S3, S4, by simp, ?_, ?_, by simp, h3', h1, h4⟩
  · rw [RepL.length _ h1, len_flat hl, List.length_take, Nat.min_eq_left (by omega)]
  · rw [RepL.length _ h3', hl]

theorem RepL.put (xs : List α) {v1 vk v2 : List Value} {Sa Sk Sb : List Nat} {k : Nat} {y : α} (hk : k < xs.length)
    (h1 : RepL w own ((xs.take k).flatMap enc) v1 Sa) (h : RepL w own (enc y) vk Sk) (h2 : RepL w own ((xs.drop (k + 1)).flatMap enc) v2 Sb) :
    RepL w own ((xs.set k y).flatMap enc) (v1 ++ vk ++ v2) (Sa ++ Sk ++ Sb) := by
  have e : xs.set k y = xs.take k ++ ([y] ++ xs.drop (k + 1)) := by
    rw [List.set_eq_take_append_cons_drop]; simp [hk]
  rw [e, List.flatMap_append, List.flatMap_append, List.append_assoc, List.append_assoc]
  exact RepL.append_ _ h1 (RepL.append_ _ (by simpa using h) h2)

/-- A slice of structs, opened for reading: the value, its length, and of each element the cells and what stands in them. -/
theorem Rep.open_ (hl : ∀ x, (enc x).length = size) (hs : 0 < size) {ty : TypeId} {xs : List α} {v : Value} {S : List Nat} (h : Rep w own (.sl size ty (xs.flatMap enc)) v S) :
    ∃ A c, v = .slice A xs.length c ∧ xs.length ≤ c ∧ c ≤ maxLen ∧
      ∀ k x, xs[k]? = some x → ∃ b o vk Sk, A = some ⟨b, o, none⟩ ∧ vk.length = size ∧ RepL w own (enc x) vk Sk ∧ (∀ s ∈ Sk, s ∈ S) ∧ b ∈ S ∧ b < w.heap.size ∧
        ∀ j u, vk[j]? = some u → w.cell? ⟨b, o + k * size + j, none⟩ = some u := by
  obtain ⟨vs, T, S', h1, h2, rfl⟩ := h
  obtain ⟨hlt, A, n, c, rfl, hn, hnc, hcm, _, hc⟩ := h1.ro
  have hlen : vs.length = xs.length * size := by rw [RepL.length _ h2, len_flat hl]
  have hnx : n = xs.length := Nat.eq_of_mul_eq_mul_right hs (hn.symm.trans hlen)
  subst hnx
  refine ⟨A, c, rfl, hnc, hcm, fun k x hx => ?_⟩
  obtain ⟨v1, vk, v2, Sa, Sk, Sb, rfl, hv1, hvk, rfl, hr, _, _⟩ := RepL.get hl xs h2 k x hx
  have hne : v1 ++ vk ++ v2 ≠ [] := by
    intro e
    have := congrArg List.length e
    simp only [List.length_append, List.length_nil] at this
    omega
  obtain ⟨b, o, rfl, rfl, hcell⟩ := hc hne
  refine ⟨b, o, vk, Sk, rfl, hvk, hr, fun s hs => by simp [hs], by simp, hlt b (by simp), fun j u hu => ?_⟩
  have := hcell (k * size + j) u (by
    rw [List.append_assoc, List.getElem?_append_right (by omega), hv1, Nat.add_sub_cancel_left, List.getElem?_append_left (by have := (List.getElem?_eq_some_iff.1 hu).1; omega)]
    exact hu)
  rwa [← Nat.add_assoc] at this
end

theorem RepL.flat {w w' : World} {own own' : Bool} : ∀ (ds : List D) {vs : List Value} {S : List Nat}, (∀ d ∈ ds, ∃ v, d = .val v) → RepL w own ds vs S → RepL w' own' ds vs [] ∧ S = []
  | [], _, _, _, h => by obtain ⟨rfl, rfl⟩ := h; exact ⟨⟨rfl, rfl⟩, rfl⟩
  | d :: ds, _, _, hd, h => by
    obtain ⟨v, vs', S1, S2, rfl, rfl, h1, h2⟩ := h
    obtain ⟨u, rfl⟩ := hd d (by simp)
    obtain ⟨rfl, rfl⟩ := h1
    obtain ⟨h3, rfl⟩ := RepL.flat (w' := w') (own' := own') ds (fun d hd' => hd d (by simp [hd'])) h2
    exact ⟨RepL.val_ h3, rfl⟩
/-- A slice of flat structs, as the source of an append. -/
theorem Rep.src {α : Type} {enc : α → List D} {size : Nat} {w : World} {own : Bool} {ty : TypeId} {xs : List α} {v : Value} {S : List Nat} (hl : ∀ x, (enc x).length = size) (hs : 0 < size) (hf : ∀ x, ∀ d ∈ enc x, ∃ u, d = .val u) (h : Rep w own (.sl size ty (xs.flatMap enc)) v S) :
    ∃ A c news, v = .slice A xs.length c ∧ RepL w true (xs.flatMap enc) news [] ∧ (A = none → xs.length = 0 ∧ c = 0) ∧ ∀ ad, A = some ad → ∀ j u, news[j]? = some u → w.cell? (ad.add j) = some u := by
  obtain ⟨vs, T, S', h1, h2, rfl⟩ := h
  obtain ⟨hlt, A, n, c, rfl, hn, hnc, hcm, h0, hc⟩ := h1.ro
  have hlen : vs.length = xs.length * size := by rw [RepL.length _ h2, len_flat hl]
  have hnx : n = xs.length := Nat.eq_of_mul_eq_mul_right hs (hn.symm.trans hlen)
  subst hnx
  obtain ⟨h3, _⟩ := RepL.flat (w' := w) (own' := true) _ (fun d hd => by obtain ⟨x, _, hx⟩ := List.mem_flatMap.1 hd; exact hf x d hx) h2
  refine ⟨A, c, vs, rfl, h3, fun e => ⟨by have := h0 e; omega, h0 e⟩, fun ad ha j u hu => ?_⟩
  obtain ⟨b, o, rfl, _, hcell⟩ := hc (fun e => by subst e; simp at hu)
  injection ha with ha
  subst ha
  have := hcell j u hu
  have e : (⟨b, o, none⟩ : Addr).add j = ⟨b, o + j, none⟩ := by unfold Addr.add; split <;> simp_all
  rwa [e]

#print axioms Rep.open_
end Go.Proofs.YtnhdcbhcocgjhaaGreat
namespace Go.Proofs.YtnhdcbhcocgjhaaGreat
open Go.RowKit Go.Sort

/-- Of the blocks that were there, those in S alone may have turned. -/
structure Only (S : List Nat) (w w' : World) : Prop where
  os : w'.os = w.os
  tape : w'.tape = w.tape
  output : w'.output = w.output
  size : w.heap.size ≤ w'.heap.size
  block : ∀ k, k < w.heap.size → k ∉ S → w'.heap[k]? = w.heap[k]?

section
variable {S T : List Nat} {w w' w'' : World}
theorem Only.refl (S : List Nat) (w : World) : Only S w w := ⟨rfl, rfl, rfl, Nat.le_refl _, fun _ _ _ => rfl⟩
theorem Only.trans (h : Only S w w') (k : Only T w' w'') (hT : ∀ t ∈ T, t ∈ S ∨ w.heap.size ≤ t) : Only S w w'' :=
  ⟨k.os.trans h.os, k.tape.trans h.tape, k.output.trans h.output, Nat.le_trans h.size k.size, fun i hi hn =>
    (k.block i (Nat.lt_of_lt_of_le hi h.size) (fun ht => by rcases hT i ht with h1 | h1; exact hn h1; omega)).trans (h.block i hi hn)⟩
theorem Only.mono (h : Only S w w') (hS : ∀ s ∈ S, s ∈ T ∨ w.heap.size ≤ s) : Only T w w' :=
  ⟨h.os, h.tape, h.output, h.size, fun i hi hn => h.block i hi (fun hs => by rcases hS i hs with h1 | h1; exact hn h1; omega)⟩
theorem Only.of_below (h : Below w.heap.size w w') : Only S w w' := ⟨h.os, h.tape, h.output, h.size, fun i hi _ => h.block i hi⟩
theorem Only.below {B : Nat} (h : Only S w w') (hS : ∀ s ∈ S, B ≤ s) (hB : B ≤ w.heap.size) : Below B w w' :=
  ⟨h.os, h.tape, h.output, h.size, fun i hi => h.block i (by omega) (fun hs => by have := hS i hs; omega)⟩
theorem Only.of_grown {v : Value} (h : w.grownBy w' v.ownBlock) (hv : ∀ b ∈ blk v, b ∈ S) : Only S w w' :=
  ⟨h.os, h.tape, h.output, h.size, fun i hi hn => h.block i hi (fun e => hn (hv i (by
    unfold Value.ownBlock at e; unfold blk
    split at e <;> simp_all)))⟩
theorem Only.of_grown1 {g : Nat} (h : w.grownBy w' (some g)) (hg : g ∈ S) : Only S w w' :=
  ⟨h.os, h.tape, h.output, h.size, fun i hi hn => h.block i hi (fun e => hn (by injection e with e; subst e; exact hg))⟩
theorem bl_grown0 (h : w.grownBy w' none) : Below w.heap.size w w' := ⟨h.os, h.tape, h.output, h.size, fun i hi => h.block i hi (by simp)⟩
theorem bl_dn (h : Below w.heap.size w w') (k : Below w'.heap.size w' w'') : Below w.heap.size w w'' := h.trans (k.mono h.size)

variable {own : Bool} {d : D} {ds : List D} {v : Value} {vs : List Value}
theorem Rep.only (h : Rep w own d v S) (ho : Only T w w') (hd : ∀ s ∈ S, s ∉ T) : Rep w' own d v S := Rep.keep d h fun b hb => ho.block b (Rep.lt d h b hb) (hd b hb)
theorem RepL.only (h : RepL w own ds vs S) (ho : Only T w w') (hd : ∀ s ∈ S, s ∉ T) : RepL w' own ds vs S := RepL.keep ds h fun b hb => ho.block b (RepL.lt ds h b hb) (hd b hb)
theorem AggRep.only (h : AggRep w own ds v S) (ho : Only T w w') (hd : ∀ s ∈ S, s ∉ T) : AggRep w' own ds v S := let ⟨vs, e, h⟩ := h; ⟨vs, e, h.only ho hd⟩

theorem Fresh.nil (B : Nat) : Fresh B [] := ⟨List.nodup_nil, by simp⟩
theorem Fresh.mono {B B' : Nat} (h : Fresh B S) (hB : B' ≤ B) : Fresh B' S := ⟨h.1, fun b hb => Nat.le_trans hB (h.2 b hb)⟩
theorem Fresh.left {B : Nat} (h : Fresh B (S ++ T)) : Fresh B S := ⟨(List.nodup_append.1 h.1).1, fun b hb => h.2 b (by simp [hb])⟩
theorem Fresh.right {B : Nat} (h : Fresh B (S ++ T)) : Fresh B T := ⟨(List.nodup_append.1 h.1).2.1, fun b hb => h.2 b (by simp [hb])⟩
theorem Fresh.apart {B : Nat} (h : Fresh B (S ++ T)) : ∀ s ∈ S, s ∉ T := fun s hs ht => (List.nodup_append.1 h.1).2.2 s hs s ht rfl
/-- What was there before B', and what came after. -/
theorem Fresh.join {B B' : Nat} (h : Fresh B S) (k : Fresh B' T) (hB : B ≤ B') (hlt : ∀ s ∈ S, s < B') : Fresh B (S ++ T) :=
  ⟨List.nodup_append.2 ⟨h.1, k.1, fun a ha b hb e => by have h1 := hlt a ha; have h2 := k.2 b hb; omega⟩,
    fun b hb => by rcases List.mem_append.1 hb with hb | hb; exact h.2 b hb; exact Nat.le_trans hB (k.2 b hb)⟩
theorem Fresh.one (B g : Nat) (h : B ≤ g) : Fresh B [g] := ⟨by simp, by simpa using h⟩
end

/-- One cell each. -/
def D.one : D → Prop
  | .val v => v.oneCell' = true
  | .sl .. => True
theorem Rep.one {w : World} {own : Bool} {d : D} {v : Value} {S : List Nat} (h : Rep w own d v S) (h1 : d.one) : v.oneCell' = true := by
  cases d with
  | val u => obtain ⟨rfl, _⟩ := h; exact h1
  | sl size ty cs =>
    obtain ⟨vs, T, S', hr, _, _⟩ := h
    obtain ⟨_, A, n, c, rfl, _⟩ := hr.ro
    rfl
theorem RepL.one {w : World} {own : Bool} : ∀ (ds : List D) {vs : List Value} {S : List Nat}, RepL w own ds vs S → (∀ d ∈ ds, d.one) → ∀ v ∈ vs, v.oneCell' = true
  | [], _, _, h, _ => by obtain ⟨rfl, _⟩ := h; simp
  | d :: ds, _, _, h, hd => by
    obtain ⟨v, vs', S1, S2, rfl, rfl, h1, h2⟩ := h
    intro u hu
    rcases List.mem_cons.1 hu with rfl | hu
    · exact Rep.one h1 (hd d (by simp))
    · exact RepL.one ds h2 (fun d' hd' => hd d' (by simp [hd'])) u hu

theorem Rep.nil_ (w : World) (size : Nat) (ty : TypeId) : Rep w true (.sl size ty []) (.slice none 0 0) [] :=
  ⟨[], [], [], ⟨0, World.ownsRow_nil w 0 ty size, rfl⟩, RepL.nil_, rfl⟩

section
variable {α : Type} {enc : α → List D} {size : Nat} {w w' : World} {ty : TypeId} {xs : List α} {v : Value} {S : List Nat}

/-- An owned slice: its row, and what stands in its cells. -/
theorem Rep.own (hl : ∀ x, (enc x).length = size) (hs : 0 < size) (h : Rep w true (.sl size ty (xs.flatMap enc)) v S) :
    ∃ vs S1, w.ownsRow 0 ty size v xs.length vs ∧ RepL w true (xs.flatMap enc) vs S1 ∧ S = blk v ++ S1 := by
  obtain ⟨vs, T, S', ⟨n, h1, rfl⟩, h2, rfl⟩ := h
  have hlen : vs.length = xs.length * size := by rw [RepL.length _ h2, len_flat hl]
  have hn : n = xs.length := Nat.eq_of_mul_eq_mul_right hs (h1.1.symm.trans hlen)
  subst hn
  exact ⟨vs, S', h1, h2, rfl⟩

theorem Rep.of_own {vs : List Value} {S1 : List Nat} {n : Nat} (h : w.ownsRow 0 ty size v n vs) (h2 : RepL w true (xs.flatMap enc) vs S1) : Rep w true (.sl size ty (xs.flatMap enc)) v (blk v ++ S1) :=
  ⟨vs, blk v, S1, ⟨n, h, rfl⟩, h2, rfl⟩

theorem own_form {n : Nat} {vs : List Value} {e : TypeId} (h : w.ownsRow 0 e size v n vs) (hn : 0 < n) : ∃ g c, v = .slice (some ⟨g, 0, none⟩) n c ∧ g < w.heap.size ∧ n ≤ c := by
  rcases h.2 with ⟨rfl, h0⟩ | ⟨g, cap, cur, rfl, _, hg, hc, _⟩
  · omega
  · exact ⟨g, cap, rfl, getElem_lt hg, hc⟩

theorem Rep.head (hl : ∀ x, (enc x).length = size) (hs : 0 < size) {A : Option Addr} {n c : Nat} (h : Rep w true (.sl size ty (xs.flatMap enc)) (.slice A n c) S) (hx : 0 < xs.length) :
    ∃ g, A = some ⟨g, 0, none⟩ ∧ n = xs.length ∧ g ∈ S ∧ g < w.heap.size ∧ n ≤ c := by
  obtain ⟨vs, S1, h1, _, rfl⟩ := Rep.own hl hs h
  obtain ⟨g, c', e, hg, hc⟩ := own_form h1 hx
  injection e with e1 e2 e3
  subst e1 e2 e3
  exact ⟨g, rfl, rfl, by simp [blk], hg, hc⟩

def setSeg : List Value → Nat → List Value → List Value
  | xs, _, [] => xs
  | xs, o, v :: r => setSeg (xs.set o v) (o + 1) r
theorem setSeg_mid : ∀ (new : List Value) (v1 vk v2 : List Value), vk.length = new.length → setSeg (v1 ++ vk ++ v2) v1.length new = v1 ++ new ++ v2
  | [], v1, vk, v2, h => by
    obtain rfl : vk = [] := List.eq_nil_of_length_eq_zero h
    rfl
  | u :: r, v1, vk, v2, h => by
    match vk, h with
    | x :: vk, h =>
      have e : (v1 ++ x :: vk ++ v2).set v1.length u = (v1 ++ [u]) ++ vk ++ v2 := by simp
      have := setSeg_mid r (v1 ++ [u]) vk v2 (by simpa using h)
      rw [setSeg, e]
      rw [List.length_append, List.length_singleton] at this
      rw [this]
      simp
theorem own_setCells {g n cap : Nat} {e : TypeId} : ∀ (cs : List Value) (o : Nat) {w : World} {vs : List Value}, w.ownsRow 0 e size (.slice (some ⟨g, 0, none⟩) n cap) n vs →
    (w.setCells g o cs).ownsRow 0 e size (.slice (some ⟨g, 0, none⟩) n cap) n (setSeg vs o cs) ∧ w.grownBy (w.setCells g o cs) (some g)
  | [], _, w, _, h => ⟨h, ⟨rfl, rfl, rfl, Nat.le_refl _, fun _ _ _ => rfl⟩⟩
  | u :: r, o, w, vs, h => by
    obtain ⟨h1, h2⟩ := h.stored o u
    obtain ⟨h3, h4⟩ := own_setCells r (o + 1) h1
    exact ⟨h3, ⟨h4.os.trans h2.os, h4.tape.trans h2.tape, h4.output.trans h2.output, Nat.le_trans h2.size h4.size, fun k hk hne => (h4.block k (Nat.lt_of_lt_of_le hk h2.size) hne).trans (h2.block k hk hne)⟩⟩
theorem own_there {g n cap : Nat} {e : TypeId} {vs : List Value} (h : w.ownsRow 0 e size (.slice (some ⟨g, 0, none⟩) n cap) n vs) (o m : Nat) (hm : o + m ≤ n * size) : w.there g o m := fun j hj =>
  ⟨by rw [h.cellAt (o + j) (by omega), List.getElem?_eq_getElem (by rw [h.1]; omega)]; rfl, h.frozenAt _⟩

/-- The world behind a store of a whole element. -/
theorem Rep.setElem (hl : ∀ x, (enc x).length = size) (hs : 0 < size) {g n cap k : Nat} {B : Nat} (h : Rep w true (.sl size ty (xs.flatMap enc)) (.slice (some ⟨g, 0, none⟩) n cap) S) (hk : k < xs.length)
    {y : α} {vy : List Value} {Sy : List Nat} (hy : RepL w true (enc y) vy Sy) (hF : Fresh B (S ++ Sy)) :
    ∃ S', Rep (w.setCells g (k * size) vy) true (.sl size ty ((xs.set k y).flatMap enc)) (.slice (some ⟨g, 0, none⟩) n cap) S' ∧ Fresh B S' ∧ Only [g] w (w.setCells g (k * size) vy) ∧ g ∈ S ∧ (∀ s ∈ S', s ∈ S ∨ s ∈ Sy) := by
  obtain ⟨vs, S1, h1, h2, rfl⟩ := Rep.own hl hs h
  obtain ⟨x, hx⟩ : ∃ x, xs[k]? = some x := ⟨xs[k], List.getElem?_eq_getElem hk⟩
  obtain ⟨v1, vk, v2, Sa, Sk, Sb, rfl, hv1, hvk, rfl, hr, hra, hrb⟩ := RepL.get hl xs h2 k x hx
  have hn : n = xs.length := by
    rcases h1.2 with ⟨e, _⟩ | ⟨g', cap', cur, e, _⟩
    · cases e
    · simp only [Value.slice.injEq] at e; exact e.2.1
  subst hn
  obtain ⟨h3, h4⟩ := own_setCells vy (k * size) h1
  have hvy : vy.length = size := by rw [RepL.length _ hy, hl]
  rw [← hv1, setSeg_mid vy v1 vk v2 (by omega)] at h3
  rw [hv1] at h3
  have ho : Only [g] w (w.setCells g (k * size) vy) := Only.of_grown1 h4 (by simp)
  have hF' : Fresh B ((blk (.slice (some ⟨g, 0, none⟩) xs.length cap) ++ (Sa ++ Sy ++ Sb)) ++ Sk) := by
    refine ⟨?_, fun b hb => hF.2 b (by simp only [List.mem_append] at hb ⊢; grind)⟩
    refine (List.Perm.nodup_iff ?_).1 hF.1
    simp only [List.append_assoc]
    refine List.Perm.append_left _ (List.Perm.append_left _ ?_)
    exact (List.perm_append_comm (l₁ := Sk) (l₂ := Sb ++ Sy)).trans (by
      rw [← List.append_assoc]
      exact List.Perm.append_right _ List.perm_append_comm)
  have hg : ∀ s, s ∈ Sa ++ Sy ++ Sb → s ∉ [g] := fun s hs hsg => by
    have := hF'.left.apart g (by simp [blk])
    simp only [List.mem_singleton] at hsg; subst hsg
    exact this hs
  refine ⟨_, Rep.of_own h3 (RepL.put xs hk (hra.only ho fun s hs => hg s (by simp [hs])) (hy.only ho fun s hs => hg s (by simp [hs])) (hrb.only ho fun s hs => hg s (by simp [hs]))), hF'.left, ho, by simp [blk], fun s hs => ?_⟩
  simp only [List.mem_append] at hs ⊢
  grind

/-- The world behind a store of one cell of an element. -/
theorem Rep.setField (hl : ∀ x, (enc x).length = size) (hs : 0 < size) {g n cap k : Nat} {B : Nat} (h : Rep w true (.sl size ty (xs.flatMap enc)) (.slice (some ⟨g, 0, none⟩) n cap) S) {x y : α} (hx : xs[k]? = some x) (j : Nat) (hj : j < size) (u : Value)
    (hy : ∀ vk Sk, RepL w true (enc x) vk Sk → RepL w true (enc y) (vk.set j u) Sk) (hF : Fresh B S) :
    Rep (w.setCell ⟨g, k * size + j, none⟩ u) true (.sl size ty ((xs.set k y).flatMap enc)) (.slice (some ⟨g, 0, none⟩) n cap) S ∧ Only [g] w (w.setCell ⟨g, k * size + j, none⟩ u) ∧ g ∈ S := by
  obtain ⟨vs, S1, h1, h2, rfl⟩ := Rep.own hl hs h
  have hk : k < xs.length := (List.getElem?_eq_some_iff.1 hx).1
  obtain ⟨v1, vk, v2, Sa, Sk, Sb, rfl, hv1, hvk, rfl, hr, hra, hrb⟩ := RepL.get hl xs h2 k x hx
  have hn : n = xs.length := by
    rcases h1.2 with ⟨e, _⟩ | ⟨g', cap', cur, e, _⟩
    · cases e
    · simp only [Value.slice.injEq] at e; exact e.2.1
  subst hn
  obtain ⟨h3, h4⟩ := h1.stored (k * size + j) u
  have hset : (v1 ++ vk ++ v2).set (k * size + j) u = v1 ++ vk.set j u ++ v2 := by
    rw [List.append_assoc, List.set_append_right _ _ (by omega), hv1, Nat.add_sub_cancel_left, List.set_append_left _ _ (by omega), List.append_assoc]
  rw [hset] at h3
  have ho : Only [g] w (w.setCell ⟨g, k * size + j, none⟩ u) := Only.of_grown1 h4 (by simp)
  have hg : ∀ s, s ∈ Sa ++ Sk ++ Sb → s ∉ [g] := fun s hs hsg => by
    have := hF.apart g (by simp [blk])
    simp only [List.mem_singleton] at hsg; subst hsg
    exact this hs
  exact ⟨Rep.of_own h3 (RepL.put xs hk (hra.only ho fun s hs => hg s (by simp [hs])) ((hy vk Sk hr).only ho fun s hs => hg s (by simp [hs])) (hrb.only ho fun s hs => hg s (by simp [hs]))), ho, by simp [blk]⟩
end

/-- An owned slice of the call's own, that is being filled; what was there stands. -/
def Fill {α : Type} (enc : α → List D) (size : Nat) (ty : TypeId) (w : World) (xs : List α) (v : Value) (wr : World) : Prop := ∃ S, Rep wr true (.sl size ty (xs.flatMap enc)) v S ∧ Fresh w.heap.size S ∧ Below w.heap.size w wr

def RetRep (w : World) (d : D) (e : Ending) (w' : World) : Prop := ∃ v S, e = .returned v ∧ Rep w' true d v S ∧ Fresh w.heap.size S ∧ Below w.heap.size w w'
def RetAgg (w : World) (ds : List D) (e : Ending) (w' : World) : Prop := ∃ v S, e = .returned v ∧ AggRep w' true ds v S ∧ Fresh w.heap.size S ∧ Below w.heap.size w w'

/-- What the table says of a slice type and its elements. -/
structure SlT (P : Program) (t e : TypeId) (size bytes : Nat) (z : List Value) : Prop where
  und : P.underlying t = some (.slice e)
  info : ∃ i zv, P.info? e = some i ∧ i.zero = some zv ∧ zv.cells = z.toArray ∧ i.size = size ∧ i.bytes = bytes
  zlen : z.length = size
  pos : 0 < size

section
variable {P : Program} {α : Type} {enc : α → List D} {size bytes : Nat} {w : World} {t e : TypeId} {z : List Value} {xs ys : List α} {v : Value} {S Sy : List Nat}

/-- Where the row lies behind an append. -/
theorem append_blk {ty : TypeId} {i : TypeInfo} {zv : Value} (ht : P.underlying t = some (.slice e)) (hi : P.info? e = some i) (hz : i.zero = some zv) {n : Nat} {vs : List Value} (hown : w.ownsRow 0 e i.size v n vs)
    {ad : Addr} {m c : Nat} {news : List Value} (hl : news.length = m * i.size) (hnews : ∀ j u, news[j]? = some u → w.cell? (ad.add j) = some u) (h1 : ∀ u ∈ news, u.oneCell' = true)
    (h63 : n + m ≤ maxLen) (hbytes : (n + m) * i.bytes ≤ 140737488355328) {v' : Value} {w' : World}
    (hr : (Builtin.append_ #[t, t] ty #[v, .slice (some ad) m c]).run P w = .ok v' w') : ∀ b ∈ blk v', b ∈ blk v ∨ b = w.heap.size := by
  unfold maxLen at h63
  intro b hb
  rcases hown.2 with ⟨rfl, rfl⟩ | ⟨g, cap, cur, rfl, _, hg, hnc, hcm, hcs, htake⟩
  · by_cases hm : m = 0
    · subst hm
      simp [Builtin.append_, run_underlying ht, sizeOf, typeInfo, hi, Builtin.lenOf, Builtin.firstCells, loadCells, loadCellsFrom] at hr
      rw [← hr.1] at hb
      exact .inl hb
    · rw [run_append_nil (P := P) w t ty e i zv ht hi hz ad m c news hl hnews (by omega) (by omega) (by simp only [Nat.zero_add] at hbytes; omega)] at hr
      injection hr with e1 _
      subst e1
      simp only [blk, List.mem_singleton] at hb
      exact .inr hb
  · by_cases hroom : n + m ≤ cap
    · rw [run_append_room (P := P) w t ty e i ht hi g n cap cur hg ad m c news hl hnews h1 hroom (by rw [hl, hcs, ← Nat.add_mul]; exact Nat.mul_le_mul_right _ hroom)] at hr
      injection hr with e1 _
      subst e1
      exact .inl hb
    · rw [run_append_grow (P := P) w t ty e i zv ht hi hz ⟨g, 0, none⟩ n cap vs hown.1 (hown.cells (g := g) rfl) ad m c news hl hnews (by omega) (by omega) (growslice_fits (by omega) hbytes)] at hr
      injection hr with e1 _
      subst e1
      simp only [blk, List.mem_singleton] at hb
      exact .inr hb

/-- append: s is an owned slice of xs, the other operand's cells hold ys. -/
theorem wpList_append_rep {ops : Array Oper} {rest : List Oper} {o : Oper} {a : Act} {Q : Exit → Act → World → Prop} (hgd : o.guard = none) (s x : Operand)
    (ho : o.op = .call { callee := .builtin .append, args := #[s, x], argTypes := #[t, t] }) (T : SlT P t e size bytes z) (hl : ∀ x, (enc x).length = size)
    (hs : a.eval s = v) (hrep : Rep w true (.sl size e (xs.flatMap enc)) v S)
    (A : Option Addr) (m c : Nat) (news : List Value) (hx : a.eval x = .slice A m c) (hy : RepL w true (ys.flatMap enc) news Sy) (hm : m = ys.length)
    (hA : A = none → m = 0 ∧ c = 0) (hnews : ∀ ad, A = some ad → ∀ j u, news[j]? = some u → w.cell? (ad.add j) = some u) (h1 : ∀ y, ∀ d ∈ enc y, d.one)
    (B : Nat) (hB : B ≤ w.heap.size) (hF : Fresh B (S ++ Sy)) (h63 : xs.length + ys.length ≤ maxLen) (hbytes : (xs.length + ys.length) * bytes ≤ 140737488355328)
    (h : ∀ v' w' S', Rep w' true (.sl size e ((xs ++ ys).flatMap enc)) v' S' → Fresh B S' → Only S w w' → (∀ s ∈ S', s ∈ S ∨ s ∈ Sy ∨ w.heap.size ≤ s) → wpList P ops Q rest (a.put o.dst v') w') :
    wpList P ops Q (o :: rest) a w := by
  obtain ⟨i, zv, hi, hz, hzc, hsz, hby⟩ := T.info
  obtain ⟨vs, S1, hown, hrl, rfl⟩ := Rep.own hl T.pos hrep
  have hnl : news.length = ys.length * size := by rw [RepL.length _ hy, len_flat hl]
  have hone : ∀ u ∈ news, u.oneCell' = true := RepL.one _ hy (fun d hd => by
    obtain ⟨y, _, hd⟩ := List.mem_flatMap.1 hd
    exact h1 y d hd)
  subst hm
  refine wpList_plain hgd fun K hK => ?_
  cases A with
  | none =>
    obtain ⟨h0, rfl⟩ := hA rfl
    have hy0 : ys = [] := List.eq_nil_of_length_eq_zero h0
    subst hy0
    have hr := run_append_owned_none (P := P) w 0 t o.type e i size T.und hi v xs.length vs hown
    unfold Oper.wp execOp
    simp only [ho, resolve, invoke, builtin, Sem.run_bind, Sem.run_pure, Result.andThen_ok, List.map_toArray, List.map_cons, List.map_nil, hs, hx, List.length_nil, hr]
    refine hK _ _ (h v w (blk v ++ S1) (by simpa using Rep.of_own hown hrl) hF.left (Only.refl _ _) fun s hs => .inl hs)
  | some ad =>
    obtain ⟨v', w', hr, h2, h3, _⟩ := run_append_own (P := P) w 0 t o.type e i zv size bytes T.und hi hz hsz hby (by rw [hzc]; simpa using T.zlen) T.pos v xs.length vs hown ad ys.length c news hnl (hnews ad rfl) hone h63 hbytes (Nat.zero_le _)
    unfold Oper.wp execOp
    simp only [ho, resolve, invoke, builtin, Sem.run_bind, Sem.run_pure, Result.andThen_ok, List.map_toArray, List.map_cons, List.map_nil, hs, hx, hr]
    have honly : Only (blk v ++ S1) w w' := Only.of_grown h3 (fun b hb => by simp [hb])
    have honly1 : Only (blk v) w w' := Only.of_grown h3 (fun b hb => hb)
    have hF1 : ∀ s ∈ S1 ++ Sy, s ∉ blk v := fun s hs hb => by
      have := hF.1
      rw [List.append_assoc] at this
      exact (List.nodup_append.1 this).2.2 s hb s hs rfl
    have hnew : ∀ b ∈ blk v', b ∈ blk v ∨ b = w.heap.size := append_blk T.und hi hz (by rw [hsz]; exact hown) (by rw [hsz]; exact hnl) (hnews ad rfl) hone h63 (by rw [hby]; exact hbytes) hr
    have hrep' : Rep w' true (.sl size e ((xs ++ ys).flatMap enc)) v' (blk v' ++ (S1 ++ Sy)) := by
      refine Rep.of_own h2 ?_
      rw [List.flatMap_append]
      exact RepL.append_ _ (hrl.only honly1 fun s hs => hF1 s (by simp [hs])) (hy.only honly1 fun s hs => hF1 s (by simp [hs]))
    have hlt : ∀ s ∈ S1 ++ Sy, s < w.heap.size := fun s hs => by
      rcases List.mem_append.1 hs with hs | hs
      · exact RepL.lt _ hrl s hs
      · exact RepL.lt _ hy s hs
    refine hK _ _ (h v' w' _ hrep' ?_ honly fun s hs => ?_)
    · rw [List.append_assoc] at hF
      refine ⟨List.nodup_append.2 ⟨?_, (List.nodup_append.1 hF.1).2.1, fun a ha b hb e => ?_⟩, fun b hb => ?_⟩
      · rcases h2.2 with ⟨rfl, _⟩ | ⟨g, cap, cur, rfl, _⟩ <;> simp [blk]
      · subst e
        rcases hnew a ha with h4 | h4
        · exact hF1 a hb h4
        · have := hlt a hb; omega
      · rcases List.mem_append.1 hb with hb | hb
        · rcases hnew b hb with h4 | h4
          · exact hF.2 b (by simp [h4])
          · omega
        · exact hF.2 b (by rw [List.mem_append]; exact .inr hb)
    · rcases List.mem_append.1 hs with hs | hs
      · rcases hnew s hs with h4 | h4
        · exact .inl (by simp [h4])
        · right; right; omega
      · rcases List.mem_append.1 hs with hs | hs
        · exact .inl (by simp [hs])
        · exact .inr (.inl hs)

theorem replicate_flat {z : List Value} {size : Nat} (hz : z.length = size) (hpos : 0 < size) : ∀ (n j : Nat), j < n * size → ((List.replicate n z).flatten)[j]? = z[j % size]?
  | 0, j, h => by omega
  | n + 1, j, h => by
    rw [List.replicate_succ, List.flatten_cons]
    by_cases hjs : j < size
    · rw [Nat.mod_eq_of_lt hjs, List.getElem?_append_left (by omega)]
    · rw [List.getElem?_append_right (by omega), hz, replicate_flat hz hpos n (j - size) (by rw [Nat.succ_mul] at h; omega)]
      rw [Nat.mod_eq_sub_mod (a := j) (by omega)]

/-- make([]T, n): n zeros. -/
theorem wpList_make_rep {ops : Array Oper} {rest : List Oper} {o : Oper} {a : Act} {Q : Exit → Act → World → Prop} (hgd : o.guard = none) (l c : Operand) (hop : o.op = Op.makeSlice t l c) (T : SlT P t e size bytes z)
    (z0 : α) (hz0 : ∀ w, RepL w true (enc z0) z []) (kl kc : IntKind) (L C : Int) (n : Nat) (hl : a.eval l = .int kl L) (hc : a.eval c = .int kc C) (hL : L = (n : Int)) (hC : C = (n : Int)) (b2 : bytes * n ≤ 281474976710656) (b3 : n ≤ maxLen)
    (hK : ∀ w' A, Rep w' true (.sl size e ((List.replicate n z0).flatMap enc)) (.slice A n n) [w.heap.size] → Below w.heap.size w w' → wpList P ops Q rest (a.put o.dst (.slice A n n)) w') :
    wpList P ops Q (o :: rest) a w := by
  obtain ⟨i, zv, hi, hz, hzc, hsz, hby⟩ := T.info
  refine wpList_make_full w hgd l c t hop 0 e i zv size T.und hi hz hsz kl kc L C n hl hc hL hC (by rw [hby]; exact b2) b3 (Nat.zero_le _) fun w' h1 h2 => ?_
  refine hK w' _ ?_ (bl_grown0 h2)
  have hall : ∀ n, ∃ vs, RepL w' true ((List.replicate n z0).flatMap enc) vs [] ∧ vs = (List.replicate n z).flatten := by
    intro n
    induction n with
    | zero => exact ⟨[], RepL.nil_, rfl⟩
    | succ n ih =>
      obtain ⟨vs, h3, rfl⟩ := ih
      refine ⟨z ++ (List.replicate n z).flatten, ?_, by simp [List.replicate_succ]⟩
      have := RepL.append_ _ (hz0 w') h3
      simpa [List.replicate_succ] using this
  obtain ⟨vs, h3, h4⟩ := hall n
  have h5 : (madeCells zv.cells (n * size)).toList = (List.replicate n z).flatten := by
    rw [hzc]
    have hzl := T.zlen
    apply List.ext_getElem?
    intro j
    by_cases hj : j < n * size
    · rw [replicate_flat hzl T.pos n j hj]
      simp [madeCells, hj, hzl]
      rw [List.getElem?_eq_getElem (by rw [hzl]; exact Nat.mod_lt _ T.pos)]
      simp
    · rw [List.getElem?_eq_none (by simp [madeCells]; omega), List.getElem?_eq_none (by simp [hzl]; omega)]
  rw [h5, ← h4] at h1
  have := Rep.of_own h1 h3
  simpa [blk] using this

/-- A guard: this store, and no other operation. -/
theorem at_store {ops : Array Oper} {rest : List Oper} {a : Act} {Q : Exit → Act → World → Prop} (ty : TypeId) (x y : Tmp) {d : Option Tmp} {t : TypeId} {pos : String} {aft : Array Edge} {g : Option (Nat × Bool)}
    (h : wpList P ops Q (⟨d, .store ty (.tmp x) (.tmp y), t, pos, aft, g⟩ :: rest) a w) : wpList P ops Q (⟨d, .store ty (.tmp x) (.tmp y), t, pos, aft, g⟩ :: rest) a w := h
/-- A guard: this append. -/
theorem at_append {ops : Array Oper} {rest : List Oper} {a : Act} {Q : Exit → Act → World → Prop} (x y : Operand) {d : Option Tmp} {ts : Array TypeId} {t : TypeId} {pos : String} {aft : Array Edge} {g : Option (Nat × Bool)}
    (h : wpList P ops Q (⟨d, .call { callee := .builtin .append, args := #[x, y], argTypes := ts }, t, pos, aft, g⟩ :: rest) a w) : wpList P ops Q (⟨d, .call { callee := .builtin .append, args := #[x, y], argTypes := ts }, t, pos, aft, g⟩ :: rest) a w := h

/-- A whole element stored. -/
theorem wpList_store_rep {ops : Array Oper} {rest : List Oper} {op : Oper} {a : Act} {Q : Exit → Act → World → Prop} (hgd : op.guard = none) (ty : TypeId) (x y : Operand) (ho : op.op = .store ty x y) (hl : ∀ x, (enc x).length = size) (hs : 0 < size)
    (hty : (P.info? ty).map (·.size) = some size) {g n cap k o : Nat} (h1 : ∀ y, ∀ d ∈ enc y, d.one) (hrep : Rep w true (.sl size e (xs.flatMap enc)) (.slice (some ⟨g, 0, none⟩) n cap) S) (hk : k < xs.length)
    (hx : a.eval x = .pointer (some ⟨g, o, none⟩)) (ho2 : o = k * size) (cells : Array Value) (hyv : a.eval y = .agg cells) (u : α) (hu : RepL w true (enc u) cells.toList Sy) (B : Nat) (hF : Fresh B (S ++ Sy))
    (h : ∀ S', Rep (w.setCells g (k * size) cells.toList) true (.sl size e ((xs.set k u).flatMap enc)) (.slice (some ⟨g, 0, none⟩) n cap) S' → Fresh B S' → Only [g] w (w.setCells g (k * size) cells.toList) → g ∈ S → (∀ s ∈ S', s ∈ S ∨ s ∈ Sy) →
      wpList P ops Q rest (a.put op.dst undef) (w.setCells g (k * size) cells.toList)) : wpList P ops Q (op :: rest) a w := by
  obtain ⟨S', h2, h3, h4, h5, h6⟩ := Rep.setElem hl hs hrep hk hu hF
  obtain ⟨vs, S1, hown, hrl, rfl⟩ := Rep.own hl hs hrep
  have hn : n = xs.length := by
    rcases hown.2 with ⟨e, _⟩ | ⟨g', cap', cur, e, _⟩
    · cases e
    · simp only [Value.slice.injEq] at e; exact e.2.1
  subst hn
  subst ho2
  have hcl : cells.size = size := by have := RepL.length _ hu; rw [hl] at this; simpa using this
  refine wpList_store_mid hgd ty x y ho g (k * size) cells hx hyv (own_there hown _ _ ?_) (by rw [hty, hcl]) ?_ (h S' h2 h3 h4 h5 h6)
  · rw [hcl, ← Nat.succ_mul]
    exact Nat.mul_le_mul_right _ hk
  · exact Array.all_eq_true_iff_forall_mem.2 (fun v hv => RepL.one _ hu (h1 u) v (by simpa using hv))
end
end Go.Proofs.YtnhdcbhcocgjhaaGreat
namespace Go.Proofs.YtnhdcbhcocgjhaaGreat
open Go.RowKit Go.Sort

inductive X where
  | t (n : Nat)
  | c (v : Value)
  | f (n : Nat)
inductive Cv where
  | num (k : IntKind)
  | bytes
  | text
inductive I where
  | mov (x : X)
  | pick (c a b : X)
  | box (ty n : Nat) (x : X)
  | alloc (ty : Nat) (zs : List Value)
  | bld (zs : List Value) (ps : List (Nat × Nat × X))
  | bsl (e size len : Nat) (ks : List (Option (Nat × Nat))) (ps : List (Nat × Nat × X))
  | ld (agg : Bool) (n : Nat) (x : X)
  | st (n : Nat) (ks : List (Option (Nat × Nat))) (a x : X)
  | fa (off : Nat) (x : X)
  | ia (size : Nat) (x i : X)
  | sidx (x i : X)
  | bin (op : BinOp) (ty : Nat) (x y : X)
  | beq (neg : Bool) (x y : X)
  | un (op : UnOp) (x : X)
  | cv (c : Cv) (e : Nat) (x : X)
  | len (str : Bool) (x : X)
  | app (e size bytes : Nat) (x y : X)
  | apps (e : Nat) (x y : X)
  | clr (size : Nat) (zs : List D) (x : X)
  | mm (mx : Bool) (x y : X)
  | mks (e size bytes : Nat) (zs : List D) (l c : X)
  | sl (size : Nat) (x : X) (lo hi : Option X)
  | ext (x : X) (i : Nat)
  | mkf (f : Nat) (caps : List X)
  | call (f : Nat) (args : List X)
  | callv (x : X) (args : List X)
structure Ins where
  d : Option Nat
  g : Option (Nat × Bool)
  i : I
/-- A region that draws its order: what is done first, where that is all the same; else all that may come first. -/
inductive T where
  | done
  | stop
  | pure (pid : Nat) (i : Ins) (t : T)
  | alt (i : Ins) (chk : List Nat) (t rest : T)
/-- Code, as far as the engine goes. -/
inductive C where
  | skip
  | reg (is : List Ins)
  | dreg (t : T)
  | seq (a b : C)
  | cond (x : X) (a b : C)
  | blk (id : Nat) (a : C)
  | loop (a : C)
  | exit (id : Nat)
  | ret
  | gh (a : C)
/-- Without the ghosts (places where the state may be said anew). -/
def C.er : C → C
  | .seq a b => .seq a.er b.er
  | .cond x a b => .cond x a.er b.er
  | .blk id a => .blk id a.er
  | .loop a => .loop a.er
  | .gh a => a.er
  | c => c
/-- A ghost at this place: 0, 1: the first or second part (of cond too), else the only part. -/
def C.ghAt : List Nat → C → C
  | [], c => .gh c
  | 0 :: p, .seq a b => .seq (a.ghAt p) b
  | _ :: p, .seq a b => .seq a (b.ghAt p)
  | 0 :: p, .cond x a b => .cond x (a.ghAt p) b
  | _ :: p, .cond x a b => .cond x a (b.ghAt p)
  | _ :: p, .blk id a => .blk id (a.ghAt p)
  | _ :: p, .loop a => .loop (a.ghAt p)
  | _, c => c

/-- What one cell holds. -/
inductive A0 where
  | v (x : Value)
  | ro (d : D)
  | rp (ds : List D)
  | h (g c : Nat) (p : List Nat) (x : Value)
  | bp (g c b : Nat)
  | ep (g c : Nat) (p : List Nat) (i : Nat) (x : Value)
  | un
  | hs (g c : Nat) (p : List Nat) (x : Value) (size lo n : Nat)
inductive AV where
  | c (a : A0)
  | agg (l : List A0)
  | fn (f : Nat) (caps : List A0)
  | tup (l : List (Bool × List A0))
  | unk
abbrev Heads := List Nat → Value
inductive Cell where
  | a (x : A0)
  | own (d : D) (η : Heads)
inductive Ob where
  | none
  | loose (d : D) (η : Heads)
  | box (b ty : Nat) (cs : List Cell)
structure St where
  t : Nat → AV
  o : Nat → Ob
structure Stamp where
  blk : Nat
  η : Nat → Heads
/-- What a call returns. -/
inductive RT where
  | c (d : D)
  | agg (ds : List D)
  | tup (l : List (Bool × List D))
/-- What a call is given. -/
inductive View where
  | c (d : D)
  | agg (ds : List D)
  | ptr (ds : List D)
  | fn (f : Nat) (caps : List (List D))

def D.get : List Nat → D → Option D
  | [], d => some d
  | i :: p, .sl _ _ cs => match cs[i]? with
    | some d => D.get p d
    | none => none
  | _ :: _, .val _ => none
def D.cells : D → List D
  | .sl _ _ cs => cs
  | .val _ => []
def D.size : D → Nat
  | .sl s _ _ => s
  | .val _ => 1
def D.isSl : D → Bool
  | .sl _ _ _ => true
  | .val _ => false
def D.len (d : D) : Nat := d.cells.length / d.size
/-- A part. -/
def D.sub (d : D) (l h : Nat) : D := match d with
  | .sl size ty cs => .sl size ty ((cs.drop (l * size)).take ((h - l) * size))
  | .val u => .val u
def D.elem (d : D) (k : Nat) : List D := (d.cells.drop (k * d.size)).take d.size
def D.toRo : D → A0
  | .val u => .v u
  | .sl s t cs => .ro (.sl s t cs)
/-- A cell of own memory, as a handle. -/
def D.toOwn (d : D) (g c : Nat) (p : List Nat) (η : Heads) : A0 := match d with
  | .val u => .v u
  | .sl _ _ _ => .h g c p (η p)
def D.obj (d : D) (g : Nat) (η : Heads) : List (Nat × Ob) := match d with
  | .val _ => []
  | .sl s t cs => [(g, .loose (.sl s t cs) η)]
def ownL (g : Nat) (η : Nat → Heads) : Nat → List D → List A0
  | _, [] => []
  | j, d :: ds => d.toOwn (g + j) 0 [] (η j) :: ownL g η (j + 1) ds
def objL (g : Nat) (η : Nat → Heads) : Nat → List D → List (Nat × Ob)
  | _, [] => []
  | j, d :: ds => d.obj (g + j) (η j) ++ objL g η (j + 1) ds
def ownT (g : Nat) (η : Nat → Heads) : Nat → List (Bool × List D) → List (Bool × List A0)
  | _, [] => []
  | j, (b, ds) :: l => (b, ownL g η j ds) :: ownT g η (j + ds.length) l
def RT.flat : RT → List D
  | .c d => [d]
  | .agg ds => ds
  | .tup l => l.flatMap (·.2)
def RT.av (g : Nat) (η : Nat → Heads) : RT → AV
  | .c d => .c (d.toOwn g 0 [] (η 0))
  | .agg ds => .agg (ownL g η 0 ds)
  | .tup l => .tup (ownT g η 0 l)

def Ob.own : Ob → Nat → Option (D × Heads)
  | .loose d η, 0 => some (d, η)
  | .box _ _ cs, c => match cs[c]? with
    | some (.own d η) => some (d, η)
    | _ => Option.none
  | _, _ => Option.none
/-- What is left when the own slice at c is taken away. -/
def rmC (cs : List Cell) (c : Nat) : Option Cell → List Cell
  | some (.own _ η) => cs.set c (.a (.v (η [])))
  | _ => cs
def Ob.rm : Ob → Nat → Ob
  | .box b ty cs, c => .box b ty (rmC cs c cs[c]?)
  | .loose d η, c => if c = 0 then .none else .loose d η
  | .none, _ => .none

namespace St
def ev (s : St) : X → AV
  | .t n => s.t n
  | .c v => match v with
    | .agg cs => .agg (cs.toList.map .v)
    | v => .c (.v v)
  | .f n => .fn n []
def put (s : St) (d : Option Nat) (v : AV) : St := match d with
  | some d => ⟨fun n => if n = d then v else s.t n, s.o⟩
  | none => s
def setO (s : St) (g : Nat) (ob : Ob) : St := ⟨s.t, fun k => if k = g then ob else s.o k⟩
def addO (s : St) : List (Nat × Ob) → St
  | [] => s
  | (g, ob) :: l => (s.setO g ob).addO l
def rm (s : St) (g c : Nat) : St := s.setO g ((s.o g).rm c)
end St

/-- This cell holds that datum. -/
def Is (s : St) : A0 → D → Prop
  | .v x, d => d = .val x ∨ (x = .slice none 0 0 ∧ ∃ size ty, d = .sl size ty [])
  | .ro d', d => d = d'
  | .h g c p x, d => ∃ d0 η, (s.o g).own c = some (d0, η) ∧ η p = x ∧ D.get p d0 = some d ∧ d.isSl = true
  | .hs g c p x size lo n, d => ∃ d0 η dd, (s.o g).own c = some (d0, η) ∧ η p = x ∧ D.get p d0 = some dd ∧ dd.isSl = true ∧ dd.size = size ∧ 0 < size ∧ lo + n ≤ dd.len ∧ d = dd.sub lo (lo + n)
  | _, _ => False
/-- The same, for a cell that leads nowhere. -/
def IsP : A0 → D → Prop
  | .v x, d => d = .val x ∨ (x = .slice none 0 0 ∧ ∃ size ty, d = .sl size ty [])
  | .ro d', d => d = d'
  | _, _ => False
def IsL (s : St) : List A0 → List D → Prop
  | [], [] => True
  | a :: l, d :: ds => Is s a d ∧ IsL s l ds
  | _, _ => False
/-- A pointer behind which these data stand. -/
def Ptr (s : St) : A0 → List D → Prop
  | .rp ds', ds => ds' = ds
  | .bp g c b, ds => ∃ ty cs, s.o g = .box b ty cs ∧ ∃ l, (cs.drop c).take ds.length = l ∧ go s g b l c ds
  | _, _ => False
where go (s : St) (g b : Nat) : List Cell → Nat → List D → Prop
  | [], _, [] => True
  | .a x :: l, c, d :: ds => IsP x d ∧ go s g b l (c + 1) ds
  | .own d' _ :: l, c, d :: ds => d' = d ∧ go s g b l (c + 1) ds
  | _, _, _ => False
def PtrL (s : St) : List A0 → List (List D) → Prop
  | [], [] => True
  | a :: l, d :: ds => Ptr s a d ∧ PtrL s l ds
  | _, _ => False
def ArgIs (s : St) : AV → View → Prop
  | .c a, .c d => Is s a d
  | .agg l, .agg ds => IsL s l ds
  | .c a, .ptr ds => Ptr s a ds
  | .fn f caps, .fn f' caps' => f = f' ∧ PtrL s caps caps'
  | _, _ => False
def ArgsAre (s : St) : List AV → List View → Prop
  | [], [] => True
  | a :: l, v :: vs => ArgIs s a v ∧ ArgsAre s l vs
  | _, _ => False

/-- What may be stored as it is. -/
def A0.one : A0 → Bool
  | .v x => x.oneCell'
  | .h _ _ _ _ => false
  | .hs _ _ _ _ _ _ _ => false
  | _ => true
/-- Own slices that are moved away. -/
def TakeK (s : St) : List A0 → (List Cell → St → Prop) → Prop
  | [], K => K [] s
  | .h g c p x :: l, K => p = [] ∧ ∃ d η, (s.o g).own c = some (d, η) ∧ η [] = x ∧ TakeK (s.rm g c) l (fun cs s' => K (.own d η :: cs) s')
  | a :: l, K => a.one = true ∧ TakeK s l (fun cs s' => K (.a a :: cs) s')
/-- One cell. -/
def A0.c1 : A0 → Bool
  | .v x => x.oneCell'
  | _ => true
def AV.cells : AV → Option (List A0)
  | .c a => if a.c1 then some [a] else none
  | .agg l => some l
  | _ => none
def setAt {α : Type} : List α → Nat → List α → List α
  | xs, _, [] => xs
  | xs, o, v :: r => setAt (xs.set o v) (o + 1) r

def intBin (op : BinOp) (k : IntKind) (a b : Int) : Value := match op with
  | .add => .int k (k.wrap (a + b))
  | .sub => .int k (k.wrap (a - b))
  | .mul => .int k (k.wrap (a * b))
  | .quo => .int k (k.wrap (a.tdiv b))
  | .rem => .int k (a.tmod b)
  | .and => .int k (k.wrap ((BitVec.ofInt k.bits a &&& BitVec.ofInt k.bits b).toNat))
  | .or => .int k (k.wrap ((BitVec.ofInt k.bits a ||| BitVec.ofInt k.bits b).toNat))
  | .xor => .int k (k.wrap ((BitVec.ofInt k.bits a ^^^ BitVec.ofInt k.bits b).toNat))
  | .andNot => .int k (k.wrap ((BitVec.ofInt k.bits a &&& ~~~ BitVec.ofInt k.bits b).toNat))
  | .shl => .int k (k.wrap (a * 2 ^ (min b.toNat k.bits)))
  | .shr => .int k (a.fdiv (2 ^ (min b.toNat k.bits)))
  | .eql => .bool (a == b)
  | .neq => .bool (a != b)
  | .lss => .bool (decide (a < b))
  | .leq => .bool (decide (a ≤ b))
  | .gtr => .bool (decide (a > b))
  | .geq => .bool (decide (a ≥ b))
/-- The conditions: kinds alike (but for shifts), no division by 0, no shift below 0. -/
def intOk (op : BinOp) (k k' : IntKind) (b : Int) : Prop := match op with
  | .shl | .shr => 0 ≤ b
  | .quo | .rem => k = k' ∧ b ≠ 0
  | _ => k = k'
def BinR (op : BinOp) : Value → Value → Value → Prop
  | .int k a, .int k' b, v => intOk op k k' b ∧ v = intBin op k a b
  | .string a, .string b, v => match op with
    | .add => a.size + b.size ≤ maxLen ∧ v = .string (a ++ b)
    | .eql => v = .bool (a.toList == b.toList)
    | .neq => v = .bool (!(a.toList == b.toList))
    | _ => False
  | _, _, _ => False
/-- Structs of one type, compared: as the model's run says. -/
def EqR (P : Program) (op : BinOp) (ty : Nat) (xs ys : List Value) (b : Bool) : Prop :=
  ∀ w, (binOp op ty (.agg xs.toArray) (.agg ys.toArray)).run P w = .ok (.bool b) w ∧ ∀ x y, (eqGuard op ty x y (.agg xs.toArray) (.agg ys.toArray)).run P w = .ok () w
def valsOf : List A0 → Option (List Value)
  | [] => some []
  | .v x :: l => match valsOf l with
    | some r => some (x :: r)
    | none => none
  | _ :: _ => none

def byteVal (b : UInt8) : D := .val (.int .u8 b.toNat)
end Go.Proofs.YtnhdcbhcocgjhaaGreat
namespace Go.Proofs.YtnhdcbhcocgjhaaGreat
open Go.RowKit Go.Sort

def ViewRel (w : World) : View → Value → Prop
  | .c d, x => ∃ S, Rep w false d x S
  | .agg ds, x => ∃ S, AggRep w false ds x S
  | .ptr ds, x => CellsAt w ds x
  | .fn f caps, x => ∃ xs : List Value, x = .func (.func f) #[] xs.toArray ∧ All2 caps xs
where
  CellsAt (w : World) (ds : List D) (x : Value) : Prop := ∃ b o us S, x = .pointer (some ⟨b, o, none⟩) ∧ RepL w false ds us S ∧ ∀ j u, us[j]? = some u → w.cell? ⟨b, o + j, none⟩ = some u
  All2 : List (List D) → List Value → Prop
    | [], xs => xs = []
    | ds :: l, xs => ∃ x xs', xs = x :: xs' ∧ CellsAt w ds x ∧ All2 l xs'
def ViewsRel (w : World) : List View → List Value → Prop
  | [], xs => xs = []
  | v :: l, xs => ∃ x xs', xs = x :: xs' ∧ ViewRel w v x ∧ ViewsRel w l xs'
def TupRel (w : World) : List (Bool × List D) → List Value → List Nat → Prop
  | [], xs, S => xs = [] ∧ S = []
  | (b, ds) :: l, xs, S => ∃ x xs' us S1 S2, xs = x :: xs' ∧ S = S1 ++ S2 ∧ RepL w true ds us S1 ∧ (if b then x = .agg us.toArray else us = [x]) ∧ TupRel w l xs' S2
def RetRel (w : World) : RT → Value → List Nat → Prop
  | .c d, x, S => Rep w true d x S
  | .agg ds, x, S => AggRep w true ds x S
  | .tup l, x, S => ∃ xs, x = .tuple xs.toArray ∧ TupRel w l xs S
/-- f, given these, returns that, in memory of its own, and turns nothing that was there. -/
def Named (P : Program) (f : FuncId) : Prop := ∃ fn, P.funcs[f]? = some fn ∧ fn.body.isSome = true ∧ (fn.name != "runtime.NumGoroutine") = true
def Pure (P : Program) (f : FuncId) (vs : List View) (rt : RT) : Prop :=
  Named P f ∧ ∀ w xs, ViewsRel w vs xs → Calls P f xs.toArray w fun e w' => ∃ v S, e = .returned v ∧ RetRel w' rt v S ∧ Fresh w.heap.size S ∧ Below w.heap.size w w'

def loadC (g : Nat) : Nat → List Cell → List A0
  | _, [] => []
  | c, .a x :: l => x :: loadC g (c + 1) l
  | c, .own _ η :: l => .h g c [] (η []) :: loadC g (c + 1) l
def loadE (g c : Nat) (p : List Nat) (η : Heads) : Nat → List D → List A0
  | _, [] => []
  | i, d :: l => d.toOwn g c (p ++ [i]) η :: loadE g c p η (i + 1) l
/-- The cells that stand behind a pointer. -/
def LoadIs (s : St) (n : Nat) (l : List A0) : AV → Prop
  | .c (.rp ds) => n ≤ ds.length ∧ l = (ds.take n).map D.toRo
  | .c (.bp g c b) => ∃ ty cs, s.o g = .box b ty cs ∧ c + n ≤ cs.length ∧ l = loadC g c ((cs.drop c).take n)
  | .c (.ep g c p i x) => ∃ d0 η d, (s.o g).own c = some (d0, η) ∧ η p = x ∧ D.get p d0 = some d ∧ d.isSl = true ∧ i + n ≤ d.cells.length ∧ l = loadE g c p η i ((d.cells.drop i).take n)
  | _ => False
def fillA (s : St) : List A0 → List (Nat × Nat × X) → Option (List A0)
  | cs, [] => some cs
  | cs, (off, size, x) :: ps => match (s.ev x).cells with
    | some l => if l.length = size ∧ off + size ≤ cs.length then fillA s (setAt cs off l) ps else none
    | none => none
/-- Operands one behind the other. -/
def catA (s : St) : List (Nat × Nat × X) → Option (List A0)
  | [] => some []
  | (_, size, x) :: ps => match (s.ev x).cells, catA s ps with
    | some l, some r => if l.length = size then some (l ++ r) else none
    | _, _ => none
def A0.plain : A0 → Bool
  | .h _ _ _ _ => false
  | .hs _ _ _ _ _ _ _ => false
  | _ => true
def LenIs (s : St) (str : Bool) (a : AV) (n : Nat) : Prop := match str, a with
  | true, .c (.v (.string b)) => n = b.size
  | false, .c (.v (.slice none 0 0)) => n = 0
  | false, .c (.ro d) => d.isSl = true ∧ 0 < d.size ∧ n = d.len
  | false, .c (.h g c p x) => ∃ d, Is s (.h g c p x) d ∧ 0 < d.size ∧ n = d.len
  | false, .c (.hs g c p x size lo m) => (∃ d, Is s (.hs g c p x size lo m) d) ∧ n = m
  | _, _ => False
def bound (s : St) (x : Option X) (dflt : Nat) (n : Nat) : Prop := match x with
  | none => n = dflt
  | some x => ∃ k, s.ev x = .c (.v (.int k (n : Int)))
def capsOf (s : St) : List X → Option (List A0)
  | [] => some []
  | x :: l => match s.ev x, capsOf s l with
    | .c a, some r => some (a :: r)
    | _, _ => none
/-- What an instruction yields that turns nothing that is there: a value, and new objects. -/
def Gen (P : Program) (s : St) (d : Nat) (rt : RT) (st : Stamp) : I → AV → List (Nat × Ob) → Prop
  | .mov x, av, os => av = s.ev x ∧ os = []
  | .pick c a b, av, os => ∃ t, s.ev c = .c (.v (.bool t)) ∧ av = (if t then s.ev a else s.ev b) ∧ os = []
  | .alloc ty zs, av, os => av = .c (.bp (100 * d) 0 st.blk) ∧ os = [(100 * d, .box st.blk ty (zs.map fun z => .a (.v z)))]
  | .bld zs ps, av, os => ∃ l, fillA s (zs.map .v) ps = some l ∧ av = .agg l ∧ os = []
  | .ld agg n x, av, os => ∃ l, LoadIs s n l (s.ev x) ∧ (if agg then av = .agg l else ∃ a, l = [a] ∧ av = .c a) ∧ os = []
  | .fa off x, av, os => (match s.ev x with
      | .c (.rp ds) => av = .c (.rp (ds.drop off))
      | .c (.bp g c b) => av = .c (.bp g (c + off) b)
      | .c (.ep g c p i x) => av = .c (.ep g c p (i + off) x)
      | _ => False) ∧ os = []
  | .ia size x i, av, os => ∃ k n, s.ev i = .c (.v (.int k n)) ∧ 0 ≤ n ∧ (match s.ev x with
      | .c (.ro d) => d.isSl = true ∧ d.size = size ∧ n.toNat < d.len ∧ av = .c (.rp (d.elem n.toNat))
      | .c (.h g c p hx) => (∃ d, Is s (.h g c p hx) d ∧ d.size = size ∧ n.toNat < d.len) ∧ av = .c (.ep g c p (n.toNat * size) hx)
      | .c (.hs g c p hx sz lo m) => (∃ d, Is s (.hs g c p hx sz lo m) d) ∧ sz = size ∧ n.toNat < m ∧ av = .c (.ep g c p ((lo + n.toNat) * size) hx)
      | _ => False) ∧ os = []
  | .sidx x i, av, os => ∃ b k n u, s.ev x = .c (.v (.string b)) ∧ s.ev i = .c (.v (.int k n)) ∧ 0 ≤ n ∧ b[n.toNat]? = some u ∧ av = .c (.v (.int .u8 u.toNat)) ∧ os = []
  | .bin op ty x y, av, os => ((∃ a b v, s.ev x = .c (.v a) ∧ s.ev y = .c (.v b) ∧ BinR op a b v ∧ av = .c (.v v)) ∨
      (∃ l m xs ys b, s.ev x = .agg l ∧ s.ev y = .agg m ∧ valsOf l = some xs ∧ valsOf m = some ys ∧ EqR P op ty xs ys b ∧ av = .c (.v (.bool b)))) ∧ os = []
  | .beq neg x y, av, os => ∃ a b, s.ev x = .c (.v (.bool a)) ∧ s.ev y = .c (.v (.bool b)) ∧ av = .c (.v (.bool (if neg then !(a == b) else a == b))) ∧ os = []
  | .un op x, av, os => (match op with
      | .not => ∃ b, s.ev x = .c (.v (.bool b)) ∧ av = .c (.v (.bool (!b)))
      | .neg => ∃ k n, s.ev x = .c (.v (.int k n)) ∧ av = .c (.v (.int k (k.wrap (0 - n))))
      | _ => False) ∧ os = []
  | .cv c _ x, av, os => (match c with
      | .num k => ∃ k' n, s.ev x = .c (.v (.int k' n)) ∧ av = .c (.v (.int k (k.wrap n)))
      | .text => ∃ (a : A0) (ty : Nat) (bs : List UInt8), s.ev x = .c a ∧ Is s a (.sl 1 ty (bs.map byteVal)) ∧ av = .c (.v (.string ⟨bs.toArray⟩))
      | .bytes => False) ∧ os = []
  | .len str x, av, os => ∃ n, LenIs s str (s.ev x) n ∧ av = .c (.v (.int .i64 n)) ∧ os = []
  | .mm mx x y, av, os => ∃ k k' a b, s.ev x = .c (.v (.int k a)) ∧ s.ev y = .c (.v (.int k' b)) ∧ av = .c (.v (.int k (if mx then (if b > a then b else a) else (if b < a then b else a)))) ∧ os = []
  | .mks e size bytes zs l c, av, os => ∃ (k k' : IntKind) (n : Nat), s.ev l = .c (.v (.int k (n : Int))) ∧ s.ev c = .c (.v (.int k' (n : Int))) ∧ bytes * n ≤ 281474976710656 ∧ n ≤ maxLen ∧
      av = .c (.h (100 * d) 0 [] (st.η 0 [])) ∧ os = [(100 * d, .loose (.sl size e ((List.replicate n zs).flatten)) (st.η 0))]
  | .sl size x lo hi, av, os => ∃ l h, bound s lo 0 l ∧ l ≤ h ∧ (match s.ev x with
      | .c (.v (.string b)) => size = 0 ∧ bound s hi b.size h ∧ h ≤ b.size ∧ av = .c (.v (.string (b.extract l h)))
      | .c (.ro d) => 0 < size ∧ d.isSl = true ∧ d.size = size ∧ bound s hi d.len h ∧ h ≤ d.len ∧ av = .c (.ro (d.sub l h))
      | .c (.h g c p hx) => 0 < size ∧ (∃ d, Is s (.h g c p hx) d ∧ d.size = size ∧ bound s hi d.len h ∧ h ≤ d.len) ∧ av = .c (.hs g c p hx size l (h - l))
      | _ => False) ∧ os = []
  | .ext x i, av, os => ∃ l b as, s.ev x = .tup l ∧ l[i]? = some (b, as) ∧ (if b then av = .agg as else ∃ a, as = [a] ∧ av = .c a) ∧ os = []
  | .mkf f caps, av, os => ∃ l, capsOf s caps = some l ∧ av = .fn f l ∧ os = []
  | .call f args, av, os => ∃ vs, ArgsAre s (args.map s.ev) vs ∧ Pure P f vs rt ∧ av = rt.av (100 * d) st.η ∧ os = objL (100 * d) st.η 0 rt.flat
  | .callv x args, av, os => ∃ f caps vs, s.ev x = .fn f caps ∧ ArgsAre s (args.map s.ev ++ caps.map .c) vs ∧ Pure P f vs rt ∧ av = rt.av (100 * d) st.η ∧ os = objL (100 * d) st.η 0 rt.flat
  | _, _, _ => False

/-- A value as a datum: no slice is a slice without cells. -/
def nilD (k : Option (Nat × Nat)) (x : Value) : D := match k, x with
  | some (size, ty), .slice none 0 0 => .sl size ty []
  | _, x => .val x
def nilL : List (Option (Nat × Nat)) → List Value → List D
  | _, [] => []
  | ks, x :: l => nilD (ks.head?.getD none) x :: nilL ks.tail l
/-- The data of cells that are moved into a slice. -/
def datumL : List (Option (Nat × Nat)) → List Cell → Option (List D)
  | _, [] => some []
  | ks, .a (.v x) :: l => match datumL ks.tail l with
    | some r => some (nilD (ks.head?.getD none) x :: r)
    | none => none
  | ks, .own d _ :: l => match datumL ks.tail l with
    | some r => some (d :: r)
    | none => none
  | _, _ :: _ => none
def flatB : List D → Bool
  | [] => true
  | .val u :: l => u.oneCell' && flatB l
  | _ :: _ => false
def oneB : List D → Bool
  | [] => true
  | .val u :: l => u.oneCell' && oneB l
  | .sl _ _ _ :: l => oneB l
def strCells (b : ByteArray) : List D := b.data.toList.map byteVal
/-- What append takes: the slice's own cells, moved away. -/
def DestK (s : St) (e size : Nat) (a : AV) (K : List D → St → Prop) : Prop := match a with
  | .c (.v (.slice none 0 0)) => K [] s
  | .c (.h g c p x) => p = [] ∧ ∃ cs η, (s.o g).own c = some (.sl size e cs, η) ∧ η [] = x ∧ K cs (s.rm g c)
  | _ => False
/-- What is appended: flat cells, read; or a slice of one's own, moved away. -/
def SrcK (s : St) (size : Nat) (a : AV) (K : List D → St → Prop) : Prop := match a with
  | .c (.v (.slice none 0 0)) => K [] s
  | .c (.ro d) => d.isSl = true ∧ d.size = size ∧ flatB d.cells = true ∧ K d.cells s
  | .c (.hs g c p x sz lo m) => ∃ d, Is s (.hs g c p x sz lo m) d ∧ d.size = size ∧ flatB d.cells = true ∧ K d.cells s
  | .c (.h g c p x) => ∃ d, Is s (.h g c p x) d ∧ d.size = size ∧ (if flatB d.cells = true then K d.cells s else p = [] ∧ oneB d.cells = true ∧ K d.cells (s.rm g c))
  | _ => False
def View.av : View → AV
  | .c d => .c d.toRo
  | .agg ds => .agg (ds.map D.toRo)
  | .ptr ds => .c (.rp ds)
  | .fn f caps => .fn f (caps.map .rp)
def St.init (vs : List View) : St := ⟨fun n => ((vs.map View.av)[n]?).getD .unk, fun _ => .none⟩
inductive R where
  | t (n : Nat)
  | cell (n : Nat) (agg : Bool) (size : Nat)
/-- What it returns: the cells, in parts. -/
def resK (s : St) : List R → (List (Bool × List A0) → Prop) → Prop
  | [], K => K []
  | .t n :: rs, K => match s.t n with
    | .agg l => resK s rs fun ps => K ((true, l) :: ps)
    | .c a => resK s rs fun ps => K ((false, [a]) :: ps)
    | _ => False
  | .cell n agg size :: rs, K => ∃ l, LoadIs s size l (s.t n) ∧ (agg = true ∨ l.length = 1) ∧ resK s rs fun ps => K ((agg, l) :: ps)
def ShapeIs : RT → List (Bool × List A0) → Prop
  | .c _, ps => ∃ a, ps = [(false, [a])]
  | .agg _, ps => ∃ l, ps = [(true, l)]
  | .tup l, ps => ps.length ≠ 1 ∧ ps.map (fun p => (p.1, p.2.length)) = l.map (fun p => (p.1, p.2.length))
def IsD : List Cell → List D → Prop
  | [], ds => ds = []
  | .a (.v x) :: l, d :: ds => (d = .val x ∨ x = .slice none 0 0 ∧ ∃ size ty, d = .sl size ty []) ∧ IsD l ds
  | .own d' _ :: l, d :: ds => d' = d ∧ IsD l ds
  | _, _ => False
def RetQ (rs : List R) (rt : RT) (s : St) : Prop := resK s rs fun ps => ShapeIs rt ps ∧ TakeK s (ps.flatMap (·.2)) fun cs _ => IsD cs rt.flat

def plainConst : Value → Bool
  | .agg cs => cs.toList.all (·.oneCell')
  | .tuple _ => false
  | _ => true
def compX : Operand → Option X
  | .tmp t => some (.t t)
  | .const v => if plainConst v then some (.c v) else none
  | .func f => some (.f f)
  | .global _ => none
def compXs : List Operand → Option (List X)
  | [] => some []
  | x :: l => match compX x, compXs l with
    | some x, some l => some (x :: l)
    | _, _ => none
def compPs (off : Nat → Option (Nat × Nat)) : List (Nat × Operand) → Option (List (Nat × Nat × X))
  | [] => some []
  | (i, x) :: l => match off i, compX x, compPs off l with
    | some (o, n), some x, some l => some ((o, n, x) :: l)
    | _, _, _ => none
def zeroOf (P : Program) (t : TypeId) : Option (List Value) := match P.info? t with
  | some i => match i.zero with
    | some z => if z.cells.size = i.size && z.cells.toList.all (·.oneCell') then some z.cells.toList else none
    | none => none
  | none => none
def sizeAt (P : Program) (t : TypeId) : Option Nat := (P.info? t).map (·.size)
/-- Which cells of a type hold slices, and of what. -/
def kindsOf (P : Program) : Nat → TypeId → List (Option (Nat × Nat))
  | 0, _ => []
  | n + 1, t => match P.underlying t with
    | some (.slice e) => [(sizeAt P e).map fun k => (k, e)]
    | some (.struct fs) => fs.toList.flatMap fun f => kindsOf P n f.type
    | _ => List.replicate ((sizeAt P t).getD 1) none
def compCall (P : Program) (c : Call) : Option I := match c.callee, c.args.toList with
  | .builtin .len, [x] => match (c.argTypes[0]?).bind P.underlying, compX x with
    | some .string, some x => some (.len true x)
    | some (.slice _), some x => some (.len false x)
    | _, _ => none
  | .builtin .append, [x, y] => match c.argTypes.toList with
    | [t, t'] => match P.underlying t, P.underlying t' with
      | some (.slice e), some (.slice _) => match P.info? e, zeroOf P e, compX x, compX y with
        | some i, some _, some x, some y => if 0 < i.size && t == t' then some (.app e i.size i.bytes x y) else none
        | _, _, _, _ => none
      | some (.slice e), some .string => match P.underlying e, P.info? e, compX x, compX y with
        | some (.int .u8), some i, some x, some y => match i.zero with
          | some (.int .u8 0) => if i.size == 1 && i.bytes == 1 then some (.apps e x y) else none
          | _ => none
        | _, _, _, _ => none
      | _, _ => none
    | _ => none
  | .builtin .clear, [x] => match c.argTypes.toList with
    | [t] => match P.underlying t with
      | some (.slice e) => match P.info? e, zeroOf P e, compX x with
        | some i, some z, some x => if 0 < i.size then some (.clr i.size (nilL (kindsOf P 6 e) z) x) else none
        | _, _, _ => none
      | _ => none
    | _ => none
  | .builtin .max, [x, y] => match compX x, compX y with
    | some x, some y => some (.mm true x y)
    | _, _ => none
  | .builtin .min, [x, y] => match compX x, compX y with
    | some x, some y => some (.mm false x y)
    | _, _ => none
  | .value (.func f), l => match P.funcs[f]?, compXs l with
    | some fn, some l => if fn.body.isSome && fn.name != "runtime.NumGoroutine" then some (.call f l) else none
    | _, _ => none
  | .value (.tmp t), l => (compXs l).map (.callv (.t t))
  | _, _ => none
def compI (P : Program) (op : Op) : Option I := match op with
  | .move x | .assign x => (compX x).map .mov
  | .pick c a b => match compX c, compX a, compX b with
    | some c, some a, some b => some (.pick c a b)
    | _, _, _ => none
  | .alloc e => (zeroOf P e).map (.alloc e)
  | .box e x => match sizeAt P e, compX x with
    | some n, some x => some (.box e n x)
    | _, _ => none
  | .build t ps => match P.underlying t, zeroOf P t with
    | some (.struct fs), some z => if !(fs.toList.all fun f => (P.info? f.type).isSome) then none else (compPs (fun i => match fs[i]? with
        | some f => (sizeAt P f.type).map fun n => (f.offset, n)
        | none => none) ps.toList).map (.bld z)
    | _, _ => none
  | .buildSlice t n ps => match P.underlying t with
    | some (.slice e) => match sizeAt P e with
      | some size => if 0 < size && (zeroOf P e).isSome && (ps.toList.map (·.1) == List.range n) && n * size < 1000 then (compPs (fun i => some (i * size, size)) ps.toList).map (.bsl e size n ((List.replicate n (kindsOf P 6 e)).flatten)) else none
      | none => none
    | _ => none
  | .load t x => match P.underlying t, sizeAt P t, compX x with
    | some (.struct _), some n, some x => some (.ld true n x)
    | some (.array _ _), _, _ => none
    | some _, some 1, some x => some (.ld false 1 x)
    | _, _, _ => none
  | .store t a x => match sizeAt P t, compX a, compX x with
    | some n, some a, some x => some (.st n (kindsOf P 6 t) a x)
    | _, _, _ => none
  | .fieldAddr t x f => match P.underlying t, compX x with
    | some (.struct fs), some x => match fs[f]? with
      | some f => match sizeAt P f.type with
        | some (_ + 1) => some (.fa f.offset x)
        | _ => none
      | none => none
    | _, _ => none
  | .nilCheck x => (compX x).map (.fa 0)
  | .indexAddr t x i => match P.underlying t, compX x, compX i with
    | some (.slice e), some x, some i => match sizeAt P e with
      | some (n + 1) => some (.ia (n + 1) x i)
      | _ => none
    | _, _, _ => none
  | .index t x i => match P.underlying t, compX x, compX i with
    | some .string, some x, some i => some (.sidx x i)
    | _, _, _ => none
  | .binOp op t x y _ => match compX x, compX y with
    | some x, some y => match P.underlying t with
      | some .bool => match op with
        | .eql => some (.beq false x y)
        | .neq => some (.beq true x y)
        | _ => none
      | some _ => some (.bin op t x y)
      | none => none
    | _, _ => none
  | .unOp op _ x => (compX x).map (.un op)
  | .convert t t' x => match P.underlying t, P.underlying t', compX x with
    | some (.int _), some (.int k), some x => some (.cv (.num k) 0 x)
    | some (.slice e), some .string, some x => match P.underlying e with
      | some (.int .u8) => some (.cv .text e x)
      | _ => none
    | _, _, _ => none
  | .makeSlice t l c => match P.underlying t, compX l, compX c with
    | some (.slice e), some l, some c => match P.info? e, zeroOf P e with
      | some i, some z => if 0 < i.size then some (.mks e i.size i.bytes (nilL (kindsOf P 6 e) z) l c) else none
      | _, _ => none
    | _, _, _ => none
  | .slice t x lo hi none => match P.underlying t, compX x with
    | some (.slice e), some x => match sizeAt P e with
      | some (n + 1) => match lo.map compX, hi.map compX with
        | none, none => some (.sl (n + 1) x none none)
        | some (some a), none => some (.sl (n + 1) x (some a) none)
        | none, some (some b) => some (.sl (n + 1) x none (some b))
        | some (some a), some (some b) => some (.sl (n + 1) x (some a) (some b))
        | _, _ => none
      | _ => none
    | some .string, some x => match lo.map compX, hi.map compX with
        | none, none => some (.sl 0 x none none)
        | some (some a), none => some (.sl 0 x (some a) none)
        | none, some (some b) => some (.sl 0 x none (some b))
        | some (some a), some (some b) => some (.sl 0 x (some a) (some b))
        | _, _ => none
    | _, _ => none
  | .extract x i => (compX x).map (.ext · i)
  | .makeFunc (.func f) first caps => if first.isEmpty then (compXs caps.toList).map (.mkf f) else none
  | .call c => compCall P c
  | _ => none
def compO (P : Program) (N : Nat) (ops : Array Oper) (o : Oper) : Option Ins :=
  match compI P o.op, (match o.dst with | some d => decide (d < N) | none => true) with
  | some i, true => match o.guard with
    | none => some ⟨o.dst, none, i⟩
    | some (j, want) => match (ops[j]?).bind (·.dst) with
      | some t => if t < N then some ⟨o.dst, some (t, want), i⟩ else none
      | none => none
  | _, _ => none
def compL (P : Program) (N : Nat) (ops : Array Oper) : List Oper → Option (List Ins)
  | [] => some []
  | o :: l => match compO P N ops o, compL P N ops l with
    | some i, some r => some (i :: r)
    | _, _ => none
def I.pureB : I → Bool
  | .mov _ | .pick _ _ _ | .bld _ _ | .ld _ _ _ | .fa _ _ | .ia _ _ _ | .sidx _ _ | .bin _ _ _ _ | .beq _ _ _ | .un _ _ | .cv _ _ _ | .len _ _ | .mm _ _ _ | .sl _ _ _ _ | .ext _ _ | .mkf _ _ => true
  | _ => false
/-- What the operations of the list wait for, directly or not (the list of what is seen, at most so many steps). -/
def ancB (ops : Array Oper) : Nat → List Nat → List Nat → List Nat
  | 0, seen, _ => seen
  | _ + 1, seen, [] => seen
  | n + 1, seen, j :: todo => match ops[j]? with
    | some o => ancB ops n (((o.after.toList.filter fun e => Region.binds .any e && !seen.contains e.on).map (·.on)) ++ seen) (((o.after.toList.filter fun e => Region.binds .any e && !seen.contains e.on).map (·.on)) ++ todo)
    | none => ancB ops n seen todo
/-- Whether operation j waits for operation i. -/
def waitsB (ops : Array Oper) (n j i : Nat) : Bool := (ancB ops (8 * n + 8) [] [j]).contains i
def I.xs : I → List X
  | .mov x | .box _ _ x | .ld _ _ x | .fa _ x | .un _ x | .cv _ _ x | .len _ x | .ext x _ => [x]
  | .pick c a b => [c, a, b]
  | .alloc _ _ => []
  | .bld _ ps | .bsl _ _ _ _ ps => ps.map (·.2.2)
  | .st _ _ a x | .ia _ a x | .sidx a x | .bin _ _ a x | .beq _ a x | .app _ _ _ a x | .apps _ a x | .mm _ a x | .mks _ _ _ _ a x => [a, x]
  | .sl _ x lo hi => x :: (lo.toList ++ hi.toList)
  | .mkf _ l | .call _ l => l
  | .clr _ _ x => [x]
  | .callv x l => x :: l
def X.tmp? : X → Option Nat
  | .t n => some n
  | _ => none
def Ins.uses (i : Ins) : List Nat := i.i.xs.filterMap X.tmp? ++ (i.g.map (·.1)).toList
def apartE (i j : Ins) : Bool :=
  (match i.d with
    | some d => !(j.uses.contains d) && j.d != some d
    | none => true) &&
  (match j.d with
    | some d => !(i.uses.contains d)
    | none => true)
def freeE (ops : Array Oper) (is : List Ins) (listed : Array Bool) (i : Nat) : Bool := match is[i]? with
  | none => false
  | some x => x.i.pureB && (List.range ops.size).all fun j => j == i || listed.getD j true || (match ops[j]?, is[j]? with
    | some oj, some y => oj.after.any (fun e => Region.binds .any e && e.on == i) || apartE x y
    | _, _ => true)
def mkT (ops : Array Oper) (is : List Ins) : Nat → List Nat → Array Bool → Option T
  | 0, _, listed => if (Region.ready .any ops listed).isEmpty then some .done else none
  | f + 1, pures, listed =>
    if (Region.ready .any ops listed).isEmpty then some .done
    else match (Region.ready .any ops listed).find? (freeE ops is listed) with
      | some i => match is[i]?, mkT ops is f (i :: pures) (listed.setIfInBounds i true) with
        | some x, some t => some (.pure i x t)
        | _, _ => none
      | none => (Region.ready .any ops listed).foldr (fun j acc => match is[j]?, mkT ops is f pures (listed.setIfInBounds j true), acc with
        | some x, some t, some rest => some (.alt x (pures.filter fun p => !waitsB ops ops.size j p) t rest)
        | _, _, _ => none) (some .stop)
def compT (P : Program) (N : Nat) (ops : Array Oper) : Option T :=
  if P.follows .mixedOrders then match compL P N ops ops.toList with
    | some is => mkT ops is ops.size [] (Array.replicate ops.size false)
    | none => none
  else none
def comp (P : Program) (N : Nat) : Code → Option C
  | .skip => some .skip
  | .region _ ops false => (compL P N ops ops.toList).map .reg
  | .region _ ops true => (compT P N ops).map .dreg
  | .seq a b => match comp P N a, comp P N b with
    | some a, some b => some (.seq a b)
    | _, _ => none
  | .cond c a b => match compX c, comp P N a, comp P N b with
    | some c, some a, some b => some (.cond c a b)
    | _, _, _ => none
  | .block id a => (comp P N a).map (.blk id)
  | .loop a => (comp P N a).map .loop
  | .exit id => some (.exit id)
  | .ret => some .ret
  | _ => none
def compR (P : Program) (N : Nat) : List ResultVar → Option (List R)
  | [] => some []
  | .tmp n :: rs => if n < N then (compR P N rs).map (.t n :: ·) else none
  | .cell n t :: rs => if n < N then match P.underlying t, sizeAt P t, compR P N rs with
      | some (.struct _), some k, some r => some (.cell n true k :: r)
      | some (.array _ _), _, _ => none
      | some _, some k, some r => some (.cell n false k :: r)
      | _, _, _ => none
    else none
def fnC (P : Program) (fn : Func) : Option (C × List R × Nat) := match fn.body with
  | some b => if fn.name != "runtime.NumGoroutine" then match comp P fn.ntmps b, compR P fn.ntmps fn.results.toList with
    | some c, some rs => some (c, rs, fn.ntmps)
    | _, _ => none
    else none
  | none => none
end Go.Proofs.YtnhdcbhcocgjhaaGreat
set_option linter.unusedSimpArgs false
set_option linter.unusedVariables false
namespace Go.Proofs.YtnhdcbhcocgjhaaGreat
open Go.RowKit Go.Sort

def elemAddr : Value → Nat → Addr
  | .slice (some a) _ _, k => ⟨a.block, a.off + k, none⟩
  | _, k => ⟨0, k, none⟩
/-- A part of a slice. -/
def subV (x : Value) (size lo n : Nat) : Value := match x with
  | .slice A _ c => .slice (if c = lo then A else A.map (·.add (lo * size))) n (c - lo)
  | _ => undef
def A0Rel (B : Nat) (w : World) : A0 → Value → Prop
  | .v x, u => u = x
  | .ro d, u => d.isSl = true ∧ ∃ S, Rep w false d u S ∧ ∀ b ∈ S, b < B
  | .rp ds, u => ∃ b o us S, u = .pointer (some ⟨b, o, none⟩) ∧ RepL w false ds us S ∧ (∀ x ∈ S, x < B) ∧ (ds ≠ [] → b < B) ∧ ∀ j x, us[j]? = some x → w.cell? ⟨b, o + j, none⟩ = some x
  | .h _ _ _ x, u => u = x ∧ x.oneCell' = true
  | .bp _ c b, u => u = .pointer (some ⟨b, c, none⟩)
  | .ep _ _ _ i x, u => u = .pointer (some (elemAddr x i))
  | .un, u => u.oneCell' = true
  | .hs _ _ _ x size lo n, u => u = subV x size lo n ∧ u.oneCell' = true
def A0RelL (B : Nat) (w : World) : List A0 → List Value → Prop
  | [], us => us = []
  | a :: l, us => ∃ u us', us = u :: us' ∧ A0Rel B w a u ∧ A0RelL B w l us'
def TRelL (B : Nat) (w : World) : List (Bool × List A0) → List Value → Prop
  | [], us => us = []
  | (b, as) :: l, us => ∃ u us' xs, us = u :: us' ∧ A0RelL B w as xs ∧ (if b then u = .agg xs.toArray else xs = [u]) ∧ TRelL B w l us'
def VRel (B : Nat) (w : World) : AV → Value → Prop
  | .c a, u => A0Rel B w a u
  | .agg l, u => ∃ us : List Value, u = .agg us.toArray ∧ A0RelL B w l us
  | .fn f caps, u => ∃ us : List Value, u = .func (.func f) #[] us.toArray ∧ A0RelL B w caps us
  | .tup l, u => ∃ us : List Value, u = .tuple us.toArray ∧ TRelL B w l us
  | .unk, _ => True
/-- The header that stands at a path. -/
def hdr (w : World) : List Nat → D → Value → Value
  | [], .sl _ _ _, u => u
  | i :: p, .sl _ _ cs, .slice (some a) _ _ => match cs[i]? with
    | some d => hdr w p d ((w.cell? ⟨a.block, a.off + i, none⟩).getD undef)
    | none => undef
  | _, _, _ => undef
def CRel (B : Nat) (w : World) : List Cell → List Value → List Nat → Prop
  | [], us, S => us = [] ∧ S = []
  | .a x :: l, us, S => ∃ u us', us = u :: us' ∧ A0Rel B w x u ∧ CRel B w l us' S
  | .own d η :: l, us, S => ∃ u us' S1 S2, us = u :: us' ∧ S = S1 ++ S2 ∧ d.isSl = true ∧ Rep w true d u S1 ∧ (∀ p, η p = hdr w p d u) ∧ CRel B w l us' S2
def ORel (B : Nat) (w : World) : Ob → List Nat → Prop
  | .none, S => S = []
  | .loose d η, S => d.isSl = true ∧ ∃ u, Rep w true d u S ∧ ∀ p, η p = hdr w p d u
  | .box b ty cs, S => ∃ us S1, w.heap[b]? = some (.cells us.toArray ty (0, 0)) ∧ CRel B w cs us S1 ∧ S = b :: S1
structure RelF (B : Nat) (w0 : World) (N : Nat) (s : St) (a : Act) (w : World) (F : Nat → List Nat) : Prop where
  below : Below B w0 w
  hB : B ≤ w0.heap.size
  df : a.defers = []
  sz : a.tmps.size = N
  sl : ∀ n, VRel B w (s.t n) (a.tmps.getD n undef)
  ob : ∀ g, ORel B w (s.o g) (F g)
  fr : ∀ g, Fresh B (F g)
  dj : ∀ g g', g ≠ g' → ∀ b ∈ F g, b ∉ F g'

section
variable {B : Nat} {w w' w0 : World}

theorem rep_form {own : Bool} {size : Nat} {ty : TypeId} {cs : List D} {v : Value} {S : List Nat} (h : Rep w own (.sl size ty cs) v S) : ∃ A n c, v = .slice A n c := by
  obtain ⟨vs, T, S', hr, _, _⟩ := h
  obtain ⟨_, A, n, c, rfl, _⟩ := hr.ro
  exact ⟨A, n, c, rfl⟩

theorem A0Rel.mono (hb : Below B w w') : ∀ {a : A0} {u : Value}, A0Rel B w a u → A0Rel B w' a u
  | .v _, _, h => h
  | .ro _, _, ⟨h1, S, h2, h3⟩ => ⟨h1, S, Rep.keep _ h2 fun b hs => hb.block b (h3 b hs), h3⟩
  | .rp ds, _, ⟨b, o, us, S, h1, h2, h3, h4, h5⟩ => ⟨b, o, us, S, h1, RepL.keep _ h2 fun b hs => hb.block b (h3 b hs), h3, h4, fun j x hx => by
      have hne : ds ≠ [] := fun e => by subst e; obtain ⟨rfl, _⟩ := h2; simp at hx
      rw [hb.cell (p := ⟨b, o + j, none⟩) (h4 hne)]; exact h5 j x hx⟩
  | .h _ _ _ _, _, h => h
  | .bp _ _ _, _, h => h
  | .ep _ _ _ _ _, _, h => h
  | .un, _, h => h
  | .hs _ _ _ _ _ _ _, _, h => h
theorem A0RelL.mono (hb : Below B w w') : ∀ {l : List A0} {us : List Value}, A0RelL B w l us → A0RelL B w' l us
  | [], _, h => h
  | _ :: _, _, ⟨u, us', h1, h2, h3⟩ => ⟨u, us', h1, h2.mono hb, A0RelL.mono hb h3⟩
theorem TRelL.mono (hb : Below B w w') : ∀ {l : List (Bool × List A0)} {us : List Value}, TRelL B w l us → TRelL B w' l us
  | [], _, h => h
  | (_, _) :: _, _, ⟨u, us', xs, h1, h2, h3, h4⟩ => ⟨u, us', xs, h1, h2.mono hb, h3, TRelL.mono hb h4⟩
theorem VRel.mono (hb : Below B w w') : ∀ {v : AV} {u : Value}, VRel B w v u → VRel B w' v u
  | .c _, _, h => A0Rel.mono hb h
  | .agg _, _, ⟨us, h1, h2⟩ => ⟨us, h1, h2.mono hb⟩
  | .fn _ _, _, ⟨us, h1, h2⟩ => ⟨us, h1, h2.mono hb⟩
  | .tup _, _, ⟨us, h1, h2⟩ => ⟨us, h1, h2.mono hb⟩
  | .unk, _, h => h
theorem A0Rel.one : ∀ {a : A0} {u : Value}, A0Rel B w a u → a.one = true → u.oneCell' = true
  | .v _, _, h, h' => by rw [show _ = _ from h]; exact h'
  | .ro d, u, ⟨h1, S, h2, _⟩, _ => by
    cases d with
    | val _ => cases h1
    | sl size ty cs => obtain ⟨A, n, c, rfl⟩ := rep_form h2; rfl
  | .rp _, _, ⟨_, _, _, _, h, _⟩, _ => by rw [h]; rfl
  | .h _ _ _ _, _, ⟨h, h'⟩, _ => by rw [h]; exact h'
  | .bp _ _ _, _, h, _ => by rw [show _ = _ from h]; rfl
  | .ep _ _ _ _ _, _, h, _ => by rw [show _ = _ from h]; rfl
  | .un, _, h, _ => h
  | .hs _ _ _ _ _ _ _, _, ⟨_, h⟩, _ => h
theorem A0Rel.c1 : ∀ {a : A0} {u : Value}, A0Rel B w a u → a.c1 = true → u.oneCell' = true
  | .v _, _, h, h' => by rw [show _ = _ from h]; exact h'
  | .ro _, _, h, _ => h.one rfl
  | .rp _, _, h, _ => h.one rfl
  | .h _ _ _ _, _, ⟨h, h'⟩, _ => by rw [h]; exact h'
  | .bp _ _ _, _, h, _ => h.one rfl
  | .ep _ _ _ _ _, _, h, _ => h.one rfl
  | .un, _, h, _ => h
  | .hs _ _ _ _ _ _ _, _, ⟨_, h⟩, _ => h
theorem one_cells {u : Value} (h : u.oneCell' = true) : u.cells = #[u] := by cases u <;> first | rfl | cases h
theorem VRel.cells : ∀ {v : AV} {u : Value} {l : List A0}, VRel B w v u → v.cells = some l → ∃ us : List Value, u.cells = us.toArray ∧ A0RelL B w l us
  | .c a, u, l, h, hl => by
    simp only [AV.cells] at hl
    split at hl
    · simp at hl; subst hl
      exact ⟨[u], one_cells (A0Rel.c1 h (by assumption)), u, [], rfl, h, rfl⟩
    · simp at hl
  | .agg l', _, l, ⟨us, h1, h2⟩, hl => by
    simp [AV.cells] at hl; subst hl
    exact ⟨us, by rw [h1]; rfl, h2⟩
  | .fn _ _, _, _, _, hl => by simp [AV.cells] at hl
  | .tup _, _, _, _, hl => by simp [AV.cells] at hl
  | .unk, _, _, _, hl => by simp [AV.cells] at hl
theorem A0RelL.len : ∀ {l : List A0} {us : List Value}, A0RelL B w l us → us.length = l.length
  | [], _, h => by rw [show _ = _ from h]; rfl
  | _ :: _, _, ⟨_, _, h1, _, h3⟩ => by subst h1; simp [A0RelL.len h3]

theorem RepL.nth {own : Bool} : ∀ {cs : List D} {vs : List Value} {S : List Nat} {i : Nat} {d : D}, RepL w own cs vs S → cs[i]? = some d → ∃ v S1, vs[i]? = some v ∧ Rep w own d v S1 ∧ ∀ s ∈ S1, s ∈ S
  | [], _, _, _, _, _, h => by simp at h
  | _ :: _, _, _, 0, _, ⟨v, vs', S1, S2, h1, h2, h3, h4⟩, h => by
    simp at h; subst h
    exact ⟨v, S1, by rw [h1]; rfl, h3, fun s hs => by rw [h2]; simp [hs]⟩
  | _ :: cs, _, _, i + 1, _, ⟨v, vs', S1, S2, h1, h2, h3, h4⟩, h => by
    simp at h
    obtain ⟨v', S', h5, h6, h7⟩ := RepL.nth h4 h
    exact ⟨v', S', by rw [h1]; simpa using h5, h6, fun s hs => by rw [h2]; simp [h7 s hs]⟩
/-- The cells of a row of one's own. -/
theorem own_cells {size : Nat} {ty : TypeId} {vs : List Value} {u : Value} {T : List Nat} (h : RowAt w true size ty vs u T) : (u = .slice none 0 0 ∧ vs = []) ∨ ∃ g n c, u = .slice (some ⟨g, 0, none⟩) n c ∧ T = [g] ∧ vs.length = n * size ∧ (∀ j v, vs[j]? = some v → w.cell? ⟨g, j, none⟩ = some v) ∧ ∀ j, w.frozen? ⟨g, j, none⟩ = false := by
  obtain ⟨n, h, rfl⟩ := h
  have h1 := h.1
  rcases h.2 with ⟨rfl, h0⟩ | ⟨g, cap, cur, rfl, hb, hg, hr⟩
  · subst h0; exact .inl ⟨rfl, List.eq_nil_of_length_eq_zero (by simpa using h1)⟩
  · refine .inr ⟨g, n, cap, rfl, rfl, h1, fun j v hv => ?_, h.frozenAt⟩
    have := h.cells (g := g) rfl j v hv
    have e : (⟨g, 0, none⟩ : Addr).add j = ⟨g, j, none⟩ := by unfold Addr.add; split <;> simp_all
    rwa [e] at this
theorem hdr_keep : ∀ (p : List Nat) {d : D} {u : Value} {S : List Nat}, Rep w true d u S → (∀ b ∈ S, w'.heap[b]? = w.heap[b]?) → hdr w' p d u = hdr w p d u
  | [], .sl _ _ _, _, _, _, _ => rfl
  | [], .val _, _, _, _, _ => rfl
  | i :: p, .val _, _, _, _, _ => rfl
  | i :: p, .sl size ty cs, u, S, ⟨vs, T, S', h1, h2, h3⟩, hk => by
    rcases own_cells h1 with ⟨rfl, _⟩ | ⟨g, n, c, rfl, rfl, h4, h5, _⟩
    · rfl
    · simp only [hdr]
      cases hc : cs[i]? with
      | none => rfl
      | some d =>
        obtain ⟨v, S1, h6, h7, h8⟩ := RepL.nth h2 hc
        have e1 : w.cell? ⟨g, 0 + i, none⟩ = some v := by rw [Nat.zero_add]; exact h5 i v h6
        have e2 : w'.cell? ⟨g, 0 + i, none⟩ = some v := by
          rw [World.cell?_of_block (w := w) (a := ⟨g, 0 + i, none⟩) (hk g (by rw [h3]; simp))]; exact e1
        simp only [e1, e2, Option.getD_some]
        exact hdr_keep p h7 fun b hb => hk b (by rw [h3]; simp [h8 b hb])
theorem rep_get : ∀ (p : List Nat) {d d' : D} {u : Value} {S : List Nat}, Rep w true d u S → D.get p d = some d' → d'.isSl = true → ∃ S', Rep w true d' (hdr w p d u) S' ∧ ∀ s ∈ S', s ∈ S
  | [], .sl _ _ _, _, _, S, h, hg, _ => by simp [D.get] at hg; subst hg; exact ⟨S, h, fun _ h => h⟩
  | [], .val _, _, _, _, _, hg, hs => by simp [D.get] at hg; subst hg; cases hs
  | i :: p, .val _, _, _, _, _, hg, _ => by simp [D.get] at hg
  | i :: p, .sl size ty cs, d', u, S, ⟨vs, T, S', h1, h2, h3⟩, hg, hs => by
    simp only [D.get] at hg
    cases hc : cs[i]? with
    | none => rw [hc] at hg; simp at hg
    | some d =>
      rw [hc] at hg
      obtain ⟨v, S1, h6, h7, h8⟩ := RepL.nth h2 hc
      rcases own_cells h1 with ⟨rfl, rfl⟩ | ⟨g, n, c, rfl, rfl, h4, h5, _⟩
      · simp at h6
      · simp only [hdr, hc, Nat.zero_add, h5 i v h6, Option.getD_some]
        obtain ⟨S2, h9, h10⟩ := rep_get p h7 hg hs
        exact ⟨S2, h9, fun s hs => by rw [h3]; simp [h8 s (h10 s hs)]⟩
theorem hdr_nil {d : D} {u : Value} (h : d.isSl = true) : hdr w [] d u = u := by cases d <;> first | rfl | cases h

theorem CRel.keep (hb : Below B w w') : ∀ {cs : List Cell} {us : List Value} {S : List Nat}, CRel B w cs us S → (∀ b ∈ S, w'.heap[b]? = w.heap[b]?) → CRel B w' cs us S
  | [], _, _, h, _ => h
  | .a _ :: _, _, _, ⟨u, us', h1, h2, h3⟩, hk => ⟨u, us', h1, h2.mono hb, CRel.keep hb h3 hk⟩
  | .own _ _ :: _, _, _, ⟨u, us', S1, S2, h1, h2, h3, h4, h5, h6⟩, hk => ⟨u, us', S1, S2, h1, h2, h3, Rep.keep _ h4 fun b hs => hk b (by rw [h2]; simp [hs]),
      fun p => by rw [hdr_keep p h4 fun b hs => hk b (by rw [h2]; simp [hs])]; exact h5 p, CRel.keep hb h6 fun b hs => hk b (by rw [h2]; simp [hs])⟩
theorem CRel.lt : ∀ {cs : List Cell} {us : List Value} {S : List Nat}, CRel B w cs us S → ∀ b ∈ S, b < w.heap.size
  | [], _, _, ⟨_, h⟩, b, hb => by rw [h] at hb; simp at hb
  | .a _ :: _, _, _, ⟨_, _, _, _, h⟩, b, hb => CRel.lt h b hb
  | .own _ _ :: _, _, _, ⟨u, us', S1, S2, _, h2, _, h4, _, h6⟩, b, hb => by
    rw [h2] at hb
    rcases List.mem_append.1 hb with hb | hb
    · exact Rep.lt _ h4 b hb
    · exact CRel.lt h6 b hb
theorem CRel.len : ∀ {cs : List Cell} {us : List Value} {S : List Nat}, CRel B w cs us S → us.length = cs.length
  | [], _, _, ⟨h, _⟩ => by rw [h]; rfl
  | .a _ :: _, _, _, ⟨_, _, h1, _, h3⟩ => by subst h1; simp [CRel.len h3]
  | .own _ _ :: _, _, _, ⟨_, _, _, _, h1, _, _, _, _, h6⟩ => by subst h1; simp [CRel.len h6]
theorem ORel.keep (hb : Below B w w') : ∀ {ob : Ob} {S : List Nat}, ORel B w ob S → (∀ b ∈ S, w'.heap[b]? = w.heap[b]?) → ORel B w' ob S
  | .none, _, h, _ => h
  | .loose _ _, _, ⟨h0, u, h1, h2⟩, hk => ⟨h0, u, Rep.keep _ h1 hk, fun p => by rw [hdr_keep p h1 hk]; exact h2 p⟩
  | .box b _ _, _, ⟨us, S1, h1, h2, h3⟩, hk => ⟨us, S1, (hk b (by rw [h3]; simp)).trans h1, h2.keep hb fun x hx => hk x (by rw [h3]; simp [hx]), h3⟩
theorem ORel.lt : ∀ {ob : Ob} {S : List Nat}, ORel B w ob S → ∀ b ∈ S, b < w.heap.size
  | .none, _, h, b, hb => by rw [show _ = _ from h] at hb; simp at hb
  | .loose _ _, _, ⟨_, u, h1, _⟩, b, hb => Rep.lt _ h1 b hb
  | .box b' _ _, _, ⟨us, S1, h1, h2, h3⟩, b, hb => by
    rw [h3] at hb
    rcases List.mem_cons.1 hb with rfl | hb
    · exact getElem_lt h1
    · exact h2.lt b hb
/-- The own slice at c of an object. -/
theorem ORel.own : ∀ {ob : Ob} {S : List Nat} {c : Nat} {d : D} {η : Heads}, ORel B w ob S → ob.own c = some (d, η) → ∃ u S', d.isSl = true ∧ Rep w true d u S' ∧ (∀ p, η p = hdr w p d u) ∧ ∀ s ∈ S', s ∈ S
  | .none, _, _, _, _, _, h => by simp [Ob.own] at h
  | .loose d' η', S, 0, d, η, ⟨h0, u, h1, h2⟩, h => by simp [Ob.own] at h; obtain ⟨rfl, rfl⟩ := h; exact ⟨u, S, h0, h1, h2, fun _ h => h⟩
  | .loose _ _, _, c + 1, _, _, _, h => by simp [Ob.own] at h
  | .box b ty cs, S, c, d, η, ⟨us, S1, h1, h2, h3⟩, h => by
    have : ∀ {cs : List Cell} {us : List Value} {S1 : List Nat} {c : Nat}, CRel B w cs us S1 → cs[c]? = some (.own d η) → ∃ u S', d.isSl = true ∧ Rep w true d u S' ∧ (∀ p, η p = hdr w p d u) ∧ ∀ s ∈ S', s ∈ S1 := by
      intro cs
      induction cs with
      | nil => intro _ _ _ _ h; simp at h
      | cons x l ih =>
        intro us S1 c hr hc
        cases x with
        | a x =>
          obtain ⟨u, us', rfl, _, h5⟩ := hr
          cases c with
          | zero => simp at hc
          | succ c => exact ih h5 (by simpa using hc)
        | own d' η' =>
          obtain ⟨u, us', S2, S3, rfl, rfl, k0, k1, k2, k3⟩ := hr
          cases c with
          | zero => simp at hc; obtain ⟨rfl, rfl⟩ := hc; exact ⟨u, S2, k0, k1, k2, fun s hs => by simp [hs]⟩
          | succ c =>
            obtain ⟨u', S', k4, k5, k6, k7⟩ := ih k3 (by simpa using hc)
            exact ⟨u', S', k4, k5, k6, fun s hs => by simp [k7 s hs]⟩
    simp only [Ob.own] at h
    split at h
    · rename_i d' η' hc
      simp at h
      obtain ⟨rfl, rfl⟩ := h
      obtain ⟨u, S', k1, k2, k3, k4⟩ := this h2 hc
      exact ⟨u, S', k1, k2, k3, fun s hs => by rw [h3]; simp [k4 s hs]⟩
    · simp at h

variable {N : Nat} {s : St} {a : Act} {F : Nat → List Nat}
theorem RelF.world (h : RelF B w0 N s a w F) (hb : Below w.heap.size w w') : RelF B w0 N s a w' F := by
  have hB : B ≤ w.heap.size := Nat.le_trans h.hB h.below.size
  have hb' := hb.mono hB
  exact ⟨h.below.trans hb', h.hB, h.df, h.sz, fun n => (h.sl n).mono hb', fun g => (h.ob g).keep hb' fun b hs => hb.block b ((h.ob g).lt b hs), h.fr, h.dj⟩
theorem RelF.put (h : RelF B w0 N s a w F) {v : AV} {u : Value} (hv : VRel B w v u) {d : Option Nat} (hd : ∀ k, d = some k → k < N) : RelF B w0 N (s.put d v) (a.put d u) w F := by
  cases d with
  | none => exact h
  | some k =>
    have hk := hd k rfl
    refine ⟨h.below, h.hB, h.df, by simp [Act.put, h.sz], fun n => ?_, h.ob, h.fr, h.dj⟩
    simp only [St.put, Act.put]
    by_cases hn : n = k
    · subst hn
      rw [if_pos rfl]
      simp [Array.getD_eq_getD_getElem?, h.sz, hk]
      exact hv
    · rw [if_neg hn]
      simp [Array.getD_eq_getD_getElem?, Array.getElem?_setIfInBounds_ne (Ne.symm hn)]
      simpa [Array.getD_eq_getD_getElem?] using h.sl n
theorem RelF.setO (h : RelF B w0 N s a w F) {g : Nat} {ob : Ob} {S : List Nat} (ho : ORel B w ob S) (hf : Fresh B S) (hd : ∀ g', g' ≠ g → ∀ b ∈ S, b ∉ F g') :
    RelF B w0 N (s.setO g ob) a w (fun k => if k = g then S else F k) := by
  refine ⟨h.below, h.hB, h.df, h.sz, h.sl, fun k => ?_, fun k => ?_, fun k k' hne b hb hb' => ?_⟩
  · simp only [St.setO]; split
    · exact ho
    · exact h.ob k
  · split
    · exact hf
    · exact h.fr k
  · have hb1 : b ∈ (if k = g then S else F k) := hb
    have hb2 : b ∈ (if k' = g then S else F k') := hb'
    split at hb1 <;> split at hb2
    · omega
    · exact hd k' (by omega) b hb1 hb2
    · exact hd k (by omega) b hb2 hb1
    · exact h.dj k k' hne b hb1 hb2
def NewRel (B : Nat) (w : World) : List (Nat × Ob) → List Nat → Prop
  | [], S => S = []
  | (_, ob) :: l, S => ∃ S1 S2, S = S1 ++ S2 ∧ ORel B w ob S1 ∧ NewRel B w l S2
theorem RelF.addO : ∀ {os : List (Nat × Ob)} {s : St} {S : List Nat} {F : Nat → List Nat}, RelF B w0 N s a w F → NewRel B w os S → Fresh B S → (∀ g, ∀ b ∈ S, b ∉ F g) → ∃ F', RelF B w0 N (s.addO os) a w F'
  | [], s, S, F, h, _, _, _ => ⟨F, h⟩
  | (g, ob) :: os, s, S, F, h, ⟨S1, S2, hS, ho, hn⟩, hf, hd => by
    subst hS
    have h1 := h.setO (g := g) ho hf.left fun g' _ b hb => hd g' b (by simp [hb])
    have h2 := RelF.addO h1 hn hf.right (fun k b hb => by
      by_cases hk : k = g
      · rw [if_pos hk]; exact fun hb' => hf.apart b hb' hb
      · rw [if_neg hk]; exact hd k b (by simp [hb]))
    exact h2
/-- What is taken away from an object. -/
theorem RelF.rm (h : RelF B w0 N s a w F) {g c : Nat} {d : D} {η : Heads} (ho : (s.o g).own c = some (d, η)) :
    ∃ u S F', d.isSl = true ∧ Rep w true d u S ∧ (∀ p, η p = hdr w p d u) ∧ Fresh B S ∧ RelF B w0 N (s.rm g c) a w F' ∧ (∀ g', ∀ b ∈ S, b ∉ F' g') ∧ (∀ b ∈ S, b ∈ F g) ∧ ∀ g' b, b ∈ F' g' → b ∈ F g' := by
  have hog := h.ob g
  have hfg := h.fr g
  unfold St.rm
  cases hob : s.o g with
  | none => rw [hob] at ho; simp [Ob.own] at ho
  | loose d' η' =>
    rw [hob] at ho hog
    cases c with
    | succ c => simp [Ob.own] at ho
    | zero =>
      simp [Ob.own] at ho
      obtain ⟨rfl, rfl⟩ := ho
      obtain ⟨h0, u, h1, h2⟩ := hog
      refine ⟨u, F g, _, h0, h1, h2, hfg, h.setO (S := []) (ob := (Ob.loose d' η').rm 0) (by simp [Ob.rm, ORel]) (Fresh.nil _) (by simp), fun g' b hb hb' => ?_, fun _ h => h, fun g' b hb => ?_⟩
      · split at hb'
        · simp at hb'
        · exact h.dj g g' (by omega) b hb hb'
      · split at hb
        · simp at hb
        · exact hb
  | box b ty cs =>
    rw [hob] at ho hog
    obtain ⟨us, S1, h1, h2, h3⟩ := hog
    have key : ∀ {cs : List Cell} {us : List Value} {S1 : List Nat} {c : Nat}, CRel B w cs us S1 → S1.Nodup → cs[c]? = some (.own d η) →
        ∃ u S S', d.isSl = true ∧ Rep w true d u S ∧ (∀ p, η p = hdr w p d u) ∧ CRel B w (cs.set c (.a (.v (η [])))) us S' ∧ (∀ x, x ∈ S1 ↔ x ∈ S ∨ x ∈ S') ∧ S'.Nodup ∧ S.Nodup ∧ ∀ x ∈ S, x ∉ S' := by
      intro cs
      induction cs with
      | nil => intro _ _ _ _ _ h; simp at h
      | cons x l ih =>
        intro us S1 c hr hnd hc
        cases x with
        | a x =>
          obtain ⟨u, us', rfl, k1, k2⟩ := hr
          cases c with
          | zero => simp at hc
          | succ c =>
            obtain ⟨u', S, S', j1, j2, j3, j4, j5, j6, j7, j8⟩ := ih k2 hnd (by simpa using hc)
            exact ⟨u', S, S', j1, j2, j3, ⟨u, us', rfl, k1, j4⟩, j5, j6, j7, j8⟩
        | own d' η' =>
          obtain ⟨u, us', S2, S3, rfl, rfl, k0, k1, k2, k3⟩ := hr
          have hnd' := List.nodup_append.1 hnd
          cases c with
          | zero =>
            simp at hc; obtain ⟨rfl, rfl⟩ := hc
            refine ⟨u, S2, S3, k0, k1, k2, ⟨u, us', rfl, ?_, k3⟩, fun x => List.mem_append, hnd'.2.1, hnd'.1, fun x hx hx' => hnd'.2.2 x hx x hx' rfl⟩
            show u = η' []
            rw [k2, hdr_nil k0]
          | succ c =>
            obtain ⟨u', S, S', j1, j2, j3, j4, j5, j6, j7, j8⟩ := ih k3 hnd'.2.1 (by simpa using hc)
            refine ⟨u', S, S2 ++ S', j1, j2, j3, ⟨u, us', S2, S', rfl, rfl, k0, k1, k2, j4⟩, fun x => ?_, List.nodup_append.2 ⟨hnd'.1, j6, fun a ha b hb e => hnd'.2.2 a ha b ((j5 b).2 (.inr hb)) e⟩, j7, fun x hx hx' => ?_⟩
            · rw [List.mem_append, List.mem_append, j5]; grind
            · rcases List.mem_append.1 hx' with hx' | hx'
              · exact hnd'.2.2 x hx' x ((j5 x).2 (.inl hx)) rfl
              · exact j8 x hx hx'
    have hc : cs[c]? = some (.own d η) := by
      simp only [Ob.own] at ho
      split at ho
      · simp at ho; obtain ⟨rfl, rfl⟩ := ho; assumption
      · simp at ho
    have hnd : (b :: S1).Nodup := by rw [← h3]; exact hfg.1
    obtain ⟨u, S, S', j1, j2, j3, j4, j5, j6, j7, j8⟩ := key h2 (List.nodup_cons.1 hnd).2 hc
    have hS : ∀ x ∈ S, x ∈ F g := fun x hx => by rw [h3]; simp [(j5 x).2 (.inl hx)]
    have hS' : ∀ x ∈ b :: S', x ∈ F g := fun x hx => by
      rw [h3]
      rcases List.mem_cons.1 hx with rfl | hx
      · simp
      · simp [(j5 x).2 (.inr hx)]
    have hbS' : b ∉ S' := fun hb => (List.nodup_cons.1 hnd).1 ((j5 b).2 (.inr hb))
    have hrm : (Ob.box b ty cs).rm c = .box b ty (cs.set c (.a (.v (η [])))) := by simp only [Ob.rm, hc, rmC]
    refine ⟨u, S, _, j1, j2, j3, ⟨j7, fun x hx => hfg.2 x (hS x hx)⟩, h.setO (S := b :: S') (ob := (Ob.box b ty cs).rm c) (by rw [hrm]; exact ⟨us, S', h1, j4, rfl⟩) ⟨List.nodup_cons.2 ⟨hbS', j6⟩, fun x hx => hfg.2 x (hS' x hx)⟩ (fun g' hg x hx => h.dj g g' (Ne.symm hg) x (hS' x hx)), fun g' x hx hx' => ?_, hS, fun g' x hx => ?_⟩
    · split at hx'
      · rcases List.mem_cons.1 hx' with rfl | hx'
        · exact (List.nodup_cons.1 hnd).1 ((j5 x).2 (.inl hx))
        · exact j8 x hx hx'
      · exact h.dj g g' (by omega) x (hS x hx) hx'
    · split at hx
      · rename_i e; subst e; exact hS' x hx
      · exact hx
end
end Go.Proofs.YtnhdcbhcocgjhaaGreat
set_option linter.unusedSimpArgs false
set_option linter.unusedVariables false
namespace Go.Proofs.YtnhdcbhcocgjhaaGreat
open Go.RowKit Go.Sort

def VRelL (B : Nat) (w : World) : List AV → List Value → Prop
  | [], xs => xs = []
  | a :: l, xs => ∃ x xs', xs = x :: xs' ∧ VRel B w a x ∧ VRelL B w l xs'
abbrev St.only (o : Nat → Ob) : St := ⟨fun _ => .unk, o⟩
def Act.bare : Act := { tmps := #[], defers := [] }
/-- f, given these, with these objects: it returns data of its own and leaves objects, R. -/
def Turns (P : Program) (f : FuncId) (args : List AV) (o : Nat → Ob) (R : RT → (Nat → Ob) → Prop) : Prop :=
  Named P f ∧ ∀ (B : Nat) (w : World) (F : Nat → List Nat) (xs : List Value), RelF B w 0 (.only o) Act.bare w F → VRelL B w args xs →
    Calls P f xs.toArray w fun e w' => ∃ v rt o' S F', e = .returned v ∧ RelF B w 0 (.only o') Act.bare w' F' ∧ RetRel w' rt v S ∧ Fresh B S ∧ (∀ g, ∀ b ∈ S, b ∉ F' g) ∧ R rt o'

/-- f, given these, with these objects: it returns this value and leaves objects, R: as if its code stood in the caller. -/
def Inl (P : Program) (f : FuncId) (args : List AV) (o : Nat → Ob) (R : AV → (Nat → Ob) → Prop) : Prop :=
  Named P f ∧ ∀ (B : Nat) (w : World) (F : Nat → List Nat) (xs : List Value), RelF B w 0 (.only o) Act.bare w F → VRelL B w args xs →
    Calls P f xs.toArray w fun e w' => ∃ v av o', ∃ F' : Nat → List Nat, e = .returned v ∧ RelF B w 0 (.only o') Act.bare w' F' ∧ VRel B w' av v ∧ R av o'

def D.put : List Nat → Nat → List D → D → D
  | [], i, ds, .sl size ty cs => .sl size ty (setAt cs i ds)
  | k :: p, i, ds, .sl size ty cs => .sl size ty (match cs[k]? with
    | some d => cs.set k (D.put p i ds d)
    | none => cs)
  | _, _, _, .val u => .val u
def Ob.putOwn : Ob → Nat → D → Heads → Ob
  | .loose _ _, _, d, η => .loose d η
  | .box b ty cs, c, d, η => .box b ty (cs.set c (.own d η))
  | .none, _, _, _ => .none
/-- A path that leads through the cells i .. i + n behind p. -/
def Under (p : List Nat) (i n : Nat) (q : List Nat) : Prop := ∃ j r, q = p ++ j :: r ∧ i ≤ j ∧ j < i + n
/-- New heads behind a store: the old ones where only flat cells are stored over flat ones. -/
def stH (flat : Bool) (p : List Nat) (k n : Nat) (η : Heads) (K : Heads → Prop) : Prop := match flat with
  | true => K η
  | false => ∀ η', (∀ q, ¬ Under p k n q → η' q = η q) → K η'
theorem stH_mono {flat : Bool} {p : List Nat} {k n : Nat} {η : Heads} {K K' : Heads → Prop} (h : ∀ η', K η' → K' η') (hk : stH flat p k n η K) : stH flat p k n η K' := by
  cases flat with
  | true => exact h _ hk
  | false => exact fun η' hη => h _ (hk η' hη)
theorem stH_at {flat : Bool} {p : List Nat} {k n : Nat} {η η' : Heads} {K : Heads → Prop} (hk : stH flat p k n η K) (h : ∀ q, ¬ Under p k n q → η' q = η q) (hf : flat = true → η' = η) : K η' := by
  cases flat with
  | true => rw [hf rfl]; exact hk
  | false => exact hk η' h
def runI (P : Program) (β : Nat) (i : Ins) (s : St) (K : St → Prop) : Prop := match i.i with
  | .box ty n x => ∃ l, (s.ev x).cells = some l ∧ l.length = n ∧ TakeK s l fun cs s' => ∀ b, K ((s'.addO [(100 * (β + i.d.getD 0), .box b ty cs)]).put i.d (.c (.bp (100 * (β + i.d.getD 0)) 0 b)))
  | .bsl e size _ ks ps => ∃ l, catA s ps = some l ∧ TakeK s l fun cs s' => ∃ ds, datumL ks cs = some ds ∧ ∀ η, K ((s'.addO [(100 * (β + i.d.getD 0), .loose (.sl size e ds) η)]).put i.d (.c (.h (100 * (β + i.d.getD 0)) 0 [] (η []))))
  | .st n ks a x => i.d = none ∧ ∃ l, (s.ev x).cells = some l ∧ l.length = n ∧ TakeK s l fun cs s' => match s.ev a with
    | .c (.bp g c b) => ∃ ty ds, s'.o g = .box b ty ds ∧ c + n ≤ ds.length ∧ K (s'.setO g (.box b ty (setAt ds c cs)))
    | .c (.ep g c p k hx) => 0 < n ∧ ∃ ds, datumL ks cs = some ds ∧ ∃ d0 η dd, (s'.o g).own c = some (d0, η) ∧ η p = hx ∧ D.get p d0 = some dd ∧ dd.isSl = true ∧ k + n ≤ dd.cells.length ∧
        stH (flatB ds && flatB ((dd.cells.drop k).take n)) p k n η fun η' => K (s'.setO g ((s'.o g).putOwn c (D.put p k ds d0) η'))
    | _ => False
  | .app e size bytes x y => SrcK s size (s.ev y) fun ys s1 => DestK s1 e size (s.ev x) fun xs s2 => xs.length / size + ys.length / size ≤ maxLen ∧ (xs.length / size + ys.length / size) * bytes ≤ 140737488355328 ∧
      ∀ η, K ((s2.addO [(100 * (β + i.d.getD 0), .loose (.sl size e (xs ++ ys)) η)]).put i.d (.c (.h (100 * (β + i.d.getD 0)) 0 [] (η []))))
  | .apps e x y => ∃ b, s.ev y = .c (.v (.string b)) ∧ DestK s e 1 (s.ev x) fun xs s2 => xs.length + b.size ≤ 140737488355328 ∧
      ∀ η, K ((s2.addO [(100 * (β + i.d.getD 0), .loose (.sl 1 e (xs ++ strCells b)) η)]).put i.d (.c (.h (100 * (β + i.d.getD 0)) 0 [] (η []))))
  | .clr size zs x => i.d = none ∧ match s.ev x with
    | .c (.v (.slice none 0 0)) => K s
    | .c (.hs g c p hx sz lo n) => sz = size ∧ 0 < n ∧ ∃ d0 η dd, (s.o g).own c = some (d0, η) ∧ η p = hx ∧ D.get p d0 = some dd ∧ dd.isSl = true ∧ dd.size = sz ∧ lo + n ≤ dd.len ∧
        stH (flatB (List.replicate n zs).flatten && flatB ((dd.cells.drop (lo * sz)).take (n * sz))) p (lo * sz) (n * sz) η fun η' => K (s.setO g ((s.o g).putOwn c (D.put p (lo * sz) (List.replicate n zs).flatten d0) η'))
    | _ => False
  | .call f args => (∃ rt, ∀ st, ∃ av os, Gen P s (β + i.d.getD 0) rt st (.call f args) av os ∧ K ((s.addO os).put i.d av)) ∨
      (Turns P f (args.map s.ev) s.o fun rt o' => ∀ η : Nat → Heads, K (((⟨s.t, o'⟩ : St).addO (objL (100 * (β + i.d.getD 0)) η 0 rt.flat)).put i.d (rt.av (100 * (β + i.d.getD 0)) η))) ∨
      Inl P f (args.map s.ev) s.o fun av o' => K (St.put ⟨s.t, o'⟩ i.d av)
  | .callv x args => (∃ rt, ∀ st, ∃ av os, Gen P s (β + i.d.getD 0) rt st (.callv x args) av os ∧ K ((s.addO os).put i.d av)) ∨
      ∃ f caps, s.ev x = .fn f caps ∧ Turns P f (args.map s.ev ++ caps.map .c) s.o fun rt o' => ∀ η : Nat → Heads, K (((⟨s.t, o'⟩ : St).addO (objL (100 * (β + i.d.getD 0)) η 0 rt.flat)).put i.d (rt.av (100 * (β + i.d.getD 0)) η))
  | j => ∃ rt, ∀ st, ∃ av os, Gen P s (β + i.d.getD 0) rt st j av os ∧ K ((s.addO os).put i.d av)
def wantA (s : St) : Option (Nat × Bool) → Option Bool
  | none => some true
  | some (t, want) => match s.t t with
    | .c (.v (.bool b)) => some (b == want)
    | .c (.v _) => some false
    | _ => none
/-- A region, in the order of the text. -/
def runL (P : Program) (β : Nat) : List Ins → St → (St → Prop) → Prop
  | [], s, K => K s
  | i :: l, s, K => match wantA s i.g with
    | some true => runI P β i s fun s' => runL P β l s' K
    | some false => runL P β l (s.put i.d (.c (.v undef))) K
    | none => False

def A0.ids : A0 → List Nat
  | .h g _ _ _ => [g]
  | .hs g _ _ _ _ _ _ => [g]
  | .bp g _ _ => [g]
  | .ep g _ _ _ _ => [g]
  | _ => []
def AV.ids : AV → List Nat
  | .c a => a.ids
  | .agg l => l.flatMap A0.ids
  | .fn _ l => l.flatMap A0.ids
  | _ => []
/-- What a quiet instruction looks at: an object, or some cells of a box (the headers alone of what they own). -/
inductive Lk where
  | ob (g : Nat)
  | cs (g c n : Nat)
def A0.looks (n : Nat) : A0 → List Lk
  | .h g _ _ _ => [.ob g]
  | .hs g _ _ _ _ _ _ => [.ob g]
  | .bp g c _ => [.cs g c n]
  | .ep g _ _ _ _ => [.ob g]
  | .v _ => []
  | .ro _ => []
  | .rp _ => []
  | .un => []
def AV.looks (n : Nat) : AV → List Lk
  | .c a => a.looks n
  | .agg _ => []
  | .fn _ _ => []
  | .tup _ => []
  | .unk => []
def I.looks (s : St) : I → List Lk
  | .ld _ n x => (s.ev x).looks n
  | .ia _ x _ => (s.ev x).ids.map .ob
  | .cv _ _ x => (s.ev x).ids.map .ob
  | .len _ x => (s.ev x).ids.map .ob
  | .sl _ x _ _ => (s.ev x).ids.map .ob
  | _ => []
def sameB (g c n : Nat) : Ob → Ob → Prop
  | .box b ty cs, .box b' ty' cs' => b = b' ∧ ty = ty' ∧ cs.length = cs'.length ∧ loadC g c ((cs.drop c).take n) = loadC g c ((cs'.drop c).take n)
  | ob, ob' => ob = ob'
def kept (s s' : St) : Lk → Prop
  | .ob g => s'.o g = s.o g
  | .cs g c n => sameB g c n (s'.o g) (s.o g)
def keep1 (s s' : St) : List Lk → Prop
  | [] => True
  | k :: l => kept s s' k ∧ keep1 s s' l
theorem sameB_rfl (g c n : Nat) (ob : Ob) : sameB g c n ob ob := by cases ob <;> first | rfl | exact ⟨rfl, rfl, rfl, rfl⟩
theorem kept_put {s : St} {d : Option Nat} {v : AV} {k : Lk} : kept s (s.put d v) k := by cases k <;> cases d <;> first | rfl | exact sameB_rfl _ _ _ _
theorem kept_put2 {s s2 : St} {d : Option Nat} {v : AV} {k : Lk} : kept (s.put d v) (s2.put d v) k ↔ kept s s2 k := by cases k <;> cases d <;> exact Iff.rfl
theorem kept_put_ {s : St} {d : Option Nat} {v : AV} {k : Lk} : kept (s.put d v) s k := by cases k <;> cases d <;> first | rfl | exact sameB_rfl _ _ _ _
/-- What those have looked at that need not have come before stays. -/
def keepL (s s' : St) (chk : List Nat) : List (Nat × List Lk) → Prop
  | [] => True
  | (p, ids) :: l => (if chk.contains p then keep1 s s' ids else True) ∧ keepL s s' chk l
def runT (P : Program) (β : Nat) : T → List (Nat × List Lk) → St → (St → Prop) → Prop
  | .done, _, s, K => K s
  | .stop, _, _, _ => True
  | .pure p i t, l, s, K => match wantA s i.g with
    | some true => runI P β i s fun s' => runT P β t ((p, i.i.looks s) :: l) s' K
    | some false => runT P β t l (s.put i.d (.c (.v undef))) K
    | none => False
  | .alt i chk t rest, l, s, K => (match wantA s i.g with
    | some true => runI P β i s fun s' => keepL s s' chk l ∧ runT P β t l s' K
    | some false => runT P β t l (s.put i.d (.c (.v undef))) K
    | none => False) ∧ runT P β rest l s K

/-- The second state says less (or names objects otherwise). -/
def Wk (s s' : St) : Prop := ∀ (B N : Nat) (w0 w : World) (a : Act) (F : Nat → List Nat), RelF B w0 N s a w F → ∃ F' : Nat → List Nat, RelF B w0 N s' a w F' ∧ ∀ g, ∀ b ∈ F' g, ∃ g', b ∈ F g'
/-- The state may be said anew, so that K. -/
def WkK (s : St) (K : St → Prop) : Prop := ∀ (B N : Nat) (w0 w : World) (a : Act) (F : Nat → List Nat), RelF B w0 N s a w F → ∃ (s' : St) (F' : Nat → List Nat), RelF B w0 N s' a w F' ∧ K s'
inductive Ex where
  | normal
  | exit (id : Nat)
  | ret
def Ex.thn (next : St → Prop) (Q : Ex → St → Prop) : Ex → St → Prop
  | .normal, s => next s
  | .exit id, s => Q (.exit id) s
  | .ret, s => Q .ret s
def Ex.inBlk (id : Nat) (Q : Ex → St → Prop) : Ex → St → Prop
  | .exit id', s => if id' = id then Q .normal s else Q (.exit id') s
  | .normal, s => Q .normal s
  | .ret, s => Q .ret s
def wpC (P : Program) (β : Nat) : C → (Ex → St → Prop) → St → Prop
  | .skip, Q, s => Q .normal s
  | .reg is, Q, s => runL P β is s (Q .normal)
  | .dreg t, Q, s => runT P β t [] s (Q .normal)
  | .seq a b, Q, s => wpC P β a (Ex.thn (wpC P β b Q) Q) s
  | .cond x a b, Q, s => ∃ t, s.ev x = .c (.v (.bool t)) ∧ (t = true → wpC P β a Q s) ∧ (t = false → wpC P β b Q s)
  | .blk id a, Q, s => wpC P β a (Ex.inBlk id Q) s
  | .loop a, Q, s => ∃ (ι : Type) (mk : ι → St) (J : ι → Prop) (μ : ι → Nat), (∃ i, J i ∧ Wk s (mk i)) ∧ ∀ i, J i → wpC P β a (Ex.thn (fun s' => ∃ i', J i' ∧ Wk s' (mk i') ∧ μ i' < μ i) Q) (mk i)
  | .gh a, Q, s => WkK s (wpC P β a Q)
  | .exit id, Q, s => Q (.exit id) s
  | .ret, Q, s => Q .ret s

def retE (rs : List R) (rt : RT) : Ex → St → Prop
  | .exit _, _ => False
  | _, s => RetQ rs rt s
/-- The end of a function that turns what it is given. -/
def RetT (rs : List R) (K : RT → (Nat → Ob) → Prop) (s : St) : Prop := resK s rs fun ps => ∃ rt, ShapeIs rt ps ∧ TakeK s (ps.flatMap (·.2)) fun cs s' => IsD cs rt.flat ∧ K rt s'.o
def turnE (rs : List R) (K : RT → (Nat → Ob) → Prop) : Ex → St → Prop
  | .exit _, _ => False
  | _, s => RetT rs K s
def St.start (args : List AV) (o : Nat → Ob) : St := ⟨fun n => (args[n]?).getD .unk, o⟩
/-- The end of a function whose code stands in the caller. -/
def RetI (rs : List R) (K : AV → (Nat → Ob) → Prop) (s : St) : Prop := resK s rs fun ps => match ps with
  | [(true, l)] => K (.agg l) s.o
  | [(false, [a])] => K (.c a) s.o
  | [] => K (.tup []) s.o
  | p :: q :: r => K (.tup (p :: q :: r)) s.o
  | _ => False
def inlE (rs : List R) (K : AV → (Nat → Ob) → Prop) : Ex → St → Prop
  | .exit _, _ => False
  | _, s => RetI rs K s
end Go.Proofs.YtnhdcbhcocgjhaaGreat
namespace Go.Proofs.YtnhdcbhcocgjhaaGreat
open Go.RowKit

structure Ed where
  src : Int
  dst : Int
  deriving DecidableEq, Inhabited
structure Pl where
  prio : Int
  most : Int
  wait : Int
  tasks : Int
  edges : List Ed
  deriving DecidableEq, Inhabited
structure En where
  prio : Int
  seq : Int
  run : Int
  task : Int
  deriving DecidableEq, Inhabited
structure Tk where
  state : Int
  need : Int
  tri : Int
  til : Int
  deriving DecidableEq, Inhabited
structure Rn where
  id : Int
  plan : Pl
  state : Int
  tasks : List Tk
  deriving DecidableEq, Inhabited
structure Yd where
  now : Int
  seq : Int
  shelf : List (List En)
  runs : List Rn
  deriving DecidableEq, Inhabited
structure Dd where
  kind : Int
  run : Int
  plan : Pl
  task : Int
  tri : Int
  worker : Int
  draw : Int
  deriving DecidableEq, Inhabited
structure Nt where
  seq : Int
  deed : Dd
  deriving DecidableEq, Inhabited

abbrev tEdS : TypeId := 75
abbrev tTkS : TypeId := 78
abbrev tRnS : TypeId := 28
abbrev tSh : TypeId := 27
abbrev tEd : TypeId := 182
abbrev tEn : TypeId := 108
abbrev tTk : TypeId := 98
abbrev tRn : TypeId := 80
abbrev tEnS : TypeId := 103
abbrev tYd : TypeId := 30
abbrev tInt : TypeId := 3

abbrev iv (n : Int) : D := .val (.int .i64 n)
def encInts (l : List Int) : D := .sl 1 tInt (l.flatMap fun n => [iv n])
def encEd (e : Ed) : List D := [iv e.src, iv e.dst]
def encEds (l : List Ed) : D := .sl 2 tEd (l.flatMap encEd)
def encPl (p : Pl) : List D := [iv p.prio, iv p.most, iv p.wait, iv p.tasks, encEds p.edges]
def encEn (e : En) : List D := [iv e.prio, iv e.seq, iv e.run, iv e.task]
def encEns (l : List En) : D := .sl 4 tEn (l.flatMap encEn)
def encTk (t : Tk) : List D := [iv t.state, iv t.need, iv t.tri, iv t.til]
def encTks (l : List Tk) : D := .sl 4 tTk (l.flatMap encTk)
def encRn (r : Rn) : List D := iv r.id :: (encPl r.plan ++ [iv r.state, encTks r.tasks])
def encRns (l : List Rn) : D := .sl 8 tRn (l.flatMap encRn)
def encSh (l : List (List En)) : D := .sl 1 tEnS (l.flatMap fun es => [encEns es])
def encYd (y : Yd) : List D := [iv y.now, iv y.seq, encSh y.shelf, encRns y.runs]
def encDd (d : Dd) : List D := iv d.kind :: iv d.run :: (encPl d.plan ++ [iv d.task, iv d.tri, iv d.worker, iv d.draw])
def encNt (n : Nt) : List D := iv n.seq :: encDd n.deed
section
variable {w : World} {own : Bool} {vs : List Value} {v : Value} {S : List Nat}

theorem en_cells {e : En} (h : RepL w own (encEn e) vs S) : vs = [.int .i64 e.prio, .int .i64 e.seq, .int .i64 e.run, .int .i64 e.task] ∧ S = [] := by
  obtain ⟨_, rfl, g1⟩ := RepL.val_inv h
  obtain ⟨_, rfl, g2⟩ := RepL.val_inv g1
  obtain ⟨_, rfl, g3⟩ := RepL.val_inv g2
  obtain ⟨_, rfl, g4⟩ := RepL.val_inv g3
  obtain ⟨rfl, rfl⟩ := g4
  exact ⟨rfl, rfl⟩
theorem tk_cells {e : Tk} (h : RepL w own (encTk e) vs S) : vs = [.int .i64 e.state, .int .i64 e.need, .int .i64 e.tri, .int .i64 e.til] ∧ S = [] := by
  obtain ⟨_, rfl, g1⟩ := RepL.val_inv h
  obtain ⟨_, rfl, g2⟩ := RepL.val_inv g1
  obtain ⟨_, rfl, g3⟩ := RepL.val_inv g2
  obtain ⟨_, rfl, g4⟩ := RepL.val_inv g3
  obtain ⟨rfl, rfl⟩ := g4
  exact ⟨rfl, rfl⟩
theorem ed_cells {e : Ed} (h : RepL w own (encEd e) vs S) : vs = [.int .i64 e.src, .int .i64 e.dst] ∧ S = [] := by
  obtain ⟨_, rfl, g1⟩ := RepL.val_inv h
  obtain ⟨_, rfl, g2⟩ := RepL.val_inv g1
  obtain ⟨rfl, rfl⟩ := g2
  exact ⟨rfl, rfl⟩
theorem pl_cells {p : Pl} (h : RepL w own (encPl p) vs S) : ∃ ev, vs = [.int .i64 p.prio, .int .i64 p.most, .int .i64 p.wait, .int .i64 p.tasks, ev] ∧ Rep w own (encEds p.edges) ev S := by
  obtain ⟨_, rfl, g1⟩ := RepL.val_inv h
  obtain ⟨_, rfl, g2⟩ := RepL.val_inv g1
  obtain ⟨_, rfl, g3⟩ := RepL.val_inv g2
  obtain ⟨_, rfl, g4⟩ := RepL.val_inv g3
  obtain ⟨ev, _, S1, S2, rfl, rfl, h1, rfl, rfl⟩ := g4
  exact ⟨ev, rfl, by simpa using h1⟩
theorem rn_cells {r : Rn} (h : RepL w own (encRn r) vs S) : ∃ ev tv S1 S2, vs = [.int .i64 r.id, .int .i64 r.plan.prio, .int .i64 r.plan.most, .int .i64 r.plan.wait, .int .i64 r.plan.tasks, ev, .int .i64 r.state, tv]
    ∧ Rep w own (encEds r.plan.edges) ev S1 ∧ Rep w own (encTks r.tasks) tv S2 ∧ S = S1 ++ S2 := by
  obtain ⟨_, rfl, g1⟩ := RepL.val_inv h
  obtain ⟨v1, v2, S1, S2, rfl, rfl, h1, h2⟩ := RepL.append_inv _ g1
  obtain ⟨ev, rfl, k1⟩ := pl_cells h1
  obtain ⟨_, rfl, g2⟩ := RepL.val_inv h2
  obtain ⟨tv, _, S3, S4, rfl, rfl, h3, rfl, rfl⟩ := g2
  exact ⟨ev, tv, S1, S3, rfl, k1, h3, by simp⟩
theorem yd_cells {y : Yd} (h : RepL w own (encYd y) vs S) : ∃ sv rv S1 S2, vs = [.int .i64 y.now, .int .i64 y.seq, sv, rv] ∧ Rep w own (encSh y.shelf) sv S1 ∧ Rep w own (encRns y.runs) rv S2 ∧ S = S1 ++ S2 := by
  obtain ⟨_, rfl, g1⟩ := RepL.val_inv h
  obtain ⟨_, rfl, g2⟩ := RepL.val_inv g1
  obtain ⟨sv, _, S1, S2, rfl, rfl, h1, k⟩ := g2
  obtain ⟨rv, _, S3, S4, rfl, rfl, h3, rfl, rfl⟩ := k
  exact ⟨sv, rv, S1, S3, rfl, h1, h3, by simp⟩
theorem en_mk (w : World) (own : Bool) (e : En) : RepL w own (encEn e) [.int .i64 e.prio, .int .i64 e.seq, .int .i64 e.run, .int .i64 e.task] [] := RepL.val_ (RepL.val_ (RepL.val_ (RepL.val_ RepL.nil_)))
theorem tk_mk (w : World) (own : Bool) (e : Tk) : RepL w own (encTk e) [.int .i64 e.state, .int .i64 e.need, .int .i64 e.tri, .int .i64 e.til] [] := RepL.val_ (RepL.val_ (RepL.val_ (RepL.val_ RepL.nil_)))
theorem ed_mk (w : World) (own : Bool) (e : Ed) : RepL w own (encEd e) [.int .i64 e.src, .int .i64 e.dst] [] := RepL.val_ (RepL.val_ RepL.nil_)
theorem pl_mk {p : Pl} {ev : Value} (h : Rep w own (encEds p.edges) ev S) : RepL w own (encPl p) [.int .i64 p.prio, .int .i64 p.most, .int .i64 p.wait, .int .i64 p.tasks, ev] S := by
  have := RepL.val_ (u := .int .i64 p.prio) (RepL.val_ (u := .int .i64 p.most) (RepL.val_ (u := .int .i64 p.wait) (RepL.val_ (u := .int .i64 p.tasks) (RepL.cons_ h (RepL.nil_ (w := w) (own := own))))))
  rwa [List.append_nil] at this
theorem rn_mk {r : Rn} {ev tv : Value} {S1 S2 : List Nat} (h : Rep w own (encEds r.plan.edges) ev S1) (h2 : Rep w own (encTks r.tasks) tv S2) :
    RepL w own (encRn r) [.int .i64 r.id, .int .i64 r.plan.prio, .int .i64 r.plan.most, .int .i64 r.plan.wait, .int .i64 r.plan.tasks, ev, .int .i64 r.state, tv] (S1 ++ S2) := by
  have := RepL.val_ (u := .int .i64 r.id) (RepL.append_ _ (pl_mk h) (RepL.val_ (u := .int .i64 r.state) (RepL.cons_ h2 (RepL.nil_ (w := w) (own := own)))))
  rwa [List.append_nil] at this
theorem yd_mk {y : Yd} {sv rv : Value} {S1 S2 : List Nat} (h : Rep w own (encSh y.shelf) sv S1) (h2 : Rep w own (encRns y.runs) rv S2) :
    RepL w own (encYd y) [.int .i64 y.now, .int .i64 y.seq, sv, rv] (S1 ++ S2) := by
  have := RepL.val_ (u := .int .i64 y.now) (RepL.val_ (u := .int .i64 y.seq) (RepL.cons_ h (RepL.cons_ h2 (RepL.nil_ (w := w) (own := own)))))
  rwa [List.append_nil] at this
theorem encRn_len (r : Rn) : (encRn r).length = 8 := rfl
end
/-- Two lists that agree up to k, and at k. -/
theorem eqS_step {α : Type} {l m : List α} {k : Nat} {x : α} (hx : l[k]? = some x) (hy : m[k]? = some x) (h : l.take k = m.take k) : l.take (k+1) = m.take (k+1) := by
  rw [List.take_add_one, List.take_add_one, h, hx, hy]
theorem eqS_ne {α : Type} {l m : List α} {k : Nat} {x y : α} (hx : l[k]? = some x) (hy : m[k]? = some y) (h : x ≠ y) : l ≠ m := by
  intro e; subst e; rw [hx] at hy; exact h (Option.some.inj hy)
theorem eqS_done {α : Type} {l m : List α} {k : Nat} (hl : l.length ≤ k) (hm : m.length ≤ k) (h : l.take k = m.take k) : l = m := by
  rwa [List.take_of_length_le hl, List.take_of_length_le hm] at h
theorem get_some {α : Type} {l : List α} {k : Nat} (h : k < l.length) : ∃ x, l[k]? = some x := ⟨l[k], List.getElem?_eq_getElem h⟩

theorem ret_bool {b b' : Bool} (h : b = b') : Ending.returned (.bool b) = Ending.returned (.bool b') := by rw [h]

theorem info_of {P : Program} {e : TypeId} {size bytes : Nat} {z : Value} (h : (P.info? e).map (fun i => (i.zero, i.size, i.bytes)) = some (some z, size, bytes)) :
    ∃ i zv, P.info? e = some i ∧ i.zero = some zv ∧ zv.cells = z.cells ∧ i.size = size ∧ i.bytes = bytes := by
  cases hq : P.info? e with
  | none => rw [hq] at h; simp at h
  | some i =>
    rw [hq] at h
    simp at h
    exact ⟨i, z, rfl, h.1, rfl, h.2.1, h.2.2⟩
/-- A list that is being copied, place by place. -/
def half {α : Type} (l : List α) (z : α) (k : Nat) : List α := l.take k ++ List.replicate (l.length - k) z
theorem half_zero {α : Type} (l : List α) (z : α) : half l z 0 = List.replicate l.length z := by simp [half]
theorem half_len {α : Type} (l : List α) (z : α) (k : Nat) (h : k ≤ l.length) : (half l z k).length = l.length := by simp [half]; omega
theorem half_all {α : Type} (l : List α) (z : α) : half l z l.length = l := by simp [half]
theorem half_set {α : Type} {l : List α} {z x : α} {k : Nat} (hx : l[k]? = some x) : (half l z k).set k x = half l z (k + 1) := by
  have hk : k < l.length := (List.getElem?_eq_some_iff.1 hx).1
  have hx' : l[k] = x := by rw [List.getElem?_eq_getElem hk] at hx; exact Option.some.inj hx
  unfold half
  rw [List.set_append_right _ _ (by rw [List.length_take]; exact Nat.min_le_left _ _), List.length_take, Nat.min_eq_left (by omega), Nat.sub_self]
  obtain ⟨m, hm⟩ : ∃ m, l.length - k = m + 1 := ⟨l.length - k - 1, by omega⟩
  rw [hm, List.replicate_succ, List.set_cons_zero, List.take_succ_eq_append_getElem hk, hx', List.append_assoc, show l.length - (k + 1) = m by omega]
  rfl

/-- A call that returns a bool, the bool said anew. -/
theorem cb {P : Program} {f : FuncId} {args : Array Value} {w : World} {b b' : Bool} (h : Calls P f args w fun e w' => e = .returned (.bool b) ∧ Below w.heap.size w w') (hb : b = b') : Calls P f args w fun e w' => e = .returned (.bool b') ∧ Below w.heap.size w w' := by subst hb; exact h
theorem bcell {W w1 : World} (hb : Below W.heap.size W w1) : (∀ b o, b < W.heap.size → w1.cell? ⟨b, o, none⟩ = W.cell? ⟨b, o, none⟩) ∧ (∀ b o, b < W.heap.size → w1.frozen? ⟨b, o, none⟩ = W.frozen? ⟨b, o, none⟩) :=
  ⟨fun b o h => hb.cell (p := ⟨b, o, none⟩) h, fun b o h => hb.frozen (p := ⟨b, o, none⟩) h⟩

theorem keep_set {w : World} {own : Bool} {d : D} {v : Value} {S : List Nat} {p : Addr} {u : Value} (h : Rep w own d v S) (hp : ∀ b ∈ S, b ≠ p.block) : Rep (w.setCell p u) own d v S :=
  Rep.keep d h fun b hb => Below.heap_setCell w p u b (hp b hb)
theorem Rep.form {w : World} {own : Bool} {size : Nat} {ty : TypeId} {cs : List D} {v : Value} {S : List Nat} (h : Rep w own (.sl size ty cs) v S) : ∃ A n c, v = .slice A n c := by
  obtain ⟨vs, T, S', hr, _, _⟩ := h
  obtain ⟨_, A, n, c, rfl, _⟩ := hr.ro
  exact ⟨A, n, c, rfl⟩

def tsum {α : Type} (tot : α → Nat) (l : List α) : Nat := (l.map tot).sum
theorem tsum_append {α : Type} (tot : α → Nat) (l m : List α) : tsum tot (l ++ m) = tsum tot l + tsum tot m := by simp [tsum]
theorem tsum_succ {α : Type} {tot : α → Nat} {l : List α} {k : Nat} {x : α} (h : l[k]? = some x) : tsum tot (l.take (k + 1)) = tsum tot (l.take k) + tot x := by
  rw [List.take_add_one, h, tsum_append]; simp [tsum]
theorem tsum_le {α : Type} (tot : α → Nat) (l : List α) (k : Nat) : tsum tot (l.take k) ≤ tsum tot l := by
  conv => rhs; rw [← List.take_append_drop k l, tsum_append]
  exact Nat.le_add_right _ _
theorem tsum_get {α : Type} {tot : α → Nat} {l : List α} {k : Nat} {x : α} (h : l[k]? = some x) : tot x ≤ tsum tot l := by
  have h1 := tsum_succ (tot := tot) h
  have h2 := tsum_le tot l (k + 1)
  omega
def totPl (p : Pl) : Nat := p.edges.length
def totRn (r : Rn) : Nat := totPl r.plan + r.tasks.length
def totEnS (l : List En) : Nat := l.length
def totSh (l : List (List En)) : Nat := l.length + tsum totEnS l
def totRns (l : List Rn) : Nat := l.length + tsum totRn l
def totYd (y : Yd) : Nat := totSh y.shelf + totRns y.runs
def szf (tot : Nat) (left : Int) : Int := if (tot : Int) ≤ left then left - tot else -1
theorem szf_spec (tot : Nat) (left : Int) : ((tot : Int) ≤ left ∧ szf tot left = left - tot) ∨ (left < tot ∧ szf tot left = -1) := by
  unfold szf; split
  · exact .inl ⟨by assumption, rfl⟩
  · exact .inr ⟨by omega, rfl⟩
theorem ret_int {a b : Int} (h : a = b) : Ending.returned (.int .i64 a) = Ending.returned (.int .i64 b) := by rw [h]

/-- A cell of an owned row of one-cell elements. -/
theorem own_cell {α : Type} {enc : α → List D} {w : World} {ty : TypeId} {xs : List α} {S : List Nat} {g n c k : Nat} (hl : ∀ x, (enc x).length = 1) (h : Rep w true (.sl 1 ty (xs.flatMap enc)) (.slice (some ⟨g, 0, none⟩) n c) S) (hk : k < xs.length) :
    (∃ u, w.cell? ⟨g, k, none⟩ = some u) ∧ w.frozen? ⟨g, k, none⟩ = false := by
  obtain ⟨vs, S1, hown, hrl, rfl⟩ := Rep.own hl (by decide) h
  have hn : n = xs.length := by
    rcases hown.2 with ⟨e, _⟩ | ⟨g', cap', cur, e, _⟩
    · cases e
    · simp only [Value.slice.injEq] at e; exact e.2.1
  subst hn
  have := own_there hown k 1 (by omega) 0 (by omega)
  exact ⟨Option.isSome_iff_exists.1 (by simpa using this.1), by simpa using this.2⟩
end Go.Proofs.YtnhdcbhcocgjhaaGreat
namespace Go.Proofs.YtnhdcbhcocgjhaaGreat

def runIx (rs : List Rn) (id : Int) : Int := match rs.findIdx? (fun r => r.id == id) with
  | some k => k
  | none => -1
def runAt (y : Yd) (id : Int) : Int := if 8 < y.runs.length then -1 else runIx y.runs id
theorem runIx_found {rs : List Rn} {id : Int} {k : Nat} {x : Rn} (hx : rs[k]? = some x) (h : x.id = id) (hno : ∀ j, j < k → ∀ z, rs[j]? = some z → z.id ≠ id) : runIx rs id = k := by
  have hk : k < rs.length := (List.getElem?_eq_some_iff.1 hx).1
  have : rs.findIdx? (fun r => r.id == id) = some k := by
    rw [List.findIdx?_eq_some_iff_getElem]
    refine ⟨hk, ?_, fun j hj => ?_⟩
    · rw [List.getElem?_eq_getElem hk] at hx
      simp only [Option.some.injEq] at hx
      simp [hx, h]
    · have := hno j hj rs[j] (List.getElem?_eq_getElem (by omega))
      simpa using this
  simp [runIx, this]
theorem runIx_none {rs : List Rn} {id : Int} (hno : ∀ j, j < rs.length → ∀ z, rs[j]? = some z → z.id ≠ id) : runIx rs id = -1 := by
  have : rs.findIdx? (fun r => r.id == id) = none := by
    rw [List.findIdx?_eq_none_iff]
    intro x hx
    obtain ⟨j, hj, rfl⟩ := List.getElem_of_mem hx
    simpa using hno j hj rs[j] (List.getElem?_eq_getElem hj)
  simp [runIx, this]
/-- What RunAt finds. -/
theorem runIx_cases (rs : List Rn) (id : Int) : (∃ (k : Nat) (x : Rn), rs[k]? = some x ∧ x.id = id ∧ (∀ j, j < k → ∀ z, rs[j]? = some z → z.id ≠ id) ∧ runIx rs id = k) ∨ ((∀ x ∈ rs, x.id ≠ id) ∧ runIx rs id = -1) := by
  cases h : rs.findIdx? (fun r => r.id == id) with
  | none =>
    right
    rw [List.findIdx?_eq_none_iff] at h
    have h' : ∀ x ∈ rs, x.id ≠ id := fun x hx => by simpa using h x hx
    exact ⟨h', runIx_none fun j hj z hz => h' z (List.mem_of_getElem? hz)⟩
  | some k =>
    left
    rw [List.findIdx?_eq_some_iff_getElem] at h
    obtain ⟨hk, h1, h2⟩ := h
    have hx : rs[k]? = some rs[k] := List.getElem?_eq_getElem hk
    have h1' : rs[k].id = id := by simpa using h1
    have hno : ∀ j, j < k → ∀ z, rs[j]? = some z → z.id ≠ id := fun j hj z hz => by
      have := h2 j hj
      rw [List.getElem?_eq_getElem (by omega)] at hz
      simp only [Option.some.injEq] at hz
      subst hz
      simpa using this
    exact ⟨k, rs[k], hx, h1', hno, runIx_found hx h1' hno⟩

def taskAt (y : Yd) (id task : Int) : Option Tk :=
  if runAt y id < 0 then none else match y.runs[(runAt y id).toNat]? with
  | some r => if 0 ≤ task then r.tasks[task.toNat]? else none
  | none => none
def fresh (y : Yd) (e : En) : Bool := match taskAt y e.run e.task with
  | some t => t.state == 2
  | none => false
def holds (y : Yd) (id task tri : Int) : Bool := match taskAt y id task with
  | some t => t.state == 3 && t.tri == tri
  | none => false
/-- The three ways of a look for a task. -/
theorem taskAt_cases (y : Yd) (id task : Int) : (runAt y id = -1 ∧ taskAt y id task = none) ∨
    (∃ (k : Nat) (r : Rn), runAt y id = k ∧ y.runs[k]? = some r ∧ ((¬ (0 ≤ task ∧ task ≤ (r.tasks.length : Int) - 1) ∧ taskAt y id task = none) ∨
      (∃ (j : Nat) (t : Tk), task = j ∧ r.tasks[j]? = some t ∧ taskAt y id task = some t))) := by
  have h1 : runAt y id = -1 ∨ ∃ (k : Nat) (r : Rn), runAt y id = k ∧ y.runs[k]? = some r := by
    unfold runAt
    split
    · exact .inl rfl
    · rcases runIx_cases y.runs id with ⟨k, x, hx, _, _, he⟩ | ⟨_, he⟩
      · exact .inr ⟨k, x, he, hx⟩
      · exact .inl he
  rcases h1 with h | ⟨k, r, h, hr⟩
  · exact .inl ⟨h, by unfold taskAt; rw [if_pos (by omega)]⟩
  · right
    refine ⟨k, r, h, hr, ?_⟩
    have e : taskAt y id task = if 0 ≤ task then r.tasks[task.toNat]? else none := by
      unfold taskAt
      rw [if_neg (by omega), h, Int.toNat_natCast, hr]
    by_cases h0 : 0 ≤ task
    · rw [if_pos h0] at e
      by_cases hl : task.toNat < r.tasks.length
      · right
        exact ⟨task.toNat, r.tasks[task.toNat], by omega, List.getElem?_eq_getElem hl, by rw [e, List.getElem?_eq_getElem hl]⟩
      · left
        exact ⟨by omega, by rw [e, List.getElem?_eq_none (by omega)]⟩
    · left
      rw [if_neg h0] at e
      exact ⟨by omega, e⟩

def liveN (r : Rn) : Nat := if r.state = 1 then r.tasks.length else 0
def staleN (y : Yd) (l : List En) : Nat := l.countP (fun e => !fresh y e)
def allEn (y : Yd) : List En := y.shelf.flatten
def slotsOf (y : Yd) : Int := tsum liveN y.runs + staleN y (allEn y)
theorem tsum_live (l : List Rn) : tsum liveN l ≤ tsum totRn l := by
  induction l with
  | nil => simp [tsum]
  | cons r l ih =>
    have h : liveN r ≤ totRn r := by unfold liveN totRn; split <;> omega
    simp only [tsum, List.map_cons, List.sum_cons] at *
    omega
theorem len_flatten (l : List (List En)) : l.flatten.length = tsum totEnS l := by
  induction l with
  | nil => simp [tsum]
  | cons r l ih => simp only [List.flatten_cons, List.length_append, tsum, List.map_cons, List.sum_cons, totEnS] at *; omega
theorem stale_le (y : Yd) (l : List En) : staleN y l ≤ l.length := List.countP_le_length
theorem stale_succ {y : Yd} {l : List En} {k : Nat} {e : En} (h : l[k]? = some e) : staleN y (l.take (k + 1)) = staleN y (l.take k) + (if fresh y e then 0 else 1) := by
  unfold staleN
  rw [List.take_add_one, h, List.countP_append]
  cases hf : fresh y e <;> simp [hf]
theorem stale_take (y : Yd) (l : List En) (k : Nat) : staleN y (l.take k) ≤ staleN y l := by
  unfold staleN
  exact (List.take_sublist k l).countP_le
theorem flatten_take_succ {l : List (List En)} {k : Nat} {es : List En} (h : l[k]? = some es) : (l.take (k + 1)).flatten = (l.take k).flatten ++ es := by
  rw [List.take_add_one, h, List.flatten_append]; simp
end Go.Proofs.YtnhdcbhcocgjhaaGreat
set_option linter.unusedSimpArgs false
set_option linter.unusedVariables false
namespace Go.Proofs.YtnhdcbhcocgjhaaGreat
open Go.RowKit Go.Sort

section
variable {P : Program} {β : Nat} {s : St} {K : St → Prop} {Q : Ex → St → Prop} {d : Option Nat} {g : Option (Nat × Bool)}
theorem ev_t (n : Nat) : s.ev (.t n) = s.t n := rfl
theorem ev_i (k : IntKind) (n : Int) : s.ev (.c (.int k n)) = .c (.v (.int k n)) := rfl
theorem ev_b (b : Bool) : s.ev (.c (.bool b)) = .c (.v (.bool b)) := rfl
theorem ev_s (b : ByteArray) : s.ev (.c (.string b)) = .c (.v (.string b)) := rfl
theorem ev_n : s.ev (.c (.slice none 0 0)) = .c (.v (.slice none 0 0)) := rfl
theorem put_t (k n : Nat) (v : AV) : (s.put (some k) v).t n = if n = k then v else s.t n := rfl
theorem put_o (v : AV) (n : Nat) : (s.put d v).o n = s.o n := by cases d <;> rfl
theorem setO_t (k : Nat) (ob : Ob) (n : Nat) : (s.setO k ob).t n = s.t n := rfl
theorem setO_o (k : Nat) (ob : Ob) (n : Nat) : (s.setO k ob).o n = if n = k then ob else s.o n := rfl
theorem addO_nil : s.addO [] = s := rfl
theorem addO_cons (k : Nat) (ob : Ob) (l : List (Nat × Ob)) : s.addO ((k, ob) :: l) = (s.setO k ob).addO l := rfl
theorem wp_skip_ : wpC P β .skip Q s = Q .normal s := rfl
theorem wp_reg (is : List Ins) : wpC P β (.reg is) Q s = runL P β is s (Q .normal) := rfl
theorem wp_seq_ (a b : C) : wpC P β (.seq a b) Q s = wpC P β a (Ex.thn (wpC P β b Q) Q) s := rfl
theorem wp_blk (id : Nat) (a : C) : wpC P β (.blk id a) Q s = wpC P β a (Ex.inBlk id Q) s := rfl
theorem wp_exit_ (id : Nat) : wpC P β (.exit id) Q s = Q (.exit id) s := rfl
theorem wp_ret_ : wpC P β .ret Q s = Q .ret s := rfl
theorem wp_cond_t {x : X} (a b : C) (h : s.ev x = .c (.v (.bool true))) : wpC P β (.cond x a b) Q s = wpC P β a Q s := by simp [wpC, h]
theorem wp_cond_f {x : X} (a b : C) (h : s.ev x = .c (.v (.bool false))) : wpC P β (.cond x a b) Q s = wpC P β b Q s := by simp [wpC, h]
theorem thn_n (next : St → Prop) : Ex.thn next Q .normal s = next s := rfl
theorem thn_e (next : St → Prop) (id : Nat) : Ex.thn next Q (.exit id) s = Q (.exit id) s := rfl
theorem thn_r (next : St → Prop) : Ex.thn next Q .ret s = Q .ret s := rfl
theorem blk_n (id : Nat) : Ex.inBlk id Q .normal s = Q .normal s := rfl
theorem blk_r (id : Nat) : Ex.inBlk id Q .ret s = Q .ret s := rfl
theorem blk_e (id id' : Nat) : Ex.inBlk id Q (.exit id') s = if id' = id then Q .normal s else Q (.exit id') s := rfl
theorem run_nil_ : runL P β [] s K = K s := rfl
theorem run_cons_ (i : I) (l : List Ins) : runL P β (⟨d, none, i⟩ :: l) s K = runI P β ⟨d, none, i⟩ s (fun s' => runL P β l s' K) := rfl
theorem run_gtt {t : Nat} (i : I) (l : List Ins) (h : s.t t = .c (.v (.bool true))) : runL P β (⟨d, some (t, true), i⟩ :: l) s K = runI P β ⟨d, some (t, true), i⟩ s (fun s' => runL P β l s' K) := by simp [runL, wantA, h]
theorem run_gtf {t : Nat} (i : I) (l : List Ins) (h : s.t t = .c (.v (.bool false))) : runL P β (⟨d, some (t, true), i⟩ :: l) s K = runL P β l (s.put d (.c (.v undef))) K := by simp [runL, wantA, h]
theorem run_gft {t : Nat} (i : I) (l : List Ins) (h : s.t t = .c (.v (.bool true))) : runL P β (⟨d, some (t, false), i⟩ :: l) s K = runL P β l (s.put d (.c (.v undef))) K := by simp [runL, wantA, h]
theorem run_gff {t : Nat} (i : I) (l : List Ins) (h : s.t t = .c (.v (.bool false))) : runL P β (⟨d, some (t, false), i⟩ :: l) s K = runI P β ⟨d, some (t, false), i⟩ s (fun s' => runL P β l s' K) := by simp [runL, wantA, h]
def I.writes : I → Bool
  | .box .. | .bsl .. | .st .. | .app .. | .apps .. | .clr .. | .call .. | .callv .. => true
  | _ => false
theorem gen_eq {i : I} {av : AV} {os : List (Nat × Ob)} (hw : i.writes = false) (h : ∀ rt st av' os', Gen P s (β + d.getD 0) rt st i av' os' ↔ av' = av ∧ os' = os) :
    runI P β ⟨d, g, i⟩ s K = K ((s.addO os).put d av) := by
  have e : runI P β ⟨d, g, i⟩ s K = (∃ rt, ∀ st, ∃ av os, Gen P s (β + d.getD 0) rt st i av os ∧ K ((s.addO os).put d av)) := by
    cases i <;> first | rfl | cases hw
  rw [e]
  apply propext
  constructor
  · rintro ⟨rt, h1⟩
    obtain ⟨av', os', h2, h3⟩ := h1 ⟨0, fun _ _ => undef⟩
    obtain ⟨rfl, rfl⟩ := (h _ _ _ _).1 h2
    exact h3
  · intro h1
    exact ⟨.c (.val undef), fun st => ⟨_, _, (h _ _ _ _).2 ⟨rfl, rfl⟩, h1⟩⟩
theorem gen_v {i : I} {av : AV} (hw : i.writes = false) (h : ∀ rt st av' os', Gen P s (β + d.getD 0) rt st i av' os' ↔ av' = av ∧ os' = []) : runI P β ⟨d, g, i⟩ s K = K (s.put d av) := gen_eq hw h
theorem run_mov (x : X) : runI P β ⟨d, g, .mov x⟩ s K = K (s.put d (s.ev x)) := gen_v rfl fun _ _ _ _ => Iff.rfl
/-- Where no object is made, and the value is told. -/
theorem gen_f {i : I} {p : Prop} {av : AV} (hw : i.writes = false) (h : ∀ rt st av' os', Gen P s (β + d.getD 0) rt st i av' os' ↔ p ∧ av' = av ∧ os' = []) : runI P β ⟨d, g, i⟩ s K = (p ∧ K (s.put d av)) := by
  by_cases hp : p
  · rw [gen_v hw (av := av) fun rt st av' os' => by rw [h]; simp [hp]]; simp [hp]
  · have e : runI P β ⟨d, g, i⟩ s K = (∃ rt, ∀ st, ∃ av os, Gen P s (β + d.getD 0) rt st i av os ∧ K ((s.addO os).put d av)) := by
      cases i <;> first | rfl | cases hw
    rw [e]
    apply propext
    constructor
    · rintro ⟨rt, h1⟩
      obtain ⟨av', os', h2, _⟩ := h1 ⟨0, fun _ _ => undef⟩
      exact absurd ((h _ _ _ _).1 h2).1 hp
    · exact fun h => absurd h.1 hp
theorem gen_no {i : I} (hw : i.writes = false) (h : ∀ rt st av' os', ¬ Gen P s (β + d.getD 0) rt st i av' os') : runI P β ⟨d, g, i⟩ s K = False := by
  have e : runI P β ⟨d, g, i⟩ s K = (∃ rt, ∀ st, ∃ av os, Gen P s (β + d.getD 0) rt st i av os ∧ K ((s.addO os).put d av)) := by
    cases i <;> first | rfl | cases hw
  rw [e]
  apply propext
  constructor
  · rintro ⟨rt, h1⟩
    obtain ⟨av', os', h2, _⟩ := h1 ⟨0, fun _ _ => undef⟩
    exact absurd h2 (h _ _ _ _)
  · exact False.elim
def pickK (d : Option Nat) (s : St) (K : St → Prop) (c a b : AV) : Prop := match c with
  | .c (.v (.bool t)) => K (s.put d (if t then a else b))
  | _ => False
theorem run_pick (c a b : X) : runI P β ⟨d, g, .pick c a b⟩ s K = pickK d s K (s.ev c) (s.ev a) (s.ev b) := by
  unfold pickK
  split
  · exact gen_v rfl fun _ _ _ _ => by simp [Gen, *]
  · rename_i h
    exact gen_no rfl fun _ _ _ _ ⟨t, h1, _⟩ => h t h1
theorem pickK_ (t : Bool) (a b : AV) : pickK d s K (.c (.v (.bool t))) a b = K (s.put d (if t then a else b)) := rfl
def faK (d : Option Nat) (s : St) (K : St → Prop) (off : Nat) : AV → Prop
  | .c (.rp ds) => K (s.put d (.c (.rp (ds.drop off))))
  | .c (.bp g c b) => K (s.put d (.c (.bp g (c + off) b)))
  | .c (.ep g c p i x) => K (s.put d (.c (.ep g c p (i + off) x)))
  | _ => False
theorem run_fa (off : Nat) (x : X) : runI P β ⟨d, g, .fa off x⟩ s K = faK d s K off (s.ev x) := by
  cases h : s.ev x with
  | c a => cases a <;> first | exact gen_v rfl (fun _ _ _ _ => by simp [Gen, h]) | exact gen_no rfl (fun _ _ _ _ => by simp [Gen, h])
  | _ => exact gen_no rfl (fun _ _ _ _ => by simp [Gen, h])
theorem faK_rp (off : Nat) (ds : List D) : faK d s K off (.c (.rp ds)) = K (s.put d (.c (.rp (ds.drop off)))) := rfl
theorem faK_bp (off k c b : Nat) : faK d s K off (.c (.bp k c b)) = K (s.put d (.c (.bp k (c + off) b))) := rfl
theorem faK_ep (off k c : Nat) (p : List Nat) (i : Nat) (x : Value) : faK d s K off (.c (.ep k c p i x)) = K (s.put d (.c (.ep k c p (i + off) x))) := rfl
/-- What is loaded, as a value. -/
def ldV : Bool → List A0 → (AV → Prop) → Prop
  | true, l, k => k (.agg l)
  | false, [a], k => k (.c a)
  | false, _, _ => False
theorem ldV_t (l : List A0) (k : AV → Prop) : ldV true l k = k (.agg l) := rfl
theorem ldV_f (a : A0) (k : AV → Prop) : ldV false [a] k = k (.c a) := rfl
def ldB (ob : Ob) (g c b n : Nat) (k : List A0 → Prop) : Prop := match ob with
  | .box b' _ cs => b' = b ∧ c + n ≤ cs.length ∧ k (loadC g c ((cs.drop c).take n))
  | _ => False
theorem ldB_ (b' ty : Nat) (cs : List Cell) (k c b n : Nat) (K : List A0 → Prop) : ldB (.box b' ty cs) k c b n K = (b' = b ∧ c + n ≤ cs.length ∧ K (loadC k c ((cs.drop c).take n))) := rfl
def ldK (d : Option Nat) (s : St) (K : St → Prop) (agg : Bool) (n : Nat) : AV → Prop
  | .c (.rp ds) => n ≤ ds.length ∧ ldV agg ((ds.take n).map D.toRo) fun v => K (s.put d v)
  | .c (.bp g c b) => ldB (s.o g) g c b n fun l => ldV agg l fun v => K (s.put d v)
  | .c (.ep g c p i x) => ∃ d0 η dd, (s.o g).own c = some (d0, η) ∧ η p = x ∧ D.get p d0 = some dd ∧ dd.isSl = true ∧ i + n ≤ dd.cells.length ∧ ldV agg (loadE g c p η i ((dd.cells.drop i).take n)) fun v => K (s.put d v)
  | _ => False
theorem run_ld (agg : Bool) (n : Nat) (x : X) : runI P β ⟨d, g, .ld agg n x⟩ s K = ldK d s K agg n (s.ev x) := by
  have e : runI P β ⟨d, g, .ld agg n x⟩ s K = (∃ rt : RT, ∀ st : Stamp, ∃ av os, (∃ l, LoadIs s n l (s.ev x) ∧ (if agg then av = .agg l else ∃ a, l = [a] ∧ av = .c a) ∧ os = []) ∧ K ((s.addO os).put d av)) := rfl
  have h1 : ∀ l, (∃ av os, ((if agg then av = .agg l else ∃ a, l = [a] ∧ av = .c a) ∧ os = []) ∧ K ((s.addO os).put d av)) ↔ ldV agg l fun v => K (s.put d v) := fun l => by
    cases agg
    · rcases l with _ | ⟨a, _ | ⟨b, l⟩⟩
      · simp [ldV]
      · simp only [ldV]
        constructor
        · rintro ⟨_, _, ⟨h, rfl⟩, h3⟩; simp at h; subst h; exact h3
        · intro h3; exact ⟨_, _, ⟨by simp, rfl⟩, h3⟩
      · simp [ldV]
    · simp only [ldV]
      constructor
      · rintro ⟨_, _, ⟨h, rfl⟩, h3⟩; simp at h; subst h; exact h3
      · intro h3; exact ⟨_, _, ⟨by simp, rfl⟩, h3⟩
  have e2 : runI P β ⟨d, g, .ld agg n x⟩ s K ↔ ∃ l, LoadIs s n l (s.ev x) ∧ ldV agg l fun v => K (s.put d v) := by
    rw [e]
    constructor
    · rintro ⟨_, h⟩
      obtain ⟨av, os, ⟨l, h2, h3⟩, h4⟩ := h ⟨0, fun _ _ => undef⟩
      exact ⟨l, h2, (h1 l).1 ⟨av, os, h3, h4⟩⟩
    · rintro ⟨l, h2, h3⟩
      refine ⟨.c (.val undef), fun _ => ?_⟩
      obtain ⟨av, os, h4, h5⟩ := (h1 l).2 h3
      exact ⟨av, os, ⟨l, h2, h4⟩, h5⟩
  apply propext
  rw [e2]
  cases h : s.ev x with
  | c a =>
    cases a with
    | bp k c b =>
      simp only [LoadIs, ldK, ldB]
      cases ho : s.o k <;> simp
      constructor
      · rintro ⟨l, ⟨_, _, ⟨rfl, _, rfl⟩, h2, rfl⟩, h3⟩; exact ⟨rfl, h2, h3⟩
      · rintro ⟨rfl, h2, h3⟩; exact ⟨_, ⟨_, _, ⟨rfl, rfl, rfl⟩, h2, rfl⟩, h3⟩
    | rp ds =>
      simp only [LoadIs, ldK]
      constructor
      · rintro ⟨l, ⟨h2, rfl⟩, h3⟩; exact ⟨h2, h3⟩
      · rintro ⟨h2, h3⟩; exact ⟨_, ⟨h2, rfl⟩, h3⟩
    | ep k c p i x =>
      simp only [LoadIs, ldK]
      constructor
      · rintro ⟨l, ⟨d0, η, dd, h2, h3, h4, h7, h5, rfl⟩, h6⟩; exact ⟨d0, η, dd, h2, h3, h4, h7, h5, h6⟩
      · rintro ⟨d0, η, dd, h2, h3, h4, h7, h5, h6⟩; exact ⟨_, ⟨d0, η, dd, h2, h3, h4, h7, h5, rfl⟩, h6⟩
    | _ => simp [LoadIs, ldK]
  | _ => simp [LoadIs, ldK]
theorem ldK_rp (agg : Bool) (n : Nat) (ds : List D) : ldK d s K agg n (.c (.rp ds)) = (n ≤ ds.length ∧ ldV agg ((ds.take n).map D.toRo) fun v => K (s.put d v)) := rfl
theorem ldK_bp (agg : Bool) (n k c b : Nat) : ldK d s K agg n (.c (.bp k c b)) = ldB (s.o k) k c b n fun l => ldV agg l fun v => K (s.put d v) := rfl
def iaK (d : Option Nat) (s : St) (K : St → Prop) (size : Nat) : AV → AV → Prop
  | .c (.ro dd), .c (.v (.int _ n)) => (0 ≤ n ∧ n.toNat < dd.len ∧ dd.isSl = true ∧ dd.size = size) ∧ K (s.put d (.c (.rp (dd.elem n.toNat))))
  | .c (.hs g c p hx sz lo m), .c (.v (.int _ n)) => (0 ≤ n ∧ (∃ dd, Is s (.hs g c p hx sz lo m) dd) ∧ sz = size ∧ n.toNat < m) ∧ K (s.put d (.c (.ep g c p ((lo + n.toNat) * size) hx)))
  | .c (.h g c p hx), .c (.v (.int _ n)) => (0 ≤ n ∧ ∃ dd, Is s (.h g c p hx) dd ∧ dd.size = size ∧ n.toNat < dd.len) ∧ K (s.put d (.c (.ep g c p (n.toNat * size) hx)))
  | _, _ => False
theorem run_ia (size : Nat) (x i : X) : runI P β ⟨d, g, .ia size x i⟩ s K = iaK d s K size (s.ev x) (s.ev i) := by
  unfold iaK
  split
  · rename_i dd k n h1 h2
    refine gen_f rfl fun _ _ _ _ => ?_
    simp only [Gen, h1, h2]
    constructor
    · rintro ⟨_, _, he, h3, ⟨h4, h5, h6, h7⟩, h8⟩; cases he; exact ⟨⟨h3, h6, h4, h5⟩, h7, h8⟩
    · rintro ⟨⟨h3, h6, h4, h5⟩, h7, h8⟩; exact ⟨_, _, rfl, h3, ⟨h4, h5, h6, h7⟩, h8⟩
  · rename_i k c p hx sz lo m kk n h1 h2
    refine gen_f rfl fun _ _ _ _ => ?_
    simp only [Gen, h1, h2]
    constructor
    · rintro ⟨_, _, he, h3, ⟨h4, h5, h6, h7⟩, h8⟩; cases he; exact ⟨⟨h3, h4, h5, h6⟩, h7, h8⟩
    · rintro ⟨⟨h3, h4, h5, h6⟩, h7, h8⟩; exact ⟨_, _, rfl, h3, ⟨h4, h5, h6, h7⟩, h8⟩
  · rename_i k c p hx kk n h1 h2
    refine gen_f rfl fun _ _ _ _ => ?_
    simp only [Gen, h1, h2]
    constructor
    · rintro ⟨_, _, he, h3, ⟨h4, h7⟩, h8⟩; cases he; exact ⟨⟨h3, h4⟩, h7, h8⟩
    · rintro ⟨⟨h3, h4⟩, h7, h8⟩; exact ⟨_, _, rfl, h3, ⟨h4, h7⟩, h8⟩
  · rename_i h1 h2 h3'
    refine gen_no rfl fun _ _ _ _ => ?_
    simp only [Gen]
    rintro ⟨k, n, he, h3, h4, _⟩
    split at h4
    · exact h1 _ _ _ (by assumption) he
    · exact h3' _ _ _ _ _ _ (by assumption) he
    · exact h2 _ _ _ _ _ _ _ _ _ (by assumption) he
    · exact h4
theorem iaK_ro (size : Nat) (dd : D) (k : IntKind) (n : Int) : iaK d s K size (.c (.ro dd)) (.c (.v (.int k n))) = ((0 ≤ n ∧ n.toNat < dd.len ∧ dd.isSl = true ∧ dd.size = size) ∧ K (s.put d (.c (.rp (dd.elem n.toNat))))) := rfl
theorem iaK_h (size k c : Nat) (p : List Nat) (hx : Value) (kk : IntKind) (n : Int) : iaK d s K size (.c (.h k c p hx)) (.c (.v (.int kk n))) = ((0 ≤ n ∧ ∃ dd, Is s (.h k c p hx) dd ∧ dd.size = size ∧ n.toNat < dd.len) ∧ K (s.put d (.c (.ep k c p (n.toNat * size) hx)))) := rfl
/-- Where no object is made. -/
theorem gen_k {i : I} {G : AV → Prop} (hw : i.writes = false) (h : ∀ rt st av' os', Gen P s (β + d.getD 0) rt st i av' os' ↔ G av' ∧ os' = []) : runI P β ⟨d, g, i⟩ s K = ∃ av, G av ∧ K (s.put d av) := by
  have e : runI P β ⟨d, g, i⟩ s K = (∃ rt, ∀ st, ∃ av os, Gen P s (β + d.getD 0) rt st i av os ∧ K ((s.addO os).put d av)) := by
    cases i <;> first | rfl | cases hw
  rw [e]
  apply propext
  constructor
  · rintro ⟨_, h1⟩
    obtain ⟨av', os', h2, h3⟩ := h1 ⟨0, fun _ _ => undef⟩
    obtain ⟨h4, rfl⟩ := (h _ _ _ _).1 h2
    exact ⟨av', h4, h3⟩
  · rintro ⟨av, h1, h2⟩
    exact ⟨.c (.val undef), fun _ => ⟨av, [], (h _ _ _ _).2 ⟨h1, rfl⟩, h2⟩⟩
def lenK (d : Option Nat) (s : St) (K : St → Prop) (str : Bool) (a : AV) : Prop := ∃ av, (∃ n, LenIs s str a n ∧ av = .c (.v (.int .i64 (n : Int)))) ∧ K (s.put d av)
theorem run_len (str : Bool) (x : X) : runI P β ⟨d, g, .len str x⟩ s K = lenK d s K str (s.ev x) := gen_k rfl fun _ _ av os => by
  simp only [Gen]
  constructor
  · rintro ⟨n, h1, h2, h3⟩; exact ⟨⟨n, h1, h2⟩, h3⟩
  · rintro ⟨⟨n, h1, h2⟩, h3⟩; exact ⟨n, h1, h2, h3⟩
theorem lenK_ (str : Bool) (a : AV) : lenK d s K str a = ∃ n, LenIs s str a n ∧ K (s.put d (.c (.v (.int .i64 (n : Int))))) := by
  apply propext
  constructor
  · rintro ⟨_, ⟨n, h1, rfl⟩, h2⟩; exact ⟨n, h1, h2⟩
  · rintro ⟨n, h1, h2⟩; exact ⟨_, ⟨n, h1, rfl⟩, h2⟩
theorem lenK_ro (dd : D) : lenK d s K false (.c (.ro dd)) = ((dd.isSl = true ∧ 0 < dd.size) ∧ K (s.put d (.c (.v (.int .i64 dd.len))))) := by
  rw [lenK_]
  apply propext
  constructor
  · rintro ⟨_, ⟨h1, h2, rfl⟩, h3⟩; exact ⟨⟨h1, h2⟩, h3⟩
  · rintro ⟨⟨h1, h2⟩, h3⟩; exact ⟨_, ⟨h1, h2, rfl⟩, h3⟩
theorem lenK_str (b : ByteArray) : lenK d s K true (.c (.v (.string b))) = K (s.put d (.c (.v (.int .i64 b.size)))) := by
  rw [lenK_]; simp [LenIs]
theorem lenK_h (k c : Nat) (p : List Nat) (x : Value) : lenK d s K false (.c (.h k c p x)) = ∃ dd, Is s (.h k c p x) dd ∧ 0 < dd.size ∧ K (s.put d (.c (.v (.int .i64 dd.len)))) := by
  rw [lenK_]
  apply propext
  constructor
  · rintro ⟨_, ⟨dd, h1, h2, rfl⟩, h3⟩; exact ⟨dd, h1, h2, h3⟩
  · rintro ⟨dd, h1, h2, h3⟩; exact ⟨_, ⟨dd, h1, h2, rfl⟩, h3⟩
def binK (P : Program) (d : Option Nat) (s : St) (K : St → Prop) (op : BinOp) (ty : Nat) (x y : AV) : Prop := ∃ av, ((∃ a b v, x = .c (.v a) ∧ y = .c (.v b) ∧ BinR op a b v ∧ av = .c (.v v)) ∨
      (∃ l m xs ys b, x = .agg l ∧ y = .agg m ∧ valsOf l = some xs ∧ valsOf m = some ys ∧ EqR P op ty xs ys b ∧ av = .c (.v (.bool b)))) ∧ K (s.put d av)
theorem run_bin (op : BinOp) (ty : Nat) (x y : X) : runI P β ⟨d, g, .bin op ty x y⟩ s K = binK P d s K op ty (s.ev x) (s.ev y) := gen_k rfl fun _ _ _ _ => Iff.rfl
theorem binK_v (op : BinOp) (ty : Nat) (a b : Value) : binK P d s K op ty (.c (.v a)) (.c (.v b)) = ∃ v, BinR op a b v ∧ K (s.put d (.c (.v v))) := by
  apply propext
  constructor
  · rintro ⟨_, (⟨_, _, v, h1, h2, h3, rfl⟩ | ⟨_, _, _, _, _, h1, _⟩), h4⟩
    · cases h1; cases h2; exact ⟨v, h3, h4⟩
    · cases h1
  · rintro ⟨v, h1, h2⟩; exact ⟨_, .inl ⟨_, _, v, rfl, rfl, h1, rfl⟩, h2⟩
theorem binK_i (op : BinOp) (ty : Nat) (k k' : IntKind) (a b : Int) : binK P d s K op ty (.c (.v (.int k a))) (.c (.v (.int k' b))) = (intOk op k k' b ∧ K (s.put d (.c (.v (intBin op k a b))))) := by
  rw [binK_v]
  apply propext
  constructor
  · rintro ⟨_, ⟨h1, rfl⟩, h2⟩; exact ⟨h1, h2⟩
  · rintro ⟨h1, h2⟩; exact ⟨_, ⟨h1, rfl⟩, h2⟩
theorem binK_seq (ty : Nat) (a b : ByteArray) : binK P d s K .eql ty (.c (.v (.string a))) (.c (.v (.string b))) = K (s.put d (.c (.v (.bool (a.toList == b.toList))))) := by rw [binK_v]; simp [BinR]
def unK (d : Option Nat) (s : St) (K : St → Prop) (op : UnOp) (x : AV) : Prop := ∃ av, (match op with
      | .not => ∃ b, x = .c (.v (.bool b)) ∧ av = .c (.v (.bool (!b)))
      | .neg => ∃ k n, x = .c (.v (.int k n)) ∧ av = .c (.v (.int k (k.wrap (0 - n))))
      | _ => False) ∧ K (s.put d av)
theorem run_un (op : UnOp) (x : X) : runI P β ⟨d, g, .un op x⟩ s K = unK d s K op (s.ev x) := gen_k rfl fun _ _ _ _ => Iff.rfl
theorem unK_not (b : Bool) : unK d s K .not (.c (.v (.bool b))) = K (s.put d (.c (.v (.bool (!b))))) := by simp [unK]
def cvK (d : Option Nat) (s : St) (K : St → Prop) (c : Cv) (x : AV) : Prop := ∃ av, (match c with
      | .num k => ∃ k' n, x = .c (.v (.int k' n)) ∧ av = .c (.v (.int k (k.wrap n)))
      | .text => ∃ (a : A0) (ty : Nat) (bs : List UInt8), x = .c a ∧ Is s a (.sl 1 ty (bs.map byteVal)) ∧ av = .c (.v (.string ⟨bs.toArray⟩))
      | .bytes => False) ∧ K (s.put d av)
theorem run_cv (c : Cv) (e : Nat) (x : X) : runI P β ⟨d, g, .cv c e x⟩ s K = cvK d s K c (s.ev x) := gen_k rfl fun _ _ _ _ => Iff.rfl
theorem cvK_num (k k' : IntKind) (n : Int) : cvK d s K (.num k) (.c (.v (.int k' n))) = K (s.put d (.c (.v (.int k (k.wrap n))))) := by
  apply propext
  constructor
  · rintro ⟨_, ⟨_, _, h1, rfl⟩, h⟩; cases h1; exact h
  · intro h; exact ⟨_, ⟨_, _, rfl, rfl⟩, h⟩
def sidxK (d : Option Nat) (s : St) (K : St → Prop) (x i : AV) : Prop := ∃ av, (∃ b k n u, x = .c (.v (.string b)) ∧ i = .c (.v (.int k n)) ∧ 0 ≤ n ∧ b[n.toNat]? = some u ∧ av = .c (.v (.int .u8 u.toNat))) ∧ K (s.put d av)
theorem run_sidx (x i : X) : runI P β ⟨d, g, .sidx x i⟩ s K = sidxK d s K (s.ev x) (s.ev i) := gen_k rfl fun _ _ av os => by
  simp only [Gen]
  constructor
  · rintro ⟨b, k, n, u, h1, h2, h3, h4, h5, h6⟩; exact ⟨⟨b, k, n, u, h1, h2, h3, h4, h5⟩, h6⟩
  · rintro ⟨⟨b, k, n, u, h1, h2, h3, h4, h5⟩, h6⟩; exact ⟨b, k, n, u, h1, h2, h3, h4, h5, h6⟩
theorem sidxK_ (b : ByteArray) (k : IntKind) (n : Int) : sidxK d s K (.c (.v (.string b))) (.c (.v (.int k n))) = (0 ≤ n ∧ ∃ u, b[n.toNat]? = some u ∧ K (s.put d (.c (.v (.int .u8 u.toNat))))) := by
  apply propext
  constructor
  · rintro ⟨_, ⟨_, _, _, u, h1, h2, h3, h4, rfl⟩, h5⟩; cases h1; cases h2; exact ⟨h3, u, h4, h5⟩
  · rintro ⟨h3, u, h4, h5⟩; exact ⟨_, ⟨_, _, _, u, rfl, rfl, h3, h4, rfl⟩, h5⟩
theorem run_call {f : Nat} {args : List X} {vs : List View} {rt : RT} (hp : Pure P f vs rt) (ha : ArgsAre s (args.map s.ev) vs) (hk : ∀ η : Nat → Heads, K ((s.addO (objL (100 * (β + d.getD 0)) η 0 rt.flat)).put d (rt.av (100 * (β + d.getD 0)) η))) :
    runI P β ⟨d, g, .call f args⟩ s K := Or.inl ⟨rt, fun st => ⟨_, _, ⟨vs, ha, hp, rfl, rfl⟩, hk st.η⟩⟩
/-- A call that turns what it is given. -/
theorem run_turn {f : Nat} {args : List X} {R : RT → (Nat → Ob) → Prop} (h : Turns P f (args.map s.ev) s.o R) (hk : ∀ rt o', R rt o' → ∀ η : Nat → Heads, K (((⟨s.t, o'⟩ : St).addO (objL (100 * (β + d.getD 0)) η 0 rt.flat)).put d (rt.av (100 * (β + d.getD 0)) η))) :
    runI P β ⟨d, g, .call f args⟩ s K := Or.inr (Or.inl ⟨h.1, fun B w F xs h1 h2 => (h.2 B w F xs h1 h2).mono fun e w' ⟨v, rt, o', S, F', k1, k2, k3, k4, k5, k6⟩ => ⟨v, rt, o', S, F', k1, k2, k3, k4, k5, hk _ _ k6⟩⟩)
/-- A call whose code stands in the caller. -/
theorem run_inl {f : Nat} {args : List X} (h : Inl P f (args.map s.ev) s.o fun av o' => K (St.put ⟨s.t, o'⟩ d av)) : runI P β ⟨d, g, .call f args⟩ s K := Or.inr (Or.inr h)
theorem run_turnv {f : Nat} {x : X} {caps : List A0} {args : List X} {R : RT → (Nat → Ob) → Prop} (h0 : s.ev x = .fn f caps) (h : Turns P f (args.map s.ev ++ caps.map .c) s.o R) (hk : ∀ rt o', R rt o' → ∀ η : Nat → Heads, K (((⟨s.t, o'⟩ : St).addO (objL (100 * (β + d.getD 0)) η 0 rt.flat)).put d (rt.av (100 * (β + d.getD 0)) η))) :
    runI P β ⟨d, g, .callv x args⟩ s K := Or.inr ⟨f, caps, h0, h.1, fun B w F xs h1 h2 => (h.2 B w F xs h1 h2).mono fun e w' ⟨v, rt, o', S, F', k1, k2, k3, k4, k5, k6⟩ => ⟨v, rt, o', S, F', k1, k2, k3, k4, k5, hk _ _ k6⟩⟩
theorem run_callv {f : Nat} {x : X} {caps : List A0} {args : List X} {vs : List View} {rt : RT} (h0 : s.ev x = .fn f caps) (hp : Pure P f vs rt) (ha : ArgsAre s (args.map s.ev ++ caps.map .c) vs) (hk : ∀ η : Nat → Heads, K ((s.addO (objL (100 * (β + d.getD 0)) η 0 rt.flat)).put d (rt.av (100 * (β + d.getD 0)) η))) :
    runI P β ⟨d, g, .callv x args⟩ s K := Or.inl ⟨rt, fun st => ⟨_, _, ⟨f, caps, vs, h0, ha, hp, rfl, rfl⟩, hk st.η⟩⟩
def boxK (β : Nat) (d : Option Nat) (s : St) (K : St → Prop) (ty n : Nat) (x : AV) : Prop := ∃ l, x.cells = some l ∧ l.length = n ∧ TakeK s l fun cs s' => ∀ b, K ((s'.addO [(100 * (β + d.getD 0), .box b ty cs)]).put d (.c (.bp (100 * (β + d.getD 0)) 0 b)))
theorem run_box (ty n : Nat) (x : X) : runI P β ⟨d, g, .box ty n x⟩ s K = boxK β d s K ty n (s.ev x) := rfl
theorem boxK_agg (ty n : Nat) (l : List A0) : boxK β d s K ty n (.agg l) = (l.length = n ∧ TakeK s l fun cs s' => ∀ b, K ((s'.addO [(100 * (β + d.getD 0), .box b ty cs)]).put d (.c (.bp (100 * (β + d.getD 0)) 0 b)))) := by simp [boxK, AV.cells]
theorem take_nil (K : List Cell → St → Prop) : TakeK s [] K = K [] s := rfl
theorem take_v (x : Value) (l : List A0) (K : List Cell → St → Prop) : TakeK s (.v x :: l) K = (x.oneCell' = true ∧ TakeK s l (fun cs s' => K (.a (.v x) :: cs) s')) := rfl
theorem take_ro (x : D) (l : List A0) (K : List Cell → St → Prop) : TakeK s (.ro x :: l) K = TakeK s l (fun cs s' => K (.a (.ro x) :: cs) s') := by simp [TakeK, A0.one]
theorem one_i (k : IntKind) (n : Int) : (Value.int k n).oneCell' = true := rfl
theorem one_b (b : Bool) : (Value.bool b).oneCell' = true := rfl
theorem one_s (b : ByteArray) : (Value.string b).oneCell' = true := rfl
theorem one_n (a : Option Addr) (n c : Nat) : (Value.slice a n c).oneCell' = true := rfl
theorem take_h (k c : Nat) (x : Value) (l : List A0) (K : List Cell → St → Prop) : TakeK s (.h k c [] x :: l) K = ∃ d η, (s.o k).own c = some (d, η) ∧ η [] = x ∧ TakeK (s.rm k c) l (fun cs s' => K (.own d η :: cs) s') := by simp [TakeK]
end

section
variable {P : Program} {β : Nat} {s : St} {K : St → Prop} {d : Option Nat} {l : List (Nat × List Lk)}
theorem rt_done : runT P β .done l s K = K s := rfl
theorem rt_stop : runT P β .stop l s K = True := rfl
theorem rt_pure (p : Nat) (i : I) (t : T) : runT P β (.pure p ⟨d, none, i⟩ t) l s K = runI P β ⟨d, none, i⟩ s fun s' => runT P β t ((p, i.looks s) :: l) s' K := rfl
theorem rt_gtt {n : Nat} (p : Nat) (i : I) (t : T) (h : s.t n = .c (.v (.bool true))) : runT P β (.pure p ⟨d, some (n, true), i⟩ t) l s K = runI P β ⟨d, some (n, true), i⟩ s fun s' => runT P β t ((p, i.looks s) :: l) s' K := by simp [runT, wantA, h]
theorem rt_gtf {n : Nat} (p : Nat) (i : I) (t : T) (h : s.t n = .c (.v (.bool false))) : runT P β (.pure p ⟨d, some (n, true), i⟩ t) l s K = runT P β t l (s.put d (.c (.v undef))) K := by simp [runT, wantA, h]
theorem rt_gft {n : Nat} (p : Nat) (i : I) (t : T) (h : s.t n = .c (.v (.bool true))) : runT P β (.pure p ⟨d, some (n, false), i⟩ t) l s K = runT P β t l (s.put d (.c (.v undef))) K := by simp [runT, wantA, h]
theorem rt_gff {n : Nat} (p : Nat) (i : I) (t : T) (h : s.t n = .c (.v (.bool false))) : runT P β (.pure p ⟨d, some (n, false), i⟩ t) l s K = runI P β ⟨d, some (n, false), i⟩ s fun s' => runT P β t ((p, i.looks s) :: l) s' K := by simp [runT, wantA, h]
theorem rt_alt (i : I) (chk : List Nat) (t r : T) : runT P β (.alt ⟨d, none, i⟩ chk t r) l s K = (runI P β ⟨d, none, i⟩ s (fun s' => keepL s s' chk l ∧ runT P β t l s' K) ∧ runT P β r l s K) := rfl
theorem ra_gtt {n : Nat} (i : I) (chk : List Nat) (t r : T) (h : s.t n = .c (.v (.bool true))) : runT P β (.alt ⟨d, some (n, true), i⟩ chk t r) l s K = (runI P β ⟨d, some (n, true), i⟩ s (fun s' => keepL s s' chk l ∧ runT P β t l s' K) ∧ runT P β r l s K) := by simp [runT, wantA, h]
theorem ra_gtf {n : Nat} (i : I) (chk : List Nat) (t r : T) (h : s.t n = .c (.v (.bool false))) : runT P β (.alt ⟨d, some (n, true), i⟩ chk t r) l s K = (runT P β t l (s.put d (.c (.v undef))) K ∧ runT P β r l s K) := by simp [runT, wantA, h]
theorem ra_gft {n : Nat} (i : I) (chk : List Nat) (t r : T) (h : s.t n = .c (.v (.bool true))) : runT P β (.alt ⟨d, some (n, false), i⟩ chk t r) l s K = (runT P β t l (s.put d (.c (.v undef))) K ∧ runT P β r l s K) := by simp [runT, wantA, h]
theorem ra_gff {n : Nat} (i : I) (chk : List Nat) (t r : T) (h : s.t n = .c (.v (.bool false))) : runT P β (.alt ⟨d, some (n, false), i⟩ chk t r) l s K = (runI P β ⟨d, some (n, false), i⟩ s (fun s' => keepL s s' chk l ∧ runT P β t l s' K) ∧ runT P β r l s K) := by simp [runT, wantA, h]
theorem wp_dreg (t : T) (Q : Ex → St → Prop) : wpC P β (.dreg t) Q s = runT P β t [] s (Q .normal) := rfl
theorem keepL_nil (s' : St) (chk : List Nat) : keepL s s' chk [] = True := rfl
theorem keepL_cons (s' : St) (chk : List Nat) (p : Nat) (ids : List Lk) (l : List (Nat × List Lk)) : keepL s s' chk ((p, ids) :: l) = ((if chk.contains p then keep1 s s' ids else True) ∧ keepL s s' chk l) := rfl
theorem keep1_nil (s' : St) : keep1 s s' [] = True := rfl
theorem keep1_cons (s' : St) (k : Lk) (l : List Lk) : keep1 s s' (k :: l) = (kept s s' k ∧ keep1 s s' l) := rfl
theorem kept_ob (s' : St) (g : Nat) : kept s s' (.ob g) = (s'.o g = s.o g) := rfl
theorem kept_cs (s' : St) (g c n : Nat) : kept s s' (.cs g c n) = sameB g c n (s'.o g) (s.o g) := rfl
theorem sameB_t (g c n : Nat) (ob : Ob) : sameB g c n ob ob = True := eq_true (sameB_rfl g c n ob)
end
section
variable {α : Type} {enc : α → List D} {size : Nat}
theorem flat_len (hl : ∀ x, (enc x).length = size) (hs : 0 < size) (ty : TypeId) (xs : List α) : D.len (.sl size ty (xs.flatMap enc)) = xs.length := by
  simp only [D.len, D.cells, D.size]
  rw [len_flat hl, Nat.mul_div_cancel _ hs]
theorem flat_elem (hl : ∀ x, (enc x).length = size) {ty : TypeId} {xs : List α} {k : Nat} {x : α} (hx : xs[k]? = some x) : D.elem (.sl size ty (xs.flatMap enc)) k = enc x := by
  have hk : k < xs.length := (List.getElem?_eq_some_iff.1 hx).1
  have hx' : xs[k] = x := by rw [List.getElem?_eq_getElem hk] at hx; exact Option.some.inj hx
  simp only [D.elem, D.cells, D.size]
  have e : xs = xs.take k ++ (x :: xs.drop (k + 1)) := by rw [← hx']; simp
  have e2 : xs.flatMap enc = (xs.take k).flatMap enc ++ (enc x ++ (xs.drop (k + 1)).flatMap enc) := by
    conv => lhs; rw [e]
    simp
  have e3 : ((xs.take k).flatMap enc).length = k * size := by rw [len_flat hl, List.length_take, Nat.min_eq_left (by omega)]
  rw [e2, ← e3, List.drop_left, ← hl x, List.take_left]
end
theorem len_encRns (l : List Rn) : (encRns l).len = l.length := flat_len (enc := encRn) (fun _ => rfl) (by decide) _ _
theorem elem_encRns {l : List Rn} {k : Nat} {x : Rn} (h : l[k]? = some x) : (encRns l).elem k = encRn x := flat_elem (enc := encRn) (fun _ => rfl) h
theorem len_encSh (l : List (List En)) : (encSh l).len = l.length := flat_len (enc := fun es => [encEns es]) (fun _ => rfl) (by decide) _ _
theorem elem_encSh {l : List (List En)} {k : Nat} {x : List En} (h : l[k]? = some x) : (encSh l).elem k = [encEns x] := flat_elem (enc := fun es => [encEns es]) (fun _ => rfl) h
theorem len_encEns (l : List En) : (encEns l).len = l.length := flat_len (enc := encEn) (fun _ => rfl) (by decide) _ _
theorem elem_encEns {l : List En} {k : Nat} {x : En} (h : l[k]? = some x) : (encEns l).elem k = encEn x := flat_elem (enc := encEn) (fun _ => rfl) h
theorem len_encTks (l : List Tk) : (encTks l).len = l.length := flat_len (enc := encTk) (fun _ => rfl) (by decide) _ _
theorem elem_encTks {l : List Tk} {k : Nat} {x : Tk} (h : l[k]? = some x) : (encTks l).elem k = encTk x := flat_elem (enc := encTk) (fun _ => rfl) h
theorem sl_encRns (l : List Rn) : (encRns l).isSl = true := rfl
theorem sl_encSh (l : List (List En)) : (encSh l).isSl = true := rfl
theorem sl_encEns (l : List En) : (encEns l).isSl = true := rfl
theorem sl_encTks (l : List Tk) : (encTks l).isSl = true := rfl
theorem sz_encRns (l : List Rn) : (encRns l).size = 8 := rfl
theorem sz_encSh (l : List (List En)) : (encSh l).size = 1 := rfl
theorem sz_encEns (l : List En) : (encEns l).size = 4 := rfl
theorem sz_encTks (l : List Tk) : (encTks l).size = 4 := rfl
theorem ro_encRns (l : List Rn) : (encRns l).toRo = .ro (encRns l) := rfl
theorem ro_encSh (l : List (List En)) : (encSh l).toRo = .ro (encSh l) := rfl
theorem ro_encEns (l : List En) : (encEns l).toRo = .ro (encEns l) := rfl
theorem ro_encTks (l : List Tk) : (encTks l).toRo = .ro (encTks l) := rfl
theorem ro_encEds (l : List Ed) : (encEds l).toRo = .ro (encEds l) := rfl
theorem ro_val (v : Value) : (D.val v).toRo = .v v := rfl
theorem init_o (vs : List View) (n : Nat) : (St.init vs).o n = .none := rfl
theorem init_t (vs : List View) (n : Nat) : (St.init vs).t n = ((vs.map View.av)[n]?).getD .unk := rfl
end Go.Proofs.YtnhdcbhcocgjhaaGreat
set_option linter.unusedSimpArgs false
set_option linter.unusedVariables false
namespace Go.Proofs.YtnhdcbhcocgjhaaGreat
open Go.RowKit Go.Sort

def Goes (P : Program) (o : Oper) (a : Act) (w : World) (R : Value → World → Prop) : Prop :=
  ∀ (next : Act → World → Prop) (Q : Exit → Act → World → Prop), (∀ v w', R v w' → next (a.put o.dst v) w') → o.wp P a w next Q
theorem Goes.of_run {P : Program} {o : Oper} {a : Act} {w w' : World} {R : Value → World → Prop} {v : Value} (h : (execOp a.eval o).run P w = .ok (.value v) w') (hr : R v w') : Goes P o a w R :=
  fun _ _ hk => by unfold Oper.wp; rw [h]; exact hk v w' hr
/-- A value, new objects; of what was there nothing has turned. -/
def Yields_ (B : Nat) (w : World) (G : AV → List (Nat × Ob) → Prop) (v : Value) (w' : World) : Prop := ∃ av os S, VRel B w' av v ∧ NewRel B w' os S ∧ Fresh w.heap.size S ∧ Below w.heap.size w w' ∧ G av os

section
variable {P : Program} {B N : Nat} {w w0 : World} {s : St} {a : Act} {F : Nat → List Nat} {o : Oper} {G : AV → List (Nat × Ob) → Prop} {d : Nat} {rt : RT}
theorem same_ {v : Value} {av : AV} (h : (execOp a.eval o).run P w = .ok (.value v) w) (hv : VRel B w av v) (hg : G av []) : Goes P o a w (Yields_ B w G) :=
  Goes.of_run h ⟨av, [], [], hv, rfl, Fresh.nil _, Below.refl _ _, hg⟩

theorem mk_ {v : Value} {w' : World} {av : AV} {os : List (Nat × Ob)} {S : List Nat} (h : (execOp a.eval o).run P w = .ok (.value v) w') (hv : VRel B w' av v) (hn : NewRel B w' os S) (hf : Fresh w.heap.size S) (hb : Below w.heap.size w w') (hg : G av os) : Goes P o a w (Yields_ B w G) :=
  Goes.of_run h ⟨av, os, S, hv, hn, hf, hb, hg⟩
theorem heap_new (w : World) (o : Obj) : (w.alloc o).heap[w.heap.size]? = some o := by
  show (w.heap.push o)[w.heap.size]? = _
  simp

theorem ev_rel (h : RelF B w0 N s a w F) {x : Operand} {x' : X} (hx : compX x = some x') : VRel B w (s.ev x') (a.eval x) := by
  cases x with
  | tmp t => simp [compX] at hx; subst hx; exact h.sl t
  | global g => simp [compX] at hx
  | func f => simp [compX] at hx; subst hx; exact ⟨[], rfl, rfl⟩
  | const v =>
    simp only [compX] at hx
    split at hx
    · rename_i hp
      simp at hx; subst hx
      cases v with
      | agg cs =>
        refine ⟨cs.toList, by simp [Act.eval], ?_⟩
        simp only [plainConst, List.all_eq_true] at hp
        have : ∀ l : List Value, (∀ x ∈ l, x.oneCell' = true) → A0RelL B w (l.map .v) l := by
          intro l
          induction l with
          | nil => intro _; rfl
          | cons x l ih => intro hl; exact ⟨x, l, rfl, rfl, ih fun y hy => hl y (by simp [hy])⟩
        exact this _ hp
      | tuple _ => simp [plainConst] at hp
      | _ => exact rfl
    · simp at hx
theorem ev_v (h : RelF B w0 N s a w F) {x : Operand} {x' : X} (hx : compX x = some x') {u : Value} (hu : s.ev x' = .c (.v u)) : a.eval x = u := by
  have := ev_rel h hx
  rw [hu] at this
  exact this

/-- The guards of an instruction's law: the operation, and its form. -/
theorem go_mov (h : RelF B w0 N s a w F) {x : Operand} {x' : X} (ho : o.op = .move x ∨ o.op = .assign x) (hx : compX x = some x') (hg : ∀ st, ∃ av os, Gen P s d rt st (.mov x') av os ∧ G av os) : Goes P o a w (Yields_ B w G) := by
  obtain ⟨av, os, ⟨rfl, rfl⟩, hG⟩ := hg ⟨0, fun _ _ => undef⟩
  refine same_ (v := a.eval x) ?_ (ev_rel h hx) hG
  rcases ho with ho | ho <;> simp [execOp, ho]
theorem go_pick (h : RelF B w0 N s a w F) {c x y : Operand} {c' x' y' : X} (ho : o.op = .pick c x y) (hc : compX c = some c') (hx : compX x = some x') (hy : compX y = some y')
    (hg : ∀ st, ∃ av os, Gen P s d rt st (.pick c' x' y') av os ∧ G av os) : Goes P o a w (Yields_ B w G) := by
  obtain ⟨av, os, ⟨t, h1, rfl, rfl⟩, hG⟩ := hg ⟨0, fun _ _ => undef⟩
  have e := ev_v h hc h1
  refine same_ (v := if t then a.eval x else a.eval y) ?_ ?_ hG
  · simp [execOp, ho, e, asBool]
  · cases t
    · exact ev_rel h hy
    · exact ev_rel h hx
theorem go_alloc (h : RelF B w0 N s a w F) {e : TypeId} {zs : List Value} (ho : o.op = .alloc e) (hz : zeroOf P e = some zs) (hg : ∀ st, ∃ av os, Gen P s d rt st (.alloc e zs) av os ∧ G av os) : Goes P o a w (Yields_ B w G) := by
  obtain ⟨av, os, ⟨rfl, rfl⟩, hG⟩ := hg ⟨w.heap.size, fun _ _ => undef⟩
  unfold zeroOf at hz
  split at hz
  · rename_i i hi
    split at hz
    · rename_i z hzz
      split at hz
      · rename_i hc
        simp only [Bool.and_eq_true, decide_eq_true_eq, List.all_eq_true] at hc
        simp at hz; subst hz
        have hrun : (execOp a.eval o).run P w = .ok (.value (.pointer (some ⟨w.heap.size, 0, none⟩))) (w.alloc (.cells z.cells e)) := by
          simp [execOp, ho, Instr.alloc, zeroValue, typeInfo, hi, hzz, newVar, newRow]
        have : ∀ l : List Value, (∀ x ∈ l, x.oneCell' = true) → CRel B (w.alloc (.cells z.cells e)) (l.map fun z => Cell.a (.v z)) l [] := by
          intro l
          induction l with
          | nil => intro _; exact ⟨rfl, rfl⟩
          | cons x l ih => intro hl; exact ⟨x, l, rfl, rfl, ih fun y hy => hl y (by simp [hy])⟩
        have hn : NewRel B (w.alloc (.cells z.cells e)) [(100 * d, .box w.heap.size e (z.cells.toList.map fun z => .a (.v z)))] [w.heap.size] :=
          ⟨[w.heap.size], [], rfl, ⟨z.cells.toList, [], heap_new _ _, this _ hc.2, rfl⟩, rfl⟩
        have hv : VRel B (w.alloc (.cells z.cells e)) (.c (.bp (100 * d) 0 w.heap.size)) (.pointer (some ⟨w.heap.size, 0, none⟩)) := rfl
        exact mk_ hrun hv hn (Fresh.one _ _ (Nat.le_refl _)) ((Below.refl _ _).alloc (Nat.le_refl _) _) hG
      · simp at hz
    · simp at hz
  · simp at hz
theorem ptr_add (b o n : Nat) : (⟨b, o, none⟩ : Addr).add n = ⟨b, o + n, none⟩ := by unfold Addr.add; split <;> simp_all
theorem elem_add (x : Value) (i n : Nat) : (elemAddr x i).add n = elemAddr x (i + n) := by
  unfold elemAddr
  split
  · rw [ptr_add]; congr 1; omega
  · rw [ptr_add]
theorem RepL.drop {own : Bool} : ∀ (n : Nat) {ds : List D} {us : List Value} {S : List Nat}, RepL w own ds us S → ∃ S', RepL w own (ds.drop n) (us.drop n) S' ∧ ∀ x ∈ S', x ∈ S
  | 0, _, _, S, h => ⟨S, h, fun _ h => h⟩
  | n + 1, [], _, _, h => by obtain ⟨rfl, rfl⟩ := h; exact ⟨[], ⟨rfl, rfl⟩, by simp⟩
  | n + 1, _ :: ds, _, _, ⟨v, vs', S1, S2, rfl, rfl, _, h4⟩ => by
    obtain ⟨S', h5, h6⟩ := RepL.drop n h4
    exact ⟨S', h5, fun x hx => by simp [h6 x hx]⟩
theorem RepL.take {own : Bool} : ∀ (n : Nat) {ds : List D} {us : List Value} {S : List Nat}, RepL w own ds us S → ∃ S', RepL w own (ds.take n) (us.take n) S' ∧ ∀ x ∈ S', x ∈ S
  | 0, _, _, S, h => ⟨[], ⟨rfl, rfl⟩, by simp⟩
  | n + 1, [], _, _, h => by obtain ⟨rfl, rfl⟩ := h; exact ⟨[], ⟨rfl, rfl⟩, by simp⟩
  | n + 1, _ :: ds, _, _, ⟨v, vs', S1, S2, rfl, rfl, h3, h4⟩ => by
    obtain ⟨S', h5, h6⟩ := RepL.take n h4
    exact ⟨S1 ++ S', RepL.cons_ h3 h5, fun x hx => by rcases List.mem_append.1 hx with hx | hx; simp [hx]; simp [h6 x hx]⟩
theorem go_fa0 (h : RelF B w0 N s a w F) {x : Operand} {x' : X} {off : Nat} (hx : compX x = some x') (hrun : ∀ ad : Addr, a.eval x = .pointer (some ad) → (execOp a.eval o).run P w = .ok (.value (.pointer (some (ad.add off)))) w)
    (hg : ∀ st, ∃ av os, Gen P s d rt st (.fa off x') av os ∧ G av os) : Goes P o a w (Yields_ B w G) := by
  obtain ⟨av, os, ⟨h1, rfl⟩, hG⟩ := hg ⟨0, fun _ _ => undef⟩
  have hv := ev_rel h hx
  split at h1
  · rename_i ds he
    subst h1
    rw [he] at hv
    obtain ⟨b, o', us, S, hp, h2, h3, h4, h5⟩ := hv
    obtain ⟨S', h6, h7⟩ := RepL.drop off h2
    refine same_ (hrun _ hp) (by exact ⟨b, o' + off, us.drop off, S', by rw [ptr_add], h6, fun y hy => h3 y (h7 y hy), fun hne => h4 fun e => hne (by rw [e]; simp), fun j y hy => by
      rw [List.getElem?_drop] at hy
      rw [Nat.add_assoc]
      exact h5 _ _ hy⟩) hG
  · rename_i g c b he
    subst h1
    rw [he] at hv
    refine same_ (hrun _ hv) ?_ hG
    rw [ptr_add]; rfl
  · rename_i g c p i' x'' he
    subst h1
    rw [he] at hv
    refine same_ (hrun _ hv) ?_ hG
    rw [elem_add]; rfl
  · exact h1.elim
theorem go_fa (h : RelF B w0 N s a w F) {t : TypeId} {x : Operand} {x' : X} {f n : Nat} {fs : Array Field} {fd : Field} (ho : o.op = .fieldAddr t x f) (ht : P.underlying t = some (.struct fs)) (hf : fs[f]? = some fd) (hn : sizeAt P fd.type = some (n + 1)) (hx : compX x = some x')
    (hg : ∀ st, ∃ av os, Gen P s d rt st (.fa fd.offset x') av os ∧ G av os) : Goes P o a w (Yields_ B w G) := by
  obtain ⟨i, hi, hin⟩ : ∃ i, P.info? fd.type = some i ∧ i.size = n + 1 := by
    unfold sizeAt at hn
    cases hq : P.info? fd.type with
    | none => simp [hq] at hn
    | some i => exact ⟨i, rfl, by simpa [hq] using hn⟩
  exact go_fa0 h hx (fun ad he => by
    simp [execOp, ho, Instr.fieldAt, run_underlying ht, hf, he, Instr.sureAddr, fieldPlace, sizeOf, typeInfo, hi, hin]) hg
/-- The test ahead of a pointer's use: it is none's, so it stays. -/
theorem go_nc (h : RelF B w0 N s a w F) {x : Operand} {x' : X} (ho : o.op = .nilCheck x) (hx : compX x = some x')
    (hg : ∀ st, ∃ av os, Gen P s d rt st (.fa 0 x') av os ∧ G av os) : Goes P o a w (Yields_ B w G) :=
  go_fa0 h hx (fun ad he => by
    rw [show ad.add 0 = ad from rfl]
    simp [execOp, ho, he]) hg
theorem RepL.ro_cells {own : Bool} {ds : List D} {us : List Value} {S : List Nat} (h : RepL w own ds us S) (hS : own = false ∧ ∀ x ∈ S, x < B) : A0RelL B w (ds.map D.toRo) us := by
  induction ds generalizing us S with
  | nil => obtain ⟨rfl, _⟩ := h; rfl
  | cons d ds ih =>
    obtain ⟨v, vs', S1, S2, rfl, rfl, h3, h4⟩ := h
    refine ⟨v, vs', rfl, ?_, ih h4 ⟨hS.1, fun x hx => hS.2 x (by simp [hx])⟩⟩
    cases d with
    | val u => exact h3.1
    | sl size ty cs => exact ⟨rfl, S1, by rw [← hS.1]; exact h3, fun x hx => hS.2 x (by simp [hx])⟩
theorem A0RelL.of_get : ∀ {l : List A0} {us : List Value}, us.length = l.length → (∀ (j : Nat) (a : A0) (u : Value), l[j]? = some a → us[j]? = some u → A0Rel B w a u) → A0RelL B w l us
  | [], us, h, _ => List.eq_nil_of_length_eq_zero h
  | a :: l, [], h, _ => by simp at h
  | a :: l, u :: us, h, hk => ⟨u, us, rfl, hk 0 a u rfl rfl, A0RelL.of_get (by simpa using h) fun j a' u' h1 h2 => hk (j + 1) a' u' h1 h2⟩
/-- Cells that are read. -/
theorem CRel.load {g : Nat} : ∀ {cs : List Cell} {us : List Value} {S : List Nat} (c : Nat), CRel B w cs us S → A0RelL B w (loadC g c cs) us
  | [], _, _, _, ⟨h, _⟩ => h
  | .a x :: cs, _, _, c, ⟨u, us', h1, h2, h3⟩ => ⟨u, us', h1, h2, CRel.load (c + 1) h3⟩
  | .own d η :: cs, _, _, c, ⟨u, us', S1, S2, h1, h2, h3, h4, h5, h6⟩ => by
    refine ⟨u, us', h1, ⟨?_, ?_⟩, CRel.load (c + 1) h6⟩
    · rw [h5, hdr_nil h3]
    · rw [h5, hdr_nil h3]
      cases d with
      | val _ => cases h3
      | sl _ _ _ => obtain ⟨_, _, _, rfl⟩ := rep_form h4; rfl
theorem CRel.drop : ∀ (n : Nat) {cs : List Cell} {us : List Value} {S : List Nat}, CRel B w cs us S → ∃ S', CRel B w (cs.drop n) (us.drop n) S' ∧ ∀ x ∈ S', x ∈ S
  | 0, _, _, S, h => ⟨S, h, fun _ h => h⟩
  | n + 1, [], _, _, ⟨h, h'⟩ => by subst h h'; exact ⟨[], ⟨rfl, rfl⟩, by simp⟩
  | n + 1, .a _ :: cs, _, _, ⟨u, us', h1, h2, h3⟩ => by
    subst h1
    obtain ⟨S', h5, h6⟩ := CRel.drop n h3
    exact ⟨S', h5, h6⟩
  | n + 1, .own _ _ :: cs, _, _, ⟨u, us', S1, S2, h1, h2, h3, h4, h5, h6⟩ => by
    subst h1 h2
    obtain ⟨S', h7, h8⟩ := CRel.drop n h6
    exact ⟨S', h7, fun x hx => by simp [h8 x hx]⟩
theorem CRel.take : ∀ (n : Nat) {cs : List Cell} {us : List Value} {S : List Nat}, CRel B w cs us S → ∃ S', CRel B w (cs.take n) (us.take n) S' ∧ ∀ x ∈ S', x ∈ S
  | 0, _, _, S, h => ⟨[], ⟨rfl, rfl⟩, by simp⟩
  | n + 1, [], _, _, ⟨h, h'⟩ => by subst h h'; exact ⟨[], ⟨rfl, rfl⟩, by simp⟩
  | n + 1, .a _ :: cs, _, _, ⟨u, us', h1, h2, h3⟩ => by
    subst h1
    obtain ⟨S', h5, h6⟩ := CRel.take n h3
    exact ⟨S', ⟨u, _, rfl, h2, h5⟩, h6⟩
  | n + 1, .own _ _ :: cs, _, _, ⟨u, us', S1, S2, h1, h2, h3, h4, h5, h6⟩ => by
    subst h1 h2
    obtain ⟨S', h7, h8⟩ := CRel.take n h6
    exact ⟨S1 ++ S', ⟨u, _, S1, S', rfl, rfl, h3, h4, h5, h7⟩, fun x hx => by rcases List.mem_append.1 hx with hx | hx; simp [hx]; simp [h8 x hx]⟩
theorem loadE_get {g c : Nat} {p : List Nat} {η : Heads} : ∀ {ds : List D} {i j : Nat} {d : D}, ds[j]? = some d → (loadE g c p η i ds)[j]? = some (d.toOwn g c (p ++ [i + j]) η)
  | [], _, _, _, h => by simp at h
  | _ :: _, i, 0, _, h => by simp at h; subst h; rfl
  | _ :: ds, i, j + 1, _, h => by
    have := loadE_get (g := g) (c := c) (p := p) (η := η) (ds := ds) (i := i + 1) (j := j) (by simpa using h)
    simp only [loadE, List.getElem?_cons_succ, this]
    rw [show i + 1 + j = i + (j + 1) by omega]
theorem loadE_len {g c : Nat} {p : List Nat} {η : Heads} : ∀ {ds : List D} {i : Nat}, (loadE g c p η i ds).length = ds.length
  | [], _ => rfl
  | _ :: ds, i => by simp [loadE, loadE_len (ds := ds)]
/-- A slice in own memory, at a path. -/
theorem path_open (h : RelF B w0 N s a w F) {g c : Nat} {p : List Nat} {x : Value} {d0 dd : D} {η : Heads} (ho : (s.o g).own c = some (d0, η)) (hx : η p = x) (hg : D.get p d0 = some dd) (hs : dd.isSl = true) :
    ∃ S, Rep w true dd x S ∧ ∀ q, η (p ++ q) = hdr w q dd x := by
  obtain ⟨u, S', h1, h2, h3, h4⟩ := (h.ob g).own ho
  obtain ⟨S2, h5, _⟩ := rep_get p h2 hg hs
  rw [← h3 p, hx] at h5
  refine ⟨S2, h5, fun q => ?_⟩
  rw [h3, ← hx, h3]
  have key : ∀ (p : List Nat) {d0 : D} {u : Value} {S : List Nat}, Rep w true d0 u S → D.get p d0 = some dd → hdr w (p ++ q) d0 u = hdr w q dd (hdr w p d0 u) := by
    intro p
    induction p with
    | nil =>
      intro d0 u S _ hg
      simp [D.get] at hg; subst hg
      rw [List.nil_append, hdr_nil hs]
    | cons i p ih =>
      intro d0 u S hr hg
      cases d0 with
      | val _ => simp [D.get] at hg
      | sl size ty cs =>
        simp only [D.get] at hg
        obtain ⟨vs, T, S', k1, k2, k3⟩ := hr
        cases hc : cs[i]? with
        | none => rw [hc] at hg; simp at hg
        | some d =>
          rw [hc] at hg
          obtain ⟨v, S1, k6, k7, k8⟩ := RepL.nth k2 hc
          rcases own_cells k1 with ⟨rfl, rfl⟩ | ⟨g, n, c, rfl, rfl, k4, k5, _⟩
          · simp at k6
          · simp only [List.cons_append, hdr, hc, Nat.zero_add, k5 i v k6, Option.getD_some]
            exact ih k7 hg
  exact key p h2 hg
theorem load_rel (h : RelF B w0 N s a w F) {A : AV} {u0 : Value} {n : Nat} {l : List A0} (hv : VRel B w A u0) (h1 : LoadIs s n l A) :
    ∃ b k us, u0 = .pointer (some ⟨b, k, none⟩) ∧ us.length = n ∧ l.length = n ∧ (∀ j u, us[j]? = some u → w.cell? ⟨b, k + j, none⟩ = some u) ∧ A0RelL B w l us := by
  have key : ∀ (b k : Nat) (us : List Value), u0 = .pointer (some ⟨b, k, none⟩) → us.length = n → l.length = n → (∀ j u, us[j]? = some u → w.cell? ⟨b, k + j, none⟩ = some u) → A0RelL B w l us →
      ∃ b k us, u0 = .pointer (some ⟨b, k, none⟩) ∧ us.length = n ∧ l.length = n ∧ (∀ j u, us[j]? = some u → w.cell? ⟨b, k + j, none⟩ = some u) ∧ A0RelL B w l us := fun b k us k1 k2 k3 k4 k5 => ⟨b, k, us, k1, k2, k3, k4, k5⟩
  generalize he : A = A' at h1
  unfold LoadIs at h1
  split at h1
  · rename_i ds
    obtain ⟨h3, rfl⟩ := h1
    rw [he] at hv
    obtain ⟨b, k, us, S, hp, k2, k3, k4, k5⟩ := hv
    obtain ⟨S', k6, k7⟩ := RepL.take n k2
    have hlen := RepL.length _ k6
    refine key b k (us.take n) hp (by rw [hlen, List.length_take]; omega) (by simp; omega) (fun j u hu => ?_) (RepL.ro_cells k6 ⟨rfl, fun y hy => k3 y (k7 y hy)⟩)
    rw [List.getElem?_take] at hu
    split at hu
    · exact k5 j u hu
    · simp at hu
  · rename_i g c b
    obtain ⟨ty, cs, h3, h4, rfl⟩ := h1
    rw [he] at hv
    have hob := h.ob g
    rw [h3] at hob
    obtain ⟨us, S1, k1, k2, k3⟩ := hob
    obtain ⟨S2, k4, k5⟩ := CRel.drop c k2
    obtain ⟨S3, k6, k7⟩ := CRel.take n k4
    have hul := CRel.len k2
    refine key b c ((us.drop c).take n) hv (by simp; omega) ?_ (fun j u hu => ?_) (CRel.load c k6)
    · have : ∀ (g c : Nat) (cs : List Cell), (loadC g c cs).length = cs.length := by
        intro g c cs
        induction cs generalizing c with
        | nil => rfl
        | cons x l ih => cases x <;> simp [loadC, ih]
      rw [this]; simp; omega
    · rw [List.getElem?_take] at hu
      split at hu
      · rw [List.getElem?_drop] at hu
        simp [World.cell?, k1, hu]
      · simp at hu
  · rename_i g c p i' x''
    obtain ⟨d0, η, dd, h3, h4, h5, hs, h6, rfl⟩ := h1
    rw [he] at hv
    obtain ⟨S, k1, k2⟩ := path_open h h3 h4 h5 hs
    cases dd with
    | val _ => cases hs
    | sl size ty cs =>
      obtain ⟨vs, T, S', k3, k4, k5⟩ := k1
      have hvl := RepL.length _ k4
      simp only [D.cells] at h6 key
      rcases own_cells k3 with ⟨rfl, rfl⟩ | ⟨gg, nn, cc, rfl, rfl, k6, k7, _⟩
      · have hcs : cs = [] := List.eq_nil_of_length_eq_zero (by simpa using hvl.symm)
        subst hcs
        simp at h6
        obtain ⟨rfl, rfl⟩ := h6
        exact key 0 (0 + 0) [] (by rw [hv]; rfl) rfl rfl (by simp) rfl
      · refine key gg (0 + i') ((vs.drop i').take n) (by rw [hv]; rfl) (by simp; omega) (by rw [loadE_len]; simp; omega) (fun j u hu => ?_) (A0RelL.of_get (by rw [loadE_len]; simp; omega) fun j a0 u ha hu => ?_)
        · rw [List.getElem?_take] at hu
          split at hu
          · rw [List.getElem?_drop] at hu
            rw [Nat.zero_add]
            exact k7 _ _ hu
          · simp at hu
        · rw [List.getElem?_take] at hu
          split at hu
          · rename_i hj
            rw [List.getElem?_drop] at hu
            obtain ⟨dj, hdj⟩ : ∃ dj, cs[i' + j]? = some dj := ⟨cs[i' + j], List.getElem?_eq_getElem (by omega)⟩
            have hdt : ((cs.drop i').take n)[j]? = some dj := by rw [List.getElem?_take, if_pos hj, List.getElem?_drop]; exact hdj
            rw [loadE_get hdt] at ha
            simp at ha
            subst ha
            obtain ⟨u', S1, k8, k9, _⟩ := RepL.nth k4 hdj
            rw [hu] at k8
            simp at k8
            subst k8
            cases dj with
            | val _ => exact k9.1
            | sl _ _ _ =>
              have e : η (p ++ [i' + j]) = u := by rw [k2]; simp [hdr, hdj, k7 _ _ hu]
              obtain ⟨_, _, _, rfl⟩ := rep_form k9
              exact ⟨e.symm, by rw [e]; rfl⟩
          · simp at hu
  · exact h1.elim
def aggD : TypeDesc → Bool
  | .struct _ | .array _ _ => true
  | _ => false
theorem load_run {t : TypeId} {dsc : TypeDesc} {agg : Bool} {n b k : Nat} {us : List Value} (ht : P.underlying t = some dsc) (hagg : agg = aggD dsc) (hn : sizeAt P t = some n) (hl : us.length = n)
    (hc : ∀ j u, us[j]? = some u → w.cell? ⟨b, k + j, none⟩ = some u) {v : Value} (hv : if agg then v = .agg us.toArray else us = [v]) : (loadVar t ⟨b, k, none⟩).run P w = .ok v w := by
  obtain ⟨i, hi, hin⟩ : ∃ i, P.info? t = some i ∧ i.size = n := by
    unfold sizeAt at hn
    cases hq : P.info? t with
    | none => simp [hq] at hn
    | some i => exact ⟨i, rfl, by simpa [hq] using hn⟩
  cases agg with
  | true =>
    obtain rfl : v = .agg us.toArray := by simpa using hv
    have hlc := run_loadCells_list (P := P) w ⟨b, k, none⟩ us (fun j u hu => by rw [ptr_add]; exact hc j u hu)
    rw [hl] at hlc
    have hisagg : (isAgg t).run P w = .ok true w := by
      simp only [isAgg, Sem.run_bind, run_underlying ht]
      cases dsc <;> first | rfl | cases hagg
    simp [loadVar, hisagg, sizeOf, typeInfo, hi, hin, hlc]
  | false =>
    obtain rfl : us = [v] := by simpa using hv
    have hcell := hc 0 v rfl
    have hisagg : (isAgg t).run P w = .ok false w := by
      simp only [isAgg, Sem.run_bind, run_underlying ht]
      cases dsc <;> first | rfl | cases hagg
    simp only [Nat.add_zero] at hcell
    simp [loadVar, hisagg, hcell]
theorem go_ld (h : RelF B w0 N s a w F) {t : TypeId} {x : Operand} {x' : X} {agg : Bool} {n : Nat} {dsc : TypeDesc} (ho : o.op = .load t x) (ht : P.underlying t = some dsc) (hagg : agg = aggD dsc) (hn : sizeAt P t = some n) (hx : compX x = some x')
    (hg : ∀ st, ∃ av os, Gen P s d rt st (.ld agg n x') av os ∧ G av os) : Goes P o a w (Yields_ B w G) := by
  obtain ⟨av, os, ⟨l, h1, h2, rfl⟩, hG⟩ := hg ⟨0, fun _ _ => undef⟩
  have hv := ev_rel h hx
  obtain ⟨b, k, us, hp, hl, hll, hc, hr⟩ := load_rel h hv h1
  cases agg with
  | true =>
    obtain rfl : av = .agg l := by simpa using h2
    have := load_run (P := P) (v := .agg us.toArray) ht hagg hn hl hc (by simp)
    refine same_ (v := .agg us.toArray) ?_ (by exact ⟨us, rfl, hr⟩) hG
    simp [execOp, ho, Instr.loadAt, hp, Instr.sureAddr, this]
  | false =>
    obtain ⟨a0, rfl, rfl⟩ : ∃ a0, l = [a0] ∧ av = .c a0 := by simpa using h2
    obtain ⟨u, us', rfl, k1, k2⟩ := hr
    have k3 : us' = [] := k2
    subst k3
    have := load_run (P := P) (v := u) ht hagg hn hl hc (by simp)
    refine same_ (v := u) ?_ (by exact k1) hG
    simp [execOp, ho, Instr.loadAt, hp, Instr.sureAddr, this]
theorem size_of {t : TypeId} {n : Nat} (hn : sizeAt P t = some n) : ∃ i, P.info? t = some i ∧ i.size = n := by
  unfold sizeAt at hn
  cases hq : P.info? t with
  | none => simp [hq] at hn
  | some i => exact ⟨i, rfl, by simpa [hq] using hn⟩
/-- A slice that is read. -/
theorem rep_read {size : Nat} {ty : TypeId} {cs : List D} {u : Value} {S : List Nat} (h : Rep w false (.sl size ty cs) u S) :
    ∃ A n c vs S', u = .slice A n c ∧ cs.length = n * size ∧ RepL w false cs vs S' ∧ (∀ x ∈ S', x ∈ S) ∧ n ≤ c ∧ c ≤ maxLen ∧ (A = none → c = 0) ∧ (vs ≠ [] → ∃ b o, A = some ⟨b, o, none⟩ ∧ b ∈ S ∧ ∀ j u, vs[j]? = some u → w.cell? ⟨b, o + j, none⟩ = some u) := by
  obtain ⟨vs, T, S', ⟨_, A, n, c, rfl, h2, h3, h4, h5, h6⟩, h7, rfl⟩ := h
  refine ⟨A, n, c, vs, S', rfl, by rw [← RepL.length _ h7]; exact h2, h7, fun x hx => by simp [hx], h3, h4, h5, fun hne => ?_⟩
  obtain ⟨b, o', rfl, rfl, h8⟩ := h6 hne
  exact ⟨b, o', rfl, by simp, h8⟩
theorem len_sl {size : Nat} {ty : TypeId} {cs : List D} {n : Nat} (hs : 0 < size) (h : cs.length = n * size) : D.len (.sl size ty cs) = n := by
  simp only [D.len, D.cells, D.size, h]
  exact Nat.mul_div_cancel _ hs
theorem rep_sub {size : Nat} {ty : TypeId} {cs : List D} {A : Option Addr} {n c : Nat} {S : List Nat} {l hh : Nat} (hs : 0 < size) (hr : Rep w false (.sl size ty cs) (.slice A n c) S) (hS : ∀ b ∈ S, b < B) (h1 : l ≤ hh) (h2 : hh ≤ n) :
    ∃ S', Rep w false (D.sub (.sl size ty cs) l hh) (.slice (if c = l then A else A.map (·.add (l * size))) (hh - l) (c - l)) S' ∧ ∀ b ∈ S', b < B := by
  obtain ⟨vs, T, S', ⟨hT, A', n', c', he, h3, h4, h5, h6, h7⟩, h8, rfl⟩ := hr
  cases he
  obtain ⟨S2, h9, h10⟩ := RepL.drop (l * size) h8
  obtain ⟨S3, h11, h12⟩ := RepL.take ((hh - l) * size) h9
  have hmul : (hh - l) * size + l * size ≤ n * size := by rw [← Nat.add_mul]; exact Nat.mul_le_mul_right _ (by omega)
  have hlen : ((vs.drop (l * size)).take ((hh - l) * size)).length = (hh - l) * size := by simp; omega
  by_cases hne : (vs.drop (l * size)).take ((hh - l) * size) = []
  · refine ⟨[] ++ S3, ⟨_, [], S3, ⟨by simp, _, _, _, rfl, hlen, by omega, by omega, fun hA => ?_, fun h => absurd hne h⟩, h11, rfl⟩, fun b hb => hS b (by simp [h10 b (h12 b (by simpa using hb))])⟩
    split at hA
    · omega
    · have : A = none := by simpa using hA
      have := h6 this
      omega
  · have hvne : vs ≠ [] := fun e => hne (by subst e; simp)
    obtain ⟨b, o', rfl, rfl, h13⟩ := h7 hvne
    have hcl : c ≠ l := fun e => hne (by
      have : hh - l = 0 := by omega
      rw [this]; simp)
    refine ⟨[b] ++ S3, ⟨_, [b], S3, ⟨by simpa using hT, _, _, _, rfl, hlen, by omega, by omega, by rw [if_neg hcl]; simp, fun _ => ⟨b, o' + l * size, by rw [if_neg hcl]; simp [ptr_add], rfl, fun j u hu => ?_⟩⟩, h11, rfl⟩, fun x hx => ?_⟩
    · rw [List.getElem?_take] at hu
      split at hu
      · rw [List.getElem?_drop] at hu
        rw [Nat.add_assoc]
        exact h13 _ _ hu
      · simp at hu
    · rcases List.mem_append.1 hx with hx | hx
      · exact hS x (by simp at hx ⊢; exact .inl hx)
      · exact hS x (by simp [h10 x (h12 x hx)])
theorem is_rep (h : RelF B w0 N s a w F) {x : A0} {u : Value} {dd : D} (hr : A0Rel B w x u) (hi : Is s x dd) : ∃ S, Rep w false dd u S := by
  cases x with
  | v x =>
    have hr : u = x := hr
    subst hr
    rcases hi with rfl | ⟨rfl, size, ty, rfl⟩
    · exact ⟨[], rfl, rfl⟩
    · exact ⟨[], [], [], [], ⟨by simp, none, 0, 0, rfl, by simp, Nat.le_refl _, Nat.zero_le _, fun _ => rfl, fun h => absurd rfl h⟩, RepL.nil_, rfl⟩
  | ro d' =>
    have hi : dd = d' := hi
    subst hi
    obtain ⟨_, S, h1, _⟩ := hr
    exact ⟨S, h1⟩
  | h g c p x =>
    obtain ⟨hr, _⟩ := hr
    subst hr
    obtain ⟨d0, η, h1, h2, h3, h4⟩ := hi
    obtain ⟨S, h5, _⟩ := path_open h h1 h2 h3 h4
    exact ⟨S, h5.ro⟩
  | hs g c p x size lo n =>
    obtain ⟨hr, _⟩ := hr
    subst hr
    obtain ⟨d0, η, dd, h1, h2, h3, h4, h5, h6, h7, rfl⟩ := hi
    obtain ⟨S, h8, _⟩ := path_open h h1 h2 h3 h4
    have h8 := h8.ro
    cases dd with
    | val _ => cases h4
    | sl size' ty cs =>
      have h5' : size' = size := h5
      subst h5'
      obtain ⟨A, n', c', vs, S', hu, k5, _⟩ := rep_read h8
      have hlen := len_sl (ty := ty) h6 k5
      rw [hlen] at h7
      rw [hu] at h8 ⊢
      obtain ⟨S2, k7, _⟩ := rep_sub (B := w.heap.size) h6 h8 (Rep.lt _ h8) (Nat.le_add_right lo n) h7
      have e : lo + n - lo = n := by omega
      rw [e] at k7
      exact ⟨S2, k7⟩
  | _ => exact hi.elim
theorem go_len (h : RelF B w0 N s a w F) {c : Call} {x : Operand} {x' : X} (ho : o.op = .call c) (hc : c.callee = .builtin .len) (ha : c.args.toList = [x]) {str : Bool} (ht : if str then (c.argTypes[0]?).bind P.underlying = some .string else ∃ e, (c.argTypes[0]?).bind P.underlying = some (.slice e)) (hx : compX x = some x')
    (hg : ∀ st, ∃ av os, Gen P s d rt st (.len str x') av os ∧ G av os) : Goes P o a w (Yields_ B w G) := by
  obtain ⟨av, os, ⟨n, h1, rfl, rfl⟩, hG⟩ := hg ⟨0, fun _ _ => undef⟩
  have hv := ev_rel h hx
  have hargs : c.args = #[x] := by rw [← Array.toArray_toList (xs := c.args), ha]
  have hty : ∀ td, (c.argTypes[0]?).bind P.underlying = some td → ∃ t, c.argTypes[0]? = some t ∧ P.underlying t = some td := fun td hb => by
    cases hq : c.argTypes[0]? with
    | none => simp [hq] at hb
    | some t => exact ⟨t, rfl, by simpa [hq] using hb⟩
  have hsr : str = false → ∀ (A : Option Addr) (c' : Nat), a.eval x = .slice A n c' → Goes P o a w (Yields_ B w G) := fun hf A c' he => by
    rw [hf] at ht
    obtain ⟨e, hb⟩ : ∃ e, (c.argTypes[0]?).bind P.underlying = some (.slice e) := by simpa using ht
    obtain ⟨t, h2, h3⟩ := hty _ hb
    refine same_ (v := .int .i64 n) ?_ (by exact rfl) hG
    simp [execOp, ho, resolve, hc, hargs, he, invoke, builtin, Builtin.len_, h2, run_underlying h3, goInt]
  have hd : str = false → ∀ dd : D, dd.isSl = true → 0 < dd.size → n = dd.len → ∀ S, Rep w false dd (a.eval x) S → Goes P o a w (Yields_ B w G) := fun hf dd k1 k2 k3 S k4 => by
    cases dd with
    | val _ => cases k1
    | sl size ty cs =>
      obtain ⟨A, n', c', vs, S', he, k5, _⟩ := rep_read k4
      obtain rfl : n = n' := by rw [k3]; exact len_sl k2 k5
      exact hsr hf A c' he
  unfold LenIs at h1
  split at h1
  · rename_i b he
    have he' := ev_v h hx he
    obtain ⟨t, h2, h3⟩ := hty _ (show (c.argTypes[0]?).bind P.underlying = some .string by simpa using ht)
    subst h1
    refine same_ (v := .int .i64 b.size) ?_ (by exact rfl) hG
    simp [execOp, ho, resolve, hc, hargs, he', invoke, builtin, Builtin.len_, h2, run_underlying h3, goInt]
  · rename_i he
    have he' := ev_v h hx he
    subst h1
    exact hsr rfl none 0 he'
  · rename_i dd he
    rw [he] at hv
    obtain ⟨k1, S, k2, _⟩ := hv
    exact hd rfl dd k1 h1.2.1 h1.2.2 S k2
  · rename_i g c p x'' he
    obtain ⟨dd, k1, k2, k3⟩ := h1
    rw [he] at hv
    have hv : A0Rel B w (.h g c p x'') (a.eval x) := hv
    obtain ⟨S, k4⟩ := is_rep h hv k1
    obtain ⟨_, _, _, _, _, k5⟩ := k1
    exact hd rfl dd k5 k2 k3 S k4
  · rename_i g c p x'' size lo m he
    obtain ⟨⟨dd, d0, η, d1, k1, k2, k3, k4, k5, k6, k7, rfl⟩, rfl⟩ := h1
    rw [he] at hv
    have hv : a.eval x = subV x'' size lo n := hv.1
    obtain ⟨S, k8, _⟩ := path_open h k1 k2 k3 k4
    cases d1 with
    | val _ => cases k4
    | sl size' ty cs =>
      obtain ⟨A, n', c', vs, S', hu, _⟩ := rep_read k8.ro
      subst hu
      exact hsr rfl _ _ hv
  · exact h1.elim
theorem go_ia (h : RelF B w0 N s a w F) {t e : TypeId} {x i : Operand} {x' i' : X} {m : Nat} (ho : o.op = .indexAddr t x i) (ht : P.underlying t = some (.slice e)) (hm : sizeAt P e = some (m + 1)) (hx : compX x = some x') (hi : compX i = some i')
    (hg : ∀ st, ∃ av os, Gen P s d rt st (.ia (m + 1) x' i') av os ∧ G av os) : Goes P o a w (Yields_ B w G) := by
  obtain ⟨av, os, ⟨k, n, h1, h2, h3, rfl⟩, hG⟩ := hg ⟨0, fun _ _ => undef⟩
  have hv := ev_rel h hx
  have hiv := ev_v h hi h1
  obtain ⟨inf, hinf, hsz⟩ := size_of hm
  have hrun : ∀ (ad : Addr) (len c : Nat), a.eval x = .slice (some ad) len c → n < len → (execOp a.eval o).run P w = .ok (.value (.pointer (some (ad.add (n.toNat * (m + 1)))))) w := fun ad len c he hlt => by
    simp [execOp, ho, Instr.indexAt, asIntOf, hiv, he, run_underlying ht, h2, hlt, sizeOf, typeInfo, hinf, hsz]
  split at h3
  · rename_i dd he
    obtain ⟨k1, k2, k3, rfl⟩ := h3
    rw [he] at hv
    obtain ⟨_, S, k4, k5⟩ := hv
    cases dd with
    | val _ => cases k1
    | sl size ty cs =>
      have k2' : size = m + 1 := k2
      subst k2'
      obtain ⟨A, n', c', vs, S', hu, k6, k7, k8, k9, _, _, k10⟩ := rep_read k4
      have hlen := len_sl (ty := ty) (by omega : 0 < m + 1) k6
      rw [hlen] at k3
      have hvl := RepL.length _ k7
      have hmul : n.toNat * (m + 1) + (m + 1) ≤ n' * (m + 1) := by rw [← Nat.succ_mul]; exact Nat.mul_le_mul_right _ k3
      obtain ⟨b, o', rfl, hb, k11⟩ := k10 (fun e => by subst e; simp at hvl; omega)
      obtain ⟨S2, k12, k13⟩ := RepL.drop (n.toNat * (m + 1)) k7
      obtain ⟨S3, k14, k15⟩ := RepL.take (m + 1) k12
      refine same_ (hrun _ _ _ hu (by omega)) (by
        refine ⟨b, o' + n.toNat * (m + 1), (vs.drop (n.toNat * (m + 1))).take (m + 1), S3, by rw [ptr_add], k14, fun y hy => k5 y (k8 y (k13 y (k15 y hy))), fun _ => k5 b hb, fun j y hy => ?_⟩
        rw [List.getElem?_take] at hy
        split at hy
        · rw [List.getElem?_drop] at hy
          rw [Nat.add_assoc]
          exact k11 _ _ hy
        · simp at hy) hG
  · rename_i g c p hx' he
    obtain ⟨⟨dd, k1, k2, k3⟩, rfl⟩ := h3
    rw [he] at hv
    have hv : a.eval x = hx' := hv.1
    obtain ⟨d0, η, k4, k5, k6, k7⟩ := k1
    obtain ⟨S, k8, _⟩ := path_open h k4 k5 k6 k7
    cases dd with
    | val _ => cases k7
    | sl size ty cs =>
      have k2' : size = m + 1 := k2
      subst k2'
      obtain ⟨vs, T, S', k9, k10, _⟩ := k8
      have hvl := RepL.length _ k10
      rcases own_cells k9 with ⟨rfl, rfl⟩ | ⟨gg, nn, cc, rfl, rfl, k11, _, _⟩
      · simp at hvl
        simp [D.len, D.cells, ← hvl] at k3
      · have hlen : D.len (.sl (m + 1) ty cs) = nn := len_sl (by omega) (by rw [← hvl]; exact k11)
        rw [hlen] at k3
        refine same_ (hrun _ _ _ hv (by omega)) (by show _ = _; rw [ptr_add]; rfl) hG
  · rename_i g c p hx' sz lo m' he
    obtain ⟨⟨dd, d0, η, d1, k4, k5, k6, k7, k8, k9, k10, rfl⟩, rfl, k3, rfl⟩ := h3
    rw [he] at hv
    have hv : a.eval x = subV hx' (m + 1) lo m' := hv.1
    obtain ⟨S, k11, _⟩ := path_open h k4 k5 k6 k7
    cases d1 with
    | val _ => cases k7
    | sl size ty cs =>
      have k8' : size = m + 1 := k8
      subst k8'
      obtain ⟨vs, T, S', k12, k13, _⟩ := k11
      have hvl := RepL.length _ k13
      rcases own_cells k12 with ⟨rfl, rfl⟩ | ⟨gg, nn, cc, rfl, rfl, k14, _, _⟩
      · simp at hvl
        simp [D.len, D.cells, ← hvl] at k10
        omega
      · have hlen : D.len (.sl (m + 1) ty cs) = nn := len_sl (by omega) (by rw [← hvl]; exact k14)
        rw [hlen] at k10
        obtain ⟨nv, hown, _⟩ := k12
        obtain ⟨_, ⟨h, _⟩ | ⟨g1, cap, cur, he1, _, _, hcap, _⟩⟩ := hown
        · cases h
        · cases he1
          have hne : cc ≠ lo := by omega
          simp only [subV, if_neg hne, Option.map_some] at hv
          refine same_ (hrun _ _ _ hv (by omega)) (by
            show _ = _
            rw [ptr_add, ptr_add, Nat.add_mul, Nat.zero_add]
            simp [elemAddr]) hG
  · exact h3.elim
theorem go_sidx (h : RelF B w0 N s a w F) {t : TypeId} {x i : Operand} {x' i' : X} (ho : o.op = .index t x i) (ht : P.underlying t = some .string) (hx : compX x = some x') (hi : compX i = some i')
    (hg : ∀ st, ∃ av os, Gen P s d rt st (.sidx x' i') av os ∧ G av os) : Goes P o a w (Yields_ B w G) := by
  obtain ⟨av, os, ⟨b, k, n, u, h1, h2, h3, h4, rfl, rfl⟩, hG⟩ := hg ⟨0, fun _ _ => undef⟩
  refine same_ (v := .int .u8 u.toNat) ?_ (by exact rfl) hG
  simp [execOp, ho, Instr.index, asIntOf, ev_v h hx h1, ev_v h hi h2, run_underlying ht, h3, h4]
theorem go_mm (h : RelF B w0 N s a w F) {c : Call} {mx : Bool} {x y : Operand} {x' y' : X} (ho : o.op = .call c) (hc : c.callee = .builtin (if mx then .max else .min)) (ha : c.args.toList = [x, y]) (hx : compX x = some x') (hy : compX y = some y')
    (hg : ∀ st, ∃ av os, Gen P s d rt st (.mm mx x' y') av os ∧ G av os) : Goes P o a w (Yields_ B w G) := by
  obtain ⟨av, os, ⟨k, k', m, n, h1, h2, rfl, rfl⟩, hG⟩ := hg ⟨0, fun _ _ => undef⟩
  have hargs : c.args = #[x, y] := by rw [← Array.toArray_toList (xs := c.args), ha]
  refine same_ (v := .int k (if mx then (if n > m then n else m) else (if n < m then n else m))) ?_ (by exact rfl) hG
  cases mx
  · simp at hc
    simp [execOp, ho, resolve, hc, hargs, ev_v h hx h1, ev_v h hy h2, invoke, builtin, Builtin.min_, Builtin.min2]
  · simp at hc
    simp [execOp, ho, resolve, hc, hargs, ev_v h hx h1, ev_v h hy h2, invoke, builtin, Builtin.max_, Builtin.max2]
theorem go_un (h : RelF B w0 N s a w F) {op : UnOp} {t : TypeId} {x : Operand} {x' : X} (ho : o.op = .unOp op t x) (hx : compX x = some x')
    (hg : ∀ st, ∃ av os, Gen P s d rt st (.un op x') av os ∧ G av os) : Goes P o a w (Yields_ B w G) := by
  obtain ⟨av, os, ⟨h1, rfl⟩, hG⟩ := hg ⟨0, fun _ _ => undef⟩
  cases op with
  | not =>
    obtain ⟨b, h2, rfl⟩ := h1
    refine same_ (v := .bool (!b)) ?_ (by exact rfl) hG
    simp [execOp, ho, ev_v h hx h2, Op.unary]
  | neg =>
    obtain ⟨k, n, h2, rfl⟩ := h1
    refine same_ (v := .int k (k.wrap (0 - n))) ?_ (by exact rfl) hG
    simp [execOp, ho, ev_v h hx h2, Op.unary, Op.intArith]
  | _ => exact h1.elim
theorem go_beq (h : RelF B w0 N s a w F) {neg : Bool} {t t' : TypeId} {x y : Operand} {x' y' : X} (ho : o.op = .binOp (if neg then .neq else .eql) t x y t') (ht : P.underlying t = some .bool) (hx : compX x = some x') (hy : compX y = some y')
    (hg : ∀ st, ∃ av os, Gen P s d rt st (.beq neg x' y') av os ∧ G av os) : Goes P o a w (Yields_ B w G) := by
  obtain ⟨av, os, ⟨b, c, h1, h2, rfl, rfl⟩, hG⟩ := hg ⟨0, fun _ _ => undef⟩
  refine same_ (v := .bool (if neg then !(b == c) else b == c)) ?_ (by exact rfl) hG
  cases neg
  · simp at ho
    simp [execOp, ho, ev_v h hx h1, ev_v h hy h2, eqGuard, binOp, run_equal_bool (P := P) w t b c ht]
  · simp at ho
    simp [execOp, ho, ev_v h hx h1, ev_v h hy h2, eqGuard, binOp, run_equal_bool (P := P) w t b c ht]
end
end Go.Proofs.YtnhdcbhcocgjhaaGreat
