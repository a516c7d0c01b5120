/- Marks in memory that lies behind memory. -/
import Derived.Test.YthgdkidalekffaaMark
namespace Go.Proofs.Ythgdkidalekffaa
open Go.RowKit Go.Sort Go.BigFrame

/-- Element after element, each from where the last left off. -/
def mkL {α : Type} (mk : α → Int → α) (cnt : α → Nat) : List α → Int → List α
  | [], _ => []
  | x :: l, k => mk x k :: mkL mk cnt l (k + (cnt x : Int))
theorem mkL_len {α : Type} (mk : α → Int → α) (cnt : α → Nat) : ∀ (l : List α) (k : Int), (mkL mk cnt l k).length = l.length
  | [], _ => rfl
  | _ :: l, k => by rw [mkL, List.length_cons, List.length_cons, mkL_len mk cnt l]
theorem mkL_get {α : Type} (mk : α → Int → α) (cnt : α → Nat) : ∀ (l : List α) (k : Int) {i : Nat} {x : α}, l[i]? = some x → (mkL mk cnt l k)[i]? = some (mk x (k + (tsum cnt (l.take i) : Nat)))
  | [], _, i, x, h => by simp at h
  | y :: l, k, 0, x, h => by
    simp at h
    subst h
    simp [mkL, tsum]
  | y :: l, k, i + 1, x, h => by
    simp only [List.getElem?_cons_succ] at h
    rw [mkL, List.getElem?_cons_succ, mkL_get mk cnt l _ h, List.take_succ_cons]
    have : tsum cnt (y :: l.take i) = cnt y + tsum cnt (l.take i) := by simp [tsum]
    rw [this]
    congr 2
    push_cast
    omega

/-- An element of an owned slice, its own memory apart: what turns in that memory alone turns that element alone. -/
theorem Rep.inElem {α : Type} {enc : α → List D} {size : Nat} {ty : TypeId} {w : World} {xs : List α} {S : List Nat} {B : Nat} {g n c k : Nat} {x : α}
    (hl : ∀ x, (enc x).length = size) (hs : 0 < size) (h : Rep w true (.sl size ty (xs.flatMap enc)) (.slice (some ⟨g, 0, none⟩) n c) S) (hF : Go.Proofs.Ythgdkidalekffaa.Fresh B S) (hx : xs[k]? = some x) :
    ∃ vk Sk, RepL w true (enc x) vk Sk ∧ (∀ s ∈ Sk, s ∈ S) ∧ Go.Proofs.Ythgdkidalekffaa.Fresh B Sk ∧ (∀ j u, vk[j]? = some u → w.cell? ⟨g, k * size + j, none⟩ = some u) ∧ g ∉ Sk ∧ g ∈ S ∧
      ∀ w' y, Only Sk w w' → RepL w' true (enc y) vk Sk → Rep w' true (.sl size ty ((xs.set k y).flatMap enc)) (.slice (some ⟨g, 0, none⟩) n c) S := by
  obtain ⟨vs, S1, h1, h2, rfl⟩ := Rep.own hl hs h
  have hk : k < xs.length := (List.getElem?_eq_some_iff.1 hx).1
  obtain ⟨v1, vk, v2, Sa, Sk, Sb, rfl, hv1, hvk, rfl, hr, hra, hrb⟩ := RepL.get hl xs h2 k x hx
  have hn : n = xs.length := by
    rcases h1.2 with ⟨e, _⟩ | ⟨g', cap', cur, e, _⟩
    · cases e
    · simp only [Value.slice.injEq] at e; exact e.2.1
  subst hn
  have hglt : g < w.heap.size := h1.lt g rfl |>.2
  have hg : g ∉ Sk := fun hh => hF.apart g (by simp [blk]) (by simp [hh])
  have hsz : k * size + size ≤ xs.length * size := by rw [← Nat.succ_mul]; exact Nat.mul_le_mul_right _ hk
  refine ⟨vk, Sk, hr, fun s hs => by simp [hs], hF.right.left.right, fun j u hu => ?_, hg, by simp [blk], fun w' y ho hy => ?_⟩
  · have hj : j < size := by have := (List.getElem?_eq_some_iff.1 hu).1; omega
    rw [h1.cellAt (k * size + j) (by omega), List.append_assoc, List.getElem?_append_right (by omega), hv1, Nat.add_sub_cancel_left, List.getElem?_append_left (by omega)]
    exact hu
  · have hna : ∀ s ∈ Sa, s ∉ Sk := hF.right.left.apart
    have hnb : ∀ s ∈ Sb, s ∉ Sk := fun s hs hk' => hF.right.apart s (by simp [hk']) hs
    have h1' : w'.ownsRow 0 ty size (.slice (some ⟨g, 0, none⟩) xs.length c) xs.length (v1 ++ vk ++ v2) := by
      refine ⟨h1.1, ?_⟩
      rcases h1.2 with ⟨e, _⟩ | ⟨g', cap', cur, e, hb, hc, hr⟩
      · cases e
      · refine .inr ⟨g', cap', cur, e, hb, ?_, hr⟩
        simp only [Value.slice.injEq, Option.some.injEq, Addr.mk.injEq, and_true] at e
        obtain ⟨rfl, _⟩ := e
        rw [ho.block g hglt hg]
        exact hc
    exact Rep.of_own h1' (RepL.put xs hk (hra.only ho hna) hy (hrb.only ho hnb))

def c4 (l : List En) : Nat := 4 * l.length
def mkEs (l : List En) (k : Int) : List En := mkR mkEn 4 l.length k

end Go.Proofs.Ythgdkidalekffaa
