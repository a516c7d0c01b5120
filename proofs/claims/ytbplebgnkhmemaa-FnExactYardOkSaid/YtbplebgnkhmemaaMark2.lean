/- Marks in memory that lies behind memory. -/
import Derived.Test.YtbplebgnkhmemaaMark
namespace Go.Proofs.Ytbplebgnkhmemaa
open Go.RowKit Go.Sort Go.BigFrame

/-- Element after element, each from where the last left off. -/
def mkL {α : Type} (mk : α → Int → α) (cnt : α → Nat) : List α → Int → List α
  | [], _ => []
  | x :: l, k => mk x k :: mkL mk cnt l (k + (cnt x : Int))
theorem mkL_len {α : Type} (mk : α → Int → α) (cnt : α → Nat) : ∀ (l : List α) (k : Int), (mkL mk cnt l k).length = l.length
  | [], _ => rfl
  | _ :: l, k => by rw [mkL, List.length_cons, List.length_cons, mkL_len mk cnt l]
theorem mkL_get {α : Type} (mk : α → Int → α) (cnt : α → Nat) : ∀ (l : List α) (k : Int) {i : Nat} {x : α}, l[i]? = some x → (mkL mk cnt l k)[i]? = some (mk x (k + (tsum cnt (l.take i) : Nat)))
  | [], _, i, x, h => by simp at h
  | y :: l, k, 0, x, h => by
    simp at h
    subst h
    simp [mkL, tsum]
  | y :: l, k, i + 1, x, h => by
    simp only [List.getElem?_cons_succ] at h
    rw [mkL, List.getElem?_cons_succ, mkL_get mk cnt l _ h, List.take_succ_cons]
    have : tsum cnt (y :: l.take i) = cnt y + tsum cnt (l.take i) := by simp [tsum]
    rw [this]
    congr 2
    push_cast
    omega

/-- An element of an owned slice, its own memory apart: what turns in that memory alone turns that element alone. -/
theorem Rep.inElem {α : Type} {enc : α → List D} {size : Nat} {ty : TypeId} {w : World} {xs : List α} {S : List Nat} {B : Nat} {g n c k : Nat} {x : α}
    (hl : ∀ x, (enc x).length = size) (hs : 0 < size) (h : Rep w true (.sl size ty (xs.flatMap enc)) (.slice (some ⟨g, 0, none⟩) n c) S) (hF : Go.Proofs.Ytbplebgnkhmemaa.Fresh B S) (hx : xs[k]? = some x) :
    ∃ vk Sk, RepL w true (enc x) vk Sk ∧ (∀ s ∈ Sk, s ∈ S) ∧ Go.Proofs.Ytbplebgnkhmemaa.Fresh B Sk ∧ (∀ j u, vk[j]? = some u → w.cell? ⟨g, k * size + j, none⟩ = some u) ∧ g ∉ Sk ∧ g ∈ S ∧
      ∀ w' y, Only Sk w w' → RepL w' true (enc y) vk Sk → Rep w' true (.sl size ty ((xs.set k y).flatMap enc)) (.slice (some ⟨g, 0, none⟩) n c) S := by
  obtain ⟨vs, S1, h1, h2, rfl⟩ := Rep.own hl hs h
  have hk : k < xs.length := (List.getElem?_eq_some_iff.1 hx).1
  obtain ⟨v1, vk, v2, Sa, Sk, Sb, rfl, hv1, hvk, rfl, hr, hra, hrb⟩ := RepL.get hl xs h2 k x hx
  have hn : n = xs.length := by
    rcases h1.2 with ⟨e, _⟩ | ⟨g', cap', cur, e, _⟩
    · cases e
    · simp only [Value.slice.injEq] at e; exact e.2.1
  subst hn
  have hglt : g < w.heap.size := h1.lt g rfl |>.2
  have hg : g ∉ Sk := fun hh => hF.apart g (by simp [blk]) (by simp [hh])
  have hsz : k * size + size ≤ xs.length * size := by rw [← Nat.succ_mul]; exact Nat.mul_le_mul_right _ hk
  refine ⟨vk, Sk, hr, fun s hs => by simp [hs], hF.right.left.right, fun j u hu => ?_, hg, by simp [blk], fun w' y ho hy => ?_⟩
  · have hj : j < size := by have := (List.getElem?_eq_some_iff.1 hu).1; omega
    rw [h1.cellAt (k * size + j) (by omega), List.append_assoc, List.getElem?_append_right (by omega), hv1, Nat.add_sub_cancel_left, List.getElem?_append_left (by omega)]
    exact hu
  · have hna : ∀ s ∈ Sa, s ∉ Sk := hF.right.left.apart
    have hnb : ∀ s ∈ Sb, s ∉ Sk := fun s hs hk' => hF.right.apart s (by simp [hk']) hs
    have h1' : w'.ownsRow 0 ty size (.slice (some ⟨g, 0, none⟩) xs.length c) xs.length (v1 ++ vk ++ v2) := by
      refine ⟨h1.1, ?_⟩
      rcases h1.2 with ⟨e, _⟩ | ⟨g', cap', cur, e, hb, hc, hr⟩
      · cases e
      · refine .inr ⟨g', cap', cur, e, hb, ?_, hr⟩
        simp only [Value.slice.injEq, Option.some.injEq, Addr.mk.injEq, and_true] at e
        obtain ⟨rfl, _⟩ := e
        rw [ho.block g hglt hg]
        exact hc
    exact Rep.of_own h1' (RepL.put xs hk (hra.only ho hna) hy (hrb.only ho hnb))

def c4 (l : List En) : Nat := 4 * l.length
def mkEs (l : List En) (k : Int) : List En := mkR mkEn 4 l.length k
set_option maxHeartbeats 2000000 in
theorem markEntrySS_c (l : List (List En)) (k : Int) (v : Value) (S : List Nat) (B : Nat) (w : World) (ha : Rep w true (encSh l) v S) (hF : Fresh B S) (h0 : 0 ≤ k) (h1 : k + (tsum c4 l : Nat) ≤ 2305843009213693952) (h2 : l.length ≤ 2305843009213693952) :
    Calls Try.prog 67 #[v, .int .i64 k] w fun e w' => e = .returned (.int .i64 (k + (tsum c4 l : Nat))) ∧ Rep w' true (encSh (mkL mkEs c4 l k)) v S ∧ Only S w w' := by
  obtain ⟨A, c, rfl, hc1, hc2, -⟩ := Rep.open_ (size := 1) (enc := fun es => [encEns es]) (fun _ => rfl) (by decide) ha
  go_enter Try.func67, Try.ntmps67
  go_wp2
  go_loopw [1, 5] (fun q i wr => ∃ j : Nat, j ≤ l.length ∧ i = .int .i64 j ∧ q = .int .i64 (k + (tsum c4 (l.take j) : Nat)) ∧ Rep wr true (encSh (mh (mkL mkEs c4 l k) l j)) (.slice A l.length c) S ∧ Only S w wr) (fun _ i _ => l.length - (intOf i).toNat)
  case atStart => exact ⟨0, by omega, rfl, by simp [tsum], by rw [mh_zero]; exact ha, Only.refl _ _⟩
  case round =>
    obtain ⟨i, hi, rfl, rfl, hrep, hon⟩ := hrel
    by_cases hlt : i < l.length
    · obtain ⟨x, hx⟩ := get_some hlt
      have hmx := mh_get (mkL_len mkEs c4 l k) hx
      obtain ⟨g, rfl, -, hg1, hg, -⟩ := Rep.head (enc := fun es => [encEns es]) (size := 1) (xs := mh (mkL mkEs c4 l k) l i) (fun _ => rfl) (by decide) hrep (by rw [mh_len (mkL_len _ _ _ _)]; omega)
      · skip
        obtain ⟨vk, Sk, hrk, hSk, hFk, hcell, hgk, -, hback⟩ := Rep.inElem (enc := fun es => [encEns es]) (size := 1) (fun _ => rfl) (by decide) hrep hF hmx
        obtain ⟨u, _, U0, U1, rfl, rfl, hu, rfl, rfl⟩ := hrk
        have p0 : wr.cell? ⟨g, i, none⟩ = some u := by simpa using hcell 0 u rfl
        obtain ⟨A1, n1, m1, rfl⟩ := Rep.form hu
        have hts := tsum_succ (tot := c4) hx
        have htl := tsum_le c4 l (i + 1)
        have hc4 : c4 x = 4 * x.length := rfl
        have HT := Lib.hid (show k + ((tsum c4 (l.take i) : Nat) : Int) + 4 * (x.length : Int) = k + ((tsum c4 (l.take (i + 1)) : Nat) : Int) by omega)
        have hq0 : 0 ≤ k + ((tsum c4 (l.take i) : Nat) : Int) := by omega
        have hq1 : k + ((tsum c4 (l.take i) : Nat) : Int) + 4 * (x.length : Int) ≤ 2305843009213693952 := by omega
        have HM := Lib.hid (mkL_get mkEs c4 l k hx)
        have HB := Lib.hid hback
        have HF := Lib.hid hFk
        clear hcell hmx hx hts htl hc4 hback
        generalize ((tsum c4 (l.take i) : Nat) : Int) = t at *
        simp only [List.append_nil] at *
        go_wp2_with (go_at_call 110; refine (markEntryS_c x (k + t) _ U0 B wr hu HF.out hq0 (by omega)).mono ?_; rintro e w' ⟨rfl, hr', ho'⟩)
        go_roundw
        case rel =>
          refine ⟨i + 1, by omega, by go_num, by rw [HT.out], ?_, hon.trans ho' (fun t ht => .inl (hSk t ht))⟩
          rw [← mh_set (mkL_len _ _ _ _) HM.out]
          exact HB.out w' _ ho' (by have h := RepL.cons_ hr' (RepL.nil_ (w := w') (own := true)); rw [List.append_nil] at h; exact h)
        case measure => simp [intOf]; omega
    · obtain rfl : i = l.length := by omega
      go_wp2
      go_ret
      rw [List.take_length]
      exact ⟨rfl, by rw [← mh_done (mkL_len mkEs c4 l k)]; exact hrep, hon⟩

set_option maxHeartbeats 2000000 in
theorem heldEntrySS_c (l : List (List En)) (k : Int) (v : Value) (S : List Nat) (w : World) (own : Bool) (ha : Rep w own (encSh (mkL mkEs c4 l k)) v S) (h0 : 0 ≤ k) (h1 : k + (tsum c4 l : Nat) ≤ 2305843009213693952) (h2 : l.length ≤ 2305843009213693952) :
    Calls Try.prog 69 #[v, .int .i64 k] w fun e w' => e = .returned (.int .i64 (k + (tsum c4 l : Nat))) ∧ Below w.heap.size w w' := by
  obtain ⟨A, c, rfl, hc1, hc2, hca⟩ := Rep.open_ (size := 1) (enc := fun es => [encEns es]) (fun _ => rfl) (by decide) ha
  rw [mkL_len] at *
  clear ha
  go_enter Try.func69, Try.ntmps69
  go_wp2
  go_loopw [1, 5] (fun q i wr => ∃ j : Nat, j ≤ l.length ∧ i = .int .i64 j ∧ q = .int .i64 (k + (tsum c4 (l.take j) : Nat)) ∧ Below w.heap.size w wr) (fun _ i _ => l.length - (intOf i).toNat)
  case atStart => exact ⟨0, by omega, rfl, by simp [tsum], Below.refl _ _⟩
  case round =>
    obtain ⟨i, hi, rfl, rfl, hbel⟩ := hrel
    by_cases hlt : i < l.length
    · obtain ⟨x, hx⟩ := get_some hlt
      obtain ⟨b1, o1, vk1, T1, rfl, -, hr1, -, -, hb1, hx1⟩ := hca i _ (mkL_get mkEs c4 l k hx)
      clear hca
      · skip
        obtain ⟨u, _, U0, U1, rfl, rfl, hu, rfl, rfl⟩ := hr1
        have p0 := ctm (b := b1) (o := o1 + i) hbel (by simpa using hx1 0 _ rfl)
        obtain ⟨A1, n1, rfl, hi1, hi2, -⟩ := Rep.open_ (size := 4) (enc := encEn) (fun _ => rfl) (by decide) hu
        have hts := tsum_succ (tot := c4) hx
        have htl := tsum_le c4 l (i + 1)
        have hc4 : c4 x = 4 * x.length := rfl
        have HT := Lib.hid (show k + ((tsum c4 (l.take i) : Nat) : Int) + 4 * (x.length : Int) = k + ((tsum c4 (l.take (i + 1)) : Nat) : Int) by omega)
        have hq0 : 0 ≤ k + ((tsum c4 (l.take i) : Nat) : Int) := by omega
        have hq1 : k + ((tsum c4 (l.take i) : Nat) : Int) + 4 * (x.length : Int) ≤ 2305843009213693952 := by omega
        clear hx1 hx hts htl hc4
        generalize ((tsum c4 (l.take i) : Nat) : Int) = t at *
        have hneg : decide (k + t + 4 * (x.length : Int) < 0) = false := by simp; omega
        go_wp2_with (go_at_call 113; refine (heldEntryS_c x.length (k + t) _ U0 wr own (up hu hbel) hq0 (by omega)).mono ?_; rintro e w' ⟨rfl, hb'⟩)
        go_roundw
        case rel => exact ⟨i + 1, by omega, by go_num, by rw [HT.out], bl_dn hbel hb'⟩
        case measure => simp [intOf]; omega
    · obtain rfl : i = l.length := by omega
      clear hca
      go_wp2
      go_ret
      rw [List.take_length]
      exact ⟨rfl, hbel⟩
end Go.Proofs.Ytbplebgnkhmemaa
