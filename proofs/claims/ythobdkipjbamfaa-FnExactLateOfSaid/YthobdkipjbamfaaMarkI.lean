/- Marks in slices of slices of ints (as XMark2 has them for shelves). -/
import Derived.Test.YthobdkipjbamfaaMark2
import Derived.Test.YthobdkipjbamfaaIss
namespace Go.Proofs.Ythobdkipjbamfaa
open Go.RowKit Go.Sort Go.BigFrame
def c1i (l : List Int) : Nat := l.length
def mkIs (l : List Int) (k : Int) : List Int := mkR (fun k => k) 1 l.length k
set_option maxHeartbeats 2000000 in
theorem markIntSS_c (l : List (List Int)) (k : Int) (v : Value) (S : List Nat) (B : Nat) (w : World) (ha : Rep w true (encIss l) v S) (hF : Fresh B S) (h0 : 0 ≤ k) (h1 : k + (tsum c1i l : Nat) ≤ 2305843009213693952) (h2 : l.length ≤ 2305843009213693952) :
    Calls Try.prog 37 #[v, .int .i64 k] w fun e w' => e = .returned (.int .i64 (k + (tsum c1i l : Nat))) ∧ Rep w' true (encIss (mkL mkIs c1i l k)) v S ∧ Only S w w' := by
  obtain ⟨A, c, rfl, hc1, hc2, -⟩ := Rep.open_ (size := 1) (enc := fun es => [encInts es]) (fun _ => rfl) (by decide) ha
  go_enter Try.func37, Try.ntmps37
  go_wp2
  go_loopw [1, 5] (fun q i wr => ∃ j : Nat, j ≤ l.length ∧ i = .int .i64 j ∧ q = .int .i64 (k + (tsum c1i (l.take j) : Nat)) ∧ Rep wr true (encIss (mh (mkL mkIs c1i l k) l j)) (.slice A l.length c) S ∧ Only S w wr) (fun _ i _ => l.length - (intOf i).toNat)
  case atStart => exact ⟨0, by omega, rfl, by simp [tsum], by rw [mh_zero]; exact ha, Only.refl _ _⟩
  case round =>
    obtain ⟨i, hi, rfl, rfl, hrep, hon⟩ := hrel
    by_cases hlt : i < l.length
    · obtain ⟨x, hx⟩ := get_some hlt
      have hmx := mh_get (mkL_len mkIs c1i l k) hx
      obtain ⟨g, rfl, -, hg1, hg, -⟩ := Rep.head (enc := fun es => [encInts es]) (size := 1) (xs := mh (mkL mkIs c1i l k) l i) (fun _ => rfl) (by decide) hrep (by rw [mh_len (mkL_len _ _ _ _)]; omega)
      · skip
        obtain ⟨vk, Sk, hrk, hSk, hFk, hcell, hgk, -, hback⟩ := Rep.inElem (enc := fun es => [encInts es]) (size := 1) (fun _ => rfl) (by decide) hrep hF hmx
        obtain ⟨u, _, U0, U1, rfl, rfl, hu, rfl, rfl⟩ := hrk
        have p0 : wr.cell? ⟨g, i, none⟩ = some u := by simpa using hcell 0 u rfl
        obtain ⟨A1, n1, m1, rfl⟩ := Rep.form hu
        have hts := tsum_succ (tot := c1i) hx
        have htl := tsum_le c1i l (i + 1)
        have hcx : c1i x = x.length := rfl
        have HT := Lib.hid (show k + ((tsum c1i (l.take i) : Nat) : Int) + (x.length : Int) = k + ((tsum c1i (l.take (i + 1)) : Nat) : Int) by omega)
        have hq0 : 0 ≤ k + ((tsum c1i (l.take i) : Nat) : Int) := by omega
        have hq1 : k + ((tsum c1i (l.take i) : Nat) : Int) + (x.length : Int) ≤ 2305843009213693952 := by omega
        have HM := Lib.hid (mkL_get mkIs c1i l k hx)
        have HB := Lib.hid hback
        have HF := Lib.hid hFk
        clear hcell hmx hx hts htl hcx hback
        generalize ((tsum c1i (l.take i) : Nat) : Int) = t at *
        simp only [List.append_nil] at *
        go_wp2_with (go_at_call 22; refine (markIntS_c x (k + t) _ U0 B wr hu HF.out hq0 (by omega)).mono ?_; rintro e w' ⟨rfl, hr', ho'⟩)
        go_roundw
        case rel =>
          refine ⟨i + 1, by omega, by go_num, by rw [HT.out], ?_, hon.trans ho' (fun t ht => .inl (hSk t ht))⟩
          rw [← mh_set (mkL_len _ _ _ _) HM.out]
          exact HB.out w' _ ho' (by have h := RepL.cons_ hr' (RepL.nil_ (w := w') (own := true)); rw [List.append_nil] at h; exact h)
        case measure => simp [intOf]; omega
    · obtain rfl : i = l.length := by omega
      go_wp2
      go_ret
      rw [List.take_length]
      exact ⟨rfl, by rw [← mh_done (mkL_len mkIs c1i l k)]; exact hrep, hon⟩

set_option maxHeartbeats 2000000 in
theorem heldIntSS_c (l : List (List Int)) (k : Int) (v : Value) (S : List Nat) (w : World) (own : Bool) (ha : Rep w own (encIss (mkL mkIs c1i l k)) v S) (h0 : 0 ≤ k) (h1 : k + (tsum c1i l : Nat) ≤ 2305843009213693952) (h2 : l.length ≤ 2305843009213693952) :
    Calls Try.prog 38 #[v, .int .i64 k] w fun e w' => e = .returned (.int .i64 (k + (tsum c1i l : Nat))) ∧ Below w.heap.size w w' := by
  obtain ⟨A, c, rfl, hc1, hc2, hca⟩ := Rep.open_ (size := 1) (enc := fun es => [encInts es]) (fun _ => rfl) (by decide) ha
  rw [mkL_len] at *
  clear ha
  go_enter Try.func38, Try.ntmps38
  go_wp2
  go_loopw [1, 5] (fun q i wr => ∃ j : Nat, j ≤ l.length ∧ i = .int .i64 j ∧ q = .int .i64 (k + (tsum c1i (l.take j) : Nat)) ∧ Below w.heap.size w wr) (fun _ i _ => l.length - (intOf i).toNat)
  case atStart => exact ⟨0, by omega, rfl, by simp [tsum], Below.refl _ _⟩
  case round =>
    obtain ⟨i, hi, rfl, rfl, hbel⟩ := hrel
    by_cases hlt : i < l.length
    · obtain ⟨x, hx⟩ := get_some hlt
      obtain ⟨b1, o1, vk1, T1, rfl, -, hr1, -, -, hb1, hx1⟩ := hca i _ (mkL_get mkIs c1i l k hx)
      clear hca
      · skip
        obtain ⟨u, _, U0, U1, rfl, rfl, hu, rfl, rfl⟩ := hr1
        have p0 := ctm (b := b1) (o := o1 + i) hbel (by simpa using hx1 0 _ rfl)
        obtain ⟨A1, n1, rfl, hi1, hi2, -⟩ := Rep.open_ (size := 1) (enc := fun n => [iv n]) (fun _ => rfl) (by decide) hu
        have hts := tsum_succ (tot := c1i) hx
        have htl := tsum_le c1i l (i + 1)
        have hcx : c1i x = x.length := rfl
        have HT := Lib.hid (show k + ((tsum c1i (l.take i) : Nat) : Int) + (x.length : Int) = k + ((tsum c1i (l.take (i + 1)) : Nat) : Int) by omega)
        have hq0 : 0 ≤ k + ((tsum c1i (l.take i) : Nat) : Int) := by omega
        have hq1 : k + ((tsum c1i (l.take i) : Nat) : Int) + (x.length : Int) ≤ 2305843009213693952 := by omega
        clear hx1 hx hts htl hcx
        generalize ((tsum c1i (l.take i) : Nat) : Int) = t at *
        have hneg : decide (k + t + (x.length : Int) < 0) = false := by simp; omega
        go_wp2_with (go_at_call 23; refine (heldIntS_c x.length (k + t) _ U0 wr own (up hu hbel) hq0 (by omega)).mono ?_; rintro e w' ⟨rfl, hb'⟩)
        go_roundw
        case rel => exact ⟨i + 1, by omega, by go_num, by rw [HT.out], bl_dn hbel hb'⟩
        case measure => simp [intOf]; omega
    · obtain rfl : i = l.length := by omega
      clear hca
      go_wp2
      go_ret
      rw [List.take_length]
      exact ⟨rfl, hbel⟩
end Go.Proofs.Ythobdkipjbamfaa
