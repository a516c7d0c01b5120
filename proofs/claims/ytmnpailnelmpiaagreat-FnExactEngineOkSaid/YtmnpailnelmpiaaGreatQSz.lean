/- Texts for laws: Sz. -/
import Derived.Test.YtmnpailnelmpiaaGreatQTy
namespace Go.Proofs.YtmnpailnelmpiaaGreat
open Go.RowKit Go.Sort Go.BigFrame

theorem szEdgeS_c (l : List Ed) (a : Value) (S : List Nat) (w : World) (own : Bool) (left : Int) (ha : Rep w own (encEds l) a S) (h0 : 0 ≤ left) (h1 : left ≤ 1048576) :
    Calls Tryz.prog 182 #[a, .int .i64 left] w fun e w' => e = .returned (.int .i64 (szf l.length left)) ∧ Below w.heap.size w w' := by
  obtain ⟨A, c, rfl, hc1, hc2, hca⟩ := Rep.open_ (size := 2) (enc := encEd) (fun _ => rfl) (by decide) ha
  clear ha hca
  unfold maxLen at hc2
  have hl1 : l.length ≤ 9223372036854775807 := by omega
  have hs := szf_spec l.length left
  go_enter Tryz.func182, Tryz.ntmps182
  go_wp2
  all_goals go_ret
  all_goals exact ⟨ret_int (by omega), Below.refl _ _⟩

set_option maxHeartbeats 1000000 in
theorem szPlan_c (x : Pl) (a : Value) (S : List Nat) (w : World) (own : Bool) (left : Int) (ha : AggRep w own (encPl x) a S) (h0 : 0 ≤ left) (h1 : left ≤ 1048576) :
    Calls Tryz.prog 103 #[a, .int .i64 left] w fun e w' => e = .returned (.int .i64 (szf (totPl x) left)) ∧ Below w.heap.size w w' := by
  obtain ⟨_, rfl, ha⟩ := ha
  obtain ⟨av0, rfl, ah0⟩ := pl_cells ha
  clear ha
  have hs0 := szf_spec (x.edges.length) (left)
  have hs := szf_spec (totPl x) left
  have ht : totPl x = x.edges.length := rfl
  rw [ht] at hs
  have HT := Lib.hid ht
  clear ht
  go_enter Tryz.func103, Tryz.ntmps103
  go_wp2_with (first
    | (go_at_call 182; refine (szEdgeS_c x.edges _ _ _ _ _ (ah0.below (by repeat (first | (with_reducible exact Below.refl _ _) | (with_reducible assumption) | ((with_reducible refine Below.alloc ?_ ?_ _); rotate_left; focus (simp; try omega)) | ((with_reducible refine Below.setCell ?_ ?_ _); rotate_left; focus (simp; try omega)) | (with_reducible refine bl_dn ?_ (by assumption)))) (Nat.le_refl _)) (by omega) (by omega)).mono ?_; rintro e w1 ⟨rfl, hb1⟩; obtain ⟨hc1, hf1⟩ := bcell hb1))
  all_goals go_ret
  all_goals exact ⟨ret_int (HT.out ▸ (by omega)), by repeat (first | (with_reducible exact Below.refl _ _) | (with_reducible assumption) | ((with_reducible refine Below.alloc ?_ ?_ _); rotate_left; focus (simp; try omega)) | ((with_reducible refine Below.setCell ?_ ?_ _); rotate_left; focus (simp; try omega)) | (with_reducible refine bl_dn ?_ (by assumption)))⟩

theorem szEntryS_c (l : List En) (a : Value) (S : List Nat) (w : World) (own : Bool) (left : Int) (ha : Rep w own (encEns l) a S) (h0 : 0 ≤ left) (h1 : left ≤ 1048576) :
    Calls Tryz.prog 180 #[a, .int .i64 left] w fun e w' => e = .returned (.int .i64 (szf l.length left)) ∧ Below w.heap.size w w' := by
  obtain ⟨A, c, rfl, hc1, hc2, hca⟩ := Rep.open_ (size := 4) (enc := encEn) (fun _ => rfl) (by decide) ha
  clear ha hca
  unfold maxLen at hc2
  have hl1 : l.length ≤ 9223372036854775807 := by omega
  have hs := szf_spec l.length left
  go_enter Tryz.func180, Tryz.ntmps180
  go_wp2
  all_goals go_ret
  all_goals exact ⟨ret_int (by omega), Below.refl _ _⟩

set_option maxHeartbeats 1000000 in
theorem szEntrySS_c (l : List (List En)) (a : Value) (S : List Nat) (w : World) (own : Bool) (left : Int) (ha : Rep w own (encSh l) a S) (h0 : 0 ≤ left) (h1 : left ≤ 1048576) :
    Calls Tryz.prog 101 #[a, .int .i64 left] w fun e w' => e = .returned (.int .i64 (szf (totSh l) left)) ∧ Below w.heap.size w w' := by
  obtain ⟨A, c, rfl, hc1, hc2, hca⟩ := Rep.open_ (size := 1) (enc := (fun es => [encEns es])) (fun _ => rfl) (by decide) ha
  clear ha
  unfold maxLen at hc2
  have hl1 : l.length ≤ 9223372036854775807 := by omega
  have hs := szf_spec (totSh l) left
  have ht : totSh l = l.length + tsum totEnS l := rfl
  rw [ht] at hs
  have HT := Lib.hid ht
  clear ht
  by_cases hneg : left - (l.length : Int) < 0
  · clear hca
    go_enter Tryz.func101, Tryz.ntmps101
    go_wp2
    go_ret
    exact ⟨ret_int (by rw [HT.out]; omega), Below.refl _ _⟩
  · go_enter Tryz.func101, Tryz.ntmps101
    go_wp2
    go_loopw [1, 5] (fun q i wr => ∃ (k : Nat) (v : Int), k ≤ l.length ∧ i = .int .i64 k ∧ q = .int .i64 v ∧ 0 ≤ v ∧ v = left - l.length - tsum totEnS (l.take k) ∧ Below w.heap.size w wr) (fun _ i _ => l.length - (intOf i).toNat)
    case atStart => exact ⟨0, left - l.length, by omega, rfl, rfl, by omega, by simp [tsum], Below.refl _ _⟩
    case round =>
      obtain ⟨k, v, hk, rfl, rfl, hv0, hv, hbel⟩ := hrel
      by_cases hlt : k < l.length
      · obtain ⟨x, hx⟩ := get_some hlt
        obtain ⟨b1, o1, vk1, T1, rfl, -, hr1, -, -, hb1, hx1⟩ := hca k x hx
        clear hca
        obtain ⟨au, _, aS0, aS1, rfl, rfl, ah0, rfl, rfl⟩ := hr1
        have htk := tsum_succ (tot := totEnS) hx
        have htl := tsum_le totEnS l (k + 1)
        have hsx := szf_spec (totEnS x) v
        have hv1 : v ≤ 1048576 := by omega
        have HV := Lib.hid hv
        have HK := Lib.hid htk
        clear hx hv htk
        have p0 := (hbel.cell (p := ⟨b1, o1 + k, none⟩) hb1).trans (by simpa using hx1 0 _ rfl : w.cell? ⟨b1, o1 + k, none⟩ = _)
        clear hx1
        go_wp2_with (go_at_call 180; refine (szEntryS_c x _ _ _ _ _ (ah0.below hbel (Nat.le_refl _)) (by omega) (by omega)).mono ?_; rintro e w2 ⟨rfl, hb2⟩)
        · go_ret
          have hv := HV.out
          have htk := HK.out
          exact ⟨ret_int (by rw [HT.out]; (try simp only [totEnS] at *); omega), bl_dn hbel hb2⟩
        · go_roundw
          case rel =>
            have hv := HV.out
            have htk := HK.out
            refine ⟨k + 1, _, by omega, by go_num, rfl, by omega, ?_, bl_dn hbel hb2⟩
            try simp only [totEnS] at *
            omega
          case measure => simp [intOf]; omega
      · obtain rfl : k = l.length := by omega
        clear hca
        rw [List.take_length] at hv
        have HV := Lib.hid hv
        clear hv
        go_wp2
        go_ret
        have hv := HV.out
        exact ⟨ret_int (by rw [HT.out]; omega), hbel⟩

theorem szTaskS_c (l : List Tk) (a : Value) (S : List Nat) (w : World) (own : Bool) (left : Int) (ha : Rep w own (encTks l) a S) (h0 : 0 ≤ left) (h1 : left ≤ 1048576) :
    Calls Tryz.prog 255 #[a, .int .i64 left] w fun e w' => e = .returned (.int .i64 (szf l.length left)) ∧ Below w.heap.size w w' := by
  obtain ⟨A, c, rfl, hc1, hc2, hca⟩ := Rep.open_ (size := 4) (enc := encTk) (fun _ => rfl) (by decide) ha
  clear ha hca
  unfold maxLen at hc2
  have hl1 : l.length ≤ 9223372036854775807 := by omega
  have hs := szf_spec l.length left
  go_enter Tryz.func255, Tryz.ntmps255
  go_wp2
  all_goals go_ret
  all_goals exact ⟨ret_int (by omega), Below.refl _ _⟩

set_option maxHeartbeats 1000000 in
theorem szRun_c (x : Rn) (a : Value) (S : List Nat) (w : World) (own : Bool) (left : Int) (ha : AggRep w own (encRn x) a S) (h0 : 0 ≤ left) (h1 : left ≤ 1048576) :
    Calls Tryz.prog 181 #[a, .int .i64 left] w fun e w' => e = .returned (.int .i64 (szf (totRn x) left)) ∧ Below w.heap.size w w' := by
  obtain ⟨_, rfl, ha⟩ := ha
  obtain ⟨av0, av1, aS0, aS1, rfl, ah0, ah1, rfl⟩ := rn_cells ha
  clear ha
  have hs0 := szf_spec (totPl x.plan) (left)
  have hs1 := szf_spec (x.tasks.length) (szf (totPl x.plan) (left))
  have hs := szf_spec (totRn x) left
  have ht : totRn x = totPl x.plan + x.tasks.length := rfl
  rw [ht] at hs
  have HT := Lib.hid ht
  clear ht
  go_enter Tryz.func181, Tryz.ntmps181
  go_wp2_with (first
    | (go_at_call 103; refine (szPlan_c x.plan _ _ _ _ _ ⟨_, rfl, pl_mk (ah0.below (by repeat (first | (with_reducible exact Below.refl _ _) | (with_reducible assumption) | ((with_reducible refine Below.alloc ?_ ?_ _); rotate_left; focus (simp; try omega)) | ((with_reducible refine Below.setCell ?_ ?_ _); rotate_left; focus (simp; try omega)) | (with_reducible refine bl_dn ?_ (by assumption)))) (Nat.le_refl _))⟩ (by omega) (by omega)).mono ?_; rintro e w1 ⟨rfl, hb1⟩; obtain ⟨hc1, hf1⟩ := bcell hb1)
    | (go_at_call 255; refine (szTaskS_c x.tasks _ _ _ _ _ (ah1.below (by repeat (first | (with_reducible exact Below.refl _ _) | (with_reducible assumption) | ((with_reducible refine Below.alloc ?_ ?_ _); rotate_left; focus (simp; try omega)) | ((with_reducible refine Below.setCell ?_ ?_ _); rotate_left; focus (simp; try omega)) | (with_reducible refine bl_dn ?_ (by assumption)))) (Nat.le_refl _)) (by omega) (by omega)).mono ?_; rintro e w2 ⟨rfl, hb2⟩; obtain ⟨hc2, hf2⟩ := bcell hb2))
  all_goals go_ret
  all_goals exact ⟨ret_int (HT.out ▸ (by omega)), by repeat (first | (with_reducible exact Below.refl _ _) | (with_reducible assumption) | ((with_reducible refine Below.alloc ?_ ?_ _); rotate_left; focus (simp; try omega)) | ((with_reducible refine Below.setCell ?_ ?_ _); rotate_left; focus (simp; try omega)) | (with_reducible refine bl_dn ?_ (by assumption)))⟩

set_option maxHeartbeats 1000000 in
theorem szRunS_c (l : List (Rn)) (a : Value) (S : List Nat) (w : World) (own : Bool) (left : Int) (ha : Rep w own (encRns l) a S) (h0 : 0 ≤ left) (h1 : left ≤ 1048576) :
    Calls Tryz.prog 102 #[a, .int .i64 left] w fun e w' => e = .returned (.int .i64 (szf (totRns l) left)) ∧ Below w.heap.size w w' := by
  obtain ⟨A, c, rfl, hc1, hc2, hca⟩ := Rep.open_ (size := 8) (enc := encRn) (fun _ => rfl) (by decide) ha
  clear ha
  unfold maxLen at hc2
  have hl1 : l.length ≤ 9223372036854775807 := by omega
  have hs := szf_spec (totRns l) left
  have ht : totRns l = l.length + tsum totRn l := rfl
  rw [ht] at hs
  have HT := Lib.hid ht
  clear ht
  by_cases hneg : left - (l.length : Int) < 0
  · clear hca
    go_enter Tryz.func102, Tryz.ntmps102
    go_wp2
    go_ret
    exact ⟨ret_int (by rw [HT.out]; omega), Below.refl _ _⟩
  · go_enter Tryz.func102, Tryz.ntmps102
    go_wp2
    go_loopw [1, 5] (fun q i wr => ∃ (k : Nat) (v : Int), k ≤ l.length ∧ i = .int .i64 k ∧ q = .int .i64 v ∧ 0 ≤ v ∧ v = left - l.length - tsum totRn (l.take k) ∧ Below w.heap.size w wr) (fun _ i _ => l.length - (intOf i).toNat)
    case atStart => exact ⟨0, left - l.length, by omega, rfl, rfl, by omega, by simp [tsum], Below.refl _ _⟩
    case round =>
      obtain ⟨k, v, hk, rfl, rfl, hv0, hv, hbel⟩ := hrel
      by_cases hlt : k < l.length
      · obtain ⟨x, hx⟩ := get_some hlt
        obtain ⟨b1, o1, vk1, T1, rfl, -, hr1, -, -, hb1, hx1⟩ := hca k x hx
        clear hca
        obtain ⟨av0, av1, aS0, aS1, rfl, ah0, ah1, rfl⟩ := rn_cells hr1
        have htk := tsum_succ (tot := totRn) hx
        have htl := tsum_le totRn l (k + 1)
        have hsx := szf_spec (totRn x) v
        have hv1 : v ≤ 1048576 := by omega
        have HV := Lib.hid hv
        have HK := Lib.hid htk
        clear hx hv htk
        have p0 := (hbel.cell (p := ⟨b1, o1 + k * 8, none⟩) hb1).trans (hx1 0 _ rfl : w.cell? ⟨b1, o1 + k * 8, none⟩ = _)
        have p1 := (hbel.cell (p := ⟨b1, o1 + k * 8 + 1, none⟩) hb1).trans (hx1 1 _ rfl : w.cell? ⟨b1, o1 + k * 8 + 1, none⟩ = _)
        have p2 := (hbel.cell (p := ⟨b1, o1 + k * 8 + 2, none⟩) hb1).trans (hx1 2 _ rfl : w.cell? ⟨b1, o1 + k * 8 + 2, none⟩ = _)
        have p3 := (hbel.cell (p := ⟨b1, o1 + k * 8 + 3, none⟩) hb1).trans (hx1 3 _ rfl : w.cell? ⟨b1, o1 + k * 8 + 3, none⟩ = _)
        have p4 := (hbel.cell (p := ⟨b1, o1 + k * 8 + 4, none⟩) hb1).trans (hx1 4 _ rfl : w.cell? ⟨b1, o1 + k * 8 + 4, none⟩ = _)
        have p5 := (hbel.cell (p := ⟨b1, o1 + k * 8 + 5, none⟩) hb1).trans (hx1 5 _ rfl : w.cell? ⟨b1, o1 + k * 8 + 5, none⟩ = _)
        have p6 := (hbel.cell (p := ⟨b1, o1 + k * 8 + 6, none⟩) hb1).trans (hx1 6 _ rfl : w.cell? ⟨b1, o1 + k * 8 + 6, none⟩ = _)
        have p7 := (hbel.cell (p := ⟨b1, o1 + k * 8 + 7, none⟩) hb1).trans (hx1 7 _ rfl : w.cell? ⟨b1, o1 + k * 8 + 7, none⟩ = _)
        clear hx1
        go_wp2_with (go_at_call 181; refine (szRun_c x _ _ _ _ _ ⟨_, rfl, hr1.below hbel (Nat.le_refl _)⟩ (by omega) (by omega)).mono ?_; rintro e w2 ⟨rfl, hb2⟩)
        · go_ret
          have hv := HV.out
          have htk := HK.out
          exact ⟨ret_int (by rw [HT.out]; (try simp only [totEnS] at *); omega), bl_dn hbel hb2⟩
        · go_roundw
          case rel =>
            have hv := HV.out
            have htk := HK.out
            refine ⟨k + 1, _, by omega, by go_num, rfl, by omega, ?_, bl_dn hbel hb2⟩
            try simp only [totEnS] at *
            omega
          case measure => simp [intOf]; omega
      · obtain rfl : k = l.length := by omega
        clear hca
        rw [List.take_length] at hv
        have HV := Lib.hid hv
        clear hv
        go_wp2
        go_ret
        have hv := HV.out
        exact ⟨ret_int (by rw [HT.out]; omega), hbel⟩

set_option maxHeartbeats 1000000 in
theorem szYard_c (x : Yd) (a : Value) (S : List Nat) (w : World) (own : Bool) (left : Int) (ha : AggRep w own (encYd x) a S) (h0 : 0 ≤ left) (h1 : left ≤ 1048576) :
    Calls Tryz.prog 28 #[a, .int .i64 left] w fun e w' => e = .returned (.int .i64 (szf (totYd x) left)) ∧ Below w.heap.size w w' := by
  obtain ⟨_, rfl, ha⟩ := ha
  obtain ⟨av0, av1, aS0, aS1, rfl, ah0, ah1, rfl⟩ := yd_cells ha
  clear ha
  have hs0 := szf_spec (totSh x.shelf) (left)
  have hs1 := szf_spec (totRns x.runs) (szf (totSh x.shelf) (left))
  have hs := szf_spec (totYd x) left
  have ht : totYd x = totSh x.shelf + totRns x.runs := rfl
  rw [ht] at hs
  have HT := Lib.hid ht
  clear ht
  go_enter Tryz.func28, Tryz.ntmps28
  go_wp2_with (first
    | (go_at_call 101; refine (szEntrySS_c x.shelf _ _ _ _ _ (ah0.below (by repeat (first | (with_reducible exact Below.refl _ _) | (with_reducible assumption) | ((with_reducible refine Below.alloc ?_ ?_ _); rotate_left; focus (simp; try omega)) | ((with_reducible refine Below.setCell ?_ ?_ _); rotate_left; focus (simp; try omega)) | (with_reducible refine bl_dn ?_ (by assumption)))) (Nat.le_refl _)) (by omega) (by omega)).mono ?_; rintro e w1 ⟨rfl, hb1⟩; obtain ⟨hc1, hf1⟩ := bcell hb1)
    | (go_at_call 102; refine (szRunS_c x.runs _ _ _ _ _ (ah1.below (by repeat (first | (with_reducible exact Below.refl _ _) | (with_reducible assumption) | ((with_reducible refine Below.alloc ?_ ?_ _); rotate_left; focus (simp; try omega)) | ((with_reducible refine Below.setCell ?_ ?_ _); rotate_left; focus (simp; try omega)) | (with_reducible refine bl_dn ?_ (by assumption)))) (Nat.le_refl _)) (by omega) (by omega)).mono ?_; rintro e w2 ⟨rfl, hb2⟩; obtain ⟨hc2, hf2⟩ := bcell hb2))
  all_goals go_ret
  all_goals exact ⟨ret_int (HT.out ▸ (by omega)), by repeat (first | (with_reducible exact Below.refl _ _) | (with_reducible assumption) | ((with_reducible refine Below.alloc ?_ ?_ _); rotate_left; focus (simp; try omega)) | ((with_reducible refine Below.setCell ?_ ?_ _); rotate_left; focus (simp; try omega)) | (with_reducible refine bl_dn ?_ (by assumption)))⟩

end Go.Proofs.YtmnpailnelmpiaaGreat
