/- Texts for laws: Ty, RunAt, Sz. -/
import Derived.Test.YtnhdcbhcocgjhaaGreatQData
import Derived.Test.YtnhdcbhcocgjhaaGreatRows
namespace Go.Proofs.YtnhdcbhcocgjhaaGreat
open Go.RowKit

theorem iEd : (Tryz.prog.info? tEd).map (fun i => (i.zero, i.size, i.bytes)) = some (some (.agg #[.int .i64 0, .int .i64 0]), 2, 16) := by kernel_rfl
theorem slEd : SlT Tryz.prog tEdS tEd 2 16 [.int .i64 0, .int .i64 0] := ⟨by kernel_rfl, info_of iEd, rfl, by decide⟩
theorem szEd : (Tryz.prog.info? tEd).map (·.size) = some 2 := by kernel_rfl
theorem iEn : (Tryz.prog.info? tEn).map (fun i => (i.zero, i.size, i.bytes)) = some (some (.agg #[.int .i64 0, .int .i64 0, .int .i64 0, .int .i64 0]), 4, 32) := by kernel_rfl
theorem slEn : SlT Tryz.prog tEnS tEn 4 32 [.int .i64 0, .int .i64 0, .int .i64 0, .int .i64 0] := ⟨by kernel_rfl, info_of iEn, rfl, by decide⟩
theorem szEn : (Tryz.prog.info? tEn).map (·.size) = some 4 := by kernel_rfl
theorem iTk : (Tryz.prog.info? tTk).map (fun i => (i.zero, i.size, i.bytes)) = some (some (.agg #[.int .i64 0, .int .i64 0, .int .i64 0, .int .i64 0]), 4, 32) := by kernel_rfl
theorem slTk : SlT Tryz.prog tTkS tTk 4 32 [.int .i64 0, .int .i64 0, .int .i64 0, .int .i64 0] := ⟨by kernel_rfl, info_of iTk, rfl, by decide⟩
theorem szTk : (Tryz.prog.info? tTk).map (·.size) = some 4 := by kernel_rfl
theorem iEnS : (Tryz.prog.info? tEnS).map (fun i => (i.zero, i.size, i.bytes)) = some (some (.slice none 0 0), 1, 24) := by kernel_rfl
theorem slEnS : SlT Tryz.prog tSh tEnS 1 24 [.slice none 0 0] := ⟨by kernel_rfl, info_of iEnS, rfl, by decide⟩
theorem iRn : (Tryz.prog.info? tRn).map (fun i => (i.zero, i.size, i.bytes)) = some (some (.agg #[.int .i64 0, .int .i64 0, .int .i64 0, .int .i64 0, .int .i64 0, .slice none 0 0, .int .i64 0, .slice none 0 0]), 8, 96) := by kernel_rfl
theorem slRn : SlT Tryz.prog tRnS tRn 8 96 [.int .i64 0, .int .i64 0, .int .i64 0, .int .i64 0, .int .i64 0, .slice none 0 0, .int .i64 0, .slice none 0 0] := ⟨by kernel_rfl, info_of iRn, rfl, by decide⟩
theorem szRn : (Tryz.prog.info? tRn).map (·.size) = some 8 := by kernel_rfl
theorem encEd_one : ∀ (y : Ed), ∀ d ∈ encEd y, d.one := by intro y d hd; simp [encEd] at hd; rcases hd with rfl | rfl <;> trivial
theorem encEn_one : ∀ (y : En), ∀ d ∈ encEn y, d.one := by intro y d hd; simp [encEn] at hd; rcases hd with rfl | rfl | rfl | rfl <;> trivial
theorem encTk_one : ∀ (y : Tk), ∀ d ∈ encTk y, d.one := by intro y d hd; simp [encTk] at hd; rcases hd with rfl | rfl | rfl | rfl <;> trivial
theorem encRn_one : ∀ (y : Rn), ∀ d ∈ encRn y, d.one := by intro y d hd; simp [encRn, encPl, encEds, encTks] at hd; rcases hd with rfl | rfl | rfl | rfl | rfl | rfl | rfl | rfl <;> trivial
theorem zRn (w : World) : RepL w true (encRn ⟨0, ⟨0, 0, 0, 0, []⟩, 0, []⟩) [.int .i64 0, .int .i64 0, .int .i64 0, .int .i64 0, .int .i64 0, .slice none 0 0, .int .i64 0, .slice none 0 0] [] := rn_mk (r := ⟨0, ⟨0, 0, 0, 0, []⟩, 0, []⟩) (Rep.nil_ w 2 tEd) (Rep.nil_ w 4 tTk)
theorem zEn (w : World) : RepL w true (encEn ⟨0, 0, 0, 0⟩) [.int .i64 0, .int .i64 0, .int .i64 0, .int .i64 0] [] := en_mk w true ⟨0, 0, 0, 0⟩
theorem zTk (w : World) : RepL w true (encTk ⟨0, 0, 0, 0⟩) [.int .i64 0, .int .i64 0, .int .i64 0, .int .i64 0] [] := tk_mk w true ⟨0, 0, 0, 0⟩
theorem zEd (w : World) : RepL w true (encEd ⟨0, 0⟩) [.int .i64 0, .int .i64 0] [] := ed_mk w true ⟨0, 0⟩
theorem zEnS (w : World) : RepL w true [encEns []] [.slice none 0 0] [] := RepL.cons_ (Rep.nil_ w 4 tEn) RepL.nil_
end Go.Proofs.YtnhdcbhcocgjhaaGreat
namespace Go.Proofs.YtnhdcbhcocgjhaaGreat
open Go.RowKit Go.Sort Go.BigFrame

set_option maxHeartbeats 1000000 in
theorem sRunAt_c (y : Yd) (id : Int) (a : Value) (S : List Nat) (w : World) (own : Bool) (ha : AggRep w own (encYd y) a S) :
    Calls Tryz.prog 45 #[a, .int .i64 id] w fun e w' => e = .returned (.int .i64 (runAt y id)) ∧ Below w.heap.size w w' := by
  obtain ⟨_, rfl, ha⟩ := ha
  obtain ⟨sv, rv, S1, S2, rfl, ah0, ah1, rfl⟩ := yd_cells ha
  clear ha ah0
  obtain ⟨A, c, rfl, hc1, hc2, hca⟩ := Rep.open_ (size := 8) (enc := encRn) (fun _ => rfl) (by decide) ah1
  unfold maxLen at hc2
  have hl1 : y.runs.length ≤ 9223372036854775807 := by omega
  by_cases h8 : 8 < y.runs.length
  · clear hca
    have hr : runAt y id = -1 := by simp [runAt, h8]
    rw [hr]
    clear hr
    go_enter Tryz.func45, Tryz.ntmps45
    go_wp2
    go_loop [5] (fun i => i = .int .i64 0) (fun _ => 0)
    case atStart => rfl
    case round =>
      subst hrel
      go_wp2
      all_goals go_ret
      all_goals exact ⟨rfl, (Below.refl _ _).alloc (by simp) _⟩
  · have hr : runAt y id = runIx y.runs id := by simp [runAt, h8]
    rw [hr]
    clear hr
    go_enter Tryz.func45, Tryz.ntmps45
    go_wp2
    go_loop [5] (fun i => ∃ k : Nat, k ≤ y.runs.length ∧ i = .int .i64 k ∧ ∀ j, j < k → ∀ z, y.runs[j]? = some z → z.id ≠ id) (fun i => y.runs.length - (intOf i).toNat)
    case atStart => exact ⟨0, by omega, rfl, by simp⟩
    case round =>
      obtain ⟨k, hk, rfl, hno⟩ := hrel
      have HN := Lib.hid hno
      clear hno
      by_cases hlt : k < y.runs.length
      · obtain ⟨x, hx⟩ := get_some hlt
        obtain ⟨b1, o1, vk1, T1, rfl, -, hr1, -, -, hb1, hx1⟩ := hca k x hx
        clear hca
        obtain ⟨v0, v1, U0, U1, rfl, -, -, -⟩ := rn_cells hr1
        have HX := Lib.hid hx
        clear hx
        have p0 : w.cell? ⟨b1, o1 + k * 8, none⟩ = some (.int .i64 x.id) := hx1 0 _ rfl
        clear hx1 hr1
        by_cases he : x.id = id
        · have hb : (x.id == id) = true := by simpa using he
          have HE := Lib.hid he
          clear he
          go_wp2
          go_ret
          exact ⟨ret_int (runIx_found HX.out HE.out HN.out).symm, (Below.refl _ _).alloc (by simp) _⟩
        · have hb : (x.id == id) = false := by simpa using he
          have HE := Lib.hid he
          clear he
          go_wp2
          go_round
          case rel =>
            refine ⟨k + 1, by omega, by go_num, fun j hj z hz => ?_⟩
            by_cases hjk : j = k
            · subst hjk
              have := HX.out
              rw [hz] at this
              cases this
              exact HE.out
            · exact HN.out j (by omega) z hz
          case measure => simp [intOf]; omega
      · obtain rfl : k = y.runs.length := by omega
        clear hca
        go_wp2
        go_ret
        exact ⟨ret_int (runIx_none HN.out).symm, (Below.refl _ _).alloc (by simp) _⟩

theorem iRunAt1_c (x : Rn) (id : Int) (a : Value) (S : List Nat) (g : Nat) (w : World) (own : Bool) (ha : AggRep w own (encRn x) a S) (hg : w.cell? ⟨g, 0, none⟩ = some (.int .i64 id)) :
    Calls Tryz.prog 119 #[a, .pointer (some ⟨g, 0, none⟩)] w fun e w' => e = .returned (.bool (x.id == id)) ∧ Below w.heap.size w w' := by
  obtain ⟨_, rfl, ha⟩ := ha
  obtain ⟨v0, v1, U0, U1, rfl, -, -, -⟩ := rn_cells ha
  clear ha
  have hlt := World.block_lt_of_cell? w _ hg
  go_enter Tryz.func119, Tryz.ntmps119
  go_wp2
  go_ret
  exact ⟨rfl, (Below.refl _ _).alloc (by simp) _⟩

set_option maxHeartbeats 1000000 in
theorem iIndexRun_c (rs : List Rn) (id : Int) (a : Value) (S : List Nat) (g : Nat) (w : World) (own : Bool) (ha : Rep w own (encRns rs) a S) (hg : w.cell? ⟨g, 0, none⟩ = some (.int .i64 id)) :
    Calls Tryz.prog 118 #[a, .func (.func 119) #[] #[.pointer (some ⟨g, 0, none⟩)]] w fun e w' => e = .returned (.int .i64 (runIx rs id)) ∧ Below w.heap.size w w' := by
  obtain ⟨A, c, rfl, hc1, hc2, hca⟩ := Rep.open_ (size := 8) (enc := encRn) (fun _ => rfl) (by decide) ha
  unfold maxLen at hc2
  have hl1 : rs.length ≤ 9223372036854775807 := by omega
  have hglt := World.block_lt_of_cell? w _ hg
  clear ha
  go_enter Tryz.func118, Tryz.ntmps118
  go_wp2
  go_loopw [5, 8] (fun _ i wr => ∃ k : Nat, k ≤ rs.length ∧ i = .int .i64 k ∧ (∀ j, j < k → ∀ z, rs[j]? = some z → z.id ≠ id) ∧ Below w.heap.size w wr) (fun _ i _ => rs.length - (intOf i).toNat)
  case atStart => exact ⟨0, by omega, rfl, by simp, Below.refl _ _⟩
  case round =>
    obtain ⟨k, hk, rfl, hno, hbel⟩ := hrel
    have HN := Lib.hid hno
    clear hno
    have hgr : wr.cell? ⟨g, 0, none⟩ = some (.int .i64 id) := (hbel.cell (p := ⟨g, 0, none⟩) hglt).trans hg
    by_cases hlt : k < rs.length
    · obtain ⟨x, hx⟩ := get_some hlt
      obtain ⟨b1, o1, vk1, T1, rfl, -, hr1, -, -, hb1, hx1⟩ := hca k x hx
      clear hca
      obtain ⟨v0, v1, U0, U1, rfl, -, -, -⟩ := rn_cells hr1
      have HX := Lib.hid hx
      clear hx
      have p0 := (hbel.cell (p := ⟨b1, o1 + k * 8, none⟩) hb1).trans (hx1 0 _ rfl : w.cell? ⟨b1, o1 + k * 8, none⟩ = _)
      have p1 := (hbel.cell (p := ⟨b1, o1 + k * 8 + 1, none⟩) hb1).trans (hx1 1 _ rfl)
      have p2 := (hbel.cell (p := ⟨b1, o1 + k * 8 + 2, none⟩) hb1).trans (hx1 2 _ rfl)
      have p3 := (hbel.cell (p := ⟨b1, o1 + k * 8 + 3, none⟩) hb1).trans (hx1 3 _ rfl)
      have p4 := (hbel.cell (p := ⟨b1, o1 + k * 8 + 4, none⟩) hb1).trans (hx1 4 _ rfl)
      have p5 := (hbel.cell (p := ⟨b1, o1 + k * 8 + 5, none⟩) hb1).trans (hx1 5 _ rfl)
      have p6 := (hbel.cell (p := ⟨b1, o1 + k * 8 + 6, none⟩) hb1).trans (hx1 6 _ rfl)
      have p7 := (hbel.cell (p := ⟨b1, o1 + k * 8 + 7, none⟩) hb1).trans (hx1 7 _ rfl)
      clear hx1
      by_cases he : x.id = id
      · have hb : (x.id == id) = true := by simpa using he
        have HE := Lib.hid he
        clear he
        go_wp2_with (go_at_call 119; refine (iRunAt1_c x id _ _ _ _ own ⟨_, rfl, hr1.below hbel (Nat.le_refl _)⟩ hgr).mono ?_; rintro e w2 ⟨rfl, hb2⟩)
        go_ret
        exact ⟨ret_int (runIx_found HX.out HE.out HN.out).symm, bl_dn hbel hb2⟩
      · have hb : (x.id == id) = false := by simpa using he
        have HE := Lib.hid he
        clear he
        go_wp2_with (go_at_call 119; refine (iRunAt1_c x id _ _ _ _ own ⟨_, rfl, hr1.below hbel (Nat.le_refl _)⟩ hgr).mono ?_; rintro e w2 ⟨rfl, hb2⟩)
        go_roundw
        case rel =>
          refine ⟨k + 1, by omega, by go_num, fun j hj z hz => ?_, bl_dn hbel hb2⟩
          by_cases hjk : j = k
          · subst hjk
            have := HX.out
            rw [hz] at this
            cases this
            exact HE.out
          · exact HN.out j (by omega) z hz
        case measure => simp [intOf]; omega
    · obtain rfl : k = rs.length := by omega
      clear hca
      go_wp2
      go_ret
      exact ⟨ret_int (runIx_none HN.out).symm, hbel⟩

set_option maxHeartbeats 1000000 in
theorem iRunAt_c (y : Yd) (id : Int) (a : Value) (S : List Nat) (w : World) (own : Bool) (ha : AggRep w own (encYd y) a S) :
    Calls Tryz.prog 53 #[a, .int .i64 id] w fun e w' => e = .returned (.int .i64 (runAt y id)) ∧ Below w.heap.size w w' := by
  obtain ⟨_, rfl, ha⟩ := ha
  obtain ⟨sv, rv, S1, S2, rfl, ah0, ah1, rfl⟩ := yd_cells ha
  clear ha ah0
  obtain ⟨A, c, rfl, hc1, hc2, hca⟩ := Rep.open_ (size := 8) (enc := encRn) (fun _ => rfl) (by decide) ah1
  unfold maxLen at hc2
  have hl1 : y.runs.length ≤ 9223372036854775807 := by omega
  clear hca
  by_cases h8 : 8 < y.runs.length
  · have hr : runAt y id = -1 := by simp [runAt, h8]
    rw [hr]
    clear hr
    go_enter Tryz.func53, Tryz.ntmps53
    go_wp2
    go_ret
    exact ⟨rfl, ((Below.refl _ _).alloc (by simp) _).alloc (by simp) _⟩
  · have hr : runAt y id = runIx y.runs id := by simp [runAt, h8]
    rw [hr]
    clear hr
    go_enter Tryz.func53, Tryz.ntmps53
    go_wp2_with (go_at_call 118; refine (iIndexRun_c y.runs id _ _ _ _ own (ah1.below (((Below.refl _ _).alloc (by simp) _).alloc (by simp) _) (Nat.le_refl _)) (by simp [go_sem])).mono ?_; rintro e w2 ⟨rfl, hb2⟩)
    go_ret
    exact ⟨rfl, bl_dn (((Below.refl _ _).alloc (by simp) _).alloc (by simp) _) hb2⟩
end Go.Proofs.YtnhdcbhcocgjhaaGreat
namespace Go.Proofs.YtnhdcbhcocgjhaaGreat
open Go.RowKit Go.Sort Go.BigFrame

theorem szEdgeS_c (l : List Ed) (a : Value) (S : List Nat) (w : World) (own : Bool) (left : Int) (ha : Rep w own (encEds l) a S) (h0 : 0 ≤ left) (h1 : left ≤ 1048576) :
    Calls Tryz.prog 193 #[a, .int .i64 left] w fun e w' => e = .returned (.int .i64 (szf l.length left)) ∧ Below w.heap.size w w' := by
  obtain ⟨A, c, rfl, hc1, hc2, hca⟩ := Rep.open_ (size := 2) (enc := encEd) (fun _ => rfl) (by decide) ha
  clear ha hca
  unfold maxLen at hc2
  have hl1 : l.length ≤ 9223372036854775807 := by omega
  have hs := szf_spec l.length left
  go_enter Tryz.func193, Tryz.ntmps193
  go_wp2
  all_goals go_ret
  all_goals exact ⟨ret_int (by omega), Below.refl _ _⟩

set_option maxHeartbeats 1000000 in
theorem szPlan_c (x : Pl) (a : Value) (S : List Nat) (w : World) (own : Bool) (left : Int) (ha : AggRep w own (encPl x) a S) (h0 : 0 ≤ left) (h1 : left ≤ 1048576) :
    Calls Tryz.prog 161 #[a, .int .i64 left] w fun e w' => e = .returned (.int .i64 (szf (totPl x) left)) ∧ Below w.heap.size w w' := by
  obtain ⟨_, rfl, ha⟩ := ha
  obtain ⟨av0, rfl, ah0⟩ := pl_cells ha
  clear ha
  have hs0 := szf_spec (x.edges.length) (left)
  have hs := szf_spec (totPl x) left
  have ht : totPl x = x.edges.length := rfl
  rw [ht] at hs
  have HT := Lib.hid ht
  clear ht
  go_enter Tryz.func161, Tryz.ntmps161
  go_wp2_with (first
    | (go_at_call 193; refine (szEdgeS_c x.edges _ _ _ _ _ (ah0.below (by repeat (first | (with_reducible exact Below.refl _ _) | (with_reducible assumption) | ((with_reducible refine Below.alloc ?_ ?_ _); rotate_left; focus (simp; try omega)) | ((with_reducible refine Below.setCell ?_ ?_ _); rotate_left; focus (simp; try omega)) | (with_reducible refine bl_dn ?_ (by assumption)))) (Nat.le_refl _)) (by omega) (by omega)).mono ?_; rintro e w1 ⟨rfl, hb1⟩; obtain ⟨hc1, hf1⟩ := bcell hb1))
  all_goals go_ret
  all_goals exact ⟨ret_int (HT.out ▸ (by omega)), by repeat (first | (with_reducible exact Below.refl _ _) | (with_reducible assumption) | ((with_reducible refine Below.alloc ?_ ?_ _); rotate_left; focus (simp; try omega)) | ((with_reducible refine Below.setCell ?_ ?_ _); rotate_left; focus (simp; try omega)) | (with_reducible refine bl_dn ?_ (by assumption)))⟩

theorem szEntryS_c (l : List En) (a : Value) (S : List Nat) (w : World) (own : Bool) (left : Int) (ha : Rep w own (encEns l) a S) (h0 : 0 ≤ left) (h1 : left ≤ 1048576) :
    Calls Tryz.prog 103 #[a, .int .i64 left] w fun e w' => e = .returned (.int .i64 (szf l.length left)) ∧ Below w.heap.size w w' := by
  obtain ⟨A, c, rfl, hc1, hc2, hca⟩ := Rep.open_ (size := 4) (enc := encEn) (fun _ => rfl) (by decide) ha
  clear ha hca
  unfold maxLen at hc2
  have hl1 : l.length ≤ 9223372036854775807 := by omega
  have hs := szf_spec l.length left
  go_enter Tryz.func103, Tryz.ntmps103
  go_wp2
  all_goals go_ret
  all_goals exact ⟨ret_int (by omega), Below.refl _ _⟩

set_option maxHeartbeats 1000000 in
theorem szEntrySS_c (l : List (List En)) (a : Value) (S : List Nat) (w : World) (own : Bool) (left : Int) (ha : Rep w own (encSh l) a S) (h0 : 0 ≤ left) (h1 : left ≤ 1048576) :
    Calls Tryz.prog 41 #[a, .int .i64 left] w fun e w' => e = .returned (.int .i64 (szf (totSh l) left)) ∧ Below w.heap.size w w' := by
  obtain ⟨A, c, rfl, hc1, hc2, hca⟩ := Rep.open_ (size := 1) (enc := (fun es => [encEns es])) (fun _ => rfl) (by decide) ha
  clear ha
  unfold maxLen at hc2
  have hl1 : l.length ≤ 9223372036854775807 := by omega
  have hs := szf_spec (totSh l) left
  have ht : totSh l = l.length + tsum totEnS l := rfl
  rw [ht] at hs
  have HT := Lib.hid ht
  clear ht
  by_cases hneg : left - (l.length : Int) < 0
  · clear hca
    go_enter Tryz.func41, Tryz.ntmps41
    go_wp2
    go_ret
    exact ⟨ret_int (by rw [HT.out]; omega), Below.refl _ _⟩
  · go_enter Tryz.func41, Tryz.ntmps41
    go_wp2
    go_loopw [1, 5] (fun q i wr => ∃ (k : Nat) (v : Int), k ≤ l.length ∧ i = .int .i64 k ∧ q = .int .i64 v ∧ 0 ≤ v ∧ v = left - l.length - tsum totEnS (l.take k) ∧ Below w.heap.size w wr) (fun _ i _ => l.length - (intOf i).toNat)
    case atStart => exact ⟨0, left - l.length, by omega, rfl, rfl, by omega, by simp [tsum], Below.refl _ _⟩
    case round =>
      obtain ⟨k, v, hk, rfl, rfl, hv0, hv, hbel⟩ := hrel
      by_cases hlt : k < l.length
      · obtain ⟨x, hx⟩ := get_some hlt
        obtain ⟨b1, o1, vk1, T1, rfl, -, hr1, -, -, hb1, hx1⟩ := hca k x hx
        clear hca
        obtain ⟨au, _, aS0, aS1, rfl, rfl, ah0, rfl, rfl⟩ := hr1
        have htk := tsum_succ (tot := totEnS) hx
        have htl := tsum_le totEnS l (k + 1)
        have hsx := szf_spec (totEnS x) v
        have hv1 : v ≤ 1048576 := by omega
        have HV := Lib.hid hv
        have HK := Lib.hid htk
        clear hx hv htk
        have p0 := (hbel.cell (p := ⟨b1, o1 + k, none⟩) hb1).trans (by simpa using hx1 0 _ rfl : w.cell? ⟨b1, o1 + k, none⟩ = _)
        clear hx1
        go_wp2_with (go_at_call 103; refine (szEntryS_c x _ _ _ _ _ (ah0.below hbel (Nat.le_refl _)) (by omega) (by omega)).mono ?_; rintro e w2 ⟨rfl, hb2⟩)
        · go_ret
          have hv := HV.out
          have htk := HK.out
          exact ⟨ret_int (by rw [HT.out]; (try simp only [totEnS] at *); omega), bl_dn hbel hb2⟩
        · go_roundw
          case rel =>
            have hv := HV.out
            have htk := HK.out
            refine ⟨k + 1, _, by omega, by go_num, rfl, by omega, ?_, bl_dn hbel hb2⟩
            try simp only [totEnS] at *
            omega
          case measure => simp [intOf]; omega
      · obtain rfl : k = l.length := by omega
        clear hca
        rw [List.take_length] at hv
        have HV := Lib.hid hv
        clear hv
        go_wp2
        go_ret
        have hv := HV.out
        exact ⟨ret_int (by rw [HT.out]; omega), hbel⟩

theorem szTaskS_c (l : List Tk) (a : Value) (S : List Nat) (w : World) (own : Bool) (left : Int) (ha : Rep w own (encTks l) a S) (h0 : 0 ≤ left) (h1 : left ≤ 1048576) :
    Calls Tryz.prog 162 #[a, .int .i64 left] w fun e w' => e = .returned (.int .i64 (szf l.length left)) ∧ Below w.heap.size w w' := by
  obtain ⟨A, c, rfl, hc1, hc2, hca⟩ := Rep.open_ (size := 4) (enc := encTk) (fun _ => rfl) (by decide) ha
  clear ha hca
  unfold maxLen at hc2
  have hl1 : l.length ≤ 9223372036854775807 := by omega
  have hs := szf_spec l.length left
  go_enter Tryz.func162, Tryz.ntmps162
  go_wp2
  all_goals go_ret
  all_goals exact ⟨ret_int (by omega), Below.refl _ _⟩

set_option maxHeartbeats 1000000 in
theorem szRun_c (x : Rn) (a : Value) (S : List Nat) (w : World) (own : Bool) (left : Int) (ha : AggRep w own (encRn x) a S) (h0 : 0 ≤ left) (h1 : left ≤ 1048576) :
    Calls Tryz.prog 104 #[a, .int .i64 left] w fun e w' => e = .returned (.int .i64 (szf (totRn x) left)) ∧ Below w.heap.size w w' := by
  obtain ⟨_, rfl, ha⟩ := ha
  obtain ⟨av0, av1, aS0, aS1, rfl, ah0, ah1, rfl⟩ := rn_cells ha
  clear ha
  have hs0 := szf_spec (totPl x.plan) (left)
  have hs1 := szf_spec (x.tasks.length) (szf (totPl x.plan) (left))
  have hs := szf_spec (totRn x) left
  have ht : totRn x = totPl x.plan + x.tasks.length := rfl
  rw [ht] at hs
  have HT := Lib.hid ht
  clear ht
  go_enter Tryz.func104, Tryz.ntmps104
  go_wp2_with (first
    | (go_at_call 161; refine (szPlan_c x.plan _ _ _ _ _ ⟨_, rfl, pl_mk (ah0.below (by repeat (first | (with_reducible exact Below.refl _ _) | (with_reducible assumption) | ((with_reducible refine Below.alloc ?_ ?_ _); rotate_left; focus (simp; try omega)) | ((with_reducible refine Below.setCell ?_ ?_ _); rotate_left; focus (simp; try omega)) | (with_reducible refine bl_dn ?_ (by assumption)))) (Nat.le_refl _))⟩ (by omega) (by omega)).mono ?_; rintro e w1 ⟨rfl, hb1⟩; obtain ⟨hc1, hf1⟩ := bcell hb1)
    | (go_at_call 162; refine (szTaskS_c x.tasks _ _ _ _ _ (ah1.below (by repeat (first | (with_reducible exact Below.refl _ _) | (with_reducible assumption) | ((with_reducible refine Below.alloc ?_ ?_ _); rotate_left; focus (simp; try omega)) | ((with_reducible refine Below.setCell ?_ ?_ _); rotate_left; focus (simp; try omega)) | (with_reducible refine bl_dn ?_ (by assumption)))) (Nat.le_refl _)) (by omega) (by omega)).mono ?_; rintro e w2 ⟨rfl, hb2⟩; obtain ⟨hc2, hf2⟩ := bcell hb2))
  all_goals go_ret
  all_goals exact ⟨ret_int (HT.out ▸ (by omega)), by repeat (first | (with_reducible exact Below.refl _ _) | (with_reducible assumption) | ((with_reducible refine Below.alloc ?_ ?_ _); rotate_left; focus (simp; try omega)) | ((with_reducible refine Below.setCell ?_ ?_ _); rotate_left; focus (simp; try omega)) | (with_reducible refine bl_dn ?_ (by assumption)))⟩

set_option maxHeartbeats 1000000 in
theorem szRunS_c (l : List (Rn)) (a : Value) (S : List Nat) (w : World) (own : Bool) (left : Int) (ha : Rep w own (encRns l) a S) (h0 : 0 ≤ left) (h1 : left ≤ 1048576) :
    Calls Tryz.prog 42 #[a, .int .i64 left] w fun e w' => e = .returned (.int .i64 (szf (totRns l) left)) ∧ Below w.heap.size w w' := by
  obtain ⟨A, c, rfl, hc1, hc2, hca⟩ := Rep.open_ (size := 8) (enc := encRn) (fun _ => rfl) (by decide) ha
  clear ha
  unfold maxLen at hc2
  have hl1 : l.length ≤ 9223372036854775807 := by omega
  have hs := szf_spec (totRns l) left
  have ht : totRns l = l.length + tsum totRn l := rfl
  rw [ht] at hs
  have HT := Lib.hid ht
  clear ht
  by_cases hneg : left - (l.length : Int) < 0
  · clear hca
    go_enter Tryz.func42, Tryz.ntmps42
    go_wp2
    go_ret
    exact ⟨ret_int (by rw [HT.out]; omega), Below.refl _ _⟩
  · go_enter Tryz.func42, Tryz.ntmps42
    go_wp2
    go_loopw [1, 5] (fun q i wr => ∃ (k : Nat) (v : Int), k ≤ l.length ∧ i = .int .i64 k ∧ q = .int .i64 v ∧ 0 ≤ v ∧ v = left - l.length - tsum totRn (l.take k) ∧ Below w.heap.size w wr) (fun _ i _ => l.length - (intOf i).toNat)
    case atStart => exact ⟨0, left - l.length, by omega, rfl, rfl, by omega, by simp [tsum], Below.refl _ _⟩
    case round =>
      obtain ⟨k, v, hk, rfl, rfl, hv0, hv, hbel⟩ := hrel
      by_cases hlt : k < l.length
      · obtain ⟨x, hx⟩ := get_some hlt
        obtain ⟨b1, o1, vk1, T1, rfl, -, hr1, -, -, hb1, hx1⟩ := hca k x hx
        clear hca
        obtain ⟨av0, av1, aS0, aS1, rfl, ah0, ah1, rfl⟩ := rn_cells hr1
        have htk := tsum_succ (tot := totRn) hx
        have htl := tsum_le totRn l (k + 1)
        have hsx := szf_spec (totRn x) v
        have hv1 : v ≤ 1048576 := by omega
        have HV := Lib.hid hv
        have HK := Lib.hid htk
        clear hx hv htk
        have p0 := (hbel.cell (p := ⟨b1, o1 + k * 8, none⟩) hb1).trans (hx1 0 _ rfl : w.cell? ⟨b1, o1 + k * 8, none⟩ = _)
        have p1 := (hbel.cell (p := ⟨b1, o1 + k * 8 + 1, none⟩) hb1).trans (hx1 1 _ rfl : w.cell? ⟨b1, o1 + k * 8 + 1, none⟩ = _)
        have p2 := (hbel.cell (p := ⟨b1, o1 + k * 8 + 2, none⟩) hb1).trans (hx1 2 _ rfl : w.cell? ⟨b1, o1 + k * 8 + 2, none⟩ = _)
        have p3 := (hbel.cell (p := ⟨b1, o1 + k * 8 + 3, none⟩) hb1).trans (hx1 3 _ rfl : w.cell? ⟨b1, o1 + k * 8 + 3, none⟩ = _)
        have p4 := (hbel.cell (p := ⟨b1, o1 + k * 8 + 4, none⟩) hb1).trans (hx1 4 _ rfl : w.cell? ⟨b1, o1 + k * 8 + 4, none⟩ = _)
        have p5 := (hbel.cell (p := ⟨b1, o1 + k * 8 + 5, none⟩) hb1).trans (hx1 5 _ rfl : w.cell? ⟨b1, o1 + k * 8 + 5, none⟩ = _)
        have p6 := (hbel.cell (p := ⟨b1, o1 + k * 8 + 6, none⟩) hb1).trans (hx1 6 _ rfl : w.cell? ⟨b1, o1 + k * 8 + 6, none⟩ = _)
        have p7 := (hbel.cell (p := ⟨b1, o1 + k * 8 + 7, none⟩) hb1).trans (hx1 7 _ rfl : w.cell? ⟨b1, o1 + k * 8 + 7, none⟩ = _)
        clear hx1
        go_wp2_with (go_at_call 104; refine (szRun_c x _ _ _ _ _ ⟨_, rfl, hr1.below hbel (Nat.le_refl _)⟩ (by omega) (by omega)).mono ?_; rintro e w2 ⟨rfl, hb2⟩)
        · go_ret
          have hv := HV.out
          have htk := HK.out
          exact ⟨ret_int (by rw [HT.out]; (try simp only [totEnS] at *); omega), bl_dn hbel hb2⟩
        · go_roundw
          case rel =>
            have hv := HV.out
            have htk := HK.out
            refine ⟨k + 1, _, by omega, by go_num, rfl, by omega, ?_, bl_dn hbel hb2⟩
            try simp only [totEnS] at *
            omega
          case measure => simp [intOf]; omega
      · obtain rfl : k = l.length := by omega
        clear hca
        rw [List.take_length] at hv
        have HV := Lib.hid hv
        clear hv
        go_wp2
        go_ret
        have hv := HV.out
        exact ⟨ret_int (by rw [HT.out]; omega), hbel⟩

set_option maxHeartbeats 1000000 in
theorem szYard_c (x : Yd) (a : Value) (S : List Nat) (w : World) (own : Bool) (left : Int) (ha : AggRep w own (encYd x) a S) (h0 : 0 ≤ left) (h1 : left ≤ 1048576) :
    Calls Tryz.prog 11 #[a, .int .i64 left] w fun e w' => e = .returned (.int .i64 (szf (totYd x) left)) ∧ Below w.heap.size w w' := by
  obtain ⟨_, rfl, ha⟩ := ha
  obtain ⟨av0, av1, aS0, aS1, rfl, ah0, ah1, rfl⟩ := yd_cells ha
  clear ha
  have hs0 := szf_spec (totSh x.shelf) (left)
  have hs1 := szf_spec (totRns x.runs) (szf (totSh x.shelf) (left))
  have hs := szf_spec (totYd x) left
  have ht : totYd x = totSh x.shelf + totRns x.runs := rfl
  rw [ht] at hs
  have HT := Lib.hid ht
  clear ht
  go_enter Tryz.func11, Tryz.ntmps11
  go_wp2_with (first
    | (go_at_call 41; refine (szEntrySS_c x.shelf _ _ _ _ _ (ah0.below (by repeat (first | (with_reducible exact Below.refl _ _) | (with_reducible assumption) | ((with_reducible refine Below.alloc ?_ ?_ _); rotate_left; focus (simp; try omega)) | ((with_reducible refine Below.setCell ?_ ?_ _); rotate_left; focus (simp; try omega)) | (with_reducible refine bl_dn ?_ (by assumption)))) (Nat.le_refl _)) (by omega) (by omega)).mono ?_; rintro e w1 ⟨rfl, hb1⟩; obtain ⟨hc1, hf1⟩ := bcell hb1)
    | (go_at_call 42; refine (szRunS_c x.runs _ _ _ _ _ (ah1.below (by repeat (first | (with_reducible exact Below.refl _ _) | (with_reducible assumption) | ((with_reducible refine Below.alloc ?_ ?_ _); rotate_left; focus (simp; try omega)) | ((with_reducible refine Below.setCell ?_ ?_ _); rotate_left; focus (simp; try omega)) | (with_reducible refine bl_dn ?_ (by assumption)))) (Nat.le_refl _)) (by omega) (by omega)).mono ?_; rintro e w2 ⟨rfl, hb2⟩; obtain ⟨hc2, hf2⟩ := bcell hb2))
  all_goals go_ret
  all_goals exact ⟨ret_int (HT.out ▸ (by omega)), by repeat (first | (with_reducible exact Below.refl _ _) | (with_reducible assumption) | ((with_reducible refine Below.alloc ?_ ?_ _); rotate_left; focus (simp; try omega)) | ((with_reducible refine Below.setCell ?_ ?_ _); rotate_left; focus (simp; try omega)) | (with_reducible refine bl_dn ?_ (by assumption)))⟩




end Go.Proofs.YtnhdcbhcocgjhaaGreat
