/- Texts for laws: Slots. -/
import Derived.Test.YtmnpailnelmpiaaGreatQFresh
namespace Go.Proofs.YtmnpailnelmpiaaGreat
open Go.RowKit Go.Sort Go.BigFrame

theorem cell_to0 {w w1 : World} {b o : Nat} {v : Value} (hB : Below w.heap.size w w1) (h : w.cell? ⟨b, o + 0, none⟩ = some v) : w1.cell? ⟨b, o, none⟩ = some v := cell_to hB h
theorem flatEn : ∀ (x : En), ∀ d ∈ encEn x, ∃ u, d = .val u := by intro y d hd; simp [encEn] at hd; rcases hd with rfl | rfl | rfl | rfl <;> exact ⟨_, rfl⟩

set_option maxHeartbeats 2000000 in
theorem iallEntries_c (y : Yd) (a : Value) (S : List Nat) (w : World) (own : Bool) (ha : AggRep w own (encYd y) a S) (hsz : totYd y ≤ 2000000) :
    Calls Tryz.prog 133 #[a] w (RetRep w (encEns (allEn y))) := by
  obtain ⟨_, rfl, ha⟩ := ha
  obtain ⟨sv, rv, S1, S2, rfl, ah0, ah1, rfl⟩ := yd_cells ha
  clear ha ah1
  obtain ⟨A, c, rfl, hc1, hc2, hca⟩ := Rep.open_ (size := 1) (enc := fun es => [encEns es]) (fun _ => rfl) (by decide) ah0
  unfold maxLen at hc2
  have hl1 : y.shelf.length ≤ 9223372036854775807 := by omega
  have hsm : y.shelf.flatten.length ≤ 2000000 := by rw [len_flatten]; simp only [totYd, totSh] at hsz; omega
  go_enter Tryz.func133, Tryz.ntmps133
  go_wp2
  go_loopw [3, 5, 9] (fun v _ i wr => ∃ k : Nat, k ≤ y.shelf.length ∧ i = .int .i64 k ∧ Fill encEn 4 tEn w (y.shelf.take k).flatten v wr) (fun _ _ i _ => y.shelf.length - (intOf i).toNat)
  case atStart => exact ⟨0, by omega, rfl, [], Rep.nil_ _ _ _, Fresh.nil _, (Below.refl _ _).alloc (by simp) _⟩
  case round =>
    obtain ⟨k, hk, rfl, S3, hrep, hF, hbel⟩ := hrel
    by_cases hlt : k < y.shelf.length
    · obtain ⟨es, hx⟩ := get_some hlt
      obtain ⟨b1, o1, vk1, T1, rfl, -, hr1, -, -, hb1, hx1⟩ := hca k es hx
      clear hca
      obtain ⟨u, _, U0, U1, rfl, rfl, hu, rfl, rfl⟩ := hr1
      have p0 := (hbel.cell (p := ⟨b1, o1 + k, none⟩) hb1).trans (by simpa using hx1 0 _ rfl : w.cell? ⟨b1, o1 + k, none⟩ = _)
      obtain ⟨A2, c2, news, rfl, hn1, hn2, hn3⟩ := Rep.src (enc := encEn) (size := 4) (fun _ => rfl) (by decide) flatEn (hu.below hbel (Nat.le_refl _))
      have htk := flatten_take_succ hx
      have hle : (y.shelf.take (k + 1)).flatten.length ≤ 2000000 := by
        have : (y.shelf.take (k + 1)).flatten.length ≤ y.shelf.flatten.length := by rw [len_flatten, len_flatten]; exact tsum_le _ _ _
        omega
      rw [htk, List.length_append] at hle
      have HK := Lib.hid htk
      clear hx hx1 htk
      go_wp2_with ((with_reducible refine at_append (.tmp 13) (.tmp 14) ?_); refine wpList_append_rep (enc := encEn) (xs := (y.shelf.take k).flatten) (ys := es) rfl _ _ rfl slEn (fun _ => rfl) rfl hrep A2 es.length c2 news rfl hn1 rfl hn2 hn3 encEn_one w.heap.size hbel.size (by simpa using hF) (by unfold maxLen; omega) (by omega) ?_; intro v' w' S' hrep' hF' ho' _)
      go_roundw
      case rel =>
        refine ⟨k + 1, by omega, by go_num, S', ?_, hF', hbel.trans (ho'.below (fun s hs => hF.2 s hs) hbel.size)⟩
        rw [HK.out]; exact hrep'
      case measure => simp [intOf]; omega
    · obtain rfl : k = y.shelf.length := by omega
      clear hca
      go_wp2
      go_ret
      exact ⟨_, S3, rfl, by rw [List.take_length] at hrep; exact hrep, hF, hbel⟩

set_option maxHeartbeats 4000000 in
theorem iSlotsOf_c (y : Yd) (a : Value) (S : List Nat) (w : World) (own : Bool) (ha : AggRep w own (encYd y) a S) (hsz : totYd y ≤ 2000000) :
    Calls Tryz.prog 62 #[a] w fun e w' => e = .returned (.int .i64 (slotsOf y)) ∧ Below w.heap.size w w' := by
  obtain ⟨_, rfl, ha⟩ := ha
  obtain ⟨sv, rv, S1, S2, rfl, ah0, ah1, rfl⟩ := yd_cells ha
  clear ha
  obtain ⟨A, c, rfl, hc1, hc2, hca⟩ := Rep.open_ (size := 8) (enc := encRn) (fun _ => rfl) (by decide) ah1
  unfold maxLen at hc2
  have hl1 : y.runs.length ≤ 9223372036854775807 := by omega
  have hlive : tsum liveN y.runs ≤ 2000000 := by have := tsum_live y.runs; simp only [totYd, totRns] at hsz; omega
  have hall : (allEn y).length ≤ 2000000 := by unfold allEn; rw [len_flatten]; simp only [totYd, totSh] at hsz; omega
  obtain ⟨svA, svn, svc, rfl⟩ := Rep.form ah0
  have hB0 := upB (Below.refl w.heap.size w) (.cells #[.int .i64 y.now, .int .i64 y.seq, .slice svA svn svc, .slice A y.runs.length c] tYd)
  go_enter Tryz.func62, Tryz.ntmps62
  go_wp2
  go_loopw [3, 5, 11] (fun n _ i wr => ∃ k : Nat, k ≤ y.runs.length ∧ i = .int .i64 k ∧ n = .int .i64 (tsum liveN (y.runs.take k) : Nat) ∧ Below (w.alloc (.cells #[.int .i64 y.now, .int .i64 y.seq, .slice svA svn svc, .slice A y.runs.length c] tYd)).heap.size (w.alloc (.cells #[.int .i64 y.now, .int .i64 y.seq, .slice svA svn svc, .slice A y.runs.length c] tYd)) wr) (fun _ _ i _ => y.runs.length - (intOf i).toNat)
  case atStart => exact ⟨0, by omega, rfl, rfl, Below.refl _ _⟩
  case round =>
    obtain ⟨k, hk, rfl, rfl, hbel⟩ := hrel
    have hB := bl_dn hB0 hbel
    by_cases hlt : k < y.runs.length
    · obtain ⟨x, hx⟩ := get_some hlt
      obtain ⟨b1, o1, vk1, T1, rfl, -, hr1, -, -, hb1, hx1⟩ := hca k x hx
      clear hca
      obtain ⟨v0, v1, U0, U1, rfl, hev, htv, -⟩ := rn_cells hr1
      obtain ⟨_, _, _, rfl⟩ := Rep.form hev
      obtain ⟨B, d, rfl, hd1, hd2, hdb⟩ := Rep.open_ (size := 4) (enc := encTk) (fun _ => rfl) (by decide) htv
      unfold maxLen at hd2
      have hl2 : x.tasks.length ≤ 9223372036854775807 := by omega
      have p0 := cell_to0 hB (hx1 0 _ rfl)
      have p1 := cell_to hB (hx1 1 _ rfl)
      have p2 := cell_to hB (hx1 2 _ rfl)
      have p3 := cell_to hB (hx1 3 _ rfl)
      have p4 := cell_to hB (hx1 4 _ rfl)
      have p5 := cell_to hB (hx1 5 _ rfl)
      have p6 := cell_to hB (hx1 6 _ rfl)
      have p7 := cell_to hB (hx1 7 _ rfl)
      have htk := tsum_succ (tot := liveN) hx
      have htl := tsum_le liveN y.runs (k + 1)
      have hlv : liveN x = if x.state = 1 then x.tasks.length else 0 := rfl
      have HK := Lib.hid htk
      have HL := Lib.hid hlv
      have hn0 : (tsum liveN (y.runs.take k) : Int) ≤ 2000000 := by omega
      have hn1 : x.tasks.length ≤ 2000000 ∨ x.state ≠ 1 := by by_cases h : x.state = 1; left; rw [if_pos h] at hlv; omega; exact .inr h
      clear hx hx1 hr1 htk hlv hdb htl
      by_cases hst : x.state = 1
      · have hs : (x.state == 1) = true := by simpa using hst
        have hn2 : x.tasks.length ≤ 2000000 := by rcases hn1 with h | h; exact h; exact absurd hst h
        have HS := Lib.hid hst
        clear hst hn1
        go_wp2
        go_roundw
        case rel =>
          refine ⟨k + 1, by omega, by go_num, ?_, ?_⟩
          · rw [HK.out, HL.out, if_pos HS.out]; go_num
          · exact hbel.trans (((Below.refl _ _).alloc (Nat.le_refl _) _).mono hbel.size)
        case measure => simp [intOf]; omega
      · have hs : (x.state == 1) = false := by simpa using hst
        have HS := Lib.hid hst
        clear hst hn1
        go_wp2
        go_roundw
        case rel =>
          refine ⟨k + 1, by omega, by go_num, ?_, ?_⟩
          · rw [HK.out, HL.out, if_neg HS.out]; rfl
          · exact hbel.trans (((Below.refl _ _).alloc (Nat.le_refl _) _).mono hbel.size)
        case measure => simp [intOf]; omega
    · obtain rfl : k = y.runs.length := by omega
      clear hca
      rw [List.take_length]
      obtain ⟨hcr, hfr⟩ := bcell hbel
      have q0 : wr.cell? ⟨w.heap.size, 0, none⟩ = some (.int .i64 y.now) := (hcr _ _ (by simp)).trans (by simp [go_sem])
      have q1 : wr.cell? ⟨w.heap.size, 1, none⟩ = some (.int .i64 y.seq) := (hcr _ _ (by simp)).trans (by simp [go_sem])
      have q2 : wr.cell? ⟨w.heap.size, 2, none⟩ = some (.slice svA svn svc) := (hcr _ _ (by simp)).trans (by simp [go_sem])
      have q3 : wr.cell? ⟨w.heap.size, 3, none⟩ = some (.slice A y.runs.length c) := (hcr _ _ (by simp)).trans (by simp [go_sem])
      clear hcr hfr hbel
      go_wp2_with fail
      refine (iallEntries_c y _ _ _ own ⟨_, rfl, yd_mk (up ah0 hB) (up ah1 hB)⟩ hsz).mono ?_
      rintro e w1 ⟨ev, T1, rfl, hrv, -, hb1⟩
      obtain ⟨B, d, rfl, hd1, hd2, hdb⟩ := Rep.open_ (size := 4) (enc := encEn) (fun _ => rfl) (by decide) hrv
      unfold maxLen at hd2
      have hB1 := bl_dn hB hb1
      replace q0 := cell_to hb1 q0
      replace q1 := cell_to hb1 q1
      replace q2 := cell_to hb1 q2
      replace q3 := cell_to hb1 q3
      clear hb1 hrv
      go_wp2_with fail
      go_loopw [3, 7, 27] (fun n _ i wr => ∃ k : Nat, k ≤ (allEn y).length ∧ i = .int .i64 k ∧ n = .int .i64 ((tsum liveN y.runs : Int) + staleN y ((allEn y).take k)) ∧ Below w1.heap.size w1 wr) (fun _ _ i _ => (allEn y).length - (intOf i).toNat)
      case atStart => exact ⟨0, by omega, rfl, by simp [staleN], Below.refl _ _⟩
      case round =>
        obtain ⟨k, hk, rfl, rfl, hbel⟩ := hrel
        have hB2 := bl_dn hB1 hbel
        by_cases hlt : k < (allEn y).length
        · obtain ⟨x, hx⟩ := get_some hlt
          obtain ⟨b1, o1, vk1, T2, rfl, -, hr1, -, -, hb1, hx1⟩ := hdb k x hx
          clear hdb
          obtain ⟨rfl, rfl⟩ := en_cells hr1
          have p0 := cell_to0 hbel (hx1 0 _ rfl)
          have p1 := cell_to hbel (hx1 1 _ rfl)
          have p2 := cell_to hbel (hx1 2 _ rfl)
          have p3 := cell_to hbel (hx1 3 _ rfl)
          have r0 := cell_to hbel q0
          have r1 := cell_to hbel q1
          have r2 := cell_to hbel q2
          have r3 := cell_to hbel q3
          have hltw := World.block_lt_of_cell? wr _ r0
          simp only at hltw
          have hss := stale_succ (y := y) hx
          have hst := stale_take y (allEn y) (k + 1)
          have hsa := stale_le y (allEn y)
          have hn0 : (tsum liveN y.runs : Int) + staleN y ((allEn y).take k) ≤ 4000000 := by split at hss <;> omega
          have HS := Lib.hid hss
          clear hx hx1 hss hst hsa
          by_cases hfr : fresh y x = true
          · have HF := Lib.hid hfr
            clear hfr
            go_wp2_with (go_at_call 57; refine (cb (iFresh_c y x _ _ _ _ _ own own ⟨_, rfl, yd_mk (upA (up ah0 hB2) _) (upA (up ah1 hB2) _)⟩ ⟨_, rfl, en_mk _ _ x⟩) HF.out).mono ?_; rintro e w2 ⟨rfl, hb2⟩)
            go_roundw
            case rel =>
              refine ⟨k + 1, by omega, by go_num, ?_, bl_dn (upB hbel _) hb2⟩
              rw [HS.out, if_pos HF.out]; rfl
            case measure => simp [intOf]; omega
          · have hfr' : fresh y x = false := by simpa using hfr
            have HF := Lib.hid hfr'
            clear hfr hfr'
            go_wp2_with (go_at_call 57; refine (cb (iFresh_c y x _ _ _ _ _ own own ⟨_, rfl, yd_mk (upA (up ah0 hB2) _) (upA (up ah1 hB2) _)⟩ ⟨_, rfl, en_mk _ _ x⟩) HF.out).mono ?_; rintro e w2 ⟨rfl, hb2⟩)
            go_roundw
            case rel =>
              refine ⟨k + 1, by omega, by go_num, ?_, bl_dn (upB hbel _) hb2⟩
              rw [HS.out, HF.out]; simp; omega
            case measure => simp [intOf]; omega
        · obtain rfl : k = (allEn y).length := by omega
          clear hdb
          rw [List.take_length]
          have hsl : slotsOf y = (tsum liveN y.runs : Int) + staleN y (allEn y) := rfl
          have HSL := Lib.hid hsl
          clear hsl
          go_wp2
          go_ret
          exact ⟨ret_int HSL.out.symm, hB2⟩
end Go.Proofs.YtmnpailnelmpiaaGreat
