/- Texts for laws: Slots2. -/
import Derived.Test.YtmnpailnelmpiaaGreatQSlots
namespace Go.Proofs.YtmnpailnelmpiaaGreat
open Go.RowKit Go.Sort Go.BigFrame

theorem stale_append (y : Yd) (a b : List En) : staleN y (a ++ b) = staleN y a + staleN y b := by simp [staleN]

set_option maxHeartbeats 4000000 in
theorem sSlotsOf_c (y : Yd) (a : Value) (S : List Nat) (w : World) (own : Bool) (ha : AggRep w own (encYd y) a S) (hsz : totYd y ≤ 2000000) :
    Calls Tryz.prog 63 #[a] w fun e w' => e = .returned (.int .i64 (slotsOf y)) ∧ Below w.heap.size w w' := by
  obtain ⟨_, rfl, ha⟩ := ha
  obtain ⟨sv, rv, S1, S2, rfl, ah0, ah1, rfl⟩ := yd_cells ha
  clear ha
  obtain ⟨A, c, rfl, hc1, hc2, hca⟩ := Rep.open_ (size := 8) (enc := encRn) (fun _ => rfl) (by decide) ah1
  obtain ⟨C, f, rfl, hf1, hf2, hfa⟩ := Rep.open_ (size := 1) (enc := fun es => [encEns es]) (fun _ => rfl) (by decide) ah0
  unfold maxLen at hc2 hf2
  have hl1 : y.runs.length ≤ 9223372036854775807 := by omega
  have hl2 : y.shelf.length ≤ 9223372036854775807 := by omega
  have hlive : tsum liveN y.runs ≤ 2000000 := by have := tsum_live y.runs; simp only [totYd, totRns] at hsz; omega
  have hall : (allEn y).length ≤ 2000000 := by unfold allEn; rw [len_flatten]; simp only [totYd, totSh] at hsz; omega
  have hB0 := upB (Below.refl w.heap.size w) (.cells #[.int .i64 y.now, .int .i64 y.seq, .slice C y.shelf.length f, .slice A y.runs.length c] tYd)
  go_enter Tryz.func63, Tryz.ntmps63
  go_wp2
  go_loop [3, 4] (fun n i => ∃ k : Nat, k ≤ y.runs.length ∧ i = .int .i64 k ∧ n = .int .i64 (tsum liveN (y.runs.take k) : Nat)) (fun _ i => y.runs.length - (intOf i).toNat)
  case atStart => exact ⟨0, by omega, rfl, rfl⟩
  case round =>
    obtain ⟨k, hk, rfl, rfl⟩ := hrel
    by_cases hlt : k < y.runs.length
    · obtain ⟨x, hx⟩ := get_some hlt
      obtain ⟨b1, o1, vk1, T1, rfl, -, hr1, -, -, hb1, hx1⟩ := hca k x hx
      clear hca hfa
      obtain ⟨v0, v1, U0, U1, rfl, hev, htv, -⟩ := rn_cells hr1
      obtain ⟨B, d, rfl, hd1, hd2, hdb⟩ := Rep.open_ (size := 4) (enc := encTk) (fun _ => rfl) (by decide) htv
      unfold maxLen at hd2
      have hl3 : x.tasks.length ≤ 9223372036854775807 := by omega
      have p6 := hx1 6 _ rfl
      have p7 := hx1 7 _ rfl
      have htk := tsum_succ (tot := liveN) hx
      have htl := tsum_le liveN y.runs (k + 1)
      have hlv : liveN x = if x.state = 1 then x.tasks.length else 0 := rfl
      have HK := Lib.hid htk
      have HL := Lib.hid hlv
      have hn0 : (tsum liveN (y.runs.take k) : Int) ≤ 2000000 := by omega
      have hn1 : x.tasks.length ≤ 2000000 ∨ x.state ≠ 1 := by by_cases h : x.state = 1; left; rw [if_pos h] at hlv; omega; exact .inr h
      clear hx hx1 hr1 htk hlv hdb htl
      by_cases hst : x.state = 1
      · have hs : (x.state == 1) = true := by simpa using hst
        have hn2 : x.tasks.length ≤ 2000000 := by rcases hn1 with h | h; exact h; exact absurd hst h
        have HS := Lib.hid hst
        clear hst hn1
        go_wp2
        go_round
        case rel =>
          refine ⟨k + 1, by omega, by go_num, ?_⟩
          rw [HK.out, HL.out, if_pos HS.out]; go_num
        case measure => simp [intOf]; omega
      · have hs : (x.state == 1) = false := by simpa using hst
        have HS := Lib.hid hst
        clear hst hn1
        go_wp2
        go_round
        case rel =>
          refine ⟨k + 1, by omega, by go_num, ?_⟩
          rw [HK.out, HL.out, if_neg HS.out]; rfl
        case measure => simp [intOf]; omega
    · obtain rfl : k = y.runs.length := by omega
      clear hca
      rw [List.take_length]
      go_wp2
      go_loopw [3, 5, 6] (fun n i _ wr => ∃ k : Nat, k ≤ y.shelf.length ∧ i = .int .i64 k ∧ n = .int .i64 ((tsum liveN y.runs : Int) + staleN y (y.shelf.take k).flatten) ∧ Below (w.alloc (.cells #[.int .i64 y.now, .int .i64 y.seq, .slice C y.shelf.length f, .slice A y.runs.length c] tYd)).heap.size (w.alloc (.cells #[.int .i64 y.now, .int .i64 y.seq, .slice C y.shelf.length f, .slice A y.runs.length c] tYd)) wr) (fun _ i _ _ => y.shelf.length - (intOf i).toNat)
      case atStart => exact ⟨0, by omega, rfl, by simp [staleN], Below.refl _ _⟩
      case round =>
        obtain ⟨k, hk, rfl, rfl, hbel⟩ := hrel
        obtain ⟨wo, rfl⟩ : ∃ wo : World, wo = wr := ⟨_, rfl⟩
        have hB2 := bl_dn hB0 hbel
        obtain ⟨hcr, hfr⟩ := bcell hbel
        have q0 : wo.cell? ⟨w.heap.size, 0, none⟩ = some (.int .i64 y.now) := (hcr _ _ (by simp)).trans (by simp [go_sem])
        have q1 : wo.cell? ⟨w.heap.size, 1, none⟩ = some (.int .i64 y.seq) := (hcr _ _ (by simp)).trans (by simp [go_sem])
        have q2 : wo.cell? ⟨w.heap.size, 2, none⟩ = some (.slice C y.shelf.length f) := (hcr _ _ (by simp)).trans (by simp [go_sem])
        have q3 : wo.cell? ⟨w.heap.size, 3, none⟩ = some (.slice A y.runs.length c) := (hcr _ _ (by simp)).trans (by simp [go_sem])
        clear hcr hfr
        by_cases hlt : k < y.shelf.length
        · obtain ⟨es, hx⟩ := get_some hlt
          obtain ⟨b1, o1, vk1, T2, rfl, -, hr1, -, -, hb1, hx1⟩ := hfa k es hx
          clear hfa
          obtain ⟨u, _, U0, U1, rfl, rfl, hu, rfl, rfl⟩ := hr1
          have p0 : w.cell? ⟨b1, o1 + k, none⟩ = some u := by simpa using hx1 0 _ rfl
          have hfs := flatten_take_succ hx
          have hse : ∀ j, staleN y (y.shelf.take k).flatten + staleN y (es.take j) ≤ 2000000 := fun j => by
            have h1 := stale_take y es j
            have h2 := stale_append y (y.shelf.take k).flatten es
            rw [← hfs] at h2
            have h3 := stale_le y (y.shelf.take (k + 1)).flatten
            have h4 : (y.shelf.take (k + 1)).flatten.length ≤ (allEn y).length := by unfold allEn; rw [len_flatten, len_flatten]; exact tsum_le _ _ _
            omega
          obtain ⟨B, d, rfl, hd1, hd2, hdb⟩ := Rep.open_ (size := 4) (enc := encEn) (fun _ => rfl) (by decide) hu
          unfold maxLen at hd2
          have hl3 : es.length ≤ 9223372036854775807 := by omega
          have p0' := cell_to hB2 p0
          have HFS := Lib.hid hfs
          clear hx hx1 hfs
          go_wp2
          go_loopw [3, 6] (fun n i wr => ∃ j : Nat, j ≤ es.length ∧ i = .int .i64 j ∧ n = .int .i64 ((tsum liveN y.runs : Int) + staleN y (y.shelf.take k).flatten + staleN y (es.take j)) ∧ Below wo.heap.size wo wr) (fun _ i _ => es.length - (intOf i).toNat)
          case atStart => exact ⟨0, by omega, rfl, by simp [staleN], Below.refl _ _⟩
          case round =>
            obtain ⟨j, hj, rfl, rfl, hbe⟩ := hrel
            have hB3 := bl_dn hB2 hbe
            have r2 := cell_to hbe q2
            have p0'' := cell_to hbe p0'
            by_cases hjl : j < es.length
            · obtain ⟨x, hx⟩ := get_some hjl
              obtain ⟨b2, o2, vk2, T3, rfl, -, hr2, -, -, hb2, hx2⟩ := hdb j x hx
              clear hdb
              obtain ⟨rfl, rfl⟩ := en_cells hr2
              have hsj := hse j
              have hss := stale_succ (y := y) hx
              have HS := Lib.hid hss
              have c0 := cell_regrown (cell_to0 hB3 (hx2 0 _ rfl))
              have c1 := cell_regrown (cell_to hB3 (hx2 1 _ rfl))
              have c2 := cell_regrown (cell_to hB3 (hx2 2 _ rfl))
              have c3 := cell_regrown (cell_to hB3 (hx2 3 _ rfl))
              have g0 := cell_regrown (cell_to hbe q0)
              have g1 := cell_regrown (cell_to hbe q1)
              have g2 := cell_regrown r2
              have g3 := cell_regrown (cell_to hbe q3)
              have gp := cell_regrown p0''
              have hcall := fun (W : World) (hW : Below wr.heap.size wr W) => sFresh_c y x _ _ _ _ W own own ⟨_, rfl, yd_mk (up (up ah0 hB3) hW) (up (up ah1 hB3) hW)⟩ ⟨_, rfl, en_mk _ _ x⟩
              clear hx hx2 hss hse
              by_cases hfr : fresh y x = true
              · have HF := Lib.hid hfr
                clear hfr
                go_wp2
                refine wp_region_quiet_below (by kernel_rfl) (by kernel_rfl) ?_
                repeat (go_big_quiet_step (exact Calls.regrown_of (cb (hcall _ (below_regrown wr _ _)) HF.out)))
                refine wpQuiet_nil ?_
                intro _ hw'
                obtain ⟨⟨dq, osq⟩, hw''⟩ := hw'
                subst hw''
                go_wp2
                go_roundw
                case rel =>
                  refine ⟨j + 1, by omega, by go_num, ?_, bl_dn hbe (below_regrown wr dq osq)⟩
                  rw [HS.out, if_pos HF.out]; rfl
                case measure => simp [intOf]; omega
              · have hfr' : fresh y x = false := by simpa using hfr
                have HF := Lib.hid hfr'
                clear hfr hfr'
                go_wp2
                refine wp_region_quiet_below (by kernel_rfl) (by kernel_rfl) ?_
                repeat (go_big_quiet_step (exact Calls.regrown_of (cb (hcall _ (below_regrown wr _ _)) HF.out)))
                refine wpQuiet_nil ?_
                intro _ hw'
                obtain ⟨⟨dq, osq⟩, hw''⟩ := hw'
                subst hw''
                go_wp2
                go_roundw
                case rel =>
                  refine ⟨j + 1, by omega, by go_num, ?_, bl_dn hbe (below_regrown wr dq osq)⟩
                  rw [HS.out, HF.out]; simp; omega
                case measure => simp [intOf]; omega
            · obtain rfl : j = es.length := by omega
              clear hdb hse
              rw [List.take_length]
              go_wp2
              go_roundw
              case rel =>
                refine ⟨k + 1, by omega, by go_num, ?_, bl_dn hbel hbe⟩
                rw [HFS.out, stale_append]; simp; omega
              case measure => simp [intOf]; omega
        · obtain rfl : k = y.shelf.length := by omega
          clear hfa
          rw [List.take_length]
          have hsl : slotsOf y = (tsum liveN y.runs : Int) + staleN y y.shelf.flatten := rfl
          have HSL := Lib.hid hsl
          clear hsl
          go_wp2
          go_ret
          exact ⟨ret_int HSL.out.symm, hB2⟩
end Go.Proofs.YtmnpailnelmpiaaGreat
