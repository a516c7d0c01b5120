/- The law FnExactSlotsOf, walked: for every input it returns true. -/
import Derived.Test.YtfjgkakilmiheaaSlots2
import Derived.Test.YtfjgkakilmiheaaLaw
import Derived.Deep.DeepCutAuto
namespace Go.Proofs.Ytfjgkakilmiheaa
open Go.RowKit Go.Sort Go.BigFrame

set_option maxHeartbeats 8000000 in
theorem lSlotsOf_c (x : Yd) (a0 : Value) (S0 : List Nat) (w : World) (ha0 : AggRep w false (encYd x) a0 S0) :
    Calls Try.prog 12 #[a0] w fun e w' => e = .returned (.bool true) ∧ Below w.heap.size w w' := by
  obtain ⟨_, rfl, ha0⟩ := ha0
  obtain ⟨p0v0, p0v1, _, _, rfl, p0h0, p0h1, rfl⟩ := yd_cells ha0
  clear ha0
  have hs0 := szf_spec (totYd x) (1048576)
  by_cases ht0 : (totYd x : Int) ≤ 1048576
  · skip
    have hle0 : szf (totYd x) (1048576) = 1048576 - totYd x := by omega
    have hsz0 : totYd x ≤ 2000000 := by omega
    have hng0 : ¬ (1048576 - (totYd x : Int) < 0) := by omega
    have HLE0 := Lib.hid hle0
    clear hle0
    clear hs0
    have hB := Below.refl w.heap.size w
    go_enter Try.func12, Try.ntmps12
    go_wp2_with fail
    refine (ci (szYard_c x _ _ _ false (1048576) ⟨_, rfl, yd_mk (upA p0h0 _) (upA p0h1 _)⟩ (by omega) (by omega)) HLE0.out).mono ?_
    rintro e w1 ⟨rfl, hb⟩
    obtain ⟨hc1, hf1⟩ := bcell hb
    replace p0h0 := up (upA p0h0 _) hb
    replace p0h1 := up (upA p0h1 _) hb
    replace hB := bl_dn (upB hB _) hb
    have lt1_0 : w.heap.size < w1.heap.size := by have := hb.size; (try simp at this); omega
    have lu1_0 : w.heap.size < w1.heap.size + 1 := by omega
    clear hb
    go_wp2_with fail
    refine (toYard_c x _ _ _ false ⟨_, rfl, yd_mk p0h0 p0h1⟩ hsz0).mono ?_
    rintro e w2 ⟨_, T2, rfl, ⟨_, rfl, hq⟩, -, hb⟩
    obtain ⟨c2v0, c2v1, _, _, rfl, c2h0, c2h1, rfl⟩ := yd_cells hq
    obtain ⟨c2v0A, c2v0n, c2v0c, rfl⟩ := Rep.form c2h0
    obtain ⟨c2v1A, c2v1n, c2v1c, rfl⟩ := Rep.form c2h1
    clear hq
    obtain ⟨hc2, hf2⟩ := bcell hb
    replace p0h0 := up p0h0 hb
    replace p0h1 := up p0h1 hb
    replace hB := bl_dn hB hb
    have lt2_0 : w.heap.size < w2.heap.size := by have := hb.size; (try simp at this); omega
    have lu2_0 : w.heap.size < w2.heap.size + 1 := by omega
    clear hb
    go_wp2_with fail
    refine (sSlotsOf_c x _ _ _ true ⟨_, rfl, yd_mk c2h0 c2h1⟩ hsz0).mono ?_
    rintro e w3 ⟨rfl, hb⟩
    obtain ⟨hc3, hf3⟩ := bcell hb
    replace p0h0 := up p0h0 hb
    replace p0h1 := up p0h1 hb
    replace c2h0 := up c2h0 hb
    replace c2h1 := up c2h1 hb
    replace hB := bl_dn hB hb
    have lt3_0 : w.heap.size < w3.heap.size := by have := hb.size; (try simp at this); omega
    have lu3_0 : w.heap.size < w3.heap.size + 1 := by omega
    clear hb
    go_wp2_with fail
    refine (toYard_c x _ _ _ false ⟨_, rfl, yd_mk p0h0 p0h1⟩ hsz0).mono ?_
    rintro e w4 ⟨_, T4, rfl, ⟨_, rfl, hq⟩, -, hb⟩
    obtain ⟨c4v0, c4v1, _, _, rfl, c4h0, c4h1, rfl⟩ := yd_cells hq
    obtain ⟨c4v0A, c4v0n, c4v0c, rfl⟩ := Rep.form c4h0
    obtain ⟨c4v1A, c4v1n, c4v1c, rfl⟩ := Rep.form c4h1
    clear hq
    obtain ⟨hc4, hf4⟩ := bcell hb
    replace p0h0 := up p0h0 hb
    replace p0h1 := up p0h1 hb
    replace c2h0 := up c2h0 hb
    replace c2h1 := up c2h1 hb
    replace hB := bl_dn hB hb
    have lt4_0 : w.heap.size < w4.heap.size := by have := hb.size; (try simp at this); omega
    have lu4_0 : w.heap.size < w4.heap.size + 1 := by omega
    clear hb
    go_wp2_with fail
    refine (iSlotsOf_c x _ _ _ true ⟨_, rfl, yd_mk (upA c4h0 _) (upA c4h1 _)⟩ hsz0).mono ?_
    rintro e w5 ⟨rfl, hb⟩
    obtain ⟨hc5, hf5⟩ := bcell hb
    replace p0h0 := up (upA p0h0 _) hb
    replace p0h1 := up (upA p0h1 _) hb
    replace c2h0 := up (upA c2h0 _) hb
    replace c2h1 := up (upA c2h1 _) hb
    replace c4h0 := up (upA c4h0 _) hb
    replace c4h1 := up (upA c4h1 _) hb
    replace hB := bl_dn (upB hB _) hb
    have lt5_0 : w.heap.size < w5.heap.size := by have := hb.size; (try simp at this); omega
    have lu5_0 : w.heap.size < w5.heap.size + 1 := by omega
    have lt5_1 : w4.heap.size < w5.heap.size := by have := hb.size; (try simp at this); omega
    have lu5_1 : w4.heap.size < w5.heap.size + 1 := by omega
    clear hb
    go_upto_region 10 with (fail)
    go_cut [26] (fun s wx => s = .bool false ∧ Below w5.heap.size w5 wx)
    case first =>
      go_region_with (first
        | (go_at_call 41; refine (toYard_c x _ _ _ false ⟨_, rfl, yd_mk (upD p0h0) (upD p0h1)⟩ hsz0).mono ?_; rintro e w6 ⟨_, T6, rfl, ⟨_, rfl, hq6⟩, -, hb6⟩; obtain ⟨c6v0, c6v1, _, _, rfl, c6h0, c6h1, rfl⟩ := yd_cells hq6; obtain ⟨c6v0A, c6v0n, c6v0c, rfl⟩ := Rep.form c6h0; obtain ⟨c6v1A, c6v1n, c6v1c, rfl⟩ := Rep.form c6h1; replace hb6 := unD hb6; obtain ⟨hc6, hf6⟩ := bcell hb6; (have lt6_0 : w.heap.size < w6.heap.size := by have := hb6.size; (try simp at this); omega); (have lu6_0 : w.heap.size < w6.heap.size + 1 := by omega); (have lt6_1 : w4.heap.size < w6.heap.size := by have := hb6.size; (try simp at this); omega); (have lu6_1 : w4.heap.size < w6.heap.size + 1 := by omega))
        | (go_at_call 43; refine (cb (eqYard_c x x _ _ _ _ _ true true ⟨_, rfl, yd_mk (up c4h0 hb6) (up c4h1 hb6)⟩ ⟨_, rfl, yd_mk c6h0 c6h1⟩) (decide_eq_true rfl)).mono ?_; rintro e w7 ⟨rfl, hb7⟩; obtain ⟨hc7, hf7⟩ := bcell hb7; (have lt7_0 : w.heap.size < w7.heap.size := by have := hb7.size; (try simp at this); omega); (have lu7_0 : w.heap.size < w7.heap.size + 1 := by omega); (have lt7_1 : w4.heap.size < w7.heap.size := by have := hb7.size; (try simp at this); omega); (have lu7_1 : w4.heap.size < w7.heap.size + 1 := by omega)))
      all_goals (go_wp2_with fail; go_meet; exact ⟨rfl, bl_dn hb6 hb7⟩)
    case rest =>
      obtain ⟨rfl, hb⟩ := hcut
      obtain ⟨w7, rfl⟩ : ∃ x : World, x = wc := ⟨_, rfl⟩
      obtain ⟨hc7, hf7⟩ := bcell hb
      replace p0h0 := up p0h0 hb
      replace p0h1 := up p0h1 hb
      replace c2h0 := up c2h0 hb
      replace c2h1 := up c2h1 hb
      replace c4h0 := up c4h0 hb
      replace c4h1 := up c4h1 hb
      replace hB := bl_dn hB hb
      have lt7_0 : w.heap.size < w7.heap.size := by have := hb.size; (try simp at this); omega
      have lu7_0 : w.heap.size < w7.heap.size + 1 := by omega
      have lt7_1 : w4.heap.size < w7.heap.size := by have := hb.size; (try simp at this); omega
      have lu7_1 : w4.heap.size < w7.heap.size + 1 := by omega
      clear hb
      go_wp2
      all_goals go_ret
      all_goals exact ⟨rfl, hB⟩
  · skip
    have hle0 : szf (totYd x) (1048576) = -1 := by omega
    have HLE0 := Lib.hid hle0
    clear hle0
    clear hs0
    have hB := Below.refl w.heap.size w
    go_enter Try.func12, Try.ntmps12
    go_wp2_with fail
    refine (ci (szYard_c x _ _ _ false (1048576) ⟨_, rfl, yd_mk (upA p0h0 _) (upA p0h1 _)⟩ (by omega) (by omega)) HLE0.out).mono ?_
    rintro e w1 ⟨rfl, hb⟩
    obtain ⟨hc1, hf1⟩ := bcell hb
    replace p0h0 := up (upA p0h0 _) hb
    replace p0h1 := up (upA p0h1 _) hb
    replace hB := bl_dn (upB hB _) hb
    have lt1_0 : w.heap.size < w1.heap.size := by have := hb.size; (try simp at this); omega
    have lu1_0 : w.heap.size < w1.heap.size + 1 := by omega
    clear hb
    go_wp2
    go_ret
    exact ⟨rfl, hB⟩
end Go.Proofs.Ytfjgkakilmiheaa
