/- The law FnExactFresh, walked: for every input it returns true. -/
import Derived.Test.YtfjgkakilmiheaaFresh
import Derived.Test.YtfjgkakilmiheaaLaw
import Derived.Deep.DeepCutAuto
namespace Go.Proofs.Ytfjgkakilmiheaa
open Go.RowKit Go.Sort Go.BigFrame

set_option maxHeartbeats 8000000 in
theorem lFresh_c (x : Yd) (y : En) (a0 a1 : Value) (S0 S1 : List Nat) (w : World) (ha0 : AggRep w false (encYd x) a0 S0) (ha1 : AggRep w false (encEn y) a1 S1) :
    Calls Try.prog 10 #[a0, a1] w fun e w' => e = .returned (.bool true) ∧ Below w.heap.size w w' := by
  obtain ⟨_, rfl, ha0⟩ := ha0
  obtain ⟨p0v0, p0v1, _, _, rfl, p0h0, p0h1, rfl⟩ := yd_cells ha0
  clear ha0
  obtain ⟨_, rfl, ha1⟩ := ha1
  obtain ⟨rfl, rfl⟩ := en_cells ha1
  clear ha1
  have hs0 := szf_spec (totYd x) (1048576)
  by_cases ht0 : (totYd x : Int) ≤ 1048576
  · skip
    have hle0 : szf (totYd x) (1048576) = 1048576 - totYd x := by omega
    have hsz0 : totYd x ≤ 2000000 := by omega
    have hng0 : ¬ (1048576 - (totYd x : Int) < 0) := by omega
    have HLE0 := Lib.hid hle0
    clear hle0
    clear hs0
    have hB := Below.refl w.heap.size w
    go_enter Try.func10, Try.ntmps10
    go_wp2_with fail
    refine (ci (szYard_c x _ _ _ false (1048576) ⟨_, rfl, yd_mk (upA (upA p0h0 _) _) (upA (upA p0h1 _) _)⟩ (by omega) (by omega)) HLE0.out).mono ?_
    rintro e w1 ⟨rfl, hb⟩
    obtain ⟨hc1, hf1⟩ := bcell hb
    replace p0h0 := up (upA (upA p0h0 _) _) hb
    replace p0h1 := up (upA (upA p0h1 _) _) hb
    replace hB := bl_dn (upB (upB hB _) _) hb
    have lt1_0 : w.heap.size < w1.heap.size := by have := hb.size; (try simp at this); omega
    have lu1_0 : w.heap.size < w1.heap.size + 1 := by omega
    have lt1_1 : w.heap.size + 1 < w1.heap.size := by have := hb.size; (try simp at this); omega
    have lu1_1 : w.heap.size + 1 < w1.heap.size + 1 := by omega
    clear hb
    go_upto_region 5 with (fail)
    go_cut [6] (fun s wx => s = .bool (fresh x y) ∧ Below w1.heap.size w1 wx)
    case first =>
      go_region_with (first
        | (go_at_call 41; refine (toYard_c x _ _ _ false ⟨_, rfl, yd_mk (upD p0h0) (upD p0h1)⟩ hsz0).mono ?_; rintro e w2 ⟨_, T2, rfl, ⟨_, rfl, hq2⟩, -, hb2⟩; obtain ⟨c2v0, c2v1, _, _, rfl, c2h0, c2h1, rfl⟩ := yd_cells hq2; obtain ⟨c2v0A, c2v0n, c2v0c, rfl⟩ := Rep.form c2h0; obtain ⟨c2v1A, c2v1n, c2v1c, rfl⟩ := Rep.form c2h1; replace hb2 := unD hb2; obtain ⟨hc2, hf2⟩ := bcell hb2; (have lt2_0 : w.heap.size < w2.heap.size := by have := hb2.size; (try simp at this); omega); (have lu2_0 : w.heap.size < w2.heap.size + 1 := by omega); (have lt2_1 : w.heap.size + 1 < w2.heap.size := by have := hb2.size; (try simp at this); omega); (have lu2_1 : w.heap.size + 1 < w2.heap.size + 1 := by omega))
        | (go_at_call 49; refine (toEntry_c y _ _ _ false ⟨_, rfl, en_mk _ _ _⟩).mono ?_; rintro e w3 ⟨_, T3, rfl, ⟨_, rfl, hq3⟩, -, hb3⟩; obtain ⟨rfl, rfl⟩ := en_cells hq3; obtain ⟨hc3, hf3⟩ := bcell hb3; (have lt3_0 : w.heap.size < w3.heap.size := by have := hb3.size; (try simp at this); omega); (have lu3_0 : w.heap.size < w3.heap.size + 1 := by omega); (have lt3_1 : w.heap.size + 1 < w3.heap.size := by have := hb3.size; (try simp at this); omega); (have lu3_1 : w.heap.size + 1 < w3.heap.size + 1 := by omega))
        | (go_at_call 48; refine (sFresh_c x y _ _ _ _ _ true true ⟨_, rfl, yd_mk (up c2h0 hb3) (up c2h1 hb3)⟩ ⟨_, rfl, en_mk _ _ _⟩).mono ?_; rintro e w4 ⟨rfl, hb4⟩; obtain ⟨hc4, hf4⟩ := bcell hb4; (have lt4_0 : w.heap.size < w4.heap.size := by have := hb4.size; (try simp at this); omega); (have lu4_0 : w.heap.size < w4.heap.size + 1 := by omega); (have lt4_1 : w.heap.size + 1 < w4.heap.size := by have := hb4.size; (try simp at this); omega); (have lu4_1 : w.heap.size + 1 < w4.heap.size + 1 := by omega)))
      all_goals (go_wp2_with fail; go_meet; exact ⟨rfl, bl_dn (bl_dn hb2 hb3) hb4⟩)
    case rest =>
      obtain ⟨rfl, hb⟩ := hcut
      obtain ⟨w4, rfl⟩ : ∃ x : World, x = wc := ⟨_, rfl⟩
      obtain ⟨hc4, hf4⟩ := bcell hb
      replace p0h0 := up p0h0 hb
      replace p0h1 := up p0h1 hb
      replace hB := bl_dn hB hb
      have lt4_0 : w.heap.size < w4.heap.size := by have := hb.size; (try simp at this); omega
      have lu4_0 : w.heap.size < w4.heap.size + 1 := by omega
      have lt4_1 : w.heap.size + 1 < w4.heap.size := by have := hb.size; (try simp at this); omega
      have lu4_1 : w.heap.size + 1 < w4.heap.size + 1 := by omega
      clear hb
      go_wp2_with fail
      refine (toYard_c x _ _ _ false ⟨_, rfl, yd_mk p0h0 p0h1⟩ hsz0).mono ?_
      rintro e w5 ⟨_, T5, rfl, ⟨_, rfl, hq⟩, -, hb⟩
      obtain ⟨c5v0, c5v1, _, _, rfl, c5h0, c5h1, rfl⟩ := yd_cells hq
      obtain ⟨c5v0A, c5v0n, c5v0c, rfl⟩ := Rep.form c5h0
      obtain ⟨c5v1A, c5v1n, c5v1c, rfl⟩ := Rep.form c5h1
      clear hq
      obtain ⟨hc5, hf5⟩ := bcell hb
      replace p0h0 := up p0h0 hb
      replace p0h1 := up p0h1 hb
      replace hB := bl_dn hB hb
      have lt5_0 : w.heap.size < w5.heap.size := by have := hb.size; (try simp at this); omega
      have lu5_0 : w.heap.size < w5.heap.size + 1 := by omega
      have lt5_1 : w.heap.size + 1 < w5.heap.size := by have := hb.size; (try simp at this); omega
      have lu5_1 : w.heap.size + 1 < w5.heap.size + 1 := by omega
      clear hb
      go_wp2_with fail
      go_region_with (first
        | (go_at_call 49; refine (toEntry_c y _ _ _ false ⟨_, rfl, en_mk _ _ _⟩).mono ?_; rintro e w6 ⟨_, T6, rfl, ⟨_, rfl, hq6⟩, -, hb6⟩; obtain ⟨rfl, rfl⟩ := en_cells hq6; replace hb6 := unD hb6; obtain ⟨hc6, hf6⟩ := bcell hb6; (have lt6_0 : w.heap.size < w6.heap.size := by have := hb6.size; (try simp at this); omega); (have lu6_0 : w.heap.size < w6.heap.size + 1 := by omega); (have lt6_1 : w.heap.size + 1 < w6.heap.size := by have := hb6.size; (try simp at this); omega); (have lu6_1 : w.heap.size + 1 < w6.heap.size + 1 := by omega); (have lt6_2 : w5.heap.size < w6.heap.size := by have := hb6.size; (try simp at this); omega); (have lu6_2 : w5.heap.size < w6.heap.size + 1 := by omega))
        | (go_at_call 50; refine (iFresh_c x y _ _ _ _ _ true true ⟨_, rfl, yd_mk (up (upA c5h0 _) hb6) (up (upA c5h1 _) hb6)⟩ ⟨_, rfl, en_mk _ _ _⟩).mono ?_; rintro e w7 ⟨rfl, hb7⟩; obtain ⟨hc7, hf7⟩ := bcell hb7; (have lt7_0 : w.heap.size < w7.heap.size := by have := hb7.size; (try simp at this); omega); (have lu7_0 : w.heap.size < w7.heap.size + 1 := by omega); (have lt7_1 : w.heap.size + 1 < w7.heap.size := by have := hb7.size; (try simp at this); omega); (have lu7_1 : w.heap.size + 1 < w7.heap.size + 1 := by omega); (have lt7_2 : w5.heap.size < w7.heap.size := by have := hb7.size; (try simp at this); omega); (have lu7_2 : w5.heap.size < w7.heap.size + 1 := by omega)))
      all_goals
        replace p0h0 := up (upA p0h0 _) hb6
        replace p0h1 := up (upA p0h1 _) hb6
        replace c5h0 := up (upA c5h0 _) hb6
        replace c5h1 := up (upA c5h1 _) hb6
        replace hB := bl_dn (upB hB _) hb6
        replace p0h0 := up p0h0 hb7
        replace p0h1 := up p0h1 hb7
        replace c5h0 := up c5h0 hb7
        replace c5h1 := up c5h1 hb7
        replace hB := bl_dn hB hb7
        go_upto_region 10 with (fail)
        go_cut [32] (fun s wx => s = .bool false ∧ Below w7.heap.size w7 wx)
        case first =>
          go_region_with (first
            | (go_at_call 41; refine (toYard_c x _ _ _ false ⟨_, rfl, yd_mk (upD p0h0) (upD p0h1)⟩ hsz0).mono ?_; rintro e w8 ⟨_, T8, rfl, ⟨_, rfl, hq8⟩, -, hb8⟩; obtain ⟨c8v0, c8v1, _, _, rfl, c8h0, c8h1, rfl⟩ := yd_cells hq8; obtain ⟨c8v0A, c8v0n, c8v0c, rfl⟩ := Rep.form c8h0; obtain ⟨c8v1A, c8v1n, c8v1c, rfl⟩ := Rep.form c8h1; replace hb8 := unD hb8; obtain ⟨hc8, hf8⟩ := bcell hb8; (have lt8_0 : w.heap.size < w8.heap.size := by have := hb8.size; (try simp at this); omega); (have lu8_0 : w.heap.size < w8.heap.size + 1 := by omega); (have lt8_1 : w.heap.size + 1 < w8.heap.size := by have := hb8.size; (try simp at this); omega); (have lu8_1 : w.heap.size + 1 < w8.heap.size + 1 := by omega); (have lt8_2 : w5.heap.size < w8.heap.size := by have := hb8.size; (try simp at this); omega); (have lu8_2 : w5.heap.size < w8.heap.size + 1 := by omega))
            | (go_at_call 43; refine (cb (eqYard_c x x _ _ _ _ _ true true ⟨_, rfl, yd_mk (up c5h0 hb8) (up c5h1 hb8)⟩ ⟨_, rfl, yd_mk c8h0 c8h1⟩) (decide_eq_true rfl)).mono ?_; rintro e w9 ⟨rfl, hb9⟩; obtain ⟨hc9, hf9⟩ := bcell hb9; (have lt9_0 : w.heap.size < w9.heap.size := by have := hb9.size; (try simp at this); omega); (have lu9_0 : w.heap.size < w9.heap.size + 1 := by omega); (have lt9_1 : w.heap.size + 1 < w9.heap.size := by have := hb9.size; (try simp at this); omega); (have lu9_1 : w.heap.size + 1 < w9.heap.size + 1 := by omega); (have lt9_2 : w5.heap.size < w9.heap.size := by have := hb9.size; (try simp at this); omega); (have lu9_2 : w5.heap.size < w9.heap.size + 1 := by omega)))
          all_goals (go_wp2_with fail; go_meet; exact ⟨rfl, bl_dn hb8 hb9⟩)
        case rest =>
          obtain ⟨rfl, hb⟩ := hcut
          obtain ⟨w9, rfl⟩ : ∃ x : World, x = wc := ⟨_, rfl⟩
          obtain ⟨hc9, hf9⟩ := bcell hb
          replace p0h0 := up p0h0 hb
          replace p0h1 := up p0h1 hb
          replace c5h0 := up c5h0 hb
          replace c5h1 := up c5h1 hb
          replace hB := bl_dn hB hb
          have lt9_0 : w.heap.size < w9.heap.size := by have := hb.size; (try simp at this); omega
          have lu9_0 : w.heap.size < w9.heap.size + 1 := by omega
          have lt9_1 : w.heap.size + 1 < w9.heap.size := by have := hb.size; (try simp at this); omega
          have lu9_1 : w.heap.size + 1 < w9.heap.size + 1 := by omega
          have lt9_2 : w5.heap.size < w9.heap.size := by have := hb.size; (try simp at this); omega
          have lu9_2 : w5.heap.size < w9.heap.size + 1 := by omega
          clear hb
          go_wp2
          all_goals go_ret
          all_goals exact ⟨rfl, hB⟩
  · skip
    have hle0 : szf (totYd x) (1048576) = -1 := by omega
    have HLE0 := Lib.hid hle0
    clear hle0
    clear hs0
    have hB := Below.refl w.heap.size w
    go_enter Try.func10, Try.ntmps10
    go_wp2_with fail
    refine (ci (szYard_c x _ _ _ false (1048576) ⟨_, rfl, yd_mk (upA (upA p0h0 _) _) (upA (upA p0h1 _) _)⟩ (by omega) (by omega)) HLE0.out).mono ?_
    rintro e w1 ⟨rfl, hb⟩
    obtain ⟨hc1, hf1⟩ := bcell hb
    replace p0h0 := up (upA (upA p0h0 _) _) hb
    replace p0h1 := up (upA (upA p0h1 _) _) hb
    replace hB := bl_dn (upB (upB hB _) _) hb
    have lt1_0 : w.heap.size < w1.heap.size := by have := hb.size; (try simp at this); omega
    have lu1_0 : w.heap.size < w1.heap.size + 1 := by omega
    have lt1_1 : w.heap.size + 1 < w1.heap.size := by have := hb.size; (try simp at this); omega
    have lu1_1 : w.heap.size + 1 < w1.heap.size + 1 := by omega
    clear hb
    go_wp2
    go_ret
    exact ⟨rfl, hB⟩
end Go.Proofs.Ytfjgkakilmiheaa
