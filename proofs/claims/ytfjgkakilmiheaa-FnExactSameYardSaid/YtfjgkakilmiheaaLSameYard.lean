/- The law FnExactSameYard, walked: for every input it returns true. -/
import Derived.Test.YtfjgkakilmiheaaSame3
import Derived.Test.YtfjgkakilmiheaaLaw
import Derived.Deep.DeepCutAuto
namespace Go.Proofs.Ytfjgkakilmiheaa
open Go.RowKit Go.Sort Go.BigFrame

set_option maxHeartbeats 8000000 in
theorem lSameYard_c (x : Yd) (y : Yd) (a0 a1 : Value) (S0 S1 : List Nat) (w : World) (ha0 : AggRep w false (encYd x) a0 S0) (ha1 : AggRep w false (encYd y) a1 S1) :
    Calls Try.prog 13 #[a0, a1] w fun e w' => e = .returned (.bool true) ∧ Below w.heap.size w w' := by
  obtain ⟨_, rfl, ha0⟩ := ha0
  obtain ⟨p0v0, p0v1, _, _, rfl, p0h0, p0h1, rfl⟩ := yd_cells ha0
  clear ha0
  obtain ⟨_, rfl, ha1⟩ := ha1
  obtain ⟨p1v0, p1v1, _, _, rfl, p1h0, p1h1, rfl⟩ := yd_cells ha1
  clear ha1
  have hs0 := szf_spec (totYd x) (1048576)
  have hs1 := szf_spec (totYd y) (1048576 - (totYd x : Int))
  by_cases ht0 : (totYd x : Int) ≤ 1048576
  · skip
    by_cases ht1 : (totYd y : Int) ≤ 1048576 - (totYd x : Int)
    · skip
      have hle0 : szf (totYd x) (1048576) = 1048576 - totYd x := by omega
      have hsz0 : totYd x ≤ 2000000 := by omega
      have hng0 : ¬ (1048576 - (totYd x : Int) < 0) := by omega
      have HLE0 := Lib.hid hle0
      clear hle0
      have hle1 : szf (totYd y) (1048576 - (totYd x : Int)) = 1048576 - (totYd x : Int) - totYd y := by omega
      have hsz1 : totYd y ≤ 2000000 := by omega
      have hng1 : ¬ (1048576 - (totYd x : Int) - (totYd y : Int) < 0) := by omega
      have HLE1 := Lib.hid hle1
      clear hle1
      clear hs0 hs1
      have hB := Below.refl w.heap.size w
      go_enter Try.func13, Try.ntmps13
      go_wp2_with fail
      refine (ci (szYard_c x _ _ _ false (1048576) ⟨_, rfl, yd_mk (upA (upA p0h0 _) _) (upA (upA p0h1 _) _)⟩ (by omega) (by omega)) HLE0.out).mono ?_
      rintro e w1 ⟨rfl, hb⟩
      obtain ⟨hc1, hf1⟩ := bcell hb
      replace p0h0 := up (upA (upA p0h0 _) _) hb
      replace p0h1 := up (upA (upA p0h1 _) _) hb
      replace p1h0 := up (upA (upA p1h0 _) _) hb
      replace p1h1 := up (upA (upA p1h1 _) _) hb
      replace hB := bl_dn (upB (upB hB _) _) hb
      have lt1_0 : w.heap.size < w1.heap.size := by have := hb.size; (try simp at this); omega
      have lu1_0 : w.heap.size < w1.heap.size + 1 := by omega
      have lt1_1 : w.heap.size + 1 < w1.heap.size := by have := hb.size; (try simp at this); omega
      have lu1_1 : w.heap.size + 1 < w1.heap.size + 1 := by omega
      clear hb
      go_wp2_with fail
      refine (ci (szYard_c y _ _ _ false (1048576 - (totYd x : Int)) ⟨_, rfl, yd_mk p1h0 p1h1⟩ (by omega) (by omega)) HLE1.out).mono ?_
      rintro e w2 ⟨rfl, hb⟩
      obtain ⟨hc2, hf2⟩ := bcell hb
      replace p0h0 := up p0h0 hb
      replace p0h1 := up p0h1 hb
      replace p1h0 := up p1h0 hb
      replace p1h1 := up p1h1 hb
      replace hB := bl_dn hB hb
      have lt2_0 : w.heap.size < w2.heap.size := by have := hb.size; (try simp at this); omega
      have lu2_0 : w.heap.size < w2.heap.size + 1 := by omega
      have lt2_1 : w.heap.size + 1 < w2.heap.size := by have := hb.size; (try simp at this); omega
      have lu2_1 : w.heap.size + 1 < w2.heap.size + 1 := by omega
      clear hb
      go_upto_region 8 with (fail)
      go_cut [6] (fun s wx => s = .bool (sameY x y) ∧ Below w2.heap.size w2 wx)
      case first =>
        go_region_with (first
          | (go_at_call_of 41 p0v0; refine (toYard_c x _ _ _ false ⟨_, rfl, yd_mk (upD p0h0) (upD p0h1)⟩ hsz0).mono ?_; rintro e w3 ⟨_, T3, rfl, ⟨_, rfl, hq3⟩, -, hb3⟩; obtain ⟨c3v0, c3v1, _, _, rfl, c3h0, c3h1, rfl⟩ := yd_cells hq3; obtain ⟨c3v0A, c3v0n, c3v0c, rfl⟩ := Rep.form c3h0; obtain ⟨c3v1A, c3v1n, c3v1c, rfl⟩ := Rep.form c3h1; replace hb3 := unD hb3; obtain ⟨hc3, hf3⟩ := bcell hb3; (have lt3_0 : w.heap.size < w3.heap.size := by have := hb3.size; (try simp at this); omega); (have lu3_0 : w.heap.size < w3.heap.size + 1 := by omega); (have lt3_1 : w.heap.size + 1 < w3.heap.size := by have := hb3.size; (try simp at this); omega); (have lu3_1 : w.heap.size + 1 < w3.heap.size + 1 := by omega))
          | (go_at_call_of 41 p1v0; refine (toYard_c y _ _ _ false ⟨_, rfl, yd_mk (up p1h0 hb3) (up p1h1 hb3)⟩ hsz1).mono ?_; rintro e w4 ⟨_, T4, rfl, ⟨_, rfl, hq4⟩, -, hb4⟩; obtain ⟨c4v0, c4v1, _, _, rfl, c4h0, c4h1, rfl⟩ := yd_cells hq4; obtain ⟨c4v0A, c4v0n, c4v0c, rfl⟩ := Rep.form c4h0; obtain ⟨c4v1A, c4v1n, c4v1c, rfl⟩ := Rep.form c4h1; obtain ⟨hc4, hf4⟩ := bcell hb4; (have lt4_0 : w.heap.size < w4.heap.size := by have := hb4.size; (try simp at this); omega); (have lu4_0 : w.heap.size < w4.heap.size + 1 := by omega); (have lt4_1 : w.heap.size + 1 < w4.heap.size := by have := hb4.size; (try simp at this); omega); (have lu4_1 : w.heap.size + 1 < w4.heap.size + 1 := by omega))
          | (go_at_call 55; refine (sSameYard_c x y _ _ _ _ _ true true ⟨_, rfl, yd_mk (up c3h0 hb4) (up c3h1 hb4)⟩ ⟨_, rfl, yd_mk c4h0 c4h1⟩).mono ?_; rintro e w5 ⟨rfl, hb5⟩; obtain ⟨hc5, hf5⟩ := bcell hb5; (have lt5_0 : w.heap.size < w5.heap.size := by have := hb5.size; (try simp at this); omega); (have lu5_0 : w.heap.size < w5.heap.size + 1 := by omega); (have lt5_1 : w.heap.size + 1 < w5.heap.size := by have := hb5.size; (try simp at this); omega); (have lu5_1 : w.heap.size + 1 < w5.heap.size + 1 := by omega)))
        all_goals (go_wp2_with fail; go_meet; exact ⟨rfl, bl_dn (bl_dn hb3 hb4) hb5⟩)
      case rest =>
        obtain ⟨rfl, hb⟩ := hcut
        obtain ⟨w5, rfl⟩ : ∃ x : World, x = wc := ⟨_, rfl⟩
        obtain ⟨hc5, hf5⟩ := bcell hb
        replace p0h0 := up p0h0 hb
        replace p0h1 := up p0h1 hb
        replace p1h0 := up p1h0 hb
        replace p1h1 := up p1h1 hb
        replace hB := bl_dn hB hb
        have lt5_0 : w.heap.size < w5.heap.size := by have := hb.size; (try simp at this); omega
        have lu5_0 : w.heap.size < w5.heap.size + 1 := by omega
        have lt5_1 : w.heap.size + 1 < w5.heap.size := by have := hb.size; (try simp at this); omega
        have lu5_1 : w.heap.size + 1 < w5.heap.size + 1 := by omega
        clear hb
        go_wp2_with fail
        refine (toYard_c x _ _ _ false ⟨_, rfl, yd_mk p0h0 p0h1⟩ hsz0).mono ?_
        rintro e w6 ⟨_, T6, rfl, ⟨_, rfl, hq⟩, -, hb⟩
        obtain ⟨c6v0, c6v1, _, _, rfl, c6h0, c6h1, rfl⟩ := yd_cells hq
        obtain ⟨c6v0A, c6v0n, c6v0c, rfl⟩ := Rep.form c6h0
        obtain ⟨c6v1A, c6v1n, c6v1c, rfl⟩ := Rep.form c6h1
        clear hq
        obtain ⟨hc6, hf6⟩ := bcell hb
        replace p0h0 := up p0h0 hb
        replace p0h1 := up p0h1 hb
        replace p1h0 := up p1h0 hb
        replace p1h1 := up p1h1 hb
        replace hB := bl_dn hB hb
        have lt6_0 : w.heap.size < w6.heap.size := by have := hb.size; (try simp at this); omega
        have lu6_0 : w.heap.size < w6.heap.size + 1 := by omega
        have lt6_1 : w.heap.size + 1 < w6.heap.size := by have := hb.size; (try simp at this); omega
        have lu6_1 : w.heap.size + 1 < w6.heap.size + 1 := by omega
        clear hb
        go_wp2_with fail
        refine (toYard_c y _ _ _ false ⟨_, rfl, yd_mk (upA p1h0 _) (upA p1h1 _)⟩ hsz1).mono ?_
        rintro e w7 ⟨_, T7, rfl, ⟨_, rfl, hq⟩, -, hb⟩
        obtain ⟨c7v0, c7v1, _, _, rfl, c7h0, c7h1, rfl⟩ := yd_cells hq
        obtain ⟨c7v0A, c7v0n, c7v0c, rfl⟩ := Rep.form c7h0
        obtain ⟨c7v1A, c7v1n, c7v1c, rfl⟩ := Rep.form c7h1
        clear hq
        obtain ⟨hc7, hf7⟩ := bcell hb
        replace p0h0 := up (upA p0h0 _) hb
        replace p0h1 := up (upA p0h1 _) hb
        replace p1h0 := up (upA p1h0 _) hb
        replace p1h1 := up (upA p1h1 _) hb
        replace c6h0 := up (upA c6h0 _) hb
        replace c6h1 := up (upA c6h1 _) hb
        replace hB := bl_dn (upB hB _) hb
        have lt7_0 : w.heap.size < w7.heap.size := by have := hb.size; (try simp at this); omega
        have lu7_0 : w.heap.size < w7.heap.size + 1 := by omega
        have lt7_1 : w.heap.size + 1 < w7.heap.size := by have := hb.size; (try simp at this); omega
        have lu7_1 : w.heap.size + 1 < w7.heap.size + 1 := by omega
        have lt7_2 : w6.heap.size < w7.heap.size := by have := hb.size; (try simp at this); omega
        have lu7_2 : w6.heap.size < w7.heap.size + 1 := by omega
        clear hb
        go_wp2_with fail
        refine (iSameYard_c x y _ _ _ _ _ true true ⟨_, rfl, yd_mk (upA c6h0 _) (upA c6h1 _)⟩ ⟨_, rfl, yd_mk (upA c7h0 _) (upA c7h1 _)⟩).mono ?_
        rintro e w8 ⟨rfl, hb⟩
        obtain ⟨hc8, hf8⟩ := bcell hb
        replace p0h0 := up (upA p0h0 _) hb
        replace p0h1 := up (upA p0h1 _) hb
        replace p1h0 := up (upA p1h0 _) hb
        replace p1h1 := up (upA p1h1 _) hb
        replace c6h0 := up (upA c6h0 _) hb
        replace c6h1 := up (upA c6h1 _) hb
        replace c7h0 := up (upA c7h0 _) hb
        replace c7h1 := up (upA c7h1 _) hb
        replace hB := bl_dn (upB hB _) hb
        have lt8_0 : w.heap.size < w8.heap.size := by have := hb.size; (try simp at this); omega
        have lu8_0 : w.heap.size < w8.heap.size + 1 := by omega
        have lt8_1 : w.heap.size + 1 < w8.heap.size := by have := hb.size; (try simp at this); omega
        have lu8_1 : w.heap.size + 1 < w8.heap.size + 1 := by omega
        have lt8_2 : w6.heap.size < w8.heap.size := by have := hb.size; (try simp at this); omega
        have lu8_2 : w6.heap.size < w8.heap.size + 1 := by omega
        have lt8_3 : w7.heap.size < w8.heap.size := by have := hb.size; (try simp at this); omega
        have lu8_3 : w7.heap.size < w8.heap.size + 1 := by omega
        clear hb
        go_upto_region 14 with (fail)
        go_cut [39] (fun s wx => s = .bool false ∧ Below w8.heap.size w8 wx)
        case first =>
          go_region_with (first
            | (go_at_call 41; refine (toYard_c x _ _ _ false ⟨_, rfl, yd_mk (upD p0h0) (upD p0h1)⟩ hsz0).mono ?_; rintro e w9 ⟨_, T9, rfl, ⟨_, rfl, hq9⟩, -, hb9⟩; obtain ⟨c9v0, c9v1, _, _, rfl, c9h0, c9h1, rfl⟩ := yd_cells hq9; obtain ⟨c9v0A, c9v0n, c9v0c, rfl⟩ := Rep.form c9h0; obtain ⟨c9v1A, c9v1n, c9v1c, rfl⟩ := Rep.form c9h1; replace hb9 := unD hb9; obtain ⟨hc9, hf9⟩ := bcell hb9; (have lt9_0 : w.heap.size < w9.heap.size := by have := hb9.size; (try simp at this); omega); (have lu9_0 : w.heap.size < w9.heap.size + 1 := by omega); (have lt9_1 : w.heap.size + 1 < w9.heap.size := by have := hb9.size; (try simp at this); omega); (have lu9_1 : w.heap.size + 1 < w9.heap.size + 1 := by omega); (have lt9_2 : w6.heap.size < w9.heap.size := by have := hb9.size; (try simp at this); omega); (have lu9_2 : w6.heap.size < w9.heap.size + 1 := by omega); (have lt9_3 : w7.heap.size < w9.heap.size := by have := hb9.size; (try simp at this); omega); (have lu9_3 : w7.heap.size < w9.heap.size + 1 := by omega))
            | (go_at_call 43; refine (cb (eqYard_c x x _ _ _ _ _ true true ⟨_, rfl, yd_mk (up c6h0 hb9) (up c6h1 hb9)⟩ ⟨_, rfl, yd_mk c9h0 c9h1⟩) (decide_eq_true rfl)).mono ?_; rintro e w10 ⟨rfl, hb10⟩; obtain ⟨hc10, hf10⟩ := bcell hb10; (have lt10_0 : w.heap.size < w10.heap.size := by have := hb10.size; (try simp at this); omega); (have lu10_0 : w.heap.size < w10.heap.size + 1 := by omega); (have lt10_1 : w.heap.size + 1 < w10.heap.size := by have := hb10.size; (try simp at this); omega); (have lu10_1 : w.heap.size + 1 < w10.heap.size + 1 := by omega); (have lt10_2 : w6.heap.size < w10.heap.size := by have := hb10.size; (try simp at this); omega); (have lu10_2 : w6.heap.size < w10.heap.size + 1 := by omega); (have lt10_3 : w7.heap.size < w10.heap.size := by have := hb10.size; (try simp at this); omega); (have lu10_3 : w7.heap.size < w10.heap.size + 1 := by omega)))
          all_goals (go_wp2_with fail; go_meet; exact ⟨rfl, bl_dn hb9 hb10⟩)
        case rest =>
          obtain ⟨rfl, hb⟩ := hcut
          obtain ⟨w10, rfl⟩ : ∃ x : World, x = wc := ⟨_, rfl⟩
          obtain ⟨hc10, hf10⟩ := bcell hb
          replace p0h0 := up p0h0 hb
          replace p0h1 := up p0h1 hb
          replace p1h0 := up p1h0 hb
          replace p1h1 := up p1h1 hb
          replace c6h0 := up c6h0 hb
          replace c6h1 := up c6h1 hb
          replace c7h0 := up c7h0 hb
          replace c7h1 := up c7h1 hb
          replace hB := bl_dn hB hb
          have lt10_0 : w.heap.size < w10.heap.size := by have := hb.size; (try simp at this); omega
          have lu10_0 : w.heap.size < w10.heap.size + 1 := by omega
          have lt10_1 : w.heap.size + 1 < w10.heap.size := by have := hb.size; (try simp at this); omega
          have lu10_1 : w.heap.size + 1 < w10.heap.size + 1 := by omega
          have lt10_2 : w6.heap.size < w10.heap.size := by have := hb.size; (try simp at this); omega
          have lu10_2 : w6.heap.size < w10.heap.size + 1 := by omega
          have lt10_3 : w7.heap.size < w10.heap.size := by have := hb.size; (try simp at this); omega
          have lu10_3 : w7.heap.size < w10.heap.size + 1 := by omega
          clear hb
          go_upto_region 16 with (fail)
          go_cut [44] (fun s wx => s = .bool false ∧ Below w10.heap.size w10 wx)
          case first =>
            go_region_with (first
              | (go_at_call 41; refine (toYard_c y _ _ _ false ⟨_, rfl, yd_mk (upD p1h0) (upD p1h1)⟩ hsz1).mono ?_; rintro e w11 ⟨_, T11, rfl, ⟨_, rfl, hq11⟩, -, hb11⟩; obtain ⟨c11v0, c11v1, _, _, rfl, c11h0, c11h1, rfl⟩ := yd_cells hq11; obtain ⟨c11v0A, c11v0n, c11v0c, rfl⟩ := Rep.form c11h0; obtain ⟨c11v1A, c11v1n, c11v1c, rfl⟩ := Rep.form c11h1; replace hb11 := unD hb11; obtain ⟨hc11, hf11⟩ := bcell hb11; (have lt11_0 : w.heap.size < w11.heap.size := by have := hb11.size; (try simp at this); omega); (have lu11_0 : w.heap.size < w11.heap.size + 1 := by omega); (have lt11_1 : w.heap.size + 1 < w11.heap.size := by have := hb11.size; (try simp at this); omega); (have lu11_1 : w.heap.size + 1 < w11.heap.size + 1 := by omega); (have lt11_2 : w6.heap.size < w11.heap.size := by have := hb11.size; (try simp at this); omega); (have lu11_2 : w6.heap.size < w11.heap.size + 1 := by omega); (have lt11_3 : w7.heap.size < w11.heap.size := by have := hb11.size; (try simp at this); omega); (have lu11_3 : w7.heap.size < w11.heap.size + 1 := by omega))
              | (go_at_call 43; refine (cb (eqYard_c y y _ _ _ _ _ true true ⟨_, rfl, yd_mk (up c7h0 hb11) (up c7h1 hb11)⟩ ⟨_, rfl, yd_mk c11h0 c11h1⟩) (decide_eq_true rfl)).mono ?_; rintro e w12 ⟨rfl, hb12⟩; obtain ⟨hc12, hf12⟩ := bcell hb12; (have lt12_0 : w.heap.size < w12.heap.size := by have := hb12.size; (try simp at this); omega); (have lu12_0 : w.heap.size < w12.heap.size + 1 := by omega); (have lt12_1 : w.heap.size + 1 < w12.heap.size := by have := hb12.size; (try simp at this); omega); (have lu12_1 : w.heap.size + 1 < w12.heap.size + 1 := by omega); (have lt12_2 : w6.heap.size < w12.heap.size := by have := hb12.size; (try simp at this); omega); (have lu12_2 : w6.heap.size < w12.heap.size + 1 := by omega); (have lt12_3 : w7.heap.size < w12.heap.size := by have := hb12.size; (try simp at this); omega); (have lu12_3 : w7.heap.size < w12.heap.size + 1 := by omega)))
            all_goals (go_wp2_with fail; go_meet; exact ⟨rfl, bl_dn hb11 hb12⟩)
          case rest =>
            obtain ⟨rfl, hb⟩ := hcut
            obtain ⟨w12, rfl⟩ : ∃ x : World, x = wc := ⟨_, rfl⟩
            obtain ⟨hc12, hf12⟩ := bcell hb
            replace p0h0 := up p0h0 hb
            replace p0h1 := up p0h1 hb
            replace p1h0 := up p1h0 hb
            replace p1h1 := up p1h1 hb
            replace c6h0 := up c6h0 hb
            replace c6h1 := up c6h1 hb
            replace c7h0 := up c7h0 hb
            replace c7h1 := up c7h1 hb
            replace hB := bl_dn hB hb
            have lt12_0 : w.heap.size < w12.heap.size := by have := hb.size; (try simp at this); omega
            have lu12_0 : w.heap.size < w12.heap.size + 1 := by omega
            have lt12_1 : w.heap.size + 1 < w12.heap.size := by have := hb.size; (try simp at this); omega
            have lu12_1 : w.heap.size + 1 < w12.heap.size + 1 := by omega
            have lt12_2 : w6.heap.size < w12.heap.size := by have := hb.size; (try simp at this); omega
            have lu12_2 : w6.heap.size < w12.heap.size + 1 := by omega
            have lt12_3 : w7.heap.size < w12.heap.size := by have := hb.size; (try simp at this); omega
            have lu12_3 : w7.heap.size < w12.heap.size + 1 := by omega
            clear hb
            go_wp2
            all_goals go_ret
            all_goals exact ⟨rfl, hB⟩
    · skip
      have hle0 : szf (totYd x) (1048576) = 1048576 - totYd x := by omega
      have hsz0 : totYd x ≤ 2000000 := by omega
      have hng0 : ¬ (1048576 - (totYd x : Int) < 0) := by omega
      have HLE0 := Lib.hid hle0
      clear hle0
      have hle1 : szf (totYd y) (1048576 - (totYd x : Int)) = -1 := by omega
      have HLE1 := Lib.hid hle1
      clear hle1
      clear hs0 hs1
      have hB := Below.refl w.heap.size w
      go_enter Try.func13, Try.ntmps13
      go_wp2_with fail
      refine (ci (szYard_c x _ _ _ false (1048576) ⟨_, rfl, yd_mk (upA (upA p0h0 _) _) (upA (upA p0h1 _) _)⟩ (by omega) (by omega)) HLE0.out).mono ?_
      rintro e w1 ⟨rfl, hb⟩
      obtain ⟨hc1, hf1⟩ := bcell hb
      replace p0h0 := up (upA (upA p0h0 _) _) hb
      replace p0h1 := up (upA (upA p0h1 _) _) hb
      replace p1h0 := up (upA (upA p1h0 _) _) hb
      replace p1h1 := up (upA (upA p1h1 _) _) hb
      replace hB := bl_dn (upB (upB hB _) _) hb
      have lt1_0 : w.heap.size < w1.heap.size := by have := hb.size; (try simp at this); omega
      have lu1_0 : w.heap.size < w1.heap.size + 1 := by omega
      have lt1_1 : w.heap.size + 1 < w1.heap.size := by have := hb.size; (try simp at this); omega
      have lu1_1 : w.heap.size + 1 < w1.heap.size + 1 := by omega
      clear hb
      go_wp2_with fail
      refine (ci (szYard_c y _ _ _ false (1048576 - (totYd x : Int)) ⟨_, rfl, yd_mk p1h0 p1h1⟩ (by omega) (by omega)) HLE1.out).mono ?_
      rintro e w2 ⟨rfl, hb⟩
      obtain ⟨hc2, hf2⟩ := bcell hb
      replace p0h0 := up p0h0 hb
      replace p0h1 := up p0h1 hb
      replace p1h0 := up p1h0 hb
      replace p1h1 := up p1h1 hb
      replace hB := bl_dn hB hb
      have lt2_0 : w.heap.size < w2.heap.size := by have := hb.size; (try simp at this); omega
      have lu2_0 : w.heap.size < w2.heap.size + 1 := by omega
      have lt2_1 : w.heap.size + 1 < w2.heap.size := by have := hb.size; (try simp at this); omega
      have lu2_1 : w.heap.size + 1 < w2.heap.size + 1 := by omega
      clear hb
      go_wp2
      go_ret
      exact ⟨rfl, hB⟩
  · skip
    have hle0 : szf (totYd x) (1048576) = -1 := by omega
    have HLE0 := Lib.hid hle0
    clear hle0
    clear hs0 hs1
    have hB := Below.refl w.heap.size w
    go_enter Try.func13, Try.ntmps13
    go_wp2_with fail
    refine (ci (szYard_c x _ _ _ false (1048576) ⟨_, rfl, yd_mk (upA (upA p0h0 _) _) (upA (upA p0h1 _) _)⟩ (by omega) (by omega)) HLE0.out).mono ?_
    rintro e w1 ⟨rfl, hb⟩
    obtain ⟨hc1, hf1⟩ := bcell hb
    replace p0h0 := up (upA (upA p0h0 _) _) hb
    replace p0h1 := up (upA (upA p0h1 _) _) hb
    replace p1h0 := up (upA (upA p1h0 _) _) hb
    replace p1h1 := up (upA (upA p1h1 _) _) hb
    replace hB := bl_dn (upB (upB hB _) _) hb
    have lt1_0 : w.heap.size < w1.heap.size := by have := hb.size; (try simp at this); omega
    have lu1_0 : w.heap.size < w1.heap.size + 1 := by omega
    have lt1_1 : w.heap.size + 1 < w1.heap.size := by have := hb.size; (try simp at this); omega
    have lu1_1 : w.heap.size + 1 < w1.heap.size + 1 := by omega
    clear hb
    go_wp2
    go_ret
    exact ⟨rfl, hB⟩
end Go.Proofs.Ytfjgkakilmiheaa
