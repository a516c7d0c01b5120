/- The law FnExactRunAt: for every input it returns true. -/
import Derived.Test.YtfjgkakilmiheaaRunAt
import Derived.Test.YtfjgkakilmiheaaLaw
namespace Go.Proofs.Ytfjgkakilmiheaa
open Go.RowKit Go.Sort Go.BigFrame

set_option maxHeartbeats 2000000 in
theorem lRunAt_c (y : Yd) (id : Int) (a : Value) (S : List Nat) (w : World) (ha : AggRep w false (encYd y) a S) :
    Calls Try.prog 8 #[a, .int .i64 id] w fun e w' => e = .returned (.bool true) ∧ Below w.heap.size w w' := by
  obtain ⟨_, rfl, ha⟩ := ha
  obtain ⟨sv, rv, S1, S2, rfl, a0, a1, rfl⟩ := yd_cells ha
  clear ha
  have hs := szf_spec (totYd y) 1048576
  by_cases ht : (totYd y : Int) ≤ 1048576
  · have hsz : totYd y ≤ 2000000 := by omega
    have hle : szf (totYd y) 1048576 = 1048576 - totYd y := by omega
    have HLE := Lib.hid hle
    have hneg : ¬ ((1048576 : Int) - totYd y < 0) := by omega
    clear hs hle
    have hB := Below.refl w.heap.size w
    go_enter Try.func8, Try.ntmps8
    go_wp2_with fail
    refine (ci (szYard_c y _ _ _ false 1048576 ⟨_, rfl, yd_mk (upA a0 _) (upA a1 _)⟩ (by omega) (by omega)) HLE.out).mono ?_
    rintro e w1 ⟨rfl, hb⟩
    obtain ⟨hc1, hf1⟩ := bcell hb
    replace a0 := up (upA a0 _) hb
    replace a1 := up (upA a1 _) hb
    replace hB := bl_dn (upB hB _) hb
    have lt1 : w.heap.size < w1.heap.size := by have := hb.size; (try simp at this); omega
    clear hb
    go_wp2_with fail
    refine (toYard_c y _ _ _ false ⟨_, rfl, yd_mk a0 a1⟩ hsz).mono ?_
    rintro e w2 ⟨_, S3, rfl, ⟨_, rfl, b⟩, -, hb⟩
    obtain ⟨sv2, rv2, T1, T2, rfl, b0, b1, rfl⟩ := yd_cells b
    obtain ⟨_, _, _, rfl⟩ := Rep.form b0
    obtain ⟨_, _, _, rfl⟩ := Rep.form b1
    clear b
    obtain ⟨hc2, hf2⟩ := bcell hb
    replace a0 := up a0 hb
    replace a1 := up a1 hb
    replace hB := bl_dn hB hb
    have lt2 : w.heap.size < w2.heap.size := by have := hb.size; (try simp at this); omega
    clear hb
    go_wp2_with fail
    refine (sRunAt_c y id _ _ _ true ⟨_, rfl, yd_mk b0 b1⟩).mono ?_
    rintro e w3 ⟨rfl, hb⟩
    obtain ⟨hc3, hf3⟩ := bcell hb
    replace a0 := up a0 hb
    replace a1 := up a1 hb
    replace hB := bl_dn hB hb
    have lt3 : w.heap.size < w3.heap.size := by have := hb.size; (try simp at this); omega
    clear hb b0 b1
    go_wp2_with fail
    refine (toYard_c y _ _ _ false ⟨_, rfl, yd_mk a0 a1⟩ hsz).mono ?_
    rintro e w4 ⟨_, S4, rfl, ⟨_, rfl, b⟩, -, hb⟩
    obtain ⟨sv2, rv2, T1, T2, rfl, b0, b1, rfl⟩ := yd_cells b
    obtain ⟨_, _, _, rfl⟩ := Rep.form b0
    obtain ⟨_, _, _, rfl⟩ := Rep.form b1
    clear b
    obtain ⟨hc4, hf4⟩ := bcell hb
    replace a0 := up a0 hb
    replace a1 := up a1 hb
    replace hB := bl_dn hB hb
    have lt4 : w.heap.size < w4.heap.size := by have := hb.size; (try simp at this); omega
    have lt4' : w.heap.size < w4.heap.size + 1 := by omega
    clear hb
    go_wp2_with fail
    refine (iRunAt_c y id _ _ _ true ⟨_, rfl, yd_mk (upA b0 _) (upA b1 _)⟩).mono ?_
    rintro e w5 ⟨rfl, hb⟩
    obtain ⟨hc5, hf5⟩ := bcell hb
    replace a0 := up (upA a0 _) hb
    replace a1 := up (upA a1 _) hb
    replace b0 := up (upA b0 _) hb
    replace b1 := up (upA b1 _) hb
    replace hB := bl_dn (upB hB _) hb
    have lt5 : w.heap.size < w5.heap.size := by have := hb.size; (try simp at this); omega
    have lt5' : w4.heap.size < w5.heap.size := by have := hb.size; (try simp at this); omega
    clear hb
    have hne : (runAt y id != runAt y id) = false := by simp
    go_wp2_with fail
    go_region_with (first
      | (go_at_call 41; refine (toYard_c y _ _ _ false ⟨_, rfl, yd_mk (upD a0) (upD a1)⟩ hsz).mono ?_; rintro e w6 ⟨_, S6, rfl, ⟨_, rfl, c⟩, -, hb6⟩; obtain ⟨sv6, rv6, T61, T62, rfl, d0, d1, rfl⟩ := yd_cells c; obtain ⟨_, _, _, rfl⟩ := Rep.form d0; obtain ⟨_, _, _, rfl⟩ := Rep.form d1; replace hb6 := unD hb6; obtain ⟨hc6, hf6⟩ := bcell hb6)
      | (go_at_call 43; refine (cb (eqYard_c y y _ _ _ _ _ true true ⟨_, rfl, yd_mk (up b0 hb6) (up b1 hb6)⟩ ⟨_, rfl, yd_mk d0 d1⟩) (decide_eq_true rfl)).mono ?_; rintro e w7 ⟨rfl, hb7⟩))
    all_goals go_wp2
    all_goals go_ret
    all_goals exact ⟨rfl, bl_dn (bl_dn hB hb6) hb7⟩
  · have hle : szf (totYd y) 1048576 = -1 := by omega
    have HLE := Lib.hid hle
    clear hs hle
    go_enter Try.func8, Try.ntmps8
    go_wp2_with fail
    refine (ci (szYard_c y _ _ _ false 1048576 ⟨_, rfl, yd_mk (upA a0 _) (upA a1 _)⟩ (by omega) (by omega)) HLE.out).mono ?_
    rintro e w1 ⟨rfl, hb⟩
    go_wp2
    go_ret
    exact ⟨rfl, bl_dn (upB (Below.refl _ _) _) hb⟩
end Go.Proofs.Ytfjgkakilmiheaa
