/- RoomFor, both. -/
import Derived.Test.YtbplebgnkhmemaaGreatFresh
import Derived.Test.YtbplebgnkhmemaaGreatSlots2
namespace Go.Proofs.YtbplebgnkhmemaaGreat
open Go.RowKit Go.Sort Go.BigFrame

theorem slots_le {y : Yd} (h : totYd y ≤ 2000000) : 0 ≤ slotsOf y ∧ slotsOf y ≤ 4000000 := by
  have hlive : tsum liveN y.runs ≤ 2000000 := by have := tsum_live y.runs; simp only [totYd, totRns] at h; omega
  have hall : (allEn y).length ≤ 2000000 := by unfold allEn; rw [len_flatten]; simp only [totYd, totSh] at h; omega
  have hst := stale_le y (allEn y)
  unfold slotsOf
  omega

set_option maxHeartbeats 2000000 in
theorem iRoomFor_c (y : Yd) (p : Pl) (a b : Value) (S S' : List Nat) (w : World) (own own' : Bool) (ha : AggRep w own (encYd y) a S) (hb : AggRep w own' (encPl p) b S') (hsz : totYd y ≤ 2000000) :
    Calls Tryz.prog 73 #[a, b] w fun e1 w' => e1 = .returned (.bool (roomFor y p)) ∧ Below w.heap.size w w' := by
  obtain ⟨_, rfl, ha⟩ := ha
  obtain ⟨_, rfl, hb⟩ := hb
  obtain ⟨ev, rfl, hev⟩ := pl_cells hb
  obtain ⟨sv, rv, S1, S2, rfl, ah0, ah1, rfl⟩ := yd_cells ha
  clear ha hb
  obtain ⟨A, c, rfl, hc1, hc2, -⟩ := Rep.open_ (size := 8) (enc := encRn) (fun _ => rfl) (by decide) ah1
  unfold maxLen at hc2
  have hl1 : y.runs.length ≤ 9223372036854775807 := by omega
  have hsl := slots_le hsz
  have hcall : ∀ w', Below w.heap.size w w' → Calls Tryz.prog 114 #[.agg #[.int .i64 y.now, .int .i64 y.seq, sv, .slice A y.runs.length c]] w' fun e w'' => e = .returned (.int .i64 (slotsOf y)) ∧ Below w'.heap.size w' w'' :=
    fun w' hw => iSlotsOf_c y _ _ w' own ⟨_, rfl, yd_mk (up ah0 hw) (up ah1 hw)⟩ hsz
  have hRF : roomFor y p = (decide (y.runs.length < 8) && (decide (0 ≤ p.tasks ∧ p.tasks ≤ 12) && (decide (slotsOf y + p.tasks ≤ 40) && decide (y.seq ≤ 1000000000 - 1000 - p.tasks)))) := rfl
  have HB := Lib.hid hRF
  clear hRF
  generalize slotsOf y = s at *
  obtain ⟨bo, hbo⟩ : ∃ bo, bo = roomFor y p := ⟨_, rfl⟩
  rw [← hbo]
  have HRF : Hid (bo = (decide (y.runs.length < 8) && (decide (0 ≤ p.tasks ∧ p.tasks ≤ 12) && (decide (s + p.tasks ≤ 40) && decide (y.seq ≤ 1000000000 - 1000 - p.tasks))))) := Lib.hid (hbo.trans HB.out)
  clear hbo HB
  obtain ⟨w2, hw2⟩ : ∃ w2, w2 = ((w.alloc (.cells #[.int .i64 y.now, .int .i64 y.seq, sv, .slice A y.runs.length c] tYd)).alloc (.cells #[.int .i64 p.prio, .int .i64 p.most, .int .i64 p.wait, .int .i64 p.tasks, ev] tPl)) := ⟨_, rfl⟩
  have hB2 : Below w.heap.size w w2 := by subst hw2; exact upB (upB (Below.refl w.heap.size w) _) _
  have q3 : ∀ (d : Nat) (os : Array Obj), (grow (redrawn w2 d) os).cell? ⟨w.heap.size, 3, none⟩ = some (.slice A y.runs.length c) := fun d os => cell_regrown (by subst hw2; simp [go_sem]) d os
  have r3 : ∀ (d : Nat) (os : Array Obj), (grow (redrawn w2 d) os).cell? ⟨w.heap.size + 1, 3, none⟩ = some (.int .i64 p.tasks) := fun d os => cell_regrown (by subst hw2; simp [go_sem]) d os
  have q0 : ∀ (d : Nat) (os : Array Obj), (grow (redrawn w2 d) os).cell? ⟨w.heap.size, 0, none⟩ = some (.int .i64 y.now) := fun d os => cell_regrown (by subst hw2; simp [go_sem]) d os
  have q1 : ∀ (d : Nat) (os : Array Obj), (grow (redrawn w2 d) os).cell? ⟨w.heap.size, 1, none⟩ = some (.int .i64 y.seq) := fun d os => cell_regrown (by subst hw2; simp [go_sem]) d os
  have q2 : ∀ (d : Nat) (os : Array Obj), (grow (redrawn w2 d) os).cell? ⟨w.heap.size, 2, none⟩ = some sv := fun d os => cell_regrown (by subst hw2; simp [go_sem]) d os
  by_cases h1 : y.runs.length < 8
  rotate_left
  · have g1 : decide ((y.runs.length : Int) < 8) = false := by simp; omega
    have HD := Lib.hid (show bo = false by rw [HRF.out]; simp only [Bool.and_eq_false_iff, decide_eq_false_iff_not]; omega)
    clear h1 HRF
    go_enter Tryz.func73, Tryz.ntmps73
    go_wp2
    rw [← hw2]
    clear hw2
    refine wp_region_quiet_below (by kernel_rfl) (by kernel_rfl) ?_
    repeat (go_big_quiet_step (first | exact Calls.regrown_of (cb (iwithin_c _ _ _ _) HW.out) | exact Calls.regrown_of (hcall _ (bl_dn hB2 (below_regrown w2 _ _)))))
    refine wpQuiet_nil ?_
    intro _ hw'
    obtain ⟨⟨dq, osq⟩, hw''⟩ := hw'
    subst hw''
    go_wp2
    go_ret
    exact ⟨ret_bool (by rw [HD.out]), bl_dn hB2 (below_regrown w2 dq osq)⟩
  have g1 : decide ((y.runs.length : Int) < 8) = true := by simp; omega
  by_cases h2 : 0 ≤ p.tasks ∧ p.tasks ≤ 12
  rotate_left
  · have HD := Lib.hid (show bo = false by rw [HRF.out]; simp only [Bool.and_eq_false_iff, decide_eq_false_iff_not]; omega)
    have HW : Hid (inb p.tasks 0 12 = false) := inb_false h2
    clear h1 h2 HRF
    go_enter Tryz.func73, Tryz.ntmps73
    go_wp2
    rw [← hw2]
    clear hw2
    refine wp_region_quiet_below (by kernel_rfl) (by kernel_rfl) ?_
    repeat (go_big_quiet_step (first | exact Calls.regrown_of (cb (iwithin_c _ _ _ _) HW.out) | exact Calls.regrown_of (hcall _ (bl_dn hB2 (below_regrown w2 _ _)))))
    refine wpQuiet_nil ?_
    intro _ hw'
    obtain ⟨⟨dq, osq⟩, hw''⟩ := hw'
    subst hw''
    go_wp2
    go_ret
    exact ⟨ret_bool (by rw [HD.out]), bl_dn hB2 (below_regrown w2 dq osq)⟩
  have HW : Hid (inb p.tasks 0 12 = true) := inb_true h2
  obtain ⟨h2a, h2b⟩ := h2
  by_cases h3 : s + p.tasks ≤ 40
  rotate_left
  · have g3 : decide (s + p.tasks ≤ 40) = false := by simp; omega
    have HD := Lib.hid (show bo = false by rw [HRF.out]; simp only [Bool.and_eq_false_iff, decide_eq_false_iff_not]; omega)
    clear h1 h3 HRF
    go_enter Tryz.func73, Tryz.ntmps73
    go_wp2
    rw [← hw2]
    clear hw2
    refine wp_region_quiet_below (by kernel_rfl) (by kernel_rfl) ?_
    repeat (go_big_quiet_step (first | exact Calls.regrown_of (cb (iwithin_c _ _ _ _) HW.out) | exact Calls.regrown_of (hcall _ (bl_dn hB2 (below_regrown w2 _ _)))))
    refine wpQuiet_nil ?_
    intro _ hw'
    obtain ⟨⟨dq, osq⟩, hw''⟩ := hw'
    subst hw''
    go_wp2
    go_ret
    exact ⟨ret_bool (by rw [HD.out]), bl_dn hB2 (below_regrown w2 dq osq)⟩
  have g3 : decide (s + p.tasks ≤ 40) = true := by simp; omega
  by_cases h4 : y.seq ≤ 999999000 - p.tasks
  · have g4 : decide (y.seq ≤ 999999000 - p.tasks) = true := by simp; omega
    have HD := Lib.hid (show bo = true by rw [HRF.out]; simp only [Bool.and_eq_true, decide_eq_true_eq]; omega)
    clear h1 h3 h4 HRF
    go_enter Tryz.func73, Tryz.ntmps73
    go_wp2
    rw [← hw2]
    clear hw2
    refine wp_region_quiet_below (by kernel_rfl) (by kernel_rfl) ?_
    repeat (go_big_quiet_step (first | exact Calls.regrown_of (cb (iwithin_c _ _ _ _) HW.out) | exact Calls.regrown_of (hcall _ (bl_dn hB2 (below_regrown w2 _ _)))))
    refine wpQuiet_nil ?_
    intro _ hw'
    obtain ⟨⟨dq, osq⟩, hw''⟩ := hw'
    subst hw''
    go_wp2
    go_ret
    exact ⟨ret_bool (by rw [HD.out]), bl_dn hB2 (below_regrown w2 dq osq)⟩
  · have g4 : decide (y.seq ≤ 999999000 - p.tasks) = false := by simp; omega
    have HD := Lib.hid (show bo = false by rw [HRF.out]; simp only [Bool.and_eq_false_iff, decide_eq_false_iff_not]; omega)
    clear h1 h3 h4 HRF
    go_enter Tryz.func73, Tryz.ntmps73
    go_wp2
    rw [← hw2]
    clear hw2
    refine wp_region_quiet_below (by kernel_rfl) (by kernel_rfl) ?_
    repeat (go_big_quiet_step (first | exact Calls.regrown_of (cb (iwithin_c _ _ _ _) HW.out) | exact Calls.regrown_of (hcall _ (bl_dn hB2 (below_regrown w2 _ _)))))
    refine wpQuiet_nil ?_
    intro _ hw'
    obtain ⟨⟨dq, osq⟩, hw''⟩ := hw'
    subst hw''
    go_wp2
    go_ret
    exact ⟨ret_bool (by rw [HD.out]), bl_dn hB2 (below_regrown w2 dq osq)⟩

set_option maxHeartbeats 2000000 in
theorem sRoomFor_c (y : Yd) (p : Pl) (a b : Value) (S S' : List Nat) (w : World) (own own' : Bool) (ha : AggRep w own (encYd y) a S) (hb : AggRep w own' (encPl p) b S') (hsz : totYd y ≤ 2000000) :
    Calls Tryz.prog 68 #[a, b] w fun e1 w' => e1 = .returned (.bool (roomFor y p)) ∧ Below w.heap.size w w' := by
  obtain ⟨_, rfl, ha⟩ := ha
  obtain ⟨_, rfl, hb⟩ := hb
  obtain ⟨ev, rfl, hev⟩ := pl_cells hb
  obtain ⟨sv, rv, S1, S2, rfl, ah0, ah1, rfl⟩ := yd_cells ha
  clear ha hb
  obtain ⟨A, c, rfl, hc1, hc2, -⟩ := Rep.open_ (size := 8) (enc := encRn) (fun _ => rfl) (by decide) ah1
  unfold maxLen at hc2
  have hl1 : y.runs.length ≤ 9223372036854775807 := by omega
  have hsl := slots_le hsz
  have hcall : ∀ w', Below w.heap.size w w' → Calls Tryz.prog 103 #[.agg #[.int .i64 y.now, .int .i64 y.seq, sv, .slice A y.runs.length c]] w' fun e w'' => e = .returned (.int .i64 (slotsOf y)) ∧ Below w'.heap.size w' w'' :=
    fun w' hw => sSlotsOf_c y _ _ w' own ⟨_, rfl, yd_mk (up ah0 hw) (up ah1 hw)⟩ hsz
  have hRF : roomFor y p = (decide (y.runs.length < 8) && (decide (0 ≤ p.tasks ∧ p.tasks ≤ 12) && (decide (slotsOf y + p.tasks ≤ 40) && decide (y.seq ≤ 1000000000 - 1000 - p.tasks)))) := rfl
  have HB := Lib.hid hRF
  clear hRF
  generalize slotsOf y = s at *
  obtain ⟨bo, hbo⟩ : ∃ bo, bo = roomFor y p := ⟨_, rfl⟩
  rw [← hbo]
  have HRF : Hid (bo = (decide (y.runs.length < 8) && (decide (0 ≤ p.tasks ∧ p.tasks ≤ 12) && (decide (s + p.tasks ≤ 40) && decide (y.seq ≤ 1000000000 - 1000 - p.tasks))))) := Lib.hid (hbo.trans HB.out)
  clear hbo HB
  obtain ⟨w2, hw2⟩ : ∃ w2, w2 = ((w.alloc (.cells #[.int .i64 y.now, .int .i64 y.seq, sv, .slice A y.runs.length c] tYd)).alloc (.cells #[.int .i64 p.prio, .int .i64 p.most, .int .i64 p.wait, .int .i64 p.tasks, ev] tPl)) := ⟨_, rfl⟩
  have hB2 : Below w.heap.size w w2 := by subst hw2; exact upB (upB (Below.refl w.heap.size w) _) _
  have q3 : ∀ (d : Nat) (os : Array Obj), (grow (redrawn w2 d) os).cell? ⟨w.heap.size, 3, none⟩ = some (.slice A y.runs.length c) := fun d os => cell_regrown (by subst hw2; simp [go_sem]) d os
  have r3 : ∀ (d : Nat) (os : Array Obj), (grow (redrawn w2 d) os).cell? ⟨w.heap.size + 1, 3, none⟩ = some (.int .i64 p.tasks) := fun d os => cell_regrown (by subst hw2; simp [go_sem]) d os
  have q0 : ∀ (d : Nat) (os : Array Obj), (grow (redrawn w2 d) os).cell? ⟨w.heap.size, 0, none⟩ = some (.int .i64 y.now) := fun d os => cell_regrown (by subst hw2; simp [go_sem]) d os
  have q1 : ∀ (d : Nat) (os : Array Obj), (grow (redrawn w2 d) os).cell? ⟨w.heap.size, 1, none⟩ = some (.int .i64 y.seq) := fun d os => cell_regrown (by subst hw2; simp [go_sem]) d os
  have q2 : ∀ (d : Nat) (os : Array Obj), (grow (redrawn w2 d) os).cell? ⟨w.heap.size, 2, none⟩ = some sv := fun d os => cell_regrown (by subst hw2; simp [go_sem]) d os
  by_cases h1 : y.runs.length < 8
  rotate_left
  · have g1 : decide ((y.runs.length : Int) < 8) = false := by simp; omega
    have HD := Lib.hid (show bo = false by rw [HRF.out]; simp only [Bool.and_eq_false_iff, decide_eq_false_iff_not]; omega)
    clear h1 HRF
    go_enter Tryz.func68, Tryz.ntmps68
    go_wp2
    rw [← hw2]
    clear hw2
    refine wp_region_quiet_below (by kernel_rfl) (by kernel_rfl) ?_
    repeat (go_big_quiet_step (first | exact Calls.regrown_of (cb (sl01In_c _ _ _ _) HW.out) | exact Calls.regrown_of (hcall _ (bl_dn hB2 (below_regrown w2 _ _)))))
    refine wpQuiet_nil ?_
    intro _ hw'
    obtain ⟨⟨dq, osq⟩, hw''⟩ := hw'
    subst hw''
    go_wp2
    go_ret
    exact ⟨ret_bool (by rw [HD.out]), bl_dn hB2 (below_regrown w2 dq osq)⟩
  have g1 : decide ((y.runs.length : Int) < 8) = true := by simp; omega
  by_cases h2 : 0 ≤ p.tasks ∧ p.tasks ≤ 12
  rotate_left
  · have HD := Lib.hid (show bo = false by rw [HRF.out]; simp only [Bool.and_eq_false_iff, decide_eq_false_iff_not]; omega)
    have HW : Hid (inb p.tasks 0 12 = false) := inb_false h2
    clear h1 h2 HRF
    go_enter Tryz.func68, Tryz.ntmps68
    go_wp2
    rw [← hw2]
    clear hw2
    refine wp_region_quiet_below (by kernel_rfl) (by kernel_rfl) ?_
    repeat (go_big_quiet_step (first | exact Calls.regrown_of (cb (sl01In_c _ _ _ _) HW.out) | exact Calls.regrown_of (hcall _ (bl_dn hB2 (below_regrown w2 _ _)))))
    refine wpQuiet_nil ?_
    intro _ hw'
    obtain ⟨⟨dq, osq⟩, hw''⟩ := hw'
    subst hw''
    go_wp2
    go_ret
    exact ⟨ret_bool (by rw [HD.out]), bl_dn hB2 (below_regrown w2 dq osq)⟩
  have HW : Hid (inb p.tasks 0 12 = true) := inb_true h2
  obtain ⟨h2a, h2b⟩ := h2
  by_cases h3 : s + p.tasks ≤ 40
  rotate_left
  · have g3 : decide (s + p.tasks ≤ 40) = false := by simp; omega
    have HD := Lib.hid (show bo = false by rw [HRF.out]; simp only [Bool.and_eq_false_iff, decide_eq_false_iff_not]; omega)
    clear h1 h3 HRF
    go_enter Tryz.func68, Tryz.ntmps68
    go_wp2
    rw [← hw2]
    clear hw2
    refine wp_region_quiet_below (by kernel_rfl) (by kernel_rfl) ?_
    repeat (go_big_quiet_step (first | exact Calls.regrown_of (cb (sl01In_c _ _ _ _) HW.out) | exact Calls.regrown_of (hcall _ (bl_dn hB2 (below_regrown w2 _ _)))))
    refine wpQuiet_nil ?_
    intro _ hw'
    obtain ⟨⟨dq, osq⟩, hw''⟩ := hw'
    subst hw''
    go_wp2
    go_ret
    exact ⟨ret_bool (by rw [HD.out]), bl_dn hB2 (below_regrown w2 dq osq)⟩
  have g3 : decide (s + p.tasks ≤ 40) = true := by simp; omega
  by_cases h4 : y.seq ≤ 999999000 - p.tasks
  · have g4 : decide (y.seq ≤ 999999000 - p.tasks) = true := by simp; omega
    have HD := Lib.hid (show bo = true by rw [HRF.out]; simp only [Bool.and_eq_true, decide_eq_true_eq]; omega)
    clear h1 h3 h4 HRF
    go_enter Tryz.func68, Tryz.ntmps68
    go_wp2
    rw [← hw2]
    clear hw2
    refine wp_region_quiet_below (by kernel_rfl) (by kernel_rfl) ?_
    repeat (go_big_quiet_step (first | exact Calls.regrown_of (cb (sl01In_c _ _ _ _) HW.out) | exact Calls.regrown_of (hcall _ (bl_dn hB2 (below_regrown w2 _ _)))))
    refine wpQuiet_nil ?_
    intro _ hw'
    obtain ⟨⟨dq, osq⟩, hw''⟩ := hw'
    subst hw''
    go_wp2
    go_ret
    exact ⟨ret_bool (by rw [HD.out]), bl_dn hB2 (below_regrown w2 dq osq)⟩
  · have g4 : decide (y.seq ≤ 999999000 - p.tasks) = false := by simp; omega
    have HD := Lib.hid (show bo = false by rw [HRF.out]; simp only [Bool.and_eq_false_iff, decide_eq_false_iff_not]; omega)
    clear h1 h3 h4 HRF
    go_enter Tryz.func68, Tryz.ntmps68
    go_wp2
    rw [← hw2]
    clear hw2
    refine wp_region_quiet_below (by kernel_rfl) (by kernel_rfl) ?_
    repeat (go_big_quiet_step (first | exact Calls.regrown_of (cb (sl01In_c _ _ _ _) HW.out) | exact Calls.regrown_of (hcall _ (bl_dn hB2 (below_regrown w2 _ _)))))
    refine wpQuiet_nil ?_
    intro _ hw'
    obtain ⟨⟨dq, osq⟩, hw''⟩ := hw'
    subst hw''
    go_wp2
    go_ret
    exact ⟨ret_bool (by rw [HD.out]), bl_dn hB2 (below_regrown w2 dq osq)⟩

end Go.Proofs.YtbplebgnkhmemaaGreat
