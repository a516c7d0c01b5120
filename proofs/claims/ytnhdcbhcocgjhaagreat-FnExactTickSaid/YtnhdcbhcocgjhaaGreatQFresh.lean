/- Texts for laws: OverP, Fresh, ReadyOf. -/
import Derived.Test.YtnhdcbhcocgjhaaGreatQAb
import Derived.Test.YtnhdcbhcocgjhaaGreatQData
import Derived.Test.YtnhdcbhcocgjhaaGreatQOpen
import Derived.Test.YtnhdcbhcocgjhaaGreatQTy
import Derived.Test.YtnhdcbhcocgjhaaGreatProg
set_option linter.unusedSimpArgs false
set_option linter.unusedVariables false
namespace Go.Proofs.YtnhdcbhcocgjhaaGreat
open Go.RowKit Go.Sort
theorem runs_le {y : Yd} (h : totYd y ≤ 2000000) : y.runs.length ≤ 2000000 := by
  simp only [totYd, totRns] at h; omega
theorem shelf_le {y : Yd} (h : totYd y ≤ 2000000) : y.shelf.length ≤ 2000000 := by
  simp only [totYd, totSh] at h; omega
theorem flat_le (l : List (List En)) : l.flatten.length ≤ totSh l := by
  induction l with
  | nil => simp
  | cons x l ih =>
    simp only [List.flatten_cons, List.length_append, totSh, List.length_cons, tsum, List.map_cons, List.sum_cons, totEnS] at ih ⊢
    omega
theorem flat_take {l : List (List En)} {k : Nat} {x : List En} (h : l[k]? = some x) : (l.take (k + 1)).flatten = (l.take k).flatten ++ x := by
  rw [List.take_add_one, h]; simp
theorem flat_take_le (l : List (List En)) (k : Nat) : (l.take k).flatten.length ≤ l.flatten.length := by
  have h : l.flatten = (l.take k).flatten ++ (l.drop k).flatten := by rw [← List.flatten_append, List.take_append_drop]
  rw [h, List.length_append]; omega
theorem shelf_flat {y : Yd} (h : totYd y ≤ 2000000) : y.shelf.flatten.length ≤ 2000000 := by
  have := flat_le y.shelf
  simp only [totYd] at h; omega
end Go.Proofs.YtnhdcbhcocgjhaaGreat
namespace Go.Proofs.YtnhdcbhcocgjhaaGreat
open Go.RowKit Go.Sort Go.BigFrame

/-- A cell of an old block, in whatever world of the class. -/
theorem cell_up {w w1 : World} {b o : Nat} {v : Value} (hB : Below w.heap.size w w1) (h : w.cell? ⟨b, o, none⟩ = some v) (d : Nat) (os : Array Obj) : (grow (redrawn w1 d) os).cell? ⟨b, o, none⟩ = some v :=
  cell_regrown ((hB.cell (p := ⟨b, o, none⟩) (World.block_lt_of_cell? w _ h)).trans h) d os
theorem cell_to {w w1 : World} {b o : Nat} {v : Value} (hB : Below w.heap.size w w1) (h : w.cell? ⟨b, o, none⟩ = some v) : w1.cell? ⟨b, o, none⟩ = some v :=
  (hB.cell (p := ⟨b, o, none⟩) (World.block_lt_of_cell? w _ h)).trans h

/-- Is n between? -/
def inb (n low high : Int) : Bool := decide (low ≤ n ∧ n ≤ high)
theorem inb_true {n low high : Int} (h : low ≤ n ∧ n ≤ high) : inb n low high = true := decide_eq_true h
theorem inb_false {n low high : Int} (h : ¬ (low ≤ n ∧ n ≤ high)) : inb n low high = false := decide_eq_false h

theorem iwithin_c (a b c : Int) (w : World) : Calls Tryz.prog 79 #[.int .i64 a, .int .i64 b, .int .i64 c] w fun e w' => e = .returned (.bool (inb a b c)) ∧ Below w.heap.size w w' := by
  by_cases h1 : b ≤ a
  · by_cases h2 : a ≤ c
    · have H : Hid (inb a b c = true) := inb_true ⟨h1, h2⟩
      go_enter Tryz.func79, Tryz.ntmps79
      go_wp2
      go_ret
      exact ⟨ret_bool H.out.symm, Below.refl _ _⟩
    · have H : Hid (inb a b c = false) := inb_false fun h => h2 h.2
      go_enter Tryz.func79, Tryz.ntmps79
      go_wp2
      go_ret
      exact ⟨ret_bool H.out.symm, Below.refl _ _⟩
  · have H : Hid (inb a b c = false) := inb_false fun h => h1 h.1
    go_enter Tryz.func79, Tryz.ntmps79
    go_wp2
    go_ret
    exact ⟨ret_bool H.out.symm, Below.refl _ _⟩

theorem sl01In_c (a b c : Int) (w : World) : Calls Tryz.prog 72 #[.int .i64 a, .int .i64 b, .int .i64 c] w fun e w' => e = .returned (.bool (inb a b c)) ∧ Below w.heap.size w w' := by
  by_cases h1 : b ≤ a
  · by_cases h2 : a ≤ c
    · have H : Hid (inb a b c = true) := inb_true ⟨h1, h2⟩
      go_enter Tryz.func72, Tryz.ntmps72
      go_wp2
      go_ret
      exact ⟨ret_bool H.out.symm, Below.refl _ _⟩
    · have H : Hid (inb a b c = false) := inb_false fun h => h2 h.2
      go_enter Tryz.func72, Tryz.ntmps72
      go_wp2
      go_ret
      exact ⟨ret_bool H.out.symm, Below.refl _ _⟩
  · have H : Hid (inb a b c = false) := inb_false fun h => h1 h.1
    go_enter Tryz.func72, Tryz.ntmps72
    go_wp2
    go_ret
    exact ⟨ret_bool H.out.symm, Below.refl _ _⟩

set_option maxHeartbeats 2000000 in
theorem iFresh_c (y : Yd) (e : En) (a b : Value) (S S' : List Nat) (w : World) (own own' : Bool) (ha : AggRep w own (encYd y) a S) (hb : AggRep w own' (encEn e) b S') :
    Calls Tryz.prog 145 #[a, b] w fun e1 w' => e1 = .returned (.bool (fresh y e)) ∧ Below w.heap.size w w' := by
  obtain ⟨_, rfl, ha⟩ := ha
  obtain ⟨_, rfl, hb⟩ := hb
  obtain ⟨rfl, rfl⟩ := en_cells hb
  obtain ⟨sv, rv, S1, S2, rfl, ah0, ah1, rfl⟩ := yd_cells ha
  clear ha hb
  rcases taskAt_cases y e.run e.task with ⟨hr, ht⟩ | ⟨k, r, hr, hx, ⟨hno, ht⟩ | ⟨j, t, hj, htx, ht⟩⟩
  · have HR := Lib.hid hr
    have HF : Hid (fresh y e = false) := by unfold fresh; rw [ht]; rfl
    clear hr ht
    go_enter Tryz.func145, Tryz.ntmps145
    go_wp2_with (go_at_call 53; refine (ci (iRunAt_c y e.run _ _ _ own ⟨_, rfl, yd_mk (upA (upA ah0 _) _) (upA (upA ah1 _) _)⟩) HR.out).mono ?_; rintro e1 w1 ⟨rfl, hb1⟩; obtain ⟨hc1, hf1⟩ := bcell hb1)
    refine wp_region_quiet_below (by kernel_rfl) (by kernel_rfl) ?_
    repeat (go_big_quiet_step (fail))
    refine wpQuiet_nil ?_
    intro _ hw'
    obtain ⟨⟨dq, osq⟩, hw''⟩ := hw'
    subst hw''
    go_wp2
    go_ret
    exact ⟨ret_bool (by rw [HF.out]), bl_dn (bl_dn (((Below.refl _ _).alloc (by simp) _).alloc (by simp) _) hb1) (below_regrown w1 dq osq)⟩
  all_goals
    have HR := Lib.hid hr
    obtain ⟨A, c, rfl, hc1, hc2, hca⟩ := Rep.open_ (size := 8) (enc := encRn) (fun _ => rfl) (by decide) ah1
    have hk : k < y.runs.length := (List.getElem?_eq_some_iff.1 hx).1
    unfold maxLen at hc2
    have hl1 : y.runs.length ≤ 9223372036854775807 := by omega
    obtain ⟨b1, o1, vk1, T1, rfl, -, hr1, -, -, hbl, hx1⟩ := hca k r hx
    clear hca
    obtain ⟨v0, v1, U0, U1, rfl, -, hts, -⟩ := rn_cells hr1
    have p7 := hx1 7 _ rfl
    clear hx1 hr1
    obtain ⟨B, d, rfl, hd1, hd2, hdb⟩ := Rep.open_ (size := 4) (enc := encTk) (fun _ => rfl) (by decide) hts
    unfold maxLen at hd2
    have hl2 : r.tasks.length ≤ 9223372036854775807 := by omega
    have hk0 : decide ((k : Int) ≥ 0) = true := by simp
    have hk1 : decide ((k : Int) < 0) = false := by simp
    clear hr hx
  · clear hdb
    have HF : Hid (fresh y e = false) := by unfold fresh; rw [ht]; rfl
    have HW : Hid (inb e.task 0 ((r.tasks.length : Int) - 1) = false) := inb_false hno
    clear ht hno
    go_enter Tryz.func145, Tryz.ntmps145
    go_wp2_with (go_at_call 53; refine (ci (iRunAt_c y e.run _ _ _ own ⟨_, rfl, yd_mk (upA (upA ah0 _) _) (upA (upA ah1 _) _)⟩) HR.out).mono ?_; rintro e1 w1 ⟨rfl, hb1⟩; obtain ⟨hc1, hf1⟩ := bcell hb1)
    have hBw : Below w.heap.size w w1 := bl_dn (((Below.refl _ _).alloc (by simp) _).alloc (by simp) _) hb1
    have p7' := cell_up hBw p7
    have q3 : ∀ (d : Nat) (os : Array Obj), (grow (redrawn w1 d) os).cell? ⟨w.heap.size, 3, none⟩ = some (.slice (some ⟨b1, o1, none⟩) y.runs.length c) := fun d os => cell_regrown ((hc1 _ _ (by simp; try omega)).trans (by simp [go_sem])) d os
    have r3 : ∀ (d : Nat) (os : Array Obj), (grow (redrawn w1 d) os).cell? ⟨w.heap.size + 1, 3, none⟩ = some (.int .i64 e.task) := fun d os => cell_regrown ((hc1 _ _ (by simp; try omega)).trans (by simp [go_sem])) d os
    refine wp_region_quiet_below (by kernel_rfl) (by kernel_rfl) ?_
    repeat (go_big_quiet_step (exact Calls.regrown_of (cb (iwithin_c _ _ _ _) HW.out)))
    refine wpQuiet_nil ?_
    intro _ hw'
    obtain ⟨⟨dq, osq⟩, hw''⟩ := hw'
    subst hw''
    go_wp2
    go_ret
    exact ⟨ret_bool (by rw [HF.out]), bl_dn hBw (below_regrown w1 dq osq)⟩
  · obtain ⟨b2, o2, vk2, T2, rfl, -, hr2, -, -, hbl2, hx2⟩ := hdb j t htx
    clear hdb
    obtain ⟨rfl, rfl⟩ := tk_cells hr2
    have p0 : w.cell? ⟨b2, o2 + j * 4, none⟩ = some (.int .i64 t.state) := hx2 0 _ rfl
    have hjl : j < r.tasks.length := (List.getElem?_eq_some_iff.1 htx).1
    clear hx2 hr2 htx
    obtain ⟨e1, e2, e3, e4⟩ := e
    simp only at hj HR ht
    subst hj
    have HW : Hid (inb (j : Int) 0 ((r.tasks.length : Int) - 1) = true) := inb_true (by omega)
    by_cases hst : t.state = 2
    all_goals
      first | (have hs : (t.state == 2) = true := by simpa using hst) | (have hs : (t.state == 2) = false := by simpa using hst)
      have HF := Lib.hid (show fresh y ⟨e1, e2, e3, j⟩ = (t.state == 2) by unfold fresh; rw [ht])
      clear ht hst
      go_enter Tryz.func145, Tryz.ntmps145
      go_wp2_with (go_at_call 53; refine (ci (iRunAt_c y e3 _ _ _ own ⟨_, rfl, yd_mk (upA (upA ah0 _) _) (upA (upA ah1 _) _)⟩) HR.out).mono ?_; rintro e1 w1 ⟨rfl, hb1⟩; obtain ⟨hc1, hf1⟩ := bcell hb1)
      have hBw : Below w.heap.size w w1 := bl_dn (((Below.refl _ _).alloc (by simp) _).alloc (by simp) _) hb1
      have p7' := cell_up hBw p7
      have q3 : ∀ (d : Nat) (os : Array Obj), (grow (redrawn w1 d) os).cell? ⟨w.heap.size, 3, none⟩ = some (.slice (some ⟨b1, o1, none⟩) y.runs.length c) := fun d os => cell_regrown ((hc1 _ _ (by simp; try omega)).trans (by simp [go_sem])) d os
      have r3 : ∀ (d : Nat) (os : Array Obj), (grow (redrawn w1 d) os).cell? ⟨w.heap.size + 1, 3, none⟩ = some (.int .i64 j) := fun d os => cell_regrown ((hc1 _ _ (by simp; try omega)).trans (by simp [go_sem])) d os
      have p0' := cell_up hBw p0
      refine wp_region_quiet_below (by kernel_rfl) (by kernel_rfl) ?_
      repeat (go_big_quiet_step (exact Calls.regrown_of (cb (iwithin_c _ _ _ _) HW.out)))
      refine wpQuiet_nil ?_
      intro _ hw'
      obtain ⟨⟨dq, osq⟩, hw''⟩ := hw'
      subst hw''
      go_wp2
      go_ret
      exact ⟨ret_bool (by rw [HF.out, hs]), bl_dn hBw (below_regrown w1 dq osq)⟩

set_option maxHeartbeats 2000000 in
theorem sFresh_c (y : Yd) (e : En) (a b : Value) (S S' : List Nat) (w : World) (own own' : Bool) (ha : AggRep w own (encYd y) a S) (hb : AggRep w own' (encEn e) b S') :
    Calls Tryz.prog 141 #[a, b] w fun e1 w' => e1 = .returned (.bool (fresh y e)) ∧ Below w.heap.size w w' := by
  obtain ⟨_, rfl, ha⟩ := ha
  obtain ⟨_, rfl, hb⟩ := hb
  obtain ⟨rfl, rfl⟩ := en_cells hb
  obtain ⟨sv, rv, S1, S2, rfl, ah0, ah1, rfl⟩ := yd_cells ha
  clear ha hb
  rcases taskAt_cases y e.run e.task with ⟨hr, ht⟩ | ⟨k, r, hr, hx, ⟨hno, ht⟩ | ⟨j, t, hj, htx, ht⟩⟩
  · have HR := Lib.hid hr
    have HF : Hid (fresh y e = false) := by unfold fresh; rw [ht]; rfl
    clear hr ht
    go_enter Tryz.func141, Tryz.ntmps141
    go_wp2_with (go_at_call 45; refine (ci (sRunAt_c y e.run _ _ _ own ⟨_, rfl, yd_mk (upA (upA ah0 _) _) (upA (upA ah1 _) _)⟩) HR.out).mono ?_; rintro e1 w1 ⟨rfl, hb1⟩; obtain ⟨hc1, hf1⟩ := bcell hb1)
    refine wp_region_quiet_below (by kernel_rfl) (by kernel_rfl) ?_
    repeat (go_big_quiet_step (fail))
    refine wpQuiet_nil ?_
    intro _ hw'
    obtain ⟨⟨dq, osq⟩, hw''⟩ := hw'
    subst hw''
    go_wp2
    go_ret
    exact ⟨ret_bool (by rw [HF.out]), bl_dn (bl_dn (((Below.refl _ _).alloc (by simp) _).alloc (by simp) _) hb1) (below_regrown w1 dq osq)⟩
  all_goals
    have HR := Lib.hid hr
    obtain ⟨A, c, rfl, hc1, hc2, hca⟩ := Rep.open_ (size := 8) (enc := encRn) (fun _ => rfl) (by decide) ah1
    have hk : k < y.runs.length := (List.getElem?_eq_some_iff.1 hx).1
    unfold maxLen at hc2
    have hl1 : y.runs.length ≤ 9223372036854775807 := by omega
    obtain ⟨b1, o1, vk1, T1, rfl, -, hr1, -, -, hbl, hx1⟩ := hca k r hx
    clear hca
    obtain ⟨v0, v1, U0, U1, rfl, -, hts, -⟩ := rn_cells hr1
    have p7 := hx1 7 _ rfl
    clear hx1 hr1
    obtain ⟨B, d, rfl, hd1, hd2, hdb⟩ := Rep.open_ (size := 4) (enc := encTk) (fun _ => rfl) (by decide) hts
    unfold maxLen at hd2
    have hl2 : r.tasks.length ≤ 9223372036854775807 := by omega
    have hk0 : decide ((k : Int) ≥ 0) = true := by simp
    have hk1 : decide ((k : Int) < 0) = false := by simp
    clear hr hx
  · clear hdb
    have HF : Hid (fresh y e = false) := by unfold fresh; rw [ht]; rfl
    have HW : Hid (inb e.task 0 ((r.tasks.length : Int) - 1) = false) := inb_false hno
    clear ht hno
    go_enter Tryz.func141, Tryz.ntmps141
    go_wp2_with (go_at_call 45; refine (ci (sRunAt_c y e.run _ _ _ own ⟨_, rfl, yd_mk (upA (upA ah0 _) _) (upA (upA ah1 _) _)⟩) HR.out).mono ?_; rintro e1 w1 ⟨rfl, hb1⟩; obtain ⟨hc1, hf1⟩ := bcell hb1)
    have hBw : Below w.heap.size w w1 := bl_dn (((Below.refl _ _).alloc (by simp) _).alloc (by simp) _) hb1
    have p7' := cell_up hBw p7
    have q3 : ∀ (d : Nat) (os : Array Obj), (grow (redrawn w1 d) os).cell? ⟨w.heap.size, 3, none⟩ = some (.slice (some ⟨b1, o1, none⟩) y.runs.length c) := fun d os => cell_regrown ((hc1 _ _ (by simp; try omega)).trans (by simp [go_sem])) d os
    have r3 : ∀ (d : Nat) (os : Array Obj), (grow (redrawn w1 d) os).cell? ⟨w.heap.size + 1, 3, none⟩ = some (.int .i64 e.task) := fun d os => cell_regrown ((hc1 _ _ (by simp; try omega)).trans (by simp [go_sem])) d os
    refine wp_region_quiet_below (by kernel_rfl) (by kernel_rfl) ?_
    repeat (go_big_quiet_step (exact Calls.regrown_of (cb (sl01In_c _ _ _ _) HW.out)))
    refine wpQuiet_nil ?_
    intro _ hw'
    obtain ⟨⟨dq, osq⟩, hw''⟩ := hw'
    subst hw''
    go_wp2
    go_ret
    exact ⟨ret_bool (by rw [HF.out]), bl_dn hBw (below_regrown w1 dq osq)⟩
  · obtain ⟨b2, o2, vk2, T2, rfl, -, hr2, -, -, hbl2, hx2⟩ := hdb j t htx
    clear hdb
    obtain ⟨rfl, rfl⟩ := tk_cells hr2
    have p0 : w.cell? ⟨b2, o2 + j * 4, none⟩ = some (.int .i64 t.state) := hx2 0 _ rfl
    have hjl : j < r.tasks.length := (List.getElem?_eq_some_iff.1 htx).1
    clear hx2 hr2 htx
    obtain ⟨e1, e2, e3, e4⟩ := e
    simp only at hj HR ht
    subst hj
    have HW : Hid (inb (j : Int) 0 ((r.tasks.length : Int) - 1) = true) := inb_true (by omega)
    by_cases hst : t.state = 2
    all_goals
      first | (have hs : (t.state == 2) = true := by simpa using hst) | (have hs : (t.state == 2) = false := by simpa using hst)
      have HF := Lib.hid (show fresh y ⟨e1, e2, e3, j⟩ = (t.state == 2) by unfold fresh; rw [ht])
      clear ht hst
      go_enter Tryz.func141, Tryz.ntmps141
      go_wp2_with (go_at_call 45; refine (ci (sRunAt_c y e3 _ _ _ own ⟨_, rfl, yd_mk (upA (upA ah0 _) _) (upA (upA ah1 _) _)⟩) HR.out).mono ?_; rintro e1 w1 ⟨rfl, hb1⟩; obtain ⟨hc1, hf1⟩ := bcell hb1)
      have hBw : Below w.heap.size w w1 := bl_dn (((Below.refl _ _).alloc (by simp) _).alloc (by simp) _) hb1
      have p7' := cell_up hBw p7
      have q3 : ∀ (d : Nat) (os : Array Obj), (grow (redrawn w1 d) os).cell? ⟨w.heap.size, 3, none⟩ = some (.slice (some ⟨b1, o1, none⟩) y.runs.length c) := fun d os => cell_regrown ((hc1 _ _ (by simp; try omega)).trans (by simp [go_sem])) d os
      have r3 : ∀ (d : Nat) (os : Array Obj), (grow (redrawn w1 d) os).cell? ⟨w.heap.size + 1, 3, none⟩ = some (.int .i64 j) := fun d os => cell_regrown ((hc1 _ _ (by simp; try omega)).trans (by simp [go_sem])) d os
      have p0' := cell_up hBw p0
      refine wp_region_quiet_below (by kernel_rfl) (by kernel_rfl) ?_
      repeat (go_big_quiet_step (exact Calls.regrown_of (cb (sl01In_c _ _ _ _) HW.out)))
      refine wpQuiet_nil ?_
      intro _ hw'
      obtain ⟨⟨dq, osq⟩, hw''⟩ := hw'
      subst hw''
      go_wp2
      go_ret
      exact ⟨ret_bool (by rw [HF.out, hs]), bl_dn hBw (below_regrown w1 dq osq)⟩

end Go.Proofs.YtnhdcbhcocgjhaaGreat
set_option linter.unusedSimpArgs false
set_option linter.unusedVariables false
set_option maxRecDepth 100000
namespace Go.Proofs.YtnhdcbhcocgjhaaGreat
open Go.RowKit Go.Sort
def c_spec_l10Entries : C := .seq (.reg [⟨some 1, none, .box 30 4 (.t 0)⟩, ⟨some 2, none, .mov (.c (.slice none 0 0))⟩]) (.seq (.reg [⟨some 5, none, .bsl 108 4 0 [] []⟩, ⟨some 3, none, .mov (.t 5)⟩]) (.seq (.seq (.reg [⟨some 4, none, .mov (.c (.int .i64 0))⟩]) (.blk 0 (.loop (.seq (.seq (.reg [⟨some 6, none, .mov (.t 4)⟩, ⟨some 7, none, .fa 2 (.t 1)⟩, ⟨some 8, none, .ld false 1 (.t 7)⟩, ⟨some 9, none, .len false (.t 8)⟩, ⟨some 10, none, .bin .lss 3 (.t 6) (.t 9)⟩]) (.cond (.t 10) .skip (.exit 0))) (.seq (.blk 1 (.reg [⟨some 13, none, .mov (.t 3)⟩, ⟨some 14, none, .fa 2 (.t 1)⟩, ⟨some 15, none, .ld false 1 (.t 14)⟩, ⟨some 16, none, .mov (.t 4)⟩, ⟨some 17, none, .ia 1 (.t 15) (.t 16)⟩, ⟨some 18, none, .ld false 1 (.t 17)⟩, ⟨some 19, none, .app 108 4 32 (.t 13) (.t 18)⟩, ⟨some 3, none, .mov (.t 19)⟩])) (.reg [⟨some 11, none, .mov (.t 4)⟩, ⟨some 12, none, .bin .add 3 (.t 11) (.c (.int .i64 1))⟩, ⟨some 4, none, .mov (.t 12)⟩])))))) (.seq (.reg [⟨some 20, none, .mov (.t 3)⟩, ⟨some 2, none, .mov (.t 20)⟩]) .ret)))
theorem code_spec_l10Entries : fnC Tryz.prog Tryz.f133 = some (c_spec_l10Entries, [.t 2], 21) := by kernel_rfl
def c_impl_allEntries : C := .seq (.reg [⟨some 1, none, .box 30 4 (.t 0)⟩, ⟨some 2, none, .mov (.c (.slice none 0 0))⟩]) (.seq (.reg [⟨some 3, none, .mov (.c (.slice none 0 0))⟩]) (.seq (.seq (.reg [⟨some 6, none, .fa 2 (.t 1)⟩, ⟨some 7, none, .ld false 1 (.t 6)⟩, ⟨some 8, none, .len false (.t 7)⟩, ⟨some 9, none, .mov (.c (.int .i64 0))⟩]) (.blk 0 (.loop (.seq (.reg [⟨some 10, none, .bin .lss 3 (.t 9) (.t 8)⟩]) (.seq (.cond (.t 10) .skip (.exit 0)) (.seq (.blk 1 (.seq (.reg [⟨some 11, none, .ia 1 (.t 7) (.t 9)⟩, ⟨some 12, none, .ld false 1 (.t 11)⟩, ⟨some 5, none, .mov (.t 12)⟩]) (.reg [⟨some 13, none, .mov (.t 3)⟩, ⟨some 14, none, .mov (.t 5)⟩, ⟨some 15, none, .app 108 4 32 (.t 13) (.t 14)⟩, ⟨some 3, none, .mov (.t 15)⟩]))) (.reg [⟨some 16, none, .bin .add 3 (.t 9) (.c (.int .i64 1))⟩, ⟨some 9, none, .mov (.t 16)⟩]))))))) (.seq (.reg [⟨some 17, none, .mov (.t 3)⟩, ⟨some 2, none, .mov (.t 17)⟩]) .ret)))
theorem code_impl_allEntries : fnC Tryz.prog Tryz.f137 = some (c_impl_allEntries, [.t 2], 18) := by kernel_rfl
theorem ens_app (l m : List En) : D.sl 4 tEn (l.flatMap encEn ++ m.flatMap encEn) = encEns (l ++ m) := by simp [encEns]
theorem p_spec_l10Entries (y : Yd) (ht : totYd y ≤ 2000000) : Pure Tryz.prog 133 [.agg (encYd y)] (.c (encEns y.shelf.flatten)) := by
  refine pure_fn Tryz.func133 code_spec_l10Entries (by simp) ?_
  unfold c_spec_l10Entries
  have hl := shelf_le ht
  have hf := shelf_flat ht
  simp -implicitDefEqProofs only [go_sem, encYd]
  intro b η0
  refine wp_loop_ (fun s => ∃ (k g ty : Nat) (η : Heads), k ≤ y.shelf.length ∧ (g = 500 ∨ g = 1900) ∧ s.t 1 = .c (.bp 100 0 b) ∧ s.o 100 = .box b ty ((encYd y).map fun x => .a x.toRo) ∧ s.t 4 = .c (.v (.int .i64 k)) ∧ s.t 3 = .c (.h g 0 [] (η [])) ∧ s.o g = .loose (encEns (y.shelf.take k).flatten) η) (fun s => y.shelf.length - s.n 4) ?_ ?_
  · exact ⟨0, 500, _, η0, Nat.zero_le _, .inl rfl, by simp -implicitDefEqProofs only [go_sem] <;> rfl, by simp -implicitDefEqProofs only [go_sem] <;> rfl, by simp -implicitDefEqProofs only [go_sem] <;> rfl, by simp -implicitDefEqProofs only [go_sem] <;> rfl, by simp -implicitDefEqProofs only [go_sem] <;> rfl⟩
  · rintro s ⟨k, g, ty, η, hk, hg, h1, ho1, h4, h3, hob⟩
    by_cases hlt : k < y.shelf.length
    · have hlt' : (k : Int) < y.shelf.length := by omega
      obtain ⟨x, hx⟩ := get_some hlt
      have hw : IntKind.i64.wrap ((k : Int) + 1) = ((k + 1 : Nat) : Int) := wrap64 (by omega) (by omega)
      have hn := flat_take hx
      have hle := flat_take_le y.shelf (k + 1)
      rw [hn, List.length_append] at hle
      generalize (y.shelf.take k).flatten = l at *
      have h1' : l.length + x.length ≤ maxLen := by unfold maxLen; omega
      have h2' : (l.length + x.length) * 32 ≤ 140737488355328 := by omega
      rcases hg with rfl | rfl
      all_goals
        simp -implicitDefEqProofs only [go_sem, h1, ho1, h4, h3, hob, encYd, hlt, hlt', elem_encSh hx, h1', h2', hw, ens_app]
        intro η2
        refine ⟨⟨k + 1, 1900, ty, η2, ?_⟩, ?_⟩
        · and_intros <;> first | rfl | omega | exact .inr rfl | (rw [hn]; rfl)
        · rw [st_n (k := .i64) (n := ((k + 1 : Nat) : Int)) (by simp -implicitDefEqProofs only [go_sem]), st_n h4]; omega
    · have hlt' : ¬ (k : Int) < y.shelf.length := by omega
      rw [List.take_of_length_le (by omega)] at hob
      rcases hg with rfl | rfl
      all_goals
        simp -implicitDefEqProofs only [go_sem, h1, ho1, h4, h3, hob, encYd, hlt']
theorem p_impl_allEntries (y : Yd) (ht : totYd y ≤ 2000000) : Pure Tryz.prog 137 [.agg (encYd y)] (.c (encEns y.shelf.flatten)) := by
  refine pure_fn Tryz.func137 code_impl_allEntries (by simp) ?_
  unfold c_impl_allEntries
  have hl := shelf_le ht
  have hf := shelf_flat ht
  simp -implicitDefEqProofs only [go_sem, encYd]
  intro b
  refine wp_loop_ (fun s => ∃ k : Nat, k ≤ y.shelf.length ∧ s.t 7 = .c (.ro (encSh y.shelf)) ∧ s.t 8 = .c (.v (.int .i64 y.shelf.length)) ∧ s.t 9 = .c (.v (.int .i64 k)) ∧ (((y.shelf.take k).flatten = [] ∧ s.t 3 = .c (.v (.slice none 0 0))) ∨ ∃ η : Heads, s.t 3 = .c (.h 1500 0 [] (η [])) ∧ s.o 1500 = .loose (encEns (y.shelf.take k).flatten) η)) (fun s => y.shelf.length - s.n 9) ?_ ?_
  · exact ⟨0, Nat.zero_le _, by simp -implicitDefEqProofs only [go_sem] <;> rfl, by simp -implicitDefEqProofs only [go_sem] <;> rfl, by simp -implicitDefEqProofs only [go_sem] <;> rfl, .inl ⟨rfl, by simp -implicitDefEqProofs only [go_sem]⟩⟩
  · rintro s ⟨k, hk, h7, h8, h9, hg⟩
    by_cases hlt : k < y.shelf.length
    · have hlt' : (k : Int) < y.shelf.length := by omega
      obtain ⟨x, hx⟩ := get_some hlt
      have hw : IntKind.i64.wrap ((k : Int) + 1) = ((k + 1 : Nat) : Int) := wrap64 (by omega) (by omega)
      have hn := flat_take hx
      have hle := flat_take_le y.shelf (k + 1)
      rw [hn, List.length_append] at hle
      generalize (y.shelf.take k).flatten = l at *
      have h1' : l.length + x.length ≤ maxLen := by unfold maxLen; omega
      have h2' : (l.length + x.length) * 32 ≤ 140737488355328 := by omega
      rcases hg with ⟨hnil, h3⟩ | ⟨η, h3, hob⟩
      · have h3' : x.length ≤ maxLen := by unfold maxLen; omega
        have h4' : x.length * 32 ≤ 140737488355328 := by omega
        rw [hnil, List.nil_append] at hn
        simp -implicitDefEqProofs only [go_sem, h7, h8, h9, h3, hlt, hlt', elem_encSh hx, hw, h3', h4', fold_encEns]
        intro η2
        refine ⟨⟨k + 1, by omega, rfl, .inr ⟨η2, rfl, by rw [hn]⟩⟩, ?_⟩
        rw [st_n (k := .i64) (n := ((k + 1 : Nat) : Int)) (by simp -implicitDefEqProofs only [go_sem]), st_n h9]; omega
      · simp -implicitDefEqProofs only [go_sem, h7, h8, h9, h3, hob, hlt, hlt', elem_encSh hx, hw, h1', h2', ens_app]
        intro η2
        refine ⟨⟨k + 1, by omega, rfl, .inr ⟨η2, rfl, by rw [hn]⟩⟩, ?_⟩
        rw [st_n (k := .i64) (n := ((k + 1 : Nat) : Int)) (by simp -implicitDefEqProofs only [go_sem]), st_n h9]; omega
    · have hlt' : ¬ (k : Int) < y.shelf.length := by omega
      have hk' : y.shelf.take k = y.shelf := List.take_of_length_le (by omega)
      rcases hg with ⟨hnil, h3⟩ | ⟨η, h3, hob⟩
      · rw [hk'] at hnil
        simp -implicitDefEqProofs only [go_sem, h7, h8, h9, h3, hlt', hnil]
      · rw [hk'] at hob
        simp -implicitDefEqProofs only [go_sem, h7, h8, h9, h3, hob, hlt']
end Go.Proofs.YtnhdcbhcocgjhaaGreat
