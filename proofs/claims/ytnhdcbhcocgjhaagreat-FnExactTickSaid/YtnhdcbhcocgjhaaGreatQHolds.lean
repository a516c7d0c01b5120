/- Texts for laws: Holds. -/
import Derived.Test.YtnhdcbhcocgjhaaGreatQFresh
namespace Go.Proofs.YtnhdcbhcocgjhaaGreat
open Go.RowKit Go.Sort Go.BigFrame

set_option maxHeartbeats 2000000 in
theorem iHolds_c (y : Yd) (id task tri : Int) (a : Value) (S : List Nat) (w : World) (own : Bool) (ha : AggRep w own (encYd y) a S) :
    Calls Tryz.prog 69 #[a, .int .i64 id, .int .i64 task, .int .i64 tri] w fun e1 w' => e1 = .returned (.bool (holds y id task tri)) ∧ Below w.heap.size w w' := by
  obtain ⟨_, rfl, ha⟩ := ha
  obtain ⟨sv, rv, S1, S2, rfl, ah0, ah1, rfl⟩ := yd_cells ha
  clear ha
  rcases taskAt_cases y id task with ⟨hr, ht⟩ | ⟨k, r, hr, hx, ⟨hno, ht⟩ | ⟨j, t, hj, htx, ht⟩⟩
  · have HR := Lib.hid hr
    have HF : Hid (holds y id task tri = false) := by unfold holds; rw [ht]; rfl
    clear hr ht
    go_enter Tryz.func69, Tryz.ntmps69
    go_wp2_with (go_at_call 53; refine (ci (iRunAt_c y id _ _ _ own ⟨_, rfl, yd_mk (upA ah0 _) (upA ah1 _)⟩) HR.out).mono ?_; rintro e1 w1 ⟨rfl, hb1⟩; obtain ⟨hc1, hf1⟩ := bcell hb1)
    go_ret
    exact ⟨ret_bool (by rw [HF.out]), bl_dn ((Below.refl _ _).alloc (by simp) _) hb1⟩
  all_goals
    have HR := Lib.hid hr
    obtain ⟨A, c, rfl, hc1, hc2, hca⟩ := Rep.open_ (size := 8) (enc := encRn) (fun _ => rfl) (by decide) ah1
    have hk : k < y.runs.length := (List.getElem?_eq_some_iff.1 hx).1
    unfold maxLen at hc2
    have hl1 : y.runs.length ≤ 9223372036854775807 := by omega
    obtain ⟨b1, o1, vk1, T1, rfl, -, hr1, -, -, hbl, hx1⟩ := hca k r hx
    clear hca
    obtain ⟨v0, v1, U0, U1, rfl, -, hts, -⟩ := rn_cells hr1
    have p7 := hx1 7 _ rfl
    clear hx1 hr1
    obtain ⟨B, d, rfl, hd1, hd2, hdb⟩ := Rep.open_ (size := 4) (enc := encTk) (fun _ => rfl) (by decide) hts
    unfold maxLen at hd2
    have hl2 : r.tasks.length ≤ 9223372036854775807 := by omega
    have hk0 : decide ((k : Int) ≥ 0) = true := by simp
    have hk1 : decide ((k : Int) < 0) = false := by simp
    clear hr hx
  · clear hdb
    have HF : Hid (holds y id task tri = false) := by unfold holds; rw [ht]; rfl
    have HW : Hid (inb task 0 ((r.tasks.length : Int) - 1) = false) := inb_false hno
    clear ht hno
    go_enter Tryz.func69, Tryz.ntmps69
    go_wp2_with fail
    refine (ci (iRunAt_c y id _ _ _ own ⟨_, rfl, yd_mk (upA ah0 _) (upA ah1 _)⟩) HR.out).mono ?_
    rintro e1 w1 ⟨rfl, hb1⟩
    obtain ⟨hc1, hf1⟩ := bcell hb1
    have hBw : Below w.heap.size w w1 := bl_dn ((Below.refl _ _).alloc (by simp) _) hb1
    have p7' := cell_to hBw p7
    have q3 : w1.cell? ⟨w.heap.size, 3, none⟩ = some (.slice (some ⟨b1, o1, none⟩) y.runs.length c) := (hc1 _ _ (by simp)).trans (by simp [go_sem])
    go_wp2_with (go_at_call 79; refine (cb (iwithin_c _ _ _ _) HW.out).mono ?_; rintro e2 w2 ⟨rfl, hb2⟩; obtain ⟨hc2, hf2⟩ := bcell hb2)
    go_ret
    exact ⟨ret_bool (by rw [HF.out]), bl_dn hBw hb2⟩
  · obtain ⟨b2, o2, vk2, T2, rfl, -, hr2, -, -, hbl2, hx2⟩ := hdb j t htx
    clear hdb
    obtain ⟨rfl, rfl⟩ := tk_cells hr2
    have p0 : w.cell? ⟨b2, o2 + j * 4, none⟩ = some (.int .i64 t.state) := hx2 0 _ rfl
    have p1 := hx2 1 _ rfl
    have p2 := hx2 2 _ rfl
    have p3 := hx2 3 _ rfl
    have hjl : j < r.tasks.length := (List.getElem?_eq_some_iff.1 htx).1
    clear hx2 hr2 htx
    subst hj
    have HW : Hid (inb (j : Int) 0 ((r.tasks.length : Int) - 1) = true) := inb_true (by omega)
    by_cases hst : t.state = 3
    · have hs : (t.state == 3) = true := by simpa using hst
      by_cases htr : t.tri = tri
      all_goals
        first | (have hs2 : (t.tri == tri) = true := by simpa using htr) | (have hs2 : (t.tri == tri) = false := by simpa using htr)
        have HF := Lib.hid (show holds y id j tri = (t.tri == tri) by unfold holds; rw [ht]; simp [hs])
        clear ht hst htr
        go_enter Tryz.func69, Tryz.ntmps69
        go_wp2_with fail
        refine (ci (iRunAt_c y id _ _ _ own ⟨_, rfl, yd_mk (upA ah0 _) (upA ah1 _)⟩) HR.out).mono ?_
        rintro e1 w1 ⟨rfl, hb1⟩
        obtain ⟨hc1, hf1⟩ := bcell hb1
        have hBw : Below w.heap.size w w1 := bl_dn ((Below.refl _ _).alloc (by simp) _) hb1
        have p7' := cell_to hBw p7
        have q3 : w1.cell? ⟨w.heap.size, 3, none⟩ = some (.slice (some ⟨b1, o1, none⟩) y.runs.length c) := (hc1 _ _ (by simp)).trans (by simp [go_sem])
        go_wp2_with fail
        refine (cb (iwithin_c _ _ _ _) HW.out).mono ?_
        rintro e2 w2 ⟨rfl, hb2⟩
        obtain ⟨hc2, hf2⟩ := bcell hb2
        replace p7' := cell_to hb2 p7'
        replace q3 := cell_to hb2 q3
        have p0' := cell_to hb2 (cell_to hBw p0)
        have p1' := cell_to hb2 (cell_to hBw p1)
        have p2' := cell_to hb2 (cell_to hBw p2)
        have p3' := cell_to hb2 (cell_to hBw p3)
        go_wp2
        go_ret
        exact ⟨ret_bool (by rw [HF.out, hs2]), by repeat (first | (with_reducible exact bl_dn hBw hb2) | ((with_reducible refine Below.alloc ?_ ?_ _); rotate_left; focus (exact (bl_dn hBw hb2).size)))⟩
    · have hs : (t.state == 3) = false := by simpa using hst
      have HF := Lib.hid (show holds y id j tri = false by unfold holds; rw [ht]; simp [hs])
      clear ht hst
      go_enter Tryz.func69, Tryz.ntmps69
      go_wp2_with fail
      refine (ci (iRunAt_c y id _ _ _ own ⟨_, rfl, yd_mk (upA ah0 _) (upA ah1 _)⟩) HR.out).mono ?_
      rintro e1 w1 ⟨rfl, hb1⟩
      obtain ⟨hc1, hf1⟩ := bcell hb1
      have hBw : Below w.heap.size w w1 := bl_dn ((Below.refl _ _).alloc (by simp) _) hb1
      have p7' := cell_to hBw p7
      have q3 : w1.cell? ⟨w.heap.size, 3, none⟩ = some (.slice (some ⟨b1, o1, none⟩) y.runs.length c) := (hc1 _ _ (by simp)).trans (by simp [go_sem])
      go_wp2_with fail
      refine (cb (iwithin_c _ _ _ _) HW.out).mono ?_
      rintro e2 w2 ⟨rfl, hb2⟩
      obtain ⟨hc2, hf2⟩ := bcell hb2
      replace p7' := cell_to hb2 p7'
      replace q3 := cell_to hb2 q3
      have p0' := cell_to hb2 (cell_to hBw p0)
      have p1' := cell_to hb2 (cell_to hBw p1)
      have p2' := cell_to hb2 (cell_to hBw p2)
      have p3' := cell_to hb2 (cell_to hBw p3)
      go_wp2
      go_ret
      exact ⟨ret_bool (by rw [HF.out]), by repeat (first | (with_reducible exact bl_dn hBw hb2) | ((with_reducible refine Below.alloc ?_ ?_ _); rotate_left; focus (exact (bl_dn hBw hb2).size)))⟩

set_option maxHeartbeats 2000000 in
theorem sHolds_c (y : Yd) (id task tri : Int) (a : Value) (S : List Nat) (w : World) (own : Bool) (ha : AggRep w own (encYd y) a S) :
    Calls Tryz.prog 106 #[a, .int .i64 id, .int .i64 task, .int .i64 tri] w fun e1 w' => e1 = .returned (.bool (holds y id task tri)) ∧ Below w.heap.size w w' := by
  obtain ⟨_, rfl, ha⟩ := ha
  obtain ⟨sv, rv, S1, S2, rfl, ah0, ah1, rfl⟩ := yd_cells ha
  clear ha
  rcases taskAt_cases y id task with ⟨hr, ht⟩ | ⟨k, r, hr, hx, ⟨hno, ht⟩ | ⟨j, t, hj, htx, ht⟩⟩
  · have HR := Lib.hid hr
    have HF : Hid (holds y id task tri = false) := by unfold holds; rw [ht]; rfl
    clear hr ht
    go_enter Tryz.func106, Tryz.ntmps106
    go_wp2_with (go_at_call 45; refine (ci (sRunAt_c y id _ _ _ own ⟨_, rfl, yd_mk (upA ah0 _) (upA ah1 _)⟩) HR.out).mono ?_; rintro e1 w1 ⟨rfl, hb1⟩; obtain ⟨hc1, hf1⟩ := bcell hb1)
    go_ret
    exact ⟨ret_bool (by rw [HF.out]), bl_dn ((Below.refl _ _).alloc (by simp) _) hb1⟩
  all_goals
    have HR := Lib.hid hr
    obtain ⟨A, c, rfl, hc1, hc2, hca⟩ := Rep.open_ (size := 8) (enc := encRn) (fun _ => rfl) (by decide) ah1
    have hk : k < y.runs.length := (List.getElem?_eq_some_iff.1 hx).1
    unfold maxLen at hc2
    have hl1 : y.runs.length ≤ 9223372036854775807 := by omega
    obtain ⟨b1, o1, vk1, T1, rfl, -, hr1, -, -, hbl, hx1⟩ := hca k r hx
    clear hca
    obtain ⟨v0, v1, U0, U1, rfl, -, hts, -⟩ := rn_cells hr1
    have p7 := hx1 7 _ rfl
    clear hx1 hr1
    obtain ⟨B, d, rfl, hd1, hd2, hdb⟩ := Rep.open_ (size := 4) (enc := encTk) (fun _ => rfl) (by decide) hts
    unfold maxLen at hd2
    have hl2 : r.tasks.length ≤ 9223372036854775807 := by omega
    have hk0 : decide ((k : Int) ≥ 0) = true := by simp
    have hk1 : decide ((k : Int) < 0) = false := by simp
    clear hr hx
  · clear hdb
    have HF : Hid (holds y id task tri = false) := by unfold holds; rw [ht]; rfl
    have HW : Hid (inb task 0 ((r.tasks.length : Int) - 1) = false) := inb_false hno
    clear ht hno
    go_enter Tryz.func106, Tryz.ntmps106
    go_wp2_with fail
    refine (ci (sRunAt_c y id _ _ _ own ⟨_, rfl, yd_mk (upA ah0 _) (upA ah1 _)⟩) HR.out).mono ?_
    rintro e1 w1 ⟨rfl, hb1⟩
    obtain ⟨hc1, hf1⟩ := bcell hb1
    have hBw : Below w.heap.size w w1 := bl_dn ((Below.refl _ _).alloc (by simp) _) hb1
    have p7' := cell_to hBw p7
    have q3 : w1.cell? ⟨w.heap.size, 3, none⟩ = some (.slice (some ⟨b1, o1, none⟩) y.runs.length c) := (hc1 _ _ (by simp)).trans (by simp [go_sem])
    go_wp2_with (go_at_call 72; refine (cb (sl01In_c _ _ _ _) HW.out).mono ?_; rintro e2 w2 ⟨rfl, hb2⟩; obtain ⟨hc2, hf2⟩ := bcell hb2)
    go_ret
    exact ⟨ret_bool (by rw [HF.out]), bl_dn hBw hb2⟩
  · obtain ⟨b2, o2, vk2, T2, rfl, -, hr2, -, -, hbl2, hx2⟩ := hdb j t htx
    clear hdb
    obtain ⟨rfl, rfl⟩ := tk_cells hr2
    have p0 : w.cell? ⟨b2, o2 + j * 4, none⟩ = some (.int .i64 t.state) := hx2 0 _ rfl
    have p1 := hx2 1 _ rfl
    have p2 := hx2 2 _ rfl
    have p3 := hx2 3 _ rfl
    have hjl : j < r.tasks.length := (List.getElem?_eq_some_iff.1 htx).1
    clear hx2 hr2 htx
    subst hj
    have HW : Hid (inb (j : Int) 0 ((r.tasks.length : Int) - 1) = true) := inb_true (by omega)
    by_cases hst : t.state = 3
    · have hs : (t.state == 3) = true := by simpa using hst
      by_cases htr : t.tri = tri
      all_goals
        first | (have hs2 : (t.tri == tri) = true := by simpa using htr) | (have hs2 : (t.tri == tri) = false := by simpa using htr)
        have HF := Lib.hid (show holds y id j tri = (t.tri == tri) by unfold holds; rw [ht]; simp [hs])
        clear ht hst htr
        go_enter Tryz.func106, Tryz.ntmps106
        go_wp2_with fail
        refine (ci (sRunAt_c y id _ _ _ own ⟨_, rfl, yd_mk (upA ah0 _) (upA ah1 _)⟩) HR.out).mono ?_
        rintro e1 w1 ⟨rfl, hb1⟩
        obtain ⟨hc1, hf1⟩ := bcell hb1
        have hBw : Below w.heap.size w w1 := bl_dn ((Below.refl _ _).alloc (by simp) _) hb1
        have p7' := cell_to hBw p7
        have q3 : w1.cell? ⟨w.heap.size, 3, none⟩ = some (.slice (some ⟨b1, o1, none⟩) y.runs.length c) := (hc1 _ _ (by simp)).trans (by simp [go_sem])
        go_wp2_with fail
        refine (cb (sl01In_c _ _ _ _) HW.out).mono ?_
        rintro e2 w2 ⟨rfl, hb2⟩
        obtain ⟨hc2, hf2⟩ := bcell hb2
        replace p7' := cell_to hb2 p7'
        replace q3 := cell_to hb2 q3
        have p0' := cell_to hb2 (cell_to hBw p0)
        have p1' := cell_to hb2 (cell_to hBw p1)
        have p2' := cell_to hb2 (cell_to hBw p2)
        have p3' := cell_to hb2 (cell_to hBw p3)
        go_wp2
        go_ret
        exact ⟨ret_bool (by rw [HF.out, hs2]), by repeat (first | (with_reducible exact bl_dn hBw hb2) | ((with_reducible refine Below.alloc ?_ ?_ _); rotate_left; focus (exact (bl_dn hBw hb2).size)))⟩
    · have hs : (t.state == 3) = false := by simpa using hst
      have HF := Lib.hid (show holds y id j tri = false by unfold holds; rw [ht]; simp [hs])
      clear ht hst
      go_enter Tryz.func106, Tryz.ntmps106
      go_wp2_with fail
      refine (ci (sRunAt_c y id _ _ _ own ⟨_, rfl, yd_mk (upA ah0 _) (upA ah1 _)⟩) HR.out).mono ?_
      rintro e1 w1 ⟨rfl, hb1⟩
      obtain ⟨hc1, hf1⟩ := bcell hb1
      have hBw : Below w.heap.size w w1 := bl_dn ((Below.refl _ _).alloc (by simp) _) hb1
      have p7' := cell_to hBw p7
      have q3 : w1.cell? ⟨w.heap.size, 3, none⟩ = some (.slice (some ⟨b1, o1, none⟩) y.runs.length c) := (hc1 _ _ (by simp)).trans (by simp [go_sem])
      go_wp2_with fail
      refine (cb (sl01In_c _ _ _ _) HW.out).mono ?_
      rintro e2 w2 ⟨rfl, hb2⟩
      obtain ⟨hc2, hf2⟩ := bcell hb2
      replace p7' := cell_to hb2 p7'
      replace q3 := cell_to hb2 q3
      have p0' := cell_to hb2 (cell_to hBw p0)
      have p1' := cell_to hb2 (cell_to hBw p1)
      have p2' := cell_to hb2 (cell_to hBw p2)
      have p3' := cell_to hb2 (cell_to hBw p3)
      go_wp2
      go_ret
      exact ⟨ret_bool (by rw [HF.out]), by repeat (first | (with_reducible exact bl_dn hBw hb2) | ((with_reducible refine Below.alloc ?_ ?_ _); rotate_left; focus (exact (bl_dn hBw hb2).size)))⟩

end Go.Proofs.YtnhdcbhcocgjhaaGreat
