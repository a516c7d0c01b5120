/- Yards alike, both packages. -/
import Derived.Test.YtfjgkakilmiheaaSame
namespace Go.Proofs.Ytfjgkakilmiheaa
open Go.RowKit Go.Sort Go.BigFrame

abbrev sameY (x y : Yd) : Bool := decide (x = y)

set_option maxHeartbeats 2000000 in
theorem iSameYard0_c (x y : Yd) (a b : Value) (S S' : List Nat) (w : World) (own own' : Bool) (ha : AggRep w own (encYd x) a S) (hb : AggRep w own' (encYd y) b S') :
    Calls Try.prog 96 #[a, b] w fun e w' => e = .returned (.bool (decide (x = y))) ∧ Below w.heap.size w w' := by
  obtain ⟨_, rfl, ha⟩ := ha
  obtain ⟨_, rfl, hb⟩ := hb
  obtain ⟨av0, av1, _, _, rfl, ah0, ah1, rfl⟩ := yd_cells ha
  obtain ⟨bv0, bv1, _, _, rfl, bh0, bh1, rfl⟩ := yd_cells hb
  clear ha hb
  obtain ⟨xnow, xseq, xshelf, xruns⟩ := x
  obtain ⟨ynow, yseq, yshelf, yruns⟩ := y
  go_enter Try.func96, Try.ntmps96
  go_wp2_with (first
    | (go_at_call 113; refine (iEqualShelf_c xshelf yshelf _ _ _ _ _ own own' (ah0.below (by repeat (first | exact Below.refl _ _ | assumption | refine Below.alloc ?_ (by simp; try omega) _ | refine bl_dn ?_ (by assumption))) (Nat.le_refl _)) (bh0.below (by repeat (first | exact Below.refl _ _ | assumption | refine Below.alloc ?_ (by simp; try omega) _ | refine bl_dn ?_ (by assumption))) (Nat.le_refl _))).mono ?_; rintro e w1 ⟨rfl, hb1⟩; obtain ⟨hc1, hf1⟩ := bcell hb1)
    | (go_at_call 115; refine (iEqualRuns_c xruns yruns _ _ _ _ _ own own' (ah1.below (by repeat (first | exact Below.refl _ _ | assumption | refine Below.alloc ?_ (by simp; try omega) _ | refine bl_dn ?_ (by assumption))) (Nat.le_refl _)) (bh1.below (by repeat (first | exact Below.refl _ _ | assumption | refine Below.alloc ?_ (by simp; try omega) _ | refine bl_dn ?_ (by assumption))) (Nat.le_refl _))).mono ?_; rintro e w2 ⟨rfl, hb2⟩; obtain ⟨hc2, hf2⟩ := bcell hb2))
  all_goals go_ret
  all_goals refine ⟨?_, (by repeat (first | exact Below.refl _ _ | assumption | refine Below.alloc ?_ (by simp; try omega) _ | refine bl_dn ?_ (by assumption)))⟩
  all_goals (simp_all <;> rfl)

theorem iSameYard_c (x y : Yd) (a b : Value) (S S' : List Nat) (w : World) (own own' : Bool) (ha : AggRep w own (encYd x) a S) (hb : AggRep w own' (encYd y) b S') :
    Calls Try.prog 56 #[a, b] w fun e w' => e = .returned (.bool (decide (x = y))) ∧ Below w.heap.size w w' := by
  obtain ⟨_, rfl, ha⟩ := ha
  obtain ⟨_, rfl, hb⟩ := hb
  obtain ⟨av0, av1, _, _, rfl, ah0, ah1, rfl⟩ := yd_cells ha
  obtain ⟨bv0, bv1, _, _, rfl, bh0, bh1, rfl⟩ := yd_cells hb
  clear ha hb
  go_enter Try.func56, Try.ntmps56
  go_wp2_with (go_at_call 96; refine (iSameYard0_c x y _ _ _ _ _ own own' ⟨_, rfl, yd_mk (upA (upA ah0 _) _) (upA (upA ah1 _) _)⟩ ⟨_, rfl, yd_mk (upA (upA bh0 _) _) (upA (upA bh1 _) _)⟩).mono ?_; rintro e w2 ⟨rfl, hb2⟩)
  go_ret
  exact ⟨rfl, bl_dn (((Below.refl _ _).alloc (by simp) _).alloc (by simp) _) hb2⟩

set_option maxHeartbeats 2000000 in
theorem sSame_c (x y : Pl) (a b : Value) (S S' : List Nat) (w : World) (own own' : Bool) (ha : AggRep w own (encPl x) a S) (hb : AggRep w own' (encPl y) b S') :
    Calls Try.prog 95 #[a, b] w fun e w' => e = .returned (.bool (decide (x = y))) ∧ Below w.heap.size w w' := by
  obtain ⟨_, rfl, ha⟩ := ha
  obtain ⟨_, rfl, hb⟩ := hb
  obtain ⟨av0, rfl, ah0⟩ := pl_cells ha
  obtain ⟨bv0, rfl, bh0⟩ := pl_cells hb
  clear ha hb
  obtain ⟨A, c, rfl, hc1, hc2, hca⟩ := Rep.open_ (size := 2) (enc := encEd) (fun _ => rfl) (by decide) ah0
  obtain ⟨B, d, rfl, hd1, hd2, hdb⟩ := Rep.open_ (size := 2) (enc := encEd) (fun _ => rfl) (by decide) bh0
  unfold maxLen at hc2 hd2
  have hl1 : x.edges.length ≤ 9223372036854775807 := by omega
  have hl2 : y.edges.length ≤ 9223372036854775807 := by omega
  clear ah0 bh0
  by_cases h0 : x.prio = y.prio
  rotate_left
  · have n0 : (x.prio != y.prio) = true := bne_iff_ne.2 h0
    clear hca hdb
    go_enter Try.func95, Try.ntmps95
    go_wp2
    go_ret
    exact ⟨ret_bool (decide_eq_false (fun e => h0 (by rw [e]))).symm, upB (upB (Below.refl w.heap.size w) _) _⟩
  have n0 : (x.prio != y.prio) = false := by rw [h0]; simp
  have H0 := Lib.hid h0
  clear h0
  by_cases h1 : x.most = y.most
  rotate_left
  · have n1 : (x.most != y.most) = true := bne_iff_ne.2 h1
    clear hca hdb
    go_enter Try.func95, Try.ntmps95
    go_wp2
    go_ret
    exact ⟨ret_bool (decide_eq_false (fun e => h1 (by rw [e]))).symm, upB (upB (Below.refl w.heap.size w) _) _⟩
  have n1 : (x.most != y.most) = false := by rw [h1]; simp
  have H1 := Lib.hid h1
  clear h1
  by_cases h2 : x.wait = y.wait
  rotate_left
  · have n2 : (x.wait != y.wait) = true := bne_iff_ne.2 h2
    clear hca hdb
    go_enter Try.func95, Try.ntmps95
    go_wp2
    go_ret
    exact ⟨ret_bool (decide_eq_false (fun e => h2 (by rw [e]))).symm, upB (upB (Below.refl w.heap.size w) _) _⟩
  have n2 : (x.wait != y.wait) = false := by rw [h2]; simp
  have H2 := Lib.hid h2
  clear h2
  by_cases h3 : x.tasks = y.tasks
  rotate_left
  · have n3 : (x.tasks != y.tasks) = true := bne_iff_ne.2 h3
    clear hca hdb
    go_enter Try.func95, Try.ntmps95
    go_wp2
    go_ret
    exact ⟨ret_bool (decide_eq_false (fun e => h3 (by rw [e]))).symm, upB (upB (Below.refl w.heap.size w) _) _⟩
  have n3 : (x.tasks != y.tasks) = false := by rw [h3]; simp
  have H3 := Lib.hid h3
  clear h3
  by_cases hlen : x.edges.length = y.edges.length
  · have HL := Lib.hid hlen
    have hne : ((x.edges.length : Int) != (y.edges.length : Int)) = false := by rw [hlen]; simp
    clear hlen
    obtain ⟨w2, hw2⟩ : ∃ w2, w2 = ((w.alloc (.cells #[.int .i64 x.prio, .int .i64 x.most, .int .i64 x.wait, .int .i64 x.tasks, .slice A x.edges.length c] tPl)).alloc (.cells #[.int .i64 y.prio, .int .i64 y.most, .int .i64 y.wait, .int .i64 y.tasks, .slice B y.edges.length d] tPl)) := ⟨_, rfl⟩
    have hB2 : Below w.heap.size w w2 := by subst hw2; exact upB (upB (Below.refl w.heap.size w) _) _
    have r4 : w2.cell? ⟨w.heap.size, 4, none⟩ = some (.slice A x.edges.length c) := by subst hw2; simp [go_sem]
    have s4 : w2.cell? ⟨w.heap.size + 1, 4, none⟩ = some (.slice B y.edges.length d) := by subst hw2; simp [go_sem]
    go_enter Try.func95, Try.ntmps95
    go_wp2
    rw [← hw2]
    clear hw2
    go_loopw [5] (fun i wr => ∃ k : Nat, k ≤ x.edges.length ∧ i = .int .i64 k ∧ x.edges.take k = y.edges.take k ∧ Below w2.heap.size w2 wr) (fun i _ => x.edges.length - (intOf i).toNat)
    case atStart => exact ⟨0, by omega, rfl, rfl, Below.refl _ _⟩
    case round =>
      obtain ⟨k, hk, rfl, heq, hbel⟩ := hrel
      have HQ := Lib.hid heq
      clear heq
      have hbw := bl_dn hB2 hbel
      have r4' := cto hbel r4
      have s4' := cto hbel s4
      by_cases hlt : k < x.edges.length
      · have hlt' : k < y.edges.length := by have := HL.out; omega
        obtain ⟨e, hx⟩ := get_some hlt
        obtain ⟨g, hy⟩ := get_some hlt'
        obtain ⟨b1, o1, vk1, T1, rfl, -, hr1, -, -, hb1, hx1⟩ := hca k e hx
        obtain ⟨b2, o2, vk2, T2, rfl, -, hr2, -, -, hb2, hx2⟩ := hdb k g hy
        clear hca hdb
        obtain ⟨rfl, rfl⟩ := ed_cells hr1
        obtain ⟨rfl, rfl⟩ := ed_cells hr2
        have HX := Lib.hid hx
        have HY := Lib.hid hy
        clear hx hy
        have r4'' := cell_regrown r4'
        have s4'' := cell_regrown s4'
        have p0 := cell_regrown (cto (b := b1) (o := o1 + k * 2) hbw (hx1 0 _ rfl))
        have q0 := cell_regrown (cto (b := b2) (o := o2 + k * 2) hbw (hx2 0 _ rfl))
        have p1 := cell_regrown (cto (b := b1) (o := o1 + k * 2 + 1) hbw (hx1 1 _ rfl))
        have q1 := cell_regrown (cto (b := b2) (o := o2 + k * 2 + 1) hbw (hx2 1 _ rfl))
        clear hx1 hx2 hr1 hr2
        by_cases hxy : e = g
        · have HXY := Lib.hid hxy
          have hd : decide (e = g) = true := decide_eq_true hxy
          clear hxy
          go_wp2
          refine wp_region_quiet_below (by kernel_rfl) (by kernel_rfl) ?_
          repeat (go_big_quiet_step (fail))
          refine wpQuiet_nil ?_
          intro _ hw'
          obtain ⟨⟨dq, osq⟩, hw''⟩ := hw'
          subst hw''
          go_wp2
          go_roundw
          case rel => exact ⟨k + 1, by omega, by go_num, eqS_step HX.out (HXY.out ▸ HY.out) HQ.out, bl_dn hbel (below_regrown wr dq osq)⟩
          case measure => simp [intOf]; omega
        · have HXY := Lib.hid hxy
          have hd : decide (e = g) = false := decide_eq_false hxy
          clear hxy
          go_wp2
          refine wp_region_quiet_below (by kernel_rfl) (by kernel_rfl) ?_
          repeat (go_big_quiet_step (fail))
          refine wpQuiet_nil ?_
          intro _ hw'
          obtain ⟨⟨dq, osq⟩, hw''⟩ := hw'
          subst hw''
          go_wp2
          go_ret
          exact ⟨ret_bool (decide_eq_false (fun h => (eqS_ne HX.out HY.out HXY.out) (by rw [h]))).symm, bl_dn hbw (below_regrown wr dq osq)⟩
      · clear hca hdb
        go_wp2
        go_ret
        refine ⟨ret_bool (decide_eq_true ?_).symm, hbw⟩
        have h5 := eqS_done (k := k) (by omega) (by have := HL.out; omega) HQ.out
        have h0 := H0.out
        have h1 := H1.out
        have h2 := H2.out
        have h3 := H3.out
        cases x
        cases y
        simp only at h0 h1 h2 h3 h5
        subst h0 h1 h2 h3 h5
        rfl
  · have hne : ((x.edges.length : Int) != (y.edges.length : Int)) = true := bne_iff_ne.2 (by omega)
    clear hca hdb
    go_enter Try.func95, Try.ntmps95
    go_wp2
    go_ret
    exact ⟨ret_bool (decide_eq_false (fun e => hlen (by rw [e]))).symm, upB (upB (Below.refl w.heap.size w) _) _⟩

end Go.Proofs.Ytfjgkakilmiheaa
