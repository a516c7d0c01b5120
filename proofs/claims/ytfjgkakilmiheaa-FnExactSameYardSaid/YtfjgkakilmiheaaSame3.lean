/- spec.SameYard. -/
import Derived.Test.YtfjgkakilmiheaaSame2
namespace Go.Proofs.Ytfjgkakilmiheaa
open Go.RowKit Go.Sort Go.BigFrame

theorem rn_eq {r s : Rn} (h0 : r.id = s.id) (h1 : r.plan = s.plan) (h2 : r.state = s.state) (h3 : r.tasks = s.tasks) : r = s := by
  cases r; cases s; simp only at h0 h1 h2 h3; subst h0 h1 h2 h3; rfl
theorem yd_eq {x y : Yd} (h0 : x.now = y.now) (h1 : x.seq = y.seq) (h2 : x.shelf = y.shelf) (h3 : x.runs = y.runs) : x = y := by
  cases x; cases y; simp only at h0 h1 h2 h3; subst h0 h1 h2 h3; rfl

set_option maxRecDepth 20000 in
set_option maxHeartbeats 4000000 in
theorem sSameYard_c (x y : Yd) (a b : Value) (S S' : List Nat) (w : World) (own own' : Bool) (ha : AggRep w own (encYd x) a S) (hb : AggRep w own' (encYd y) b S') :
    Calls Try.prog 55 #[a, b] w fun e w' => e = .returned (.bool (decide (x = y))) ∧ Below w.heap.size w w' := by
  obtain ⟨_, rfl, ha⟩ := ha
  obtain ⟨_, rfl, hb⟩ := hb
  obtain ⟨av0, av1, _, _, rfl, ah0, ah1, rfl⟩ := yd_cells ha
  obtain ⟨bv0, bv1, _, _, rfl, bh0, bh1, rfl⟩ := yd_cells hb
  clear ha hb
  obtain ⟨A, c, rfl, hc1, hc2, hca⟩ := Rep.open_ (size := 1) (enc := fun es => [encEns es]) (fun _ => rfl) (by decide) ah0
  obtain ⟨B, d, rfl, hd1, hd2, hdb⟩ := Rep.open_ (size := 1) (enc := fun es => [encEns es]) (fun _ => rfl) (by decide) bh0
  obtain ⟨C, e, rfl, he1, he2, hec⟩ := Rep.open_ (size := 8) (enc := encRn) (fun _ => rfl) (by decide) ah1
  obtain ⟨E, g, rfl, hg1, hg2, hge⟩ := Rep.open_ (size := 8) (enc := encRn) (fun _ => rfl) (by decide) bh1
  unfold maxLen at hc2 hd2 he2 hg2
  have hl1 : x.shelf.length ≤ 9223372036854775807 := by omega
  have hl2 : y.shelf.length ≤ 9223372036854775807 := by omega
  have hl3 : x.runs.length ≤ 9223372036854775807 := by omega
  have hl4 : y.runs.length ≤ 9223372036854775807 := by omega
  clear ah0 bh0 ah1 bh1
  by_cases h0 : x.now = y.now
  rotate_left
  · have n0 : (x.now != y.now) = true := bne_iff_ne.2 (by omega)
    clear hca hdb hec hge
    go_enter Try.func55, Try.ntmps55
    go_wp2
    go_ret
    exact ⟨ret_bool (decide_eq_false (fun e => h0 (by rw [e]))).symm, upB (upB (Below.refl w.heap.size w) _) _⟩
  have n0 : (x.now != y.now) = false := by rw [h0]; simp
  have H0 := Lib.hid h0
  clear h0
  by_cases h1 : x.seq = y.seq
  rotate_left
  · have n1 : (x.seq != y.seq) = true := bne_iff_ne.2 (by omega)
    clear hca hdb hec hge
    go_enter Try.func55, Try.ntmps55
    go_wp2
    go_ret
    exact ⟨ret_bool (decide_eq_false (fun e => h1 (by rw [e]))).symm, upB (upB (Below.refl w.heap.size w) _) _⟩
  have n1 : (x.seq != y.seq) = false := by rw [h1]; simp
  have H1 := Lib.hid h1
  clear h1
  by_cases h2 : x.shelf.length = y.shelf.length
  rotate_left
  · have n2 : ((x.shelf.length : Int) != (y.shelf.length : Int)) = true := bne_iff_ne.2 (by omega)
    clear hca hdb hec hge
    go_enter Try.func55, Try.ntmps55
    go_wp2
    go_ret
    exact ⟨ret_bool (decide_eq_false (fun e => h2 (by rw [e]))).symm, upB (upB (Below.refl w.heap.size w) _) _⟩
  have n2 : ((x.shelf.length : Int) != (y.shelf.length : Int)) = false := by rw [h2]; simp
  have H2 := Lib.hid h2
  clear h2
  by_cases h3 : x.runs.length = y.runs.length
  rotate_left
  · have n3 : ((x.runs.length : Int) != (y.runs.length : Int)) = true := bne_iff_ne.2 (by omega)
    clear hca hdb hec hge
    go_enter Try.func55, Try.ntmps55
    go_wp2
    go_ret
    exact ⟨ret_bool (decide_eq_false (fun e => h3 (by rw [e]))).symm, upB (upB (Below.refl w.heap.size w) _) _⟩
  have n3 : ((x.runs.length : Int) != (y.runs.length : Int)) = false := by rw [h3]; simp
  have H3 := Lib.hid h3
  clear h3
  obtain ⟨w2, hw2⟩ : ∃ w2, w2 = ((w.alloc (.cells #[.int .i64 x.now, .int .i64 x.seq, .slice A x.shelf.length c, .slice C x.runs.length e] tYd)).alloc (.cells #[.int .i64 y.now, .int .i64 y.seq, .slice B y.shelf.length d, .slice E y.runs.length g] tYd)) := ⟨_, rfl⟩
  have hB2 : Below w.heap.size w w2 := by subst hw2; exact upB (upB (Below.refl w.heap.size w) _) _
  have hs2 : w2.heap.size = w.heap.size + 2 := by subst hw2; simp
  have r2 : w2.cell? ⟨w.heap.size, 2, none⟩ = some (.slice A x.shelf.length c) := by subst hw2; simp [go_sem]
  have s2 : w2.cell? ⟨w.heap.size + 1, 2, none⟩ = some (.slice B y.shelf.length d) := by subst hw2; simp [go_sem]
  have r3 : w2.cell? ⟨w.heap.size, 3, none⟩ = some (.slice C x.runs.length e) := by subst hw2; simp [go_sem]
  have s3 : w2.cell? ⟨w.heap.size + 1, 3, none⟩ = some (.slice E y.runs.length g) := by subst hw2; simp [go_sem]
  go_enter Try.func55, Try.ntmps55
  go_wp2
  rw [← hw2]
  clear hw2
  go_loopw [5, 6] (fun i _ wr => ∃ k : Nat, k ≤ x.shelf.length ∧ i = .int .i64 k ∧ x.shelf.take k = y.shelf.take k ∧ Below w2.heap.size w2 wr) (fun i _ _ => x.shelf.length - (intOf i).toNat)
  case atStart => exact ⟨0, by omega, rfl, rfl, Below.refl _ _⟩
  case round =>
    obtain ⟨k, hk, rfl, heq, hbel⟩ := hrel
    obtain ⟨wo, rfl⟩ : ∃ wo : World, wo = wr := ⟨_, rfl⟩
    have HQ := Lib.hid heq
    clear heq
    have hbw := bl_dn hB2 hbel
    have r2' := cto hbel r2
    have s2' := cto hbel s2
    by_cases hlt : k < x.shelf.length
    · have hlt' : k < y.shelf.length := by have := H2.out; omega
      clear hec hge
      obtain ⟨es, hx⟩ := get_some hlt
      obtain ⟨fs, hy⟩ := get_some hlt'
      obtain ⟨b1, o1, vk1, T1, rfl, -, hr1, -, -, hb1, hx1⟩ := hca k es hx
      obtain ⟨b2, o2, vk2, T2, rfl, -, hr2, -, -, hb2, hx2⟩ := hdb k fs hy
      clear hca hdb
      obtain ⟨u, _, U0, U1, rfl, rfl, hu, rfl, rfl⟩ := hr1
      obtain ⟨u2, _, U2, U3, rfl, rfl, hu2, rfl, rfl⟩ := hr2
      have p0 : w.cell? ⟨b1, o1 + k, none⟩ = some u := by simpa using hx1 0 _ rfl
      have q0 : w.cell? ⟨b2, o2 + k, none⟩ = some u2 := by simpa using hx2 0 _ rfl
      have HX := Lib.hid hx
      have HY := Lib.hid hy
      clear hx hy hx1 hx2
      obtain ⟨D, i1, rfl, hi1, hi2, hia⟩ := Rep.open_ (size := 4) (enc := encEn) (fun _ => rfl) (by decide) hu
      obtain ⟨F, j1, rfl, hj1, hj2, hja⟩ := Rep.open_ (size := 4) (enc := encEn) (fun _ => rfl) (by decide) hu2
      unfold maxLen at hi2 hj2
      have hl5 : es.length ≤ 9223372036854775807 := by omega
      have hl6 : fs.length ≤ 9223372036854775807 := by omega
      have r2q := cell_regrown r2'
      have s2q := cell_regrown s2'
      have p0q := cell_regrown (cto hbw p0)
      have q0q := cell_regrown (cto hbw q0)
      by_cases hen : es.length = fs.length
      rotate_left
      · have n5 : ((es.length : Int) != (fs.length : Int)) = true := bne_iff_ne.2 (by omega)
        clear hia hja
        go_wp2
        refine wp_region_quiet_below (by kernel_rfl) (by kernel_rfl) ?_
        repeat (go_big_quiet_step (fail))
        refine wpQuiet_nil ?_
        intro _ hw'
        obtain ⟨⟨dq, osq⟩, hw''⟩ := hw'
        subst hw''
        go_wp2
        go_ret
        exact ⟨ret_bool (decide_eq_false (fun h => (eqS_ne HX.out HY.out (fun h' => hen (by rw [h']))) (by rw [h]))).symm, bl_dn hbw (below_regrown wo dq osq)⟩
      · have n5 : ((es.length : Int) != (fs.length : Int)) = false := by rw [hen]; simp
        have HEN := Lib.hid hen
        clear hen
        go_wp2
        refine wp_region_quiet_below (by kernel_rfl) (by kernel_rfl) ?_
        repeat (go_big_quiet_step (fail))
        refine wpQuiet_nil ?_
        intro _ hw'
        obtain ⟨⟨dq, osq⟩, hw''⟩ := hw'
        subst hw''
        go_wp2
        obtain ⟨w3, hw3⟩ : ∃ w3, w3 = grow (redrawn wo dq) osq := ⟨_, rfl⟩
        have hB3 : Below wo.heap.size wo w3 := by subst hw3; exact below_regrown wo dq osq
        rw [← hw3]
        clear hw3
        go_loopw [6] (fun i wr => ∃ j : Nat, j ≤ es.length ∧ i = .int .i64 j ∧ es.take j = fs.take j ∧ Below w3.heap.size w3 wr) (fun i _ => es.length - (intOf i).toNat)
        case atStart => exact ⟨0, by omega, rfl, rfl, Below.refl _ _⟩
        case round =>
          obtain ⟨j, hj, rfl, hje, hbe⟩ := hrel
          have HJ := Lib.hid hje
          clear hje
          have hbo := bl_dn hB3 hbe
          have hbw3 := bl_dn hbw hbo
          have r2j := cto hbo r2'
          have s2j := cto hbo s2'
          have p0j := cto hbw3 p0
          have q0j := cto hbw3 q0
          by_cases hjl : j < es.length
          · have hjl' : j < fs.length := by have := HEN.out; omega
            obtain ⟨t, hx⟩ := get_some hjl
            obtain ⟨z, hy⟩ := get_some hjl'
            obtain ⟨b3, o3, vk3, T3, rfl, -, hr3, -, -, hb3, hx3⟩ := hia j t hx
            obtain ⟨b4, o4, vk4, T4, rfl, -, hr4, -, -, hb4, hx4⟩ := hja j z hy
            clear hia hja
            obtain ⟨rfl, rfl⟩ := en_cells hr3
            obtain ⟨rfl, rfl⟩ := en_cells hr4
            have HTX := Lib.hid hx
            have HTY := Lib.hid hy
            clear hx hy
            have r2t := cell_regrown r2j
            have s2t := cell_regrown s2j
            have p0t := cell_regrown p0j
            have q0t := cell_regrown q0j
            have p1 := cell_regrown (cto (b := b3) (o := o3 + j * 4) hbw3 (hx3 0 _ rfl))
            have q1 := cell_regrown (cto (b := b4) (o := o4 + j * 4) hbw3 (hx4 0 _ rfl))
            have p2 := cell_regrown (cto (b := b3) (o := o3 + j * 4 + 1) hbw3 (hx3 1 _ rfl))
            have q2 := cell_regrown (cto (b := b4) (o := o4 + j * 4 + 1) hbw3 (hx4 1 _ rfl))
            have p3 := cell_regrown (cto (b := b3) (o := o3 + j * 4 + 2) hbw3 (hx3 2 _ rfl))
            have q3 := cell_regrown (cto (b := b4) (o := o4 + j * 4 + 2) hbw3 (hx4 2 _ rfl))
            have p4 := cell_regrown (cto (b := b3) (o := o3 + j * 4 + 3) hbw3 (hx3 3 _ rfl))
            have q4 := cell_regrown (cto (b := b4) (o := o4 + j * 4 + 3) hbw3 (hx4 3 _ rfl))
            clear hx3 hx4 hr3 hr4
            by_cases hxy : t = z
            · have HXY := Lib.hid hxy
              have hd : decide (t = z) = true := decide_eq_true hxy
              clear hxy
              go_wp2
              refine wp_region_quiet_below (by kernel_rfl) (by kernel_rfl) ?_
              repeat (go_big_quiet_step (fail))
              refine wpQuiet_nil ?_
              intro _ hw'
              obtain ⟨⟨dq, osq⟩, hw''⟩ := hw'
              subst hw''
              go_wp2
              go_roundw
              case rel => exact ⟨j + 1, by omega, by go_num, eqS_step HTX.out (HXY.out ▸ HTY.out) HJ.out, bl_dn hbe (below_regrown wr dq osq)⟩
              case measure => simp [intOf]; omega
            · have HXY := Lib.hid hxy
              have hd : decide (t = z) = false := decide_eq_false hxy
              clear hxy
              go_wp2
              refine wp_region_quiet_below (by kernel_rfl) (by kernel_rfl) ?_
              repeat (go_big_quiet_step (fail))
              refine wpQuiet_nil ?_
              intro _ hw'
              obtain ⟨⟨dq, osq⟩, hw''⟩ := hw'
              subst hw''
              go_wp2
              go_ret
              exact ⟨ret_bool (decide_eq_false (fun h => (eqS_ne HX.out HY.out (eqS_ne HTX.out HTY.out HXY.out)) (by rw [h]))).symm, bl_dn hbw3 (below_regrown wr dq osq)⟩
          · clear hia hja
            have HEE := Lib.hid (eqS_done (k := j) (by omega) (by have := HEN.out; omega) HJ.out)
            clear HJ
            go_wp2
            go_roundw
            case rel => exact ⟨k + 1, by omega, by go_num, eqS_step HX.out (HEE.out ▸ HY.out) HQ.out, bl_dn hbel hbo⟩
            case measure => simp [intOf]; omega
    · have HSH := Lib.hid (eqS_done (k := k) (by omega) (by have := H2.out; omega) HQ.out)
      clear hca hdb HQ
      have r3' := cto hbel r3
      have s3' := cto hbel s3
      have hso : w2.heap.size ≤ wo.heap.size := hbel.size
      go_wp2
      go_loopw [7, 8, 9, 10] (fun i _ _ _ wr => ∃ k : Nat, k ≤ x.runs.length ∧ i = .int .i64 k ∧ x.runs.take k = y.runs.take k ∧ Below wo.heap.size wo wr) (fun i _ _ _ _ => x.runs.length - (intOf i).toNat)
      case atStart => exact ⟨0, by omega, rfl, rfl, Below.refl _ _⟩
      case round =>
        obtain ⟨n, hn, rfl, heq, hbe⟩ := hrel
        obtain ⟨wp, rfl⟩ : ∃ wp : World, wp = wr := ⟨_, rfl⟩
        have HQ := Lib.hid heq
        clear heq
        have hbp := bl_dn hbw hbe
        have r3p := cto hbe r3'
        have s3p := cto hbe s3'
        have hsp : wo.heap.size ≤ wp.heap.size := hbe.size
        have hsq0 : w.heap.size < wp.heap.size := by omega
        have hsq1 : w.heap.size + 1 < wp.heap.size := by omega
        by_cases hlt : n < x.runs.length
        · have hlt' : n < y.runs.length := by have := H3.out; omega
          obtain ⟨r, hx⟩ := get_some hlt
          obtain ⟨s, hy⟩ := get_some hlt'
          obtain ⟨b1, o1, vk1, T1, rfl, -, hr1, -, -, hb1, hx1⟩ := hec n r hx
          obtain ⟨b2, o2, vk2, T2, rfl, -, hr2, -, -, hb2, hx2⟩ := hge n s hy
          clear hec hge
          obtain ⟨av0, av1, _, _, rfl, ah0, ah1, -⟩ := rn_cells hr1
          obtain ⟨bv0, bv1, _, _, rfl, bh0, bh1, -⟩ := rn_cells hr2
          have HX := Lib.hid hx
          have HY := Lib.hid hy
          clear hx hy
          have p0 := cto (b := b1) (o := o1 + n * 8) hbp (hx1 0 _ rfl)
          have q0 := cto (b := b2) (o := o2 + n * 8) hbp (hx2 0 _ rfl)
          have p1 := cto (b := b1) (o := o1 + n * 8 + 1) hbp (hx1 1 _ rfl)
          have q1 := cto (b := b2) (o := o2 + n * 8 + 1) hbp (hx2 1 _ rfl)
          have p2 := cto (b := b1) (o := o1 + n * 8 + 2) hbp (hx1 2 _ rfl)
          have q2 := cto (b := b2) (o := o2 + n * 8 + 2) hbp (hx2 2 _ rfl)
          have p3 := cto (b := b1) (o := o1 + n * 8 + 3) hbp (hx1 3 _ rfl)
          have q3 := cto (b := b2) (o := o2 + n * 8 + 3) hbp (hx2 3 _ rfl)
          have p4 := cto (b := b1) (o := o1 + n * 8 + 4) hbp (hx1 4 _ rfl)
          have q4 := cto (b := b2) (o := o2 + n * 8 + 4) hbp (hx2 4 _ rfl)
          have p5 := cto (b := b1) (o := o1 + n * 8 + 5) hbp (hx1 5 _ rfl)
          have q5 := cto (b := b2) (o := o2 + n * 8 + 5) hbp (hx2 5 _ rfl)
          have p6 := cto (b := b1) (o := o1 + n * 8 + 6) hbp (hx1 6 _ rfl)
          have q6 := cto (b := b2) (o := o2 + n * 8 + 6) hbp (hx2 6 _ rfl)
          have p7 := cto (b := b1) (o := o1 + n * 8 + 7) hbp (hx1 7 _ rfl)
          have q7 := cto (b := b2) (o := o2 + n * 8 + 7) hbp (hx2 7 _ rfl)
          have hbp1 : b1 < wp.heap.size := by omega
          have hbp2 : b2 < wp.heap.size := by omega
          clear hx1 hx2
          obtain ⟨D, i1, rfl, hi1, hi2, hia⟩ := Rep.open_ (size := 4) (enc := encTk) (fun _ => rfl) (by decide) ah1
          obtain ⟨F, j1, rfl, hj1, hj2, hja⟩ := Rep.open_ (size := 4) (enc := encTk) (fun _ => rfl) (by decide) bh1
          obtain ⟨D2, i2, rfl, hi3, hi4, -⟩ := Rep.open_ (size := 2) (enc := encEd) (fun _ => rfl) (by decide) ah0
          obtain ⟨F2, j2, rfl, hj3, hj4, -⟩ := Rep.open_ (size := 2) (enc := encEd) (fun _ => rfl) (by decide) bh0
          unfold maxLen at hi2 hj2
          have hl5 : r.tasks.length ≤ 9223372036854775807 := by omega
          have hl6 : s.tasks.length ≤ 9223372036854775807 := by omega
          have hcall := fun (W : World) (hW : Below wp.heap.size wp W) => sSame_c r.plan s.plan _ _ _ _ W own own' ⟨_, rfl, pl_mk (up (up ah0 hbp) hW)⟩ ⟨_, rfl, pl_mk (up (up bh0 hbp) hW)⟩
          obtain ⟨w4, hw4⟩ : ∃ w4, w4 = ((wp.alloc (.cells #[.int .i64 r.id, .int .i64 r.plan.prio, .int .i64 r.plan.most, .int .i64 r.plan.wait, .int .i64 r.plan.tasks, .slice D2 r.plan.edges.length i2, .int .i64 r.state, .slice D r.tasks.length i1] tRn)).alloc (.cells #[.int .i64 s.id, .int .i64 s.plan.prio, .int .i64 s.plan.most, .int .i64 s.plan.wait, .int .i64 s.plan.tasks, .slice F2 s.plan.edges.length j2, .int .i64 s.state, .slice F s.tasks.length j1] tRn)) := ⟨_, rfl⟩
          have hB4 : Below wp.heap.size wp w4 := by subst hw4; exact upB (upB (Below.refl wp.heap.size wp) _) _
          have t0 : w4.cell? ⟨wp.heap.size, 0, none⟩ = some (.int .i64 r.id) := by subst hw4; simp [go_sem]
          have v0 : w4.cell? ⟨wp.heap.size + 1, 0, none⟩ = some (.int .i64 s.id) := by subst hw4; simp [go_sem]
          have t1 : w4.cell? ⟨wp.heap.size, 1, none⟩ = some (.int .i64 r.plan.prio) := by subst hw4; simp [go_sem]
          have v1 : w4.cell? ⟨wp.heap.size + 1, 1, none⟩ = some (.int .i64 s.plan.prio) := by subst hw4; simp [go_sem]
          have t2 : w4.cell? ⟨wp.heap.size, 2, none⟩ = some (.int .i64 r.plan.most) := by subst hw4; simp [go_sem]
          have v2 : w4.cell? ⟨wp.heap.size + 1, 2, none⟩ = some (.int .i64 s.plan.most) := by subst hw4; simp [go_sem]
          have t3 : w4.cell? ⟨wp.heap.size, 3, none⟩ = some (.int .i64 r.plan.wait) := by subst hw4; simp [go_sem]
          have v3 : w4.cell? ⟨wp.heap.size + 1, 3, none⟩ = some (.int .i64 s.plan.wait) := by subst hw4; simp [go_sem]
          have t4 : w4.cell? ⟨wp.heap.size, 4, none⟩ = some (.int .i64 r.plan.tasks) := by subst hw4; simp [go_sem]
          have v4 : w4.cell? ⟨wp.heap.size + 1, 4, none⟩ = some (.int .i64 s.plan.tasks) := by subst hw4; simp [go_sem]
          have t5 : w4.cell? ⟨wp.heap.size, 5, none⟩ = some (.slice D2 r.plan.edges.length i2) := by subst hw4; simp [go_sem]
          have v5 : w4.cell? ⟨wp.heap.size + 1, 5, none⟩ = some (.slice F2 s.plan.edges.length j2) := by subst hw4; simp [go_sem]
          have t6 : w4.cell? ⟨wp.heap.size, 6, none⟩ = some (.int .i64 r.state) := by subst hw4; simp [go_sem]
          have v6 : w4.cell? ⟨wp.heap.size + 1, 6, none⟩ = some (.int .i64 s.state) := by subst hw4; simp [go_sem]
          have t7 : w4.cell? ⟨wp.heap.size, 7, none⟩ = some (.slice D r.tasks.length i1) := by subst hw4; simp [go_sem]
          have v7 : w4.cell? ⟨wp.heap.size + 1, 7, none⟩ = some (.slice F s.tasks.length j1) := by subst hw4; simp [go_sem]
          by_cases hid0 : r.id = s.id
          rotate_left
          · have hid0n : (r.id != s.id) = true := bne_iff_ne.2 (by omega)
            clear hia hja
            subst hw4
            go_wp2
            go_ret
            exact ⟨ret_bool (decide_eq_false (fun h => (eqS_ne HX.out HY.out (fun h' => hid0 (by rw [h']))) (by rw [h]))).symm, bl_dn hbp (upB (upB (Below.refl wp.heap.size wp) _) _)⟩
          have hid0n : (r.id != s.id) = false := by rw [hid0]; simp
          have HID0 := Lib.hid hid0
          clear hid0
          by_cases hst : r.state = s.state
          rotate_left
          · have hstn : (r.state != s.state) = true := bne_iff_ne.2 (by omega)
            clear hia hja
            subst hw4
            go_wp2
            go_ret
            exact ⟨ret_bool (decide_eq_false (fun h => (eqS_ne HX.out HY.out (fun h' => hst (by rw [h']))) (by rw [h]))).symm, bl_dn hbp (upB (upB (Below.refl wp.heap.size wp) _) _)⟩
          have hstn : (r.state != s.state) = false := by rw [hst]; simp
          have HST := Lib.hid hst
          clear hst
          by_cases hpl : r.plan = s.plan
          rotate_left
          · have HP := Lib.hid (decide_eq_false hpl)
            clear hia hja
            subst hw4
            go_wp2_with (go_at_call 95; refine (cb (hcall _ (upB (upB (Below.refl wp.heap.size wp) _) _)) HP.out).mono ?_; rintro e5 w5 ⟨rfl, hb5⟩; obtain ⟨hc5, hf5⟩ := bcell hb5)
            go_ret
            exact ⟨ret_bool (decide_eq_false (fun h => (eqS_ne HX.out HY.out (fun h' => hpl (by rw [h']))) (by rw [h]))).symm, bl_dn hbp (bl_dn (upB (upB (Below.refl wp.heap.size wp) _) _) hb5)⟩
          have HP := Lib.hid (decide_eq_true hpl)
          have HPL := Lib.hid hpl
          clear hpl
          by_cases htl : r.tasks.length = s.tasks.length
          rotate_left
          · have htln : ((r.tasks.length : Int) != (s.tasks.length : Int)) = true := bne_iff_ne.2 (by omega)
            clear hia hja
            subst hw4
            go_wp2_with (go_at_call 95; refine (cb (hcall _ (upB (upB (Below.refl wp.heap.size wp) _) _)) HP.out).mono ?_; rintro e5 w5 ⟨rfl, hb5⟩; obtain ⟨hc5, hf5⟩ := bcell hb5)
            go_ret
            exact ⟨ret_bool (decide_eq_false (fun h => (eqS_ne HX.out HY.out (fun h' => htl (by rw [h']))) (by rw [h]))).symm, bl_dn hbp (bl_dn (upB (upB (Below.refl wp.heap.size wp) _) _) hb5)⟩
          have htln : ((r.tasks.length : Int) != (s.tasks.length : Int)) = false := by rw [htl]; simp
          have HTL := Lib.hid htl
          clear htl
          go_wp2_with (go_at_call 95; refine (cb (hcall _ (upB (upB (Below.refl wp.heap.size wp) _) _)) HP.out).mono ?_; rintro e5 w5 ⟨rfl, hb5⟩; obtain ⟨hc5, hf5⟩ := bcell hb5)
          clear hc5 hf5
          rw [← hw4] at hb5
          clear hw4
          have hbw5 := bl_dn hB4 hb5
          have t7' := cto hb5 t7
          have v7' := cto hb5 v7
          go_loopw [10] (fun i wr => ∃ j : Nat, j ≤ r.tasks.length ∧ i = .int .i64 j ∧ r.tasks.take j = s.tasks.take j ∧ Below w5.heap.size w5 wr) (fun i _ => r.tasks.length - (intOf i).toNat)
          case atStart => exact ⟨0, by omega, rfl, rfl, Below.refl _ _⟩
          case round =>
            obtain ⟨j, hj, rfl, hje, hbf⟩ := hrel
            have HJ := Lib.hid hje
            clear hje
            have hbg := bl_dn hbw5 hbf
            have hbh := bl_dn hbp hbg
            have t7j := cto hbf t7'
            have v7j := cto hbf v7'
            by_cases hjl : j < r.tasks.length
            · have hjl' : j < s.tasks.length := by have := HTL.out; omega
              obtain ⟨t, hx⟩ := get_some hjl
              obtain ⟨z, hy⟩ := get_some hjl'
              obtain ⟨b3, o3, vk3, T3, rfl, -, hr3, -, -, hb3, hx3⟩ := hia j t hx
              obtain ⟨b4, o4, vk4, T4, rfl, -, hr4, -, -, hb4, hx4⟩ := hja j z hy
              clear hia hja
              obtain ⟨rfl, rfl⟩ := tk_cells hr3
              obtain ⟨rfl, rfl⟩ := tk_cells hr4
              have HTX := Lib.hid hx
              have HTY := Lib.hid hy
              clear hx hy
              have t7t := cell_regrown t7j
              have v7t := cell_regrown v7j
              have p10 := cell_regrown (cto (b := b3) (o := o3 + j * 4) hbh (hx3 0 _ rfl))
              have q10 := cell_regrown (cto (b := b4) (o := o4 + j * 4) hbh (hx4 0 _ rfl))
              have p11 := cell_regrown (cto (b := b3) (o := o3 + j * 4 + 1) hbh (hx3 1 _ rfl))
              have q11 := cell_regrown (cto (b := b4) (o := o4 + j * 4 + 1) hbh (hx4 1 _ rfl))
              have p12 := cell_regrown (cto (b := b3) (o := o3 + j * 4 + 2) hbh (hx3 2 _ rfl))
              have q12 := cell_regrown (cto (b := b4) (o := o4 + j * 4 + 2) hbh (hx4 2 _ rfl))
              have p13 := cell_regrown (cto (b := b3) (o := o3 + j * 4 + 3) hbh (hx3 3 _ rfl))
              have q13 := cell_regrown (cto (b := b4) (o := o4 + j * 4 + 3) hbh (hx4 3 _ rfl))
              clear hx3 hx4 hr3 hr4
              by_cases hxy : t = z
              · have HXY := Lib.hid hxy
                have hd : decide (t = z) = true := decide_eq_true hxy
                clear hxy
                go_wp2
                refine wp_region_quiet_below (by kernel_rfl) (by kernel_rfl) ?_
                repeat (go_big_quiet_step (fail))
                refine wpQuiet_nil ?_
                intro _ hw'
                obtain ⟨⟨dq, osq⟩, hw''⟩ := hw'
                subst hw''
                go_wp2
                go_roundw
                case rel => exact ⟨j + 1, by omega, by go_num, eqS_step HTX.out (HXY.out ▸ HTY.out) HJ.out, bl_dn hbf (below_regrown wr dq osq)⟩
                case measure => simp [intOf]; omega
              · have HXY := Lib.hid hxy
                have hd : decide (t = z) = false := decide_eq_false hxy
                clear hxy
                go_wp2
                refine wp_region_quiet_below (by kernel_rfl) (by kernel_rfl) ?_
                repeat (go_big_quiet_step (fail))
                refine wpQuiet_nil ?_
                intro _ hw'
                obtain ⟨⟨dq, osq⟩, hw''⟩ := hw'
                subst hw''
                go_wp2
                go_ret
                exact ⟨ret_bool (decide_eq_false (fun h => (eqS_ne HX.out HY.out (fun h' => (eqS_ne HTX.out HTY.out HXY.out) (by rw [h']))) (by rw [h]))).symm, bl_dn hbh (below_regrown wr dq osq)⟩
            · clear hia hja
              have HEE : Hid (r = s) := Lib.hid (by
                have h5 := eqS_done (k := j) (by omega) (by have := HTL.out; omega) HJ.out
                have h0 := HID0.out
                have h1 := HST.out
                have h2 := HPL.out
                exact rn_eq h0 h2 h1 h5)
              go_wp2
              go_roundw
              case rel => exact ⟨n + 1, by omega, by go_num, eqS_step HX.out (HEE.out ▸ HY.out) HQ.out, bl_dn hbe hbg⟩
              case measure => simp [intOf]; omega
        · clear hec hge
          go_wp2
          go_ret
          refine ⟨ret_bool (decide_eq_true ?_).symm, hbp⟩
          have h5 := eqS_done (k := n) (by omega) (by have := H3.out; omega) HQ.out
          have h0 := H0.out
          have h1 := H1.out
          have h2 := HSH.out
          exact yd_eq h0 h1 h2 h5
end Go.Proofs.Ytfjgkakilmiheaa
