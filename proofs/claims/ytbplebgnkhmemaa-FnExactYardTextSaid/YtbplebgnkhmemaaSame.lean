/- Equality in the program's own words: slices.Equal, EqualFunc, the same.. functions; of both packages. -/
import Derived.Test.YtbplebgnkhmemaaLaw
import Derived.Laws.StructEq
namespace Go.Proofs.Ytbplebgnkhmemaa
open Go.RowKit Go.Sort Go.BigFrame

/-- A cell of an old block stays. -/
theorem cto {w w1 : World} {b o : Nat} {v : Value} (hB : Below w.heap.size w w1) (h : w.cell? ⟨b, o, none⟩ = some v) : w1.cell? ⟨b, o, none⟩ = some v :=
  (hB.cell (p := ⟨b, o, none⟩) (World.block_lt_of_cell? w _ h)).trans h

@[go_sem high] theorem equalEd (w : World) (x y : Ed) : (Op.equalIn 10000 132 (.agg #[.int .i64 x.src, .int .i64 x.dst]) (.agg #[.int .i64 y.src, .int .i64 y.dst])).run Try.prog w = .ok (decide (x = y)) w := by
  have u3 := Try.underlying3
  have a3 := Try.isAgg3
  have z3 := Try.sizeOf3
  rw [show (10000 : Nat) = 9999 + 1 from rfl, run_equalIn_agg w 9999 132 _ _ (by kernel_rfl) (by kernel_rfl)]
  simp only [Program.fieldsOf, Try.underlying132]
  obtain ⟨xsrc, xdst⟩ := x
  obtain ⟨ysrc, ydst⟩ := y
  go_simp
  by_cases h0 : xsrc = ysrc <;> by_cases h1 : xdst = ydst <;> simp [h0, h1]

@[go_sem high] theorem equalEn (w : World) (x y : En) : (Op.equalIn 10000 75 (.agg #[.int .i64 x.prio, .int .i64 x.seq, .int .i64 x.run, .int .i64 x.task]) (.agg #[.int .i64 y.prio, .int .i64 y.seq, .int .i64 y.run, .int .i64 y.task])).run Try.prog w = .ok (decide (x = y)) w := by
  have u3 := Try.underlying3
  have a3 := Try.isAgg3
  have z3 := Try.sizeOf3
  rw [show (10000 : Nat) = 9999 + 1 from rfl, run_equalIn_agg w 9999 75 _ _ (by kernel_rfl) (by kernel_rfl)]
  simp only [Program.fieldsOf, Try.underlying75]
  obtain ⟨xprio, xseq, xrun, xtask⟩ := x
  obtain ⟨yprio, yseq, yrun, ytask⟩ := y
  go_simp
  by_cases h0 : xprio = yprio <;> by_cases h1 : xseq = yseq <;> by_cases h2 : xrun = yrun <;> by_cases h3 : xtask = ytask <;> simp [h0, h1, h2, h3]

@[go_sem high] theorem equalTk (w : World) (x y : Tk) : (Op.equalIn 10000 98 (.agg #[.int .i64 x.state, .int .i64 x.need, .int .i64 x.tri, .int .i64 x.til]) (.agg #[.int .i64 y.state, .int .i64 y.need, .int .i64 y.tri, .int .i64 y.til])).run Try.prog w = .ok (decide (x = y)) w := by
  have u3 := Try.underlying3
  have a3 := Try.isAgg3
  have z3 := Try.sizeOf3
  rw [show (10000 : Nat) = 9999 + 1 from rfl, run_equalIn_agg w 9999 98 _ _ (by kernel_rfl) (by kernel_rfl)]
  simp only [Program.fieldsOf, Try.underlying98]
  obtain ⟨xstate, xneed, xtri, xtil⟩ := x
  obtain ⟨ystate, yneed, ytri, ytil⟩ := y
  go_simp
  by_cases h0 : xstate = ystate <;> by_cases h1 : xneed = yneed <;> by_cases h2 : xtri = ytri <;> by_cases h3 : xtil = ytil <;> simp [h0, h1, h2, h3]

set_option maxHeartbeats 1000000 in
theorem iEqualEd_c (l m : List Ed) (a b : Value) (S S' : List Nat) (w : World) (own own' : Bool) (ha : Rep w own (encEds l) a S) (hb : Rep w own' (encEds m) b S') :
    Calls Try.prog 160 #[a, b] w fun e w' => e = .returned (.bool (decide (l = m))) ∧ Below w.heap.size w w' := by
  obtain ⟨A, c, rfl, hc1, hc2, hca⟩ := Rep.open_ (size := 2) (enc := encEd) (fun _ => rfl) (by decide) ha
  obtain ⟨B, d, rfl, hd1, hd2, hdb⟩ := Rep.open_ (size := 2) (enc := encEd) (fun _ => rfl) (by decide) hb
  unfold maxLen at hc2 hd2
  have hl1 : l.length ≤ 9223372036854775807 := by omega
  have hl2 : m.length ≤ 9223372036854775807 := by omega
  clear ha hb
  by_cases hlen : l.length = m.length
  · have HL := Lib.hid hlen
    have hne : ((l.length : Int) != (m.length : Int)) = false := by rw [hlen]; simp
    clear hlen
    go_enter Try.func160, Try.ntmps160
    go_wp2
    go_loopw [5, 13] (fun _ i wr => ∃ k : Nat, k ≤ l.length ∧ i = .int .i64 k ∧ l.take k = m.take k ∧ Below w.heap.size w wr) (fun _ i _ => l.length - (intOf i).toNat)
    case atStart => exact ⟨0, by omega, rfl, rfl, Below.refl _ _⟩
    case round =>
      obtain ⟨k, hk, rfl, heq, hbel⟩ := hrel
      have HQ := Lib.hid heq
      clear heq
      by_cases hlt : k < l.length
      · have hlt' : k < m.length := by have := HL.out; omega
        obtain ⟨x, hx⟩ := get_some hlt
        obtain ⟨y, hy⟩ := get_some hlt'
        obtain ⟨b1, o1, vk1, T1, rfl, -, hr1, -, -, hb1, hx1⟩ := hca k x hx
        obtain ⟨b2, o2, vk2, T2, rfl, -, hr2, -, -, hb2, hx2⟩ := hdb k y hy
        clear hca hdb
        obtain ⟨rfl, rfl⟩ := ed_cells hr1
        obtain ⟨rfl, rfl⟩ := ed_cells hr2
        have HX := Lib.hid hx
        have HY := Lib.hid hy
        clear hx hy
        have p0 := cell_regrown (cto (b := b1) (o := o1 + k * 2) hbel (hx1 0 _ rfl))
        have q0 := cell_regrown (cto (b := b2) (o := o2 + k * 2) hbel (hx2 0 _ rfl))
        have p1 := cell_regrown (cto (b := b1) (o := o1 + k * 2 + 1) hbel (hx1 1 _ rfl))
        have q1 := cell_regrown (cto (b := b2) (o := o2 + k * 2 + 1) hbel (hx2 1 _ rfl))
        clear hx1 hx2 hr1 hr2
        by_cases hxy : x = y
        · have HXY := Lib.hid hxy
          have hd : decide (x = y) = true := decide_eq_true hxy
          clear hxy
          go_wp2
          refine wp_region_quiet_below (by kernel_rfl) (by kernel_rfl) ?_
          repeat (go_big_quiet_step (fail))
          refine wpQuiet_nil ?_
          intro _ hw'
          obtain ⟨⟨dq, osq⟩, hw''⟩ := hw'
          subst hw''
          have hbel2 := hbel.trans ((below_regrown wr dq osq).mono hbel.size)
          go_wp2
          go_roundw
          case rel => exact ⟨k + 1, by omega, by go_num, eqS_step HX.out (HXY.out ▸ HY.out) HQ.out, hbel2⟩
          case measure => simp [intOf]; omega
        · have HXY := Lib.hid hxy
          have hd : decide (x = y) = false := decide_eq_false hxy
          clear hxy
          go_wp2
          refine wp_region_quiet_below (by kernel_rfl) (by kernel_rfl) ?_
          repeat (go_big_quiet_step (fail))
          refine wpQuiet_nil ?_
          intro _ hw'
          obtain ⟨⟨dq, osq⟩, hw''⟩ := hw'
          subst hw''
          have hbel2 := hbel.trans ((below_regrown wr dq osq).mono hbel.size)
          go_wp2
          go_ret
          exact ⟨ret_bool (decide_eq_false (eqS_ne HX.out HY.out HXY.out)).symm, hbel2⟩
      · clear hca hdb
        go_wp2
        go_ret
        exact ⟨ret_bool (decide_eq_true (eqS_done (k := k) (by omega) (by have := HL.out; omega) HQ.out)).symm, hbel⟩
  · have hne : ((l.length : Int) != (m.length : Int)) = true := bne_iff_ne.2 (by omega)
    clear hca hdb
    go_enter Try.func160, Try.ntmps160
    go_wp2
    go_ret
    exact ⟨ret_bool (decide_eq_false (fun e => hlen (by rw [e]))).symm, Below.refl _ _⟩



set_option maxHeartbeats 1000000 in
theorem iSamePlan_c (x y : Pl) (a b : Value) (S S' : List Nat) (w : World) (own own' : Bool) (ha : AggRep w own (encPl x) a S) (hb : AggRep w own' (encPl y) b S') :
    Calls Try.prog 156 #[a, b] w fun e w' => e = .returned (.bool (decide (x = y))) ∧ Below w.heap.size w w' := by
  obtain ⟨_, rfl, ha⟩ := ha
  obtain ⟨_, rfl, hb⟩ := hb
  obtain ⟨av0, rfl, ah0⟩ := pl_cells ha
  obtain ⟨bv0, rfl, bh0⟩ := pl_cells hb
  clear ha hb
  obtain ⟨xprio, xmost, xwait, xtasks, xedges⟩ := x
  obtain ⟨yprio, ymost, ywait, ytasks, yedges⟩ := y
  go_enter Try.func156, Try.ntmps156
  go_wp2_with (first
    | (go_at_call 160; refine (iEqualEd_c xedges yedges _ _ _ _ _ _ _ (ah0.below (by repeat (first | exact Below.refl _ _ | assumption | refine Below.alloc ?_ (by simp; try omega) _ | refine bl_dn ?_ (by assumption))) (Nat.le_refl _)) (bh0.below (by repeat (first | exact Below.refl _ _ | assumption | refine Below.alloc ?_ (by simp; try omega) _ | refine bl_dn ?_ (by assumption))) (Nat.le_refl _))).mono ?_; rintro e w1 ⟨rfl, hb1⟩; obtain ⟨hc1, hf1⟩ := bcell hb1))
  all_goals go_ret
  all_goals refine ⟨?_, (by repeat (first | exact Below.refl _ _ | assumption | refine Below.alloc ?_ (by simp; try omega) _ | refine bl_dn ?_ (by assumption)))⟩
  all_goals (simp_all <;> rfl)


set_option maxHeartbeats 2000000 in
theorem iSameDeed_c (x y : Dd) (a b : Value) (S S' : List Nat) (w : World) (own own' : Bool) (ha : AggRep w own (encDd x) a S) (hb : AggRep w own' (encDd y) b S') :
    Calls Try.prog 140 #[a, b] w fun e w' => e = .returned (.bool (decide (x = y))) ∧ Below w.heap.size w w' := by
  obtain ⟨_, rfl, ha⟩ := ha
  obtain ⟨_, rfl, hb⟩ := hb
  obtain ⟨av0, rfl, ah0⟩ := dd_cells ha
  obtain ⟨bv0, rfl, bh0⟩ := dd_cells hb
  clear ha hb
  obtain ⟨xkind, xrun, xplan, xtask, xtri, xworker, xdraw⟩ := x
  obtain ⟨ykind, yrun, yplan, ytask, ytri, yworker, ydraw⟩ := y
  go_enter Try.func140, Try.ntmps140
  go_wp2_with (first
    | (go_at_call 156; refine (iSamePlan_c xplan yplan _ _ _ _ _ own own' ⟨_, rfl, pl_mk (ah0.below (by repeat (first | exact Below.refl _ _ | assumption | refine Below.alloc ?_ (by simp; try omega) _ | refine bl_dn ?_ (by assumption))) (Nat.le_refl _))⟩ ⟨_, rfl, pl_mk (bh0.below (by repeat (first | exact Below.refl _ _ | assumption | refine Below.alloc ?_ (by simp; try omega) _ | refine bl_dn ?_ (by assumption))) (Nat.le_refl _))⟩).mono ?_; rintro e w1 ⟨rfl, hb1⟩; obtain ⟨hc1, hf1⟩ := bcell hb1))
  all_goals go_ret
  all_goals refine ⟨?_, (by repeat (first | exact Below.refl _ _ | assumption | refine Below.alloc ?_ (by simp; try omega) _ | refine bl_dn ?_ (by assumption)))⟩
  all_goals (simp_all <;> rfl)



end Go.Proofs.Ytbplebgnkhmemaa
