/- Texts for laws: RunAt. -/
import Derived.Test.YtmnpailnelmpiaaGreatQData
import Derived.Test.YtmnpailnelmpiaaGreatQTy
namespace Go.Proofs.YtmnpailnelmpiaaGreat
open Go.RowKit Go.Sort Go.BigFrame

set_option maxHeartbeats 1000000 in
theorem sRunAt_c (y : Yd) (id : Int) (a : Value) (S : List Nat) (w : World) (own : Bool) (ha : AggRep w own (encYd y) a S) :
    Calls Tryz.prog 152 #[a, .int .i64 id] w fun e w' => e = .returned (.int .i64 (runAt y id)) ∧ Below w.heap.size w w' := by
  obtain ⟨_, rfl, ha⟩ := ha
  obtain ⟨sv, rv, S1, S2, rfl, ah0, ah1, rfl⟩ := yd_cells ha
  clear ha ah0
  obtain ⟨A, c, rfl, hc1, hc2, hca⟩ := Rep.open_ (size := 8) (enc := encRn) (fun _ => rfl) (by decide) ah1
  unfold maxLen at hc2
  have hl1 : y.runs.length ≤ 9223372036854775807 := by omega
  by_cases h8 : 8 < y.runs.length
  · clear hca
    have hr : runAt y id = -1 := by simp [runAt, h8]
    rw [hr]
    clear hr
    go_enter Tryz.func152, Tryz.ntmps152
    go_wp2
    go_loop [5] (fun i => i = .int .i64 0) (fun _ => 0)
    case atStart => rfl
    case round =>
      subst hrel
      go_wp2
      all_goals go_ret
      all_goals exact ⟨rfl, (Below.refl _ _).alloc (by simp) _⟩
  · have hr : runAt y id = runIx y.runs id := by simp [runAt, h8]
    rw [hr]
    clear hr
    go_enter Tryz.func152, Tryz.ntmps152
    go_wp2
    go_loop [5] (fun i => ∃ k : Nat, k ≤ y.runs.length ∧ i = .int .i64 k ∧ ∀ j, j < k → ∀ z, y.runs[j]? = some z → z.id ≠ id) (fun i => y.runs.length - (intOf i).toNat)
    case atStart => exact ⟨0, by omega, rfl, by simp⟩
    case round =>
      obtain ⟨k, hk, rfl, hno⟩ := hrel
      have HN := Lib.hid hno
      clear hno
      by_cases hlt : k < y.runs.length
      · obtain ⟨x, hx⟩ := get_some hlt
        obtain ⟨b1, o1, vk1, T1, rfl, -, hr1, -, -, hb1, hx1⟩ := hca k x hx
        clear hca
        obtain ⟨v0, v1, U0, U1, rfl, -, -, -⟩ := rn_cells hr1
        have HX := Lib.hid hx
        clear hx
        have p0 : w.cell? ⟨b1, o1 + k * 8, none⟩ = some (.int .i64 x.id) := hx1 0 _ rfl
        clear hx1 hr1
        by_cases he : x.id = id
        · have hb : (x.id == id) = true := by simpa using he
          have HE := Lib.hid he
          clear he
          go_wp2
          go_ret
          exact ⟨ret_int (runIx_found HX.out HE.out HN.out).symm, (Below.refl _ _).alloc (by simp) _⟩
        · have hb : (x.id == id) = false := by simpa using he
          have HE := Lib.hid he
          clear he
          go_wp2
          go_round
          case rel =>
            refine ⟨k + 1, by omega, by go_num, fun j hj z hz => ?_⟩
            by_cases hjk : j = k
            · subst hjk
              have := HX.out
              rw [hz] at this
              cases this
              exact HE.out
            · exact HN.out j (by omega) z hz
          case measure => simp [intOf]; omega
      · obtain rfl : k = y.runs.length := by omega
        clear hca
        go_wp2
        go_ret
        exact ⟨ret_int (runIx_none HN.out).symm, (Below.refl _ _).alloc (by simp) _⟩

theorem iRunAt1_c (x : Rn) (id : Int) (a : Value) (S : List Nat) (g : Nat) (w : World) (own : Bool) (ha : AggRep w own (encRn x) a S) (hg : w.cell? ⟨g, 0, none⟩ = some (.int .i64 id)) :
    Calls Tryz.prog 135 #[a, .pointer (some ⟨g, 0, none⟩)] w fun e w' => e = .returned (.bool (x.id == id)) ∧ Below w.heap.size w w' := by
  obtain ⟨_, rfl, ha⟩ := ha
  obtain ⟨v0, v1, U0, U1, rfl, -, -, -⟩ := rn_cells ha
  clear ha
  have hlt := World.block_lt_of_cell? w _ hg
  go_enter Tryz.func135, Tryz.ntmps135
  go_wp2
  go_ret
  exact ⟨rfl, (Below.refl _ _).alloc (by simp) _⟩

set_option maxHeartbeats 1000000 in
theorem iIndexRun_c (rs : List Rn) (id : Int) (a : Value) (S : List Nat) (g : Nat) (w : World) (own : Bool) (ha : Rep w own (encRns rs) a S) (hg : w.cell? ⟨g, 0, none⟩ = some (.int .i64 id)) :
    Calls Tryz.prog 134 #[a, .func (.func 135) #[] #[.pointer (some ⟨g, 0, none⟩)]] w fun e w' => e = .returned (.int .i64 (runIx rs id)) ∧ Below w.heap.size w w' := by
  obtain ⟨A, c, rfl, hc1, hc2, hca⟩ := Rep.open_ (size := 8) (enc := encRn) (fun _ => rfl) (by decide) ha
  unfold maxLen at hc2
  have hl1 : rs.length ≤ 9223372036854775807 := by omega
  have hglt := World.block_lt_of_cell? w _ hg
  clear ha
  go_enter Tryz.func134, Tryz.ntmps134
  go_wp2
  go_loopw [5, 8] (fun _ i wr => ∃ k : Nat, k ≤ rs.length ∧ i = .int .i64 k ∧ (∀ j, j < k → ∀ z, rs[j]? = some z → z.id ≠ id) ∧ Below w.heap.size w wr) (fun _ i _ => rs.length - (intOf i).toNat)
  case atStart => exact ⟨0, by omega, rfl, by simp, Below.refl _ _⟩
  case round =>
    obtain ⟨k, hk, rfl, hno, hbel⟩ := hrel
    have HN := Lib.hid hno
    clear hno
    have hgr : wr.cell? ⟨g, 0, none⟩ = some (.int .i64 id) := (hbel.cell (p := ⟨g, 0, none⟩) hglt).trans hg
    by_cases hlt : k < rs.length
    · obtain ⟨x, hx⟩ := get_some hlt
      obtain ⟨b1, o1, vk1, T1, rfl, -, hr1, -, -, hb1, hx1⟩ := hca k x hx
      clear hca
      obtain ⟨v0, v1, U0, U1, rfl, -, -, -⟩ := rn_cells hr1
      have HX := Lib.hid hx
      clear hx
      have p0 := (hbel.cell (p := ⟨b1, o1 + k * 8, none⟩) hb1).trans (hx1 0 _ rfl : w.cell? ⟨b1, o1 + k * 8, none⟩ = _)
      have p1 := (hbel.cell (p := ⟨b1, o1 + k * 8 + 1, none⟩) hb1).trans (hx1 1 _ rfl)
      have p2 := (hbel.cell (p := ⟨b1, o1 + k * 8 + 2, none⟩) hb1).trans (hx1 2 _ rfl)
      have p3 := (hbel.cell (p := ⟨b1, o1 + k * 8 + 3, none⟩) hb1).trans (hx1 3 _ rfl)
      have p4 := (hbel.cell (p := ⟨b1, o1 + k * 8 + 4, none⟩) hb1).trans (hx1 4 _ rfl)
      have p5 := (hbel.cell (p := ⟨b1, o1 + k * 8 + 5, none⟩) hb1).trans (hx1 5 _ rfl)
      have p6 := (hbel.cell (p := ⟨b1, o1 + k * 8 + 6, none⟩) hb1).trans (hx1 6 _ rfl)
      have p7 := (hbel.cell (p := ⟨b1, o1 + k * 8 + 7, none⟩) hb1).trans (hx1 7 _ rfl)
      clear hx1
      by_cases he : x.id = id
      · have hb : (x.id == id) = true := by simpa using he
        have HE := Lib.hid he
        clear he
        go_wp2_with (go_at_call 135; refine (iRunAt1_c x id _ _ _ _ own ⟨_, rfl, hr1.below hbel (Nat.le_refl _)⟩ hgr).mono ?_; rintro e w2 ⟨rfl, hb2⟩)
        go_ret
        exact ⟨ret_int (runIx_found HX.out HE.out HN.out).symm, bl_dn hbel hb2⟩
      · have hb : (x.id == id) = false := by simpa using he
        have HE := Lib.hid he
        clear he
        go_wp2_with (go_at_call 135; refine (iRunAt1_c x id _ _ _ _ own ⟨_, rfl, hr1.below hbel (Nat.le_refl _)⟩ hgr).mono ?_; rintro e w2 ⟨rfl, hb2⟩)
        go_roundw
        case rel =>
          refine ⟨k + 1, by omega, by go_num, fun j hj z hz => ?_, bl_dn hbel hb2⟩
          by_cases hjk : j = k
          · subst hjk
            have := HX.out
            rw [hz] at this
            cases this
            exact HE.out
          · exact HN.out j (by omega) z hz
        case measure => simp [intOf]; omega
    · obtain rfl : k = rs.length := by omega
      clear hca
      go_wp2
      go_ret
      exact ⟨ret_int (runIx_none HN.out).symm, hbel⟩

set_option maxHeartbeats 1000000 in
theorem iRunAt_c (y : Yd) (id : Int) (a : Value) (S : List Nat) (w : World) (own : Bool) (ha : AggRep w own (encYd y) a S) :
    Calls Tryz.prog 56 #[a, .int .i64 id] w fun e w' => e = .returned (.int .i64 (runAt y id)) ∧ Below w.heap.size w w' := by
  obtain ⟨_, rfl, ha⟩ := ha
  obtain ⟨sv, rv, S1, S2, rfl, ah0, ah1, rfl⟩ := yd_cells ha
  clear ha ah0
  obtain ⟨A, c, rfl, hc1, hc2, hca⟩ := Rep.open_ (size := 8) (enc := encRn) (fun _ => rfl) (by decide) ah1
  unfold maxLen at hc2
  have hl1 : y.runs.length ≤ 9223372036854775807 := by omega
  clear hca
  by_cases h8 : 8 < y.runs.length
  · have hr : runAt y id = -1 := by simp [runAt, h8]
    rw [hr]
    clear hr
    go_enter Tryz.func56, Tryz.ntmps56
    go_wp2
    go_ret
    exact ⟨rfl, ((Below.refl _ _).alloc (by simp) _).alloc (by simp) _⟩
  · have hr : runAt y id = runIx y.runs id := by simp [runAt, h8]
    rw [hr]
    clear hr
    go_enter Tryz.func56, Tryz.ntmps56
    go_wp2_with (go_at_call 134; refine (iIndexRun_c y.runs id _ _ _ _ own (ah1.below (((Below.refl _ _).alloc (by simp) _).alloc (by simp) _) (Nat.le_refl _)) (by simp [go_sem])).mono ?_; rintro e w2 ⟨rfl, hb2⟩)
    go_ret
    exact ⟨rfl, bl_dn (((Below.refl _ _).alloc (by simp) _).alloc (by simp) _) hb2⟩
end Go.Proofs.YtmnpailnelmpiaaGreat
