/- Texts for the law FnExactRestart. -/
import Derived.Test.YtnhdcbhcocgjhaaGreatQRestartF
import Derived.Test.YtnhdcbhcocgjhaaGreatProg
import Derived.ProofKit
import Derived.Below
import Derived.ChangeSame
import Derived.OpenShut
set_option linter.unusedSimpArgs false
set_option linter.unusedVariables false
set_option maxRecDepth 100000
namespace Go.Proofs.YtnhdcbhcocgjhaaGreat
open Go.RowKit Go.Sort
set_option maxHeartbeats 8000000 in
theorem ep_fails {k t : Nat} {y : Yd} {r : Rn} (hr : y.runs[k]? = some r) (hrun : runsB r t = true) : EpK Tryz.prog 64 k t y (runFails r t) := by
  intro o b10 e2 e3 h10
  refine inl_fn (β := 7000000) Tryz.func64 code_impl_fails (by simp) ?_
  unfold c_impl_fails
  obtain ⟨t', x, ht', hx, hs, hP⟩ := runs_yes hrun
  obtain rfl : t = t' := by omega
  obtain ⟨n, hn, hn1, h12, h30, hes, hnd, -⟩ := pf_0 hP.plan
  have hlen := hP.len
  have hkl := (List.getElem?_eq_some_iff.1 hr).1
  have htl' := (List.getElem?_eq_some_iff.1 hx).1
  have h0t : (t : Int) ≥ 0 := by omega
  have hx2 : (r.tasks.set t ⟨x.state, x.need, x.tri, 0⟩)[t]? = some ⟨x.state, x.need, x.tri, 0⟩ := List.getElem?_set_self htl'
  have hS : ∀ r' : Rn, (y.runs.set k r')[k]? = some r' := fun r' => List.getElem?_set_self hkl
  have q1 := hS ⟨r.id, r.plan, r.state, r.tasks.set t ⟨x.state, x.need, x.tri, 0⟩⟩
  simp -implicitDefEqProofs only [go_sem, h10, Nat.add_zero, htl', h0t, at_rn7 hr, in_rn7 hr, get_rns7 hr, in_tk3 hx, at_tk3 hx, put_rn7 hr (put_tk3 hx 0), at_rn7 q1, in_rn7 q1, get_rns7 q1, at_tk2 hx2, in_tk2 hx2, at_rnM q1, in_rnM q1]
  by_cases hm : x.tri < r.plan.most
  · have hR : runFails r t = ⟨r.id, r.plan, r.state, r.tasks.set t ⟨2, x.need, x.tri, 0⟩⟩ := by rw [runFails_yes hx hrun, failsR, if_pos hm]
    simp -implicitDefEqProofs only [go_sem, Nat.add_zero, hm, hR, at_rn7 q1, in_rn7 q1, get_rns7 q1, at_tk0 hx2, in_tk0 hx2, at_tk0' hx2, in_tk0' hx2, put_rn7 q1 (put_tk0 hx2 2), put_rn7 q1 (put_tk0' hx2 2), List.set_set]
    exact ⟨rfl, rfl, rfl, rfl, rfl, rfl⟩
  have hR : runFails r t = ⟨r.id, r.plan, 3, mapK leaveG (r.tasks.set t ⟨5, x.need, x.tri, 0⟩) r.tasks.length⟩ := by rw [runFails_yes hx hrun, failsR, if_neg hm]
  rw [hR, ← fails_leave hP hx hs]
  simp -implicitDefEqProofs only [go_sem, Nat.add_zero, hm, at_rn7 q1, in_rn7 q1, get_rns7 q1, at_tk0 hx2, in_tk0 hx2, at_tk0' hx2, in_tk0' hx2, put_rn7 q1 (put_tk0 hx2 5), put_rn7 q1 (put_tk0' hx2 5), List.set_set]
  have htl : (r.tasks.set t ⟨5, x.need, x.tri, 0⟩).length = r.tasks.length := by rw [List.length_set]
  generalize r.tasks.set t ⟨5, x.need, x.tri, 0⟩ = ts0 at *
  refine run_inl (inl_fn (β := 8000000) Tryz.func130 code_impl_leave (by simp) ?_)
  unfold c_impl_leave
  have q2 := hS ⟨r.id, r.plan, r.state, ts0⟩
  simp -implicitDefEqProofs only [go_sem, Nat.add_zero, at_rn7 q2, in_rn7 q2, get_rns7 q2]
  refine wp_loopW (fun i : Nat => St.of [(0, .c (.ep 90 3 [] (k * 8) (e3 []))), (1, Ni t), (10, Ni ts0.length), (11, Ni i)] [(90, YdBox b10 tYd y.now y.seq y.shelf e2 (y.runs.set k ⟨r.id, r.plan, r.state, mapK (leaveF t) ts0 i⟩) e3), (91, o 91), (92, o 92), (93, o 93), (94, o 94), (95, o 95), (96, o 96), (97, o 97)]) (fun i => i ≤ ts0.length) (fun i => ts0.length - i) 0 (by (try dsimp only); first | omega | (simp; done) | (and_intros <;> first | omega | simp)) (wk_of [some 90, some 91, some 92, some 93, some 94, some 95, some 96, some 97] (by simp -implicitDefEqProofs only [go_sem, encRn, encPl, mapK_0, simO_self] <;> and_intros <;> first | rfl | assumption)) ?_
  rintro j hj
  have hml := mapK_len (f := leaveF t) (ts := ts0) (k := j)
  by_cases hlt : j < ts0.length
  · have hlt' : (j : Int) < ts0.length := by omega
    have h0j : (j : Int) ≥ 0 := by omega
    obtain ⟨z, hz⟩ := get_some hlt
    have hyk := mapK_get (f := leaveF t) hz
    have hset := mapK_set (f := leaveF t) hz
    have hsame := mapK_same (f := leaveF t) hz
    generalize mapK (leaveF t) ts0 j = M at *
    have hw : IntKind.i64.wrap ((j : Int) + 1) = ((j + 1 : Nat) : Int) := wrap64 (by omega) (by omega)
    have hlm : j < M.length := by omega
    have p1 := hS ⟨r.id, r.plan, r.state, M⟩
    cases hne : (j : Int) != (t : Int)
    · have hg : leaveF t j z = z := by have : (j : Int) = t := by simpa using hne
                                       simp [leaveF, this]
      have hq := hsame hg
      simp -implicitDefEqProofs only [go_sem, encRn, encPl, Nat.add_zero, hml, hlt', h0j, hlt, at_rn7 p1, in_rn7 p1, get_rns7 p1, hne, hw]
      exact ⟨j + 1, by (try dsimp only); first | omega | assumption | (and_intros <;> first | omega | assumption), (wk_of [some 90, some 91, some 92, some 93, some 94, some 95, some 96, some 97] (by simp -implicitDefEqProofs only [go_sem, encRn, encPl, hq, simO_self] <;> and_intros <;> first | rfl | assumption)), by (try dsimp only); omega⟩
    have hne' : ¬ (j : Int) = t := by simpa using hne
    cases hc4 : z.state != 4
    · have hg : leaveF t j z = z := by have : z.state = 4 := by simpa using hc4
                                       simp [leaveF, this]
      have hq := hsame hg
      simp -implicitDefEqProofs only [go_sem, encRn, encPl, Nat.add_zero, hml, hlt', h0j, hlt, at_rn7 p1, in_rn7 p1, get_rns7 p1, hne, at_tk0 hyk, at_tk0' hyk, in_tk0 hyk, in_tk0' hyk, hc4, hw]
      exact ⟨j + 1, by (try dsimp only); first | omega | assumption | (and_intros <;> first | omega | assumption), (wk_of [some 90, some 91, some 92, some 93, some 94, some 95, some 96, some 97] (by simp -implicitDefEqProofs only [go_sem, encRn, encPl, hq, simO_self] <;> and_intros <;> first | rfl | assumption)), by (try dsimp only); omega⟩
    · have hg : leaveF t j z = ⟨6, z.need, z.tri, 0⟩ := by
        have h1 : ¬ z.state = 4 := by simpa using hc4
        simp [leaveF, h1, hne']
      rw [hg] at hset
      have hyk2 : (M.set j ⟨6, z.need, z.tri, z.til⟩)[j]? = some ⟨6, z.need, z.tri, z.til⟩ := List.getElem?_set_self hlm
      have p2 := hS ⟨r.id, r.plan, r.state, M.set j ⟨6, z.need, z.tri, z.til⟩⟩
      simp -implicitDefEqProofs only [go_sem, encRn, encPl, Nat.add_zero, hml, hlt', h0j, hlt, at_rn7 p1, in_rn7 p1, get_rns7 p1, hne, at_tk0 hyk, at_tk0' hyk, in_tk0 hyk, in_tk0' hyk, hc4, put_rn7 p1 (put_tk0 hyk 6), put_rn7 p1 (put_tk0' hyk 6), at_rn7 p2, in_rn7 p2, get_rns7 p2, put_rn7 p2 (put_tk3 hyk2 0), in_tk3 hyk2, at_tk3 hyk2, List.set_set, hset, hw]
      exact ⟨j + 1, by (try dsimp only); first | omega | assumption | (and_intros <;> first | omega | assumption), (wk_of [some 90, some 91, some 92, some 93, some 94, some 95, some 96, some 97] (by simp -implicitDefEqProofs only [go_sem, encRn, encPl, simO_self] <;> and_intros <;> first | rfl | assumption)), by (try dsimp only); omega⟩
  have hlt' : ¬ (j : Int) < ts0.length := by omega
  obtain rfl : j = ts0.length := by omega
  rw [← htl]
  generalize mapK (leaveF t) ts0 ts0.length = M at *
  have p3 := hS ⟨r.id, r.plan, r.state, M⟩
  simp -implicitDefEqProofs only [go_sem, encRn, encPl, Nat.add_zero, hml, hlt', at_rn6 p3, in_rn6 p3, put_rn6 p3, List.set_set]
  exact ⟨rfl, rfl, rfl, rfl, rfl, rfl⟩
end Go.Proofs.YtnhdcbhcocgjhaaGreat
set_option linter.unusedSimpArgs false
set_option linter.unusedVariables false
set_option maxRecDepth 100000
namespace Go.Proofs.YtnhdcbhcocgjhaaGreat
open Go.RowKit Go.Sort
theorem needL_congr {p : Pl} {ts ts' : List Tk} (h : ∀ b : Int, (stT ts' b != 4) = (stT ts b != 4)) (t : Int) : needL p ts' t = needL p ts t := by
  simp only [needL, h]
theorem stT_set {ts : List Tk} {t : Nat} {x y : Tk} (hx : ts[t]? = some x) (h : (y.state != 4) = (x.state != 4)) (b : Int) : (stT (ts.set t y) b != 4) = (stT ts b != 4) := by
  have ht := (List.getElem?_eq_some_iff.1 hx).1
  simp only [stT, List.getElem?_set]
  by_cases e : t = b.toNat
  · rw [if_pos e, ← e, if_pos ht, hx]; exact h
  · rw [if_neg e]
theorem cS_one {s : Int} {ts : List Tk} {t : Nat} (ht : t < ts.length) (h1 : ∀ (j : Nat) (x : Tk), ts[j]? = some x → (x.state = s ↔ j = t)) : cS s ts = 1 := by
  have e : (List.range ts.length).filter (fun (j : Nat) => stT ts (j : Int) == s) = (List.range ts.length).filter (fun j => j == t) := by
    refine List.filter_congr fun j hj => ?_
    rw [List.mem_range] at hj
    have hx : ts[j]? = some ts[j] := List.getElem?_eq_getElem hj
    rw [stT_nat hx, Bool.eq_iff_iff, beq_iff_eq, beq_iff_eq]
    exact h1 j _ hx
  have : (List.range ts.length).count t = 1 := by rw [List.count_range, if_pos ht]
  simp only [cS, tinL, tinF, e, List.length_map]
  rw [← this, List.count_eq_length_filter]
theorem leaveG_4 (j : Nat) (x : Tk) : ((leaveG j x).state != 4) = (x.state != 4) := by
  unfold leaveG
  split
  · rename_i h
    have : (x.state != 4) = true := by simpa using h.1
    rw [this]; rfl
  · rfl
theorem mapK_all {f : Nat → Tk → Tk} {ts : List Tk} {j : Nat} {z : Tk} (h : (mapK f ts ts.length)[j]? = some z) : ∃ x, ts[j]? = some x ∧ z = f j x := by
  simp only [mapK, List.getElem?_mapIdx, Option.map_eq_some_iff] at h
  obtain ⟨x, hx, rfl⟩ := h
  exact ⟨x, hx, by rw [if_pos (List.getElem?_eq_some_iff.1 hx).1]⟩
theorem taskB_iff {p : Pl} {ts : List Tk} {t : Nat} {x : Tk} : taskB p ts t x = true ↔ (1 ≤ x.state ∧ x.state ≤ 6) ∧ x.need = needL p ts t ∧ (0 ≤ x.tri ∧ x.tri ≤ p.most) ∧ tilB x = true ∧ lastB p x = true := by
  simp only [taskB, inB, Bool.and_eq_true, decide_eq_true_eq, beq_iff_eq, and_assoc]
theorem failsR_ok {r : Rn} {t : Nat} {x : Tk} (h : RunOkP r) (hx : r.tasks[t]? = some x) (hs : x.state = 3) : RunOkP (failsR r t x) := by
  obtain ⟨e1, e2, e3, e4⟩ := h.runs hx hs
  have ht := (List.getElem?_eq_some_iff.1 hx).1
  have hx1 := taskB_iff.1 (h.tasks t x hx)
  have hl := hx1.2.2.2.2
  have hl3 : x.need = 0 ∧ 1 ≤ x.tri := by
    simpa [lastB, hs] using hl
  unfold failsR
  split
  · rename_i hm
    have hN : ∀ j : Int, needL r.plan (r.tasks.set t ⟨2, x.need, x.tri, 0⟩) j = needL r.plan r.tasks j := needL_congr (stT_set hx (by simp [hs]))
    have c5 : cS 5 (r.tasks.set t ⟨2, x.need, x.tri, 0⟩) = 0 := cS_of (set_st (q := fun s => s ≠ 5) (by simp) fun y hy => by obtain ⟨k, hk, rfl⟩ := List.getElem_of_mem hy; exact cS_0 e2 (List.getElem?_eq_getElem hk))
    have c6 : cS 6 (r.tasks.set t ⟨2, x.need, x.tri, 0⟩) = 0 := cS_of (set_st (q := fun s => s ≠ 6) (by simp) fun y hy => by obtain ⟨k, hk, rfl⟩ := List.getElem_of_mem hy; exact cS_0 e3 (List.getElem?_eq_getElem hk))
    have hst : ∀ z ∈ r.tasks.set t ⟨2, x.need, x.tri, 0⟩, 1 ≤ z.state ∧ z.state ≤ 6 := set_st (q := fun s => 1 ≤ s ∧ s ≤ 6) (by simp) h.st
    have c2 := cS_pos (s := 2) (List.getElem?_set_self ht : (r.tasks.set t ⟨2, x.need, x.tri, 0⟩)[t]? = some _) rfl
    have hsum := tin_sum hst _ (Nat.le_refl _)
    change cS 1 _ + cS 2 _ + cS 3 _ + cS 4 _ + cS 5 _ + cS 6 _ = _ at hsum
    refine ⟨h.id, h.plan, by rw [List.length_set]; exact h.len, fun j z hz => ?_, ?_, h.live⟩
    · dsimp only at hz ⊢
      rw [List.getElem?_set] at hz
      by_cases e : t = j
      · subst e
        rw [if_pos rfl, if_pos ht] at hz
        obtain rfl := Option.some.inj hz
        rw [taskB_iff, hN]
        exact ⟨by simp, hx1.2.1, hx1.2.2.1, rfl, by simp [lastB, hl3.1, hm]⟩
      · rw [if_neg e] at hz
        have := taskB_iff.1 (h.tasks j z hz)
        rw [taskB_iff, hN]; exact this
    · dsimp only
      rw [e1, stOf, if_neg (by omega), c5, c6, if_neg (by omega), if_neg (by omega), if_pos ⟨rfl, rfl⟩]
  · rename_i hm
    generalize hT : r.tasks.set t ⟨5, x.need, x.tri, 0⟩ = T
    have hTl : T.length = r.tasks.length := by rw [← hT, List.length_set]
    have hTt : T[t]? = some ⟨5, x.need, x.tri, 0⟩ := by rw [← hT]; exact List.getElem?_set_self ht
    have hTj : ∀ j, t ≠ j → T[j]? = r.tasks[j]? := fun j hj => by rw [← hT, List.getElem?_set_ne hj]
    rw [← hTl]
    have hM : ∀ (j : Nat) (z : Tk), (mapK leaveG T T.length)[j]? = some z → (j = t ∧ z = ⟨5, x.need, x.tri, 0⟩) ∨ j ≠ t ∧ ∃ y, r.tasks[j]? = some y ∧ ((y.state = 4 ∧ z = y) ∨ (y.state ≠ 4 ∧ z = ⟨6, y.need, y.tri, 0⟩)) := by
      intro j z hz
      obtain ⟨y, hy, rfl⟩ := mapK_all hz
      by_cases e : t = j
      · subst e
        rw [hTt] at hy
        obtain rfl := Option.some.inj hy
        exact .inl ⟨rfl, by simp [leaveG]⟩
      · rw [hTj j e] at hy
        have h5 : y.state ≠ 5 := cS_0 e2 hy
        refine .inr ⟨fun e' => e e'.symm, y, hy, ?_⟩
        by_cases e4 : y.state = 4
        · exact .inl ⟨e4, by simp [leaveG, e4]⟩
        · exact .inr ⟨e4, by simp [leaveG, e4, h5]⟩
    have hst4 : ∀ b : Int, (stT (mapK leaveG T T.length) b != 4) = (stT r.tasks b != 4) := by
      intro b
      rw [← stT_set hx (y := ⟨5, x.need, x.tri, 0⟩) (by simp [hs]), hT]
      simp only [stT, mapK, List.getElem?_mapIdx]
      cases hb : T[b.toNat]? with
      | none => rfl
      | some z => simp only [Option.map_some, Option.getD_some, if_pos (List.getElem?_eq_some_iff.1 hb).1, leaveG_4]
    have hN := fun j => needL_congr (p := r.plan) hst4 j
    have hlen : (mapK leaveG T T.length).length = T.length := mapK_len
    have hst : ∀ z ∈ mapK leaveG T T.length, 4 ≤ z.state ∧ z.state ≤ 6 := fun z hz => by
      obtain ⟨k, hk, rfl⟩ := List.getElem_of_mem hz
      rcases hM k _ (List.getElem?_eq_getElem hk) with ⟨_, h1⟩ | ⟨_, y, _, ⟨h1, h2⟩ | ⟨_, h2⟩⟩
      · rw [h1]; simp
      · rw [h2]; omega
      · rw [h2]; simp
    have c1 : cS 1 (mapK leaveG T T.length) = 0 := cS_of fun z hz => by have := hst z hz; omega
    have c2 : cS 2 (mapK leaveG T T.length) = 0 := cS_of fun z hz => by have := hst z hz; omega
    have c3 : cS 3 (mapK leaveG T T.length) = 0 := cS_of fun z hz => by have := hst z hz; omega
    have c5 : cS 5 (mapK leaveG T T.length) = 1 := by
      refine cS_one (t := t) (by rw [hlen, hTl]; exact ht) fun j z hz => ?_
      rcases hM j z hz with ⟨h1, h2⟩ | ⟨h1, y, _, ⟨h2, h3⟩ | ⟨_, h3⟩⟩
      · rw [h2]; simp [h1]
      · rw [h3]; simp [h1, h2]
      · rw [h3]; simp [h1]
    have hsum := tin_sum (fun z hz => by have := hst z hz; omega) _ (Nat.le_refl (mapK leaveG T T.length).length)
    change cS 1 _ + cS 2 _ + cS 3 _ + cS 4 _ + cS 5 _ + cS 6 _ = _ at hsum
    refine ⟨h.id, h.plan, by dsimp only; rw [hlen, hTl]; exact h.len, fun j z hz => ?_, ?_, by simp⟩
    · dsimp only at hz ⊢
      rw [taskB_iff, hN]
      rcases hM j z hz with ⟨rfl, rfl⟩ | ⟨h1, y, hy, ⟨h2, rfl⟩ | ⟨h2, rfl⟩⟩
      · exact ⟨by simp, hx1.2.1, hx1.2.2.1, rfl, by simp [lastB, hl3.1, hl3.2]⟩
      · exact taskB_iff.1 (h.tasks j _ hy)
      · have h3 := taskB_iff.1 (h.tasks j _ hy)
        exact ⟨by simp, h3.2.1, h3.2.2.1, rfl, by simp [lastB]⟩
    · dsimp only
      rw [stOf, if_neg (by omega), if_pos ⟨c5, by omega⟩]
theorem runFails_ok {r : Rn} (t : Int) (h : RunOkP r) : RunOkP (runFails r t) := by
  cases hr : runsB r t with
  | false => rw [runFails_no hr]; exact h
  | true =>
    obtain ⟨k, x, rfl, hx, hs, _⟩ := runs_yes hr
    rw [runFails_yes hx hr]
    exact failsR_ok h hx hs
theorem runs_of {r : Rn} {t : Nat} {x : Tk} (h : RunOkP r) (hx : r.tasks[t]? = some x) (hs : x.state = 3) : runsB r t = true := by
  have ht := (List.getElem?_eq_some_iff.1 hx).1
  simp only [runsB, inB, Bool.and_eq_true, decide_eq_true_eq, beq_iff_eq, stT_nat hx, runOk_iff]
  exact ⟨⟨by omega, hs⟩, h⟩
/-- What runs behind it ran before it. -/
theorem runFails_3 {r : Rn} {t : Int} {j : Nat} {z : Tk} (hz : (runFails r t).tasks[j]? = some z) (hs : z.state = 3) : r.tasks[j]? = some z := by
  cases hr : runsB r t with
  | false => rwa [runFails_no hr] at hz
  | true =>
    obtain ⟨k, x, rfl, hx, hs', _⟩ := runs_yes hr
    rw [runFails_yes hx hr, failsR] at hz
    have hk := (List.getElem?_eq_some_iff.1 hx).1
    split at hz
    · dsimp only at hz
      rw [List.getElem?_set] at hz
      by_cases e : k = j
      · subst e
        rw [if_pos rfl, if_pos hk] at hz
        obtain rfl := Option.some.inj hz; cases hs
      · rw [if_neg e] at hz; exact hz
    · dsimp only at hz
      have e : r.tasks.length = (r.tasks.set k ⟨5, x.need, x.tri, 0⟩).length := by rw [List.length_set]
      rw [e] at hz
      obtain ⟨y, hy, rfl⟩ := mapK_all hz
      unfold leaveG at hs
      split at hs
      · cases hs
      · rename_i h
        exact absurd ⟨by omega, by omega⟩ h
theorem runFails_id (r : Rn) (t : Int) : (runFails r t).id = r.id ∧ (runFails r t).plan = r.plan := by
  unfold runFails
  split
  · unfold failsR; split <;> exact ⟨rfl, rfl⟩
  · exact ⟨rfl, rfl⟩
/-- A yard whose runs are those of another one, farther on: what runs is as it was. -/
structure LaterP (y z : Yd) : Prop where
  len : z.runs.length = y.runs.length
  runs : ∀ (k : Nat) (r : Rn), y.runs[k]? = some r → ∃ r', z.runs[k]? = some r' ∧ r'.id = r.id ∧ r'.plan = r.plan ∧ RunOkP r' ∧ r'.tasks.length = r.tasks.length ∧ ∀ (t : Nat) (x : Tk), r'.tasks[t]? = some x → x.state = 3 → r.tasks[t]? = some x
theorem LaterP.refl {y : Yd} (h : YardOkP y) : LaterP y y := ⟨rfl, fun k r hr => ⟨r, hr, rfl, rfl, h.right r (List.mem_of_getElem? hr), rfl, fun _ _ h _ => h⟩⟩
theorem runIx_id : ∀ {l m : List Rn} (id : Int), l.map (·.id) = m.map (·.id) → runIx l id = runIx m id := by
  intro l m id h
  have e : ∀ l : List Rn, l.findIdx? (fun r => r.id == id) = (l.map (·.id)).findIdx? (· == id) := fun l => by rw [List.findIdx?_map]; rfl
  simp only [runIx, e, h]
theorem LaterP.ids {y z : Yd} (h : LaterP y z) : z.runs.map (·.id) = y.runs.map (·.id) := by
  apply List.ext_getElem?
  intro k
  simp only [List.getElem?_map]
  cases hr : y.runs[k]? with
  | none =>
    have : z.runs[k]? = none := by rw [List.getElem?_eq_none_iff] at hr ⊢; rw [h.len]; exact hr
    rw [this]
  | some r =>
    obtain ⟨r', h1, h2, _⟩ := h.runs k r hr
    rw [h1]; simp [h2]
theorem LaterP.runAt {y z : Yd} (h : LaterP y z) (id : Int) : runAt z id = runAt y id := by
  unfold Go.Proofs.YtnhdcbhcocgjhaaGreat.runAt
  rw [h.len, runIx_id id h.ids]
/-- Task t of run k fails, if it runs. -/
noncomputable def failK (y : Yd) (k t : Nat) : Yd := if stT ((y.runs[k]?).getD default).tasks t == 3 then turnY y k (runFails ((y.runs[k]?).getD default) t) else y
theorem turn_runs (y : Yd) (k : Nat) (r : Rn) : (turnY y k r).runs = y.runs.set k r := rfl
theorem LaterP.fail {y z : Yd} (h : LaterP y z) (k t : Nat) : LaterP y (failK z k t) := by
  unfold failK
  split
  · cases hk : y.runs[k]? with
    | none =>
      have hk2 : z.runs[k]? = none := by rw [List.getElem?_eq_none_iff] at hk ⊢; rw [h.len]; exact hk
      rename_i hs
      rw [hk2] at hs
      simp [stT] at hs
      cases hs
    | some r =>
      obtain ⟨r', h1, h2, h3, h4, h5, h6⟩ := h.runs k r hk
      have hk' := (List.getElem?_eq_some_iff.1 h1).1
      rw [h1, Option.getD_some]
      refine ⟨by rw [turn_runs, List.length_set]; exact h.len, fun j q hq => ?_⟩
      rw [turn_runs, List.getElem?_set]
      by_cases e : k = j
      · subst e
        rw [hk] at hq
        obtain rfl := Option.some.inj hq
        rw [if_pos rfl, if_pos hk']
        have hi := runFails_id r' t
        refine ⟨_, rfl, by rw [hi.1]; exact h2, by rw [hi.2]; exact h3, runFails_ok _ h4, by rw [runFails_len]; exact h5, fun i x hx hs => h6 i x (runFails_3 hx hs) hs⟩
      · rw [if_neg e]; exact h.runs j q hq
  · exact h
/-- i turns on, at most. -/
structure StepI (y z : Yd) (i : Nat) : Prop where
  later : LaterP y z
  four : z.shelf.length = 4
  seq : 1 ≤ z.seq ∧ z.seq ≤ 1000000000 + 12 * i
  tot : totYd z ≤ totYd y + 12 * i
  now : z.now = y.now
theorem StepI.refl {y : Yd} (h : YardOkP y) : StepI y y 0 := ⟨.refl h, h.four, by have := h.seq; omega, Nat.le_refl _, rfl⟩
theorem StepI.mono {y z : Yd} {i j : Nat} (h : StepI y z i) (hij : i ≤ j) : StepI y z j := ⟨h.later, h.four, by have := h.seq; omega, by have := h.tot; omega, h.now⟩
theorem tot_turn {y : Yd} {k : Nat} {r r2 : Rn} (hr : y.runs[k]? = some r) (ht : totRn r2 = totRn r) (hl : r2.tasks.length ≤ 12) : totYd (turnY y k r2) ≤ totYd y + 12 := by
  have h1 := tot_lay (y := ⟨y.now, y.seq, y.shelf, y.runs.set k r2⟩) (r := r2) (ids := newL ((y.runs[k]?).getD default).tasks r2.tasks r2.tasks.length)
  have h2 := newL_len ((y.runs[k]?).getD default).tasks r2.tasks r2.tasks.length
  have h3 := tsum_set_eq (f := totRn) r2 hr
  have h4 : totYd ⟨y.now, y.seq, y.shelf, y.runs.set k r2⟩ = totYd y := by
    simp only [totYd, totRns, List.length_set]; omega
  rw [turnY]; omega
theorem seq_turn (y : Yd) (k : Nat) (r2 : Rn) : y.seq ≤ (turnY y k r2).seq ∧ (turnY y k r2).seq ≤ y.seq + r2.tasks.length := by
  have h2 := newL_len ((y.runs[k]?).getD default).tasks r2.tasks r2.tasks.length
  have h1 := layL_seq r2.plan.prio r2.id (newL ((y.runs[k]?).getD default).tasks r2.tasks r2.tasks.length) ((y.shelf[shN r2.id]?).getD default, y.seq)
  have e : (turnY y k r2).seq = (layL r2.plan.prio r2.id (newL ((y.runs[k]?).getD default).tasks r2.tasks r2.tasks.length) ((y.shelf[shN r2.id]?).getD default, y.seq)).2 := rfl
  rw [e, h1]
  dsimp only
  omega
theorem four_turn (y : Yd) (k : Nat) (r2 : Rn) : (turnY y k r2).shelf.length = y.shelf.length := by
  have e : (turnY y k r2).shelf = y.shelf.set (shN r2.id) (layL r2.plan.prio r2.id (newL ((y.runs[k]?).getD default).tasks r2.tasks r2.tasks.length) ((y.shelf[shN r2.id]?).getD default, y.seq)).1 := rfl
  rw [e, List.length_set]
theorem StepI.fail {y z : Yd} {i : Nat} (h : StepI y z i) (k t : Nat) : StepI y (failK z k t) (i + 1) := by
  have hL := h.later.fail k t
  cases hc : (stT ((z.runs[k]?).getD default).tasks t == 3) with
  | false =>
    have e : failK z k t = z := by unfold failK; rw [hc]; rfl
    rw [e]; exact h.mono (Nat.le_succ i)
  | true =>
    have e : failK z k t = turnY z k (runFails ((z.runs[k]?).getD default) t) := by unfold failK; rw [hc]; rfl
    cases hk : y.runs[k]? with
    | none =>
      have hk2 : z.runs[k]? = none := by rw [List.getElem?_eq_none_iff] at hk ⊢; rw [h.later.len]; exact hk
      rw [hk2] at hc
      simp [stT] at hc
      cases hc
    | some r =>
      obtain ⟨r', h1, h2, h3, h4, h5, h6⟩ := h.later.runs k r hk
      rw [h1, Option.getD_some] at e
      have hl := runFails_len r' t
      have h12 := h4.le12
      have hs := seq_turn z k (runFails r' t)
      have := h.seq
      have := h.tot
      have hT := tot_turn (r2 := runFails r' t) h1 (runFails_tot r' t) (by omega)
      rw [e] at hL ⊢
      exact ⟨hL, by rw [four_turn]; exact h.four, by omega, by omega, h.now⟩
/-- What is held, of a task that ran, is whether it runs. -/
theorem hold_later {y z : Yd} (h : LaterP y z) {k t : Nat} {r : Rn} {x : Tk} (hk : y.runs[k]? = some r) (hra : runAt y r.id = k) (hx : r.tasks[t]? = some x) : holds z r.id t x.tri = (stT ((z.runs[k]?).getD default).tasks t == 3) := by
  obtain ⟨r', h1, h2, h3, h4, h5, h6⟩ := h.runs k r hk
  have ht := (List.getElem?_eq_some_iff.1 hx).1
  have hx' : r'.tasks[t]? = some r'.tasks[t] := List.getElem?_eq_getElem (by omega)
  have hn : ¬ ((k : Int) < 0) := by omega
  have hT : taskAt z r.id t = some r'.tasks[t] := by
    simp only [taskAt, h.runAt, hra, hn, if_false, Int.toNat_natCast, h1]
    rw [if_pos (by omega)]; exact hx'
  rw [h1, Option.getD_some, stT_nat hx']
  simp only [holds, hT]
  cases hs : (r'.tasks[t].state == 3) with
  | false => rfl
  | true =>
    have hs' : r'.tasks[t].state = 3 := by simpa using hs
    have := h6 t _ hx' hs'
    rw [hx] at this
    rw [Option.some.inj this]; simp
noncomputable def restT (z : Yd) (k : Nat) : Nat → Yd
  | 0 => z
  | t + 1 => failK (restT z k t) k t
noncomputable def restR (y : Yd) : Nat → Yd
  | 0 => y
  | k + 1 => restT (restR y k) k ((y.runs[k]?).getD default).tasks.length
theorem StepI.restT {y z : Yd} {i : Nat} (h : StepI y z i) (k : Nat) : ∀ t, StepI y (restT z k t) (i + t)
  | 0 => h
  | t + 1 => (StepI.restT h k t).fail k t
theorem StepI.restR {y : Yd} (h : YardOkP y) : ∀ k, StepI y (restR y k) (12 * k)
  | 0 => .refl h
  | k + 1 => by
    refine ((StepI.restR h k).restT k _).mono ?_
    cases hk : y.runs[k]? with
    | none => rw [Option.getD_none]; have : (default : Rn).tasks.length = 0 := rfl; omega
    | some r =>
      have := (h.right r (List.mem_of_getElem? hk)).le12
      rw [Option.getD_some]; omega
noncomputable def restY (y : Yd) : Yd := if yardOkB y then restR y y.runs.length else y
end Go.Proofs.YtnhdcbhcocgjhaaGreat
set_option linter.unusedSimpArgs false
set_option linter.unusedVariables false
set_option maxRecDepth 100000
namespace Go.Proofs.YtnhdcbhcocgjhaaGreat
open Go.RowKit Go.Sort
def simAs : List AV → List AV → Prop
  | [], [] => True
  | a :: l, b :: m => a.sim b ∧ simAs l m
  | _, _ => False
theorem simAs_nil : simAs [] [] = True := rfl
theorem simAs_cons (a b : AV) (l m : List AV) : simAs (a :: l) (b :: m) = (a.sim b ∧ simAs l m) := rfl
theorem simAs.rel {B : Nat} {w : World} : ∀ {l m : List AV} {xs : List Value}, simAs l m → VRelL B w l xs → VRelL B w m xs
  | [], [], _, _, h => h
  | _ :: _, _ :: _, _, ⟨h1, h2⟩, ⟨x, xs', e, h3, h4⟩ => ⟨x, xs', e, h1.rel h3, h2.rel h4⟩
theorem inl_ren {P : Program} {f : FuncId} {vs vs2 : List AV} {o o2 : Nat → Ob} {R : AV → (Nat → Ob) → Prop} (hw : Wk (.only o) (.only o2)) (hs : simAs vs vs2) (h : Inl P f vs2 o2 R) : Inl P f vs o R :=
  ⟨h.1, fun B w F xs h1 h2 => by
    obtain ⟨F2, h3, _⟩ := hw _ _ _ _ _ _ h1
    exact h.2 B w F2 xs h3 (hs.rel h2)⟩
/-- A call whose code stands in the caller; the objects are named anew ahead of it. -/
theorem run_inl_ren {P : Program} {β : Nat} {s : St} {K : St → Prop} {d : Option Nat} {g : Option (Nat × Bool)} {f : Nat} {args : List X} {R : AV → (Nat → Ob) → Prop} (ks : List (Option Nat)) (O : List (Nat × Ob)) (vs2 : List AV) (hs : simAs (args.map s.ev) vs2) (hf : fitO s ks O) (h : Inl P f vs2 (lkO O) R) (hk : ∀ av o', R av o' → K (St.put ⟨s.t, o'⟩ d av)) (hn : apartN (srcs ks) = true := by decide) : runI P β ⟨d, g, .call f args⟩ s K := by
  refine run_inl (inl_ren (o2 := lkO O) ?_ hs (h.weak hk))
  have hf' : ∀ {ks : List (Option Nat)} {O : List (Nat × Ob)}, fitO s ks O → fitO (.only s.o) ks O := by
    intro ks
    induction ks with
    | nil => intro O h; cases O <;> first | exact h | exact h.elim
    | cons k ks ih =>
      intro O h
      cases O with
      | nil => cases k <;> exact h.elim
      | cons p O => cases k <;> exact ⟨h.1, ih h.2⟩
  exact wk_of (s := .only s.o) ks (T := []) ⟨trivial, hf' hf⟩ hn
attribute [go_sem] simAs_nil simAs_cons
def c_spec_Restart : C := .seq (.reg [⟨some 1, none, .box 30 4 (.t 0)⟩, ⟨some 2, none, .alloc 30 [.int .i64 0, .int .i64 0, .slice none 0 0, .slice none 0 0]⟩]) (.seq (.reg [⟨some 6, none, .ld true 4 (.t 1)⟩, ⟨some 7, none, .call 43 [.t 6]⟩, ⟨some 3, none, .alloc 30 [.int .i64 0, .int .i64 0, .slice none 0 0, .slice none 0 0]⟩, ⟨none, none, .st 4 [none, none, some (1, 103), some (8, 80)] (.t 3) (.t 7)⟩]) (.seq (.seq (.reg [⟨some 8, none, .ld true 4 (.t 1)⟩, ⟨some 9, none, .call 65 [.t 8]⟩, ⟨some 10, none, .un .not (.t 9)⟩]) (.cond (.t 10) (.seq (.reg [⟨some 11, none, .ld true 4 (.t 3)⟩, ⟨none, none, .st 4 [none, none, some (1, 103), some (8, 80)] (.t 2) (.t 11)⟩]) .ret) .skip)) (.seq (.seq (.reg [⟨some 4, none, .mov (.c (.int .i64 0))⟩]) (.blk 0 (.loop (.seq (.seq (.reg [⟨some 12, none, .mov (.t 4)⟩, ⟨some 13, none, .fa 3 (.t 3)⟩, ⟨some 14, none, .ld false 1 (.t 13)⟩, ⟨some 15, none, .len false (.t 14)⟩, ⟨some 16, none, .bin .lss 3 (.t 12) (.t 15)⟩]) (.cond (.t 16) .skip (.exit 0))) (.seq (.blk 1 (.seq (.reg [⟨some 5, none, .mov (.c (.int .i64 0))⟩]) (.blk 2 (.loop (.seq (.seq (.reg [⟨some 19, none, .mov (.t 5)⟩, ⟨some 20, none, .fa 3 (.t 3)⟩, ⟨some 21, none, .ld false 1 (.t 20)⟩, ⟨some 22, none, .mov (.t 4)⟩, ⟨some 23, none, .ia 8 (.t 21) (.t 22)⟩, ⟨some 24, none, .fa 7 (.t 23)⟩, ⟨some 25, none, .ld false 1 (.t 24)⟩, ⟨some 26, none, .len false (.t 25)⟩, ⟨some 27, none, .bin .lss 3 (.t 19) (.t 26)⟩]) (.cond (.t 27) .skip (.exit 2))) (.seq (.blk 3 (.seq (.reg [⟨some 30, none, .fa 3 (.t 3)⟩, ⟨some 31, none, .ld false 1 (.t 30)⟩, ⟨some 32, none, .mov (.t 4)⟩, ⟨some 33, none, .ia 8 (.t 31) (.t 32)⟩, ⟨some 34, none, .fa 7 (.t 33)⟩, ⟨some 35, none, .ld false 1 (.t 34)⟩, ⟨some 36, none, .mov (.t 5)⟩, ⟨some 37, none, .ia 4 (.t 35) (.t 36)⟩, ⟨some 38, none, .fa 0 (.t 37)⟩, ⟨some 39, none, .ld false 1 (.t 38)⟩, ⟨some 40, none, .bin .eql 3 (.t 39) (.c (.int .i64 3))⟩]) (.cond (.t 40) (.dreg (T.pure 0 ⟨some 41, none, .ld true 4 (.t 3)⟩ (T.pure 1 ⟨some 42, none, .mov (.t 4)⟩ (T.pure 2 ⟨some 43, none, .fa 3 (.t 3)⟩ (T.pure 3 ⟨some 44, none, .ld false 1 (.t 43)⟩ (T.pure 4 ⟨some 45, none, .mov (.t 4)⟩ (T.pure 5 ⟨some 46, none, .ia 8 (.t 44) (.t 45)⟩ (T.pure 6 ⟨some 47, none, .ld true 8 (.t 46)⟩ (T.pure 7 ⟨some 48, none, .mov (.t 5)⟩ (T.alt ⟨some 49, none, .call 62 [.t 47, .t 48]⟩ [1, 0] (T.alt ⟨some 50, none, .call 46 [.t 41, .t 42, .t 49]⟩ [] (T.alt ⟨none, none, .st 4 [none, none, some (1, 103), some (8, 80)] (.t 3) (.t 50)⟩ [] T.done T.stop) T.stop) T.stop)))))))))) .skip))) (.reg [⟨some 28, none, .mov (.t 5)⟩, ⟨some 29, none, .bin .add 3 (.t 28) (.c (.int .i64 1))⟩, ⟨some 5, none, .mov (.t 29)⟩]))))))) (.reg [⟨some 17, none, .mov (.t 4)⟩, ⟨some 18, none, .bin .add 3 (.t 17) (.c (.int .i64 1))⟩, ⟨some 4, none, .mov (.t 18)⟩])))))) (.seq (.reg [⟨some 51, none, .ld true 4 (.t 3)⟩, ⟨none, none, .st 4 [none, none, some (1, 103), some (8, 80)] (.t 2) (.t 51)⟩]) .ret))))
theorem code_spec_Restart : fnC Tryz.prog Tryz.f22 = some (c_spec_Restart, [.cell 2 true 4], 52) := by kernel_rfl
def c_impl_Restart : C := .seq (.reg [⟨some 1, none, .box 30 4 (.t 0)⟩, ⟨some 2, none, .alloc 30 [.int .i64 0, .int .i64 0, .slice none 0 0, .slice none 0 0]⟩]) (.seq (.reg [⟨some 8, none, .ld true 4 (.t 1)⟩, ⟨some 9, none, .call 50 [.t 8]⟩, ⟨some 3, none, .alloc 30 [.int .i64 0, .int .i64 0, .slice none 0 0, .slice none 0 0]⟩, ⟨none, none, .st 4 [none, none, some (1, 103), some (8, 80)] (.t 3) (.t 9)⟩]) (.seq (.seq (.reg [⟨some 10, none, .ld true 4 (.t 1)⟩, ⟨some 11, none, .call 67 [.t 10]⟩, ⟨some 12, none, .un .not (.t 11)⟩]) (.cond (.t 12) (.seq (.reg [⟨some 13, none, .ld true 4 (.t 3)⟩, ⟨none, none, .st 4 [none, none, some (1, 103), some (8, 80)] (.t 2) (.t 13)⟩]) .ret) .skip)) (.seq (.seq (.reg [⟨some 14, none, .fa 3 (.t 1)⟩, ⟨some 15, none, .ld false 1 (.t 14)⟩, ⟨some 16, none, .len false (.t 15)⟩, ⟨some 17, none, .mov (.c (.int .i64 0))⟩]) (.blk 0 (.loop (.seq (.reg [⟨some 18, none, .bin .lss 3 (.t 17) (.t 16)⟩]) (.seq (.cond (.t 18) .skip (.exit 0)) (.seq (.blk 1 (.seq (.reg [⟨some 19, none, .mov (.t 17)⟩, ⟨some 20, none, .ia 8 (.t 15) (.t 17)⟩, ⟨some 21, none, .ld true 8 (.t 20)⟩, ⟨some 5, none, .alloc 80 [.int .i64 0, .int .i64 0, .int .i64 0, .int .i64 0, .int .i64 0, .slice none 0 0, .int .i64 0, .slice none 0 0]⟩, ⟨some 4, none, .mov (.t 19)⟩, ⟨none, none, .st 8 [none, none, none, none, none, some (2, 182), none, some (4, 98)] (.t 5) (.t 21)⟩]) (.seq (.reg [⟨some 22, none, .fa 7 (.t 5)⟩, ⟨some 23, none, .ld false 1 (.t 22)⟩, ⟨some 24, none, .len false (.t 23)⟩, ⟨some 25, none, .mov (.c (.int .i64 0))⟩]) (.blk 2 (.loop (.seq (.reg [⟨some 26, none, .bin .lss 3 (.t 25) (.t 24)⟩]) (.seq (.cond (.t 26) .skip (.exit 2)) (.seq (.blk 3 (.seq (.reg [⟨some 27, none, .mov (.t 25)⟩, ⟨some 28, none, .ia 4 (.t 23) (.t 25)⟩, ⟨some 29, none, .ld true 4 (.t 28)⟩, ⟨some 6, none, .alloc 3 [.int .i64 0]⟩, ⟨some 7, none, .alloc 98 [.int .i64 0, .int .i64 0, .int .i64 0, .int .i64 0]⟩, ⟨none, none, .st 1 [none] (.t 6) (.t 27)⟩, ⟨none, none, .st 4 [none, none, none, none] (.t 7) (.t 29)⟩]) (.seq (.reg [⟨some 30, none, .ld true 4 (.t 3)⟩, ⟨some 31, none, .fa 0 (.t 5)⟩, ⟨some 32, none, .ld false 1 (.t 31)⟩, ⟨some 33, none, .ld false 1 (.t 6)⟩, ⟨some 34, none, .fa 2 (.t 7)⟩, ⟨some 35, none, .ld false 1 (.t 34)⟩, ⟨some 36, none, .call 69 [.t 30, .t 32, .t 33, .t 35]⟩]) (.cond (.t 36) (.reg [⟨some 37, none, .mov (.t 4)⟩, ⟨some 38, none, .mkf 71 [.t 6]⟩, ⟨some 39, none, .call 52 [.t 3, .t 37, .t 38]⟩]) .skip)))) (.reg [⟨some 40, none, .bin .add 3 (.t 25) (.c (.int .i64 1))⟩, ⟨some 25, none, .mov (.t 40)⟩]))))))))) (.reg [⟨some 41, none, .bin .add 3 (.t 17) (.c (.int .i64 1))⟩, ⟨some 17, none, .mov (.t 41)⟩]))))))) (.seq (.reg [⟨some 42, none, .ld true 4 (.t 3)⟩, ⟨none, none, .st 4 [none, none, some (1, 103), some (8, 80)] (.t 2) (.t 42)⟩]) .ret))))
theorem code_impl_Restart : fnC Tryz.prog Tryz.f23 = some (c_impl_Restart, [.cell 2 true 4], 43) := by kernel_rfl
def c_impl_Restart_1 : C := .reg [⟨some 3, none, .mov (.t 0)⟩, ⟨some 4, none, .ld false 1 (.t 1)⟩, ⟨some 5, none, .call 64 [.t 3, .t 4]⟩]
theorem code_impl_Restart_1 : fnC Tryz.prog Tryz.f71 = some (c_impl_Restart_1, [], 6) := by kernel_rfl
set_option maxHeartbeats 8000000 in
theorem p_spec_Restart (y : Yd) (ht : totYd y ≤ 1990000) : Pure Tryz.prog 22 [.agg (encYd y)] (.agg (encYd (restY y))) := by
  refine pure_fn Tryz.func22 code_spec_Restart (by simp) ?_
  unfold c_spec_Restart
  have ht2 : totYd y ≤ 2000000 := by omega
  simp -implicitDefEqProofs only [go_sem, encYd]
  intro b1 b2
  refine run_call (p_spec_l10Copy y ht2) (by simp -implicitDefEqProofs only [go_sem, encYd]) fun ηc => ?_
  simp -implicitDefEqProofs only [go_sem, encYd]
  intro b3
  refine run_call (p_spec_YardOk y ht2) (by simp -implicitDefEqProofs only [go_sem, encYd]) fun η => ?_
  simp -implicitDefEqProofs only [go_sem, encYd]
  cases hok : yardOkB y
  · have hy : restY y = y := by simp [restY, hok]
    simp -implicitDefEqProofs only [go_sem, encYd, hok, hy]
  have hP := yard_iff.1 hok
  have hy : restY y = restR y y.runs.length := by simp [restY, hok]
  rw [hy]
  simp -implicitDefEqProofs only [go_sem, encYd, hok]
  have h8 := hP.eight
  refine wp_loopW (fun i : Nat × Heads × Heads => St.of [(2, Bx 92 b2), (3, Bx 90 b3), (4, Ni i.1)] [(92, ZYd b2 tYd), (90, YdBox b3 tYd (restR y i.1).now (restR y i.1).seq (restR y i.1).shelf i.2.1 (restR y i.1).runs i.2.2)]) (fun i => i.1 ≤ y.runs.length) (fun i => y.runs.length - i.1) (0, ηc 2, ηc 3) (by (try dsimp only); first | omega | (simp; done) | (and_intros <;> first | omega | simp)) (wk_of [some 200, some 300] (by simp -implicitDefEqProofs only [go_sem, encYd, restR] <;> and_intros <;> first | rfl | assumption)) ?_
  rintro ⟨k, e2, e3⟩ hk
  dsimp only at hk
  have hI := StepI.restR hP k
  by_cases hlt : k < y.runs.length
  · obtain ⟨r0, hr0⟩ := get_some hlt
    have hr012 := (hP.right r0 (List.mem_of_getElem? hr0)).le12
    have hnx : restR y (k + 1) = restT (restR y k) k r0.tasks.length := by rw [restR, hr0, Option.getD_some]
    have hIt := hI.restT k
    have hw : IntKind.i64.wrap ((k : Int) + 1) = ((k + 1 : Nat) : Int) := wrap64 (by omega) (by omega)
    have hlz : (restR y k).runs.length = y.runs.length := hI.later.len
    have hlt' : (k : Int) < (restR y k).runs.length := by omega
    generalize restR y k = z0 at *
    simp -implicitDefEqProofs only [go_sem, hlt']
    refine wp_loopW (fun i : Nat × Heads × Heads => St.of [(2, Bx 92 b2), (3, Bx 90 b3), (4, Ni k), (5, Ni i.1)] [(92, ZYd b2 tYd), (90, YdBox b3 tYd (restT z0 k i.1).now (restT z0 k i.1).seq (restT z0 k i.1).shelf i.2.1 (restT z0 k i.1).runs i.2.2)]) (fun i => i.1 ≤ r0.tasks.length) (fun i => r0.tasks.length - i.1) (0, e2, e3) (by (try dsimp only); first | omega | (simp; done) | (and_intros <;> first | omega | simp)) (wk_of [some 92, some 90] (by simp -implicitDefEqProofs only [go_sem, restT] <;> and_intros <;> first | rfl | assumption)) ?_
    rintro ⟨t, f2, f3⟩ hti
    dsimp only at hti
    have hJ := hIt t
    have hnt : restT z0 k (t + 1) = failK (restT z0 k t) k t := rfl
    generalize hz : restT z0 k t = z at *
    obtain ⟨r, hr, hid, hpl, hR, hrl, hr3⟩ := hJ.later.runs k r0 hr0
    have hkl := (List.getElem?_eq_some_iff.1 hr).1
    have h0k : (k : Int) ≥ 0 := by omega
    have h12 := hR.le12
    by_cases hlt2 : t < r0.tasks.length
    · have hlt3 : t < r.tasks.length := by omega
      have hlt3' : (t : Int) < r.tasks.length := by omega
      have h0t : (t : Int) ≥ 0 := by omega
      obtain ⟨x, hx⟩ := get_some hlt3
      have hwt : IntKind.i64.wrap ((t : Int) + 1) = ((t + 1 : Nat) : Int) := wrap64 (by omega) (by omega)
      have hfy : failK z k t = if x.state == 3 then turnY z k (runFails r t) else z := by rw [failK, hr, Option.getD_some, stT_nat hx]
      simp -implicitDefEqProofs only [go_sem, Nat.add_zero, hkl, h0k, at_rn7 hr, in_rn7 hr, get_rns7 hr, hlt3', hlt3, h0t, at_tk0 hx, in_tk0 hx]
      cases hs : x.state == 3
      · rw [hs, if_neg (by decide)] at hfy
        rw [hfy] at hnt
        simp -implicitDefEqProofs only [go_sem, hs, hwt]
        exact ⟨(t + 1, f2, f3), by (try dsimp only); first | omega | assumption | (and_intros <;> first | omega | assumption), (wk_of [some 92, some 90] (by simp -implicitDefEqProofs only [go_sem, hnt] <;> and_intros <;> first | rfl | assumption)), by (try dsimp only); omega⟩
      · rw [hs, if_pos rfl] at hfy
        rw [hfy] at hnt
        simp -implicitDefEqProofs only [go_sem, hs, Nat.add_zero, hkl, h0k, at_rn hr, in_rn hr, encRn, encPl]
        refine run_call (p_spec_RunFails r t (by have := pf_0 hR.plan; obtain ⟨n, _, _, _, h30, _⟩ := this; omega) (by omega)) (by simp -implicitDefEqProofs only [go_sem, encRn, encPl, get_rns5' hr, get_rns7' hr]) fun ηr => ?_
        simp -implicitDefEqProofs only [go_sem, encRn, encPl, get_rns5' hr, get_rns7' hr]
        have hl2 := runFails_len r t
        generalize runFails r t = r2 at *
        refine run_inl_ren [some 90, some 92, some 4905, some 4907] [(90, YdBox b3 tYd z.now z.seq z.shelf f2 z.runs f3), (92, ZYd b2 tYd), (97, .loose (encEds r2.plan.edges) (ηr 5)), (98, .loose (encTks r2.tasks) (ηr 7))] [.agg [.v (.int .i64 z.now), .v (.int .i64 z.seq), .h 90 2 [] (f2 []), .h 90 3 [] (f3 [])], Ni k, .agg [.v (.int .i64 r2.id), .v (.int .i64 r2.plan.prio), .v (.int .i64 r2.plan.most), .v (.int .i64 r2.plan.wait), .v (.int .i64 r2.plan.tasks), .h 97 0 [] (ηr 5 []), .v (.int .i64 r2.state), .h 98 0 [] (ηr 7 [])]] (by simp -implicitDefEqProofs only [go_sem] <;> and_intros <;> rfl) (by simp -implicitDefEqProofs only [go_sem] <;> and_intros <;> rfl) (inl_turnS hr hl2 h12 hJ.four (by have := hJ.seq; omega) (by have := hJ.tot; omega) rfl rfl rfl) ?_
        rintro _ o1 ⟨c, g2, g3, x2, x3, rfl, j99, j90, j91, j92, j93, j94, j95, j96⟩
        have j92' : o1 92 = ZYd b2 tYd := j92
        generalize turnY z k r2 = z2 at *
        simp -implicitDefEqProofs only [go_sem, j99, j90, j92', hwt]
        exact ⟨(t + 1, g2, g3), by (try dsimp only); first | omega | assumption | (and_intros <;> first | omega | assumption), (wk_of [some 92, some 90] (by simp -implicitDefEqProofs only [go_sem, hnt, j90, j92'] <;> and_intros <;> first | rfl | assumption)), by (try dsimp only); omega⟩
    · have hlt3' : ¬ (t : Int) < r.tasks.length := by omega
      obtain rfl : t = r0.tasks.length := by omega
      rw [hz] at hnx
      simp -implicitDefEqProofs only [go_sem, Nat.add_zero, hkl, h0k, at_rn7 hr, in_rn7 hr, get_rns7 hr, hlt3', hw]
      exact ⟨(k + 1, f2, f3), by (try dsimp only); first | omega | assumption | (and_intros <;> first | omega | assumption), (wk_of [some 92, some 90] (by simp -implicitDefEqProofs only [go_sem, hnx] <;> and_intros <;> first | rfl | assumption)), by (try dsimp only); omega⟩
  have hlz : (restR y k).runs.length = y.runs.length := hI.later.len
  have hlt' : ¬ (k : Int) < (restR y k).runs.length := by omega
  obtain rfl : k = y.runs.length := by omega
  generalize restR y y.runs.length = z at *
  simp -implicitDefEqProofs only [go_sem, hlt', encYd]
set_option maxHeartbeats 4000000 in
theorem clos_Restart {k t b6 : Nat} {y : Yd} {r : Rn} (hr : y.runs[k]? = some r) (hrun : runsB r t = true) : ClosK Tryz.prog 71 [.bp 91 0 b6] (.box b6 tInt [.a (.v (.int .i64 t))]) k y (runFails r t) := by
  intro o b e2 e3 h90 h91
  refine turns_fn (β := 6000000) Tryz.func71 code_impl_Restart_1 (by simp) ?_
  unfold c_impl_Restart_1
  simp -implicitDefEqProofs only [go_sem, h91]
  refine run_inl_at (by simp -implicitDefEqProofs only [go_sem]) (ep_fails hr hrun _ b e2 e3 (by simp -implicitDefEqProofs only [go_sem]; exact h90)) ?_
  rintro _ o1 ⟨rfl, j90, j91, j92, j93, j94, j95, j96, j97⟩
  simp -implicitDefEqProofs only [go_sem] at j91 j92 j93 j94 j95 j96 j97
  rw [h91] at j91
  exact ⟨.tup [], ⟨by decide, rfl⟩, rfl, rfl, j90, j91, j92, j93, j94, j95, j96, j97⟩
set_option maxHeartbeats 8000000 in
theorem p_impl_Restart (y : Yd) (ht : totYd y ≤ 1990000) : Pure Tryz.prog 23 [.agg (encYd y)] (.agg (encYd (restY y))) := by
  refine pure_gn [[1,1,1,0,1,0,0,1,1,0,0,1,1,0,0,1,1,0,0,1,1,0]] Tryz.func23 code_impl_Restart (by simp) ?_
  unfold c_impl_Restart
  simp only [C.ghs, C.ghAt, List.foldr]
  have ht2 : totYd y ≤ 2000000 := by omega
  simp -implicitDefEqProofs only [go_sem, encYd]
  intro b1 b2
  refine run_call (p_impl_copyYard y ht2) (by simp -implicitDefEqProofs only [go_sem, encYd]) fun ηc => ?_
  simp -implicitDefEqProofs only [go_sem, encYd]
  intro b3
  refine run_call (p_impl_YardOk y ht2) (by simp -implicitDefEqProofs only [go_sem, encYd]) fun η => ?_
  simp -implicitDefEqProofs only [go_sem, encYd]
  cases hok : yardOkB y
  · have hy : restY y = y := by simp [restY, hok]
    simp -implicitDefEqProofs only [go_sem, encYd, hok, hy]
  have hP := yard_iff.1 hok
  have hy : restY y = restR y y.runs.length := by simp [restY, hok]
  rw [hy]
  simp -implicitDefEqProofs only [go_sem, encYd, hok]
  have h8 := hP.eight
  refine wp_loopW (fun i : Nat × Heads × Heads => St.of [(2, Bx 92 b2), (3, Bx 90 b3), (15, Ro (encRns y.runs)), (16, Ni y.runs.length), (17, Ni i.1)] [(92, ZYd b2 tYd), (90, YdBox b3 tYd (restR y i.1).now (restR y i.1).seq (restR y i.1).shelf i.2.1 (restR y i.1).runs i.2.2)]) (fun i => i.1 ≤ y.runs.length) (fun i => y.runs.length - i.1) (0, ηc 2, ηc 3) (by (try dsimp only); first | omega | (simp; done) | (and_intros <;> first | omega | simp)) (wk_of [some 200, some 300] (by simp -implicitDefEqProofs only [go_sem, encYd, restR] <;> and_intros <;> first | rfl | assumption)) ?_
  rintro ⟨k, e2, e3⟩ hk
  dsimp only at hk
  have hI := StepI.restR hP k
  by_cases hlt : k < y.runs.length
  · have hlt' : (k : Int) < y.runs.length := by omega
    obtain ⟨r0, hr0⟩ := get_some hlt
    have hr012 := (hP.right r0 (List.mem_of_getElem? hr0)).le12
    have hpl0 := hP.place k r0 hr0
    have hnx : restR y (k + 1) = restT (restR y k) k r0.tasks.length := by rw [restR, hr0, Option.getD_some]
    have hIt := hI.restT k
    have hw : IntKind.i64.wrap ((k : Int) + 1) = ((k + 1 : Nat) : Int) := wrap64 (by omega) (by omega)
    generalize restR y k = z0 at *
    simp -implicitDefEqProofs only [go_sem, hlt', hlt, elem_encRns hr0, encRn, encPl]
    intro b5
    refine wp_loopW (fun i : Nat × Heads × Heads => St.of [(2, Bx 92 b2), (3, Bx 90 b3), (4, Ni k), (5, Bx 93 b5), (15, Ro (encRns y.runs)), (16, Ni y.runs.length), (17, Ni k), (23, Ro (encTks r0.tasks)), (24, Ni r0.tasks.length), (25, Ni i.1)] [(92, ZYd b2 tYd), (93, Bi b5 tRn (encRn r0)), (90, YdBox b3 tYd (restT z0 k i.1).now (restT z0 k i.1).seq (restT z0 k i.1).shelf i.2.1 (restT z0 k i.1).runs i.2.2)]) (fun i => i.1 ≤ r0.tasks.length) (fun i => r0.tasks.length - i.1) (0, e2, e3) (by (try dsimp only); first | omega | (simp; done) | (and_intros <;> first | omega | simp)) (wk_of [some 92, some 500, some 90] (by simp -implicitDefEqProofs only [go_sem, restT, encRn, encPl] <;> and_intros <;> first | rfl | assumption)) ?_
    rintro ⟨t, f2, f3⟩ hti
    dsimp only at hti
    have hJ := hIt t
    have hnt : restT z0 k (t + 1) = failK (restT z0 k t) k t := rfl
    generalize hz : restT z0 k t = z at *
    obtain ⟨r, hr, hid, hpl, hR, hrl, hr3⟩ := hJ.later.runs k r0 hr0
    have h12 := hR.le12
    by_cases hlt2 : t < r0.tasks.length
    · have hlt2' : (t : Int) < r0.tasks.length := by omega
      have hlt3 : t < r.tasks.length := by omega
      obtain ⟨x, hx⟩ := get_some hlt3
      obtain ⟨x0, hx0⟩ := get_some hlt2
      have hwt : IntKind.i64.wrap ((t : Int) + 1) = ((t + 1 : Nat) : Int) := wrap64 (by omega) (by omega)
      have hfy : failK z k t = if x.state == 3 then turnY z k (runFails r t) else z := by rw [failK, hr, Option.getD_some, stT_nat hx]
      have hho : holds z r0.id t x0.tri = (x.state == 3) := by rw [hold_later hJ.later hr0 hpl0 hx0, hr, Option.getD_some, stT_nat hx]
      simp -implicitDefEqProofs only [go_sem, hlt2', hlt2, elem_encTks hx0, encTk]
      intro b6 b7
      simp -implicitDefEqProofs only [go_sem, encRn, encPl]
      refine run_call (p_impl_Holds z r0.id t x0.tri) (by simp -implicitDefEqProofs only [go_sem, encYd]) fun η => ?_
      simp -implicitDefEqProofs only [go_sem, encYd]
      rw [hho]
      cases hs : x.state == 3
      · rw [hs, if_neg (by decide)] at hfy
        rw [hfy] at hnt
        simp -implicitDefEqProofs only [go_sem, hs, hwt]
        exact ⟨(t + 1, f2, f3), by (try dsimp only); first | omega | assumption | (and_intros <;> first | omega | assumption), (wk_of [some 92, some 93, some 90] (by simp -implicitDefEqProofs only [go_sem, hnt, encRn, encPl] <;> and_intros <;> first | rfl | assumption)), by (try dsimp only); omega⟩
      · rw [hs, if_pos rfl] at hfy
        rw [hfy] at hnt
        have hs' : x.state = 3 := by simpa using hs
        simp -implicitDefEqProofs only [go_sem, hs]
        refine wp_gk ?_
        refine WkK.wk (s' := St.of [(2, Bx 92 b2), (3, Bx 90 b3), (4, Ni k), (5, Bx 93 b5), (6, Bx 91 b6), (15, Ro (encRns y.runs)), (16, Ni y.runs.length), (17, Ni k), (23, Ro (encTks r0.tasks)), (24, Ni r0.tasks.length), (25, Ni t)] [(92, ZYd b2 tYd), (93, Bi b5 tRn (encRn r0)), (90, YdBox b3 tYd z.now z.seq z.shelf f2 z.runs f3), (91, .box b6 tInt [.a (.v (.int .i64 t))])]) (wk_of [some 92, some 93, some 90, some 600] (by simp -implicitDefEqProofs only [go_sem, encRn, encPl] <;> and_intros <;> first | rfl | assumption)) ?_
        refine WkK.of ?_
        simp -implicitDefEqProofs only [go_sem]
        refine run_inl_at (vs := [Bx 90 b3, Ni k, .fn 71 [.bp 91 0 b6]]) (by simp -implicitDefEqProofs only [go_sem]) (inl_change hr (runFails_len r t) h12 hJ.four (by have := hJ.seq; omega) (by have := hJ.tot; omega) (clos_Restart hr (runs_of hR hx hs')) (e2 := f2) (e3 := f3) (by simp -implicitDefEqProofs only [go_sem]) (by simp -implicitDefEqProofs only [go_sem])) ?_
        rintro _ o1 ⟨rfl, ⟨g2, g3, j90⟩, j91, j92, j93, j94, j95, j96⟩
        have j92' : o1 92 = ZYd b2 tYd := j92
        have j93' : o1 93 = Bi b5 tRn (encRn r0) := j93
        generalize turnY z k (runFails r t) = z2 at *
        simp -implicitDefEqProofs only [go_sem, hwt]
        exact ⟨(t + 1, g2, g3), by (try dsimp only); first | omega | assumption | (and_intros <;> first | omega | assumption), (wk_of [some 92, some 93, some 90] (by simp -implicitDefEqProofs only [go_sem, hnt, j90, j92', j93', encRn, encPl] <;> and_intros <;> first | rfl | assumption)), by (try dsimp only); omega⟩
    · have hlt2' : ¬ (t : Int) < r0.tasks.length := by omega
      obtain rfl : t = r0.tasks.length := by omega
      rw [hz] at hnx
      simp -implicitDefEqProofs only [go_sem, hlt2', hw]
      exact ⟨(k + 1, f2, f3), by (try dsimp only); first | omega | assumption | (and_intros <;> first | omega | assumption), (wk_of [some 92, some 90] (by simp -implicitDefEqProofs only [go_sem, hnx] <;> and_intros <;> first | rfl | assumption)), by (try dsimp only); omega⟩
  have hlt' : ¬ (k : Int) < y.runs.length := by omega
  obtain rfl : k = y.runs.length := by omega
  generalize restR y y.runs.length = z at *
  simp -implicitDefEqProofs only [go_sem, hlt', encYd]
theorem tot_rest (y : Yd) (ht : totYd y ≤ 1900000) : totYd (restY y) ≤ 2000000 := by
  unfold restY
  split
  · rename_i h
    have hP := yard_iff.1 h
    have := (StepI.restR hP y.runs.length).tot
    have := hP.eight
    omega
  · omega
end Go.Proofs.YtnhdcbhcocgjhaaGreat
namespace Go.Proofs.YtnhdcbhcocgjhaaGreat
open Go.RowKit Go.Sort Go.BigFrame

/-- A cell of an old block stays. -/
theorem ctm {w w1 : World} {b o : Nat} {v : Value} (hB : Below w.heap.size w w1) (h : w.cell? ⟨b, o, none⟩ = some v) : w1.cell? ⟨b, o, none⟩ = some v :=
  (hB.cell (p := ⟨b, o, none⟩) (World.block_lt_of_cell? w _ h)).trans h

/-- The marks of m elements, n numbers each, from k on. -/
def mkR {α : Type} (mk : Int → α) (n : Int) (m : Nat) (k : Int) : List α := (List.range m).map fun (i : Nat) => mk (k + n * (i : Int))
theorem mkR_len {α : Type} (mk : Int → α) (n : Int) (m : Nat) (k : Int) : (mkR mk n m k).length = m := by simp [mkR]
theorem mkR_get {α : Type} (mk : Int → α) (n : Int) (m : Nat) (k : Int) {i : Nat} (h : i < m) : (mkR mk n m k)[i]? = some (mk (k + n * (i : Int))) := by simp [mkR, h]
/-- The first i marked, the others as they were. -/
def mh {α : Type} (m l : List α) (i : Nat) : List α := m.take i ++ l.drop i
theorem mh_zero {α : Type} (m l : List α) : mh m l 0 = l := by simp [mh]
theorem mh_done {α : Type} {m l : List α} (h : m.length = l.length) : mh m l l.length = m := by rw [mh, ← h, List.take_length, h, List.drop_length, List.append_nil]
theorem mh_len {α : Type} {m l : List α} (h : m.length = l.length) (i : Nat) : (mh m l i).length = l.length := by simp only [mh, List.length_append, List.length_take, List.length_drop]; omega
theorem mh_get {α : Type} {m l : List α} (h : m.length = l.length) {i : Nat} {x : α} (hx : l[i]? = some x) : (mh m l i)[i]? = some x := by
  have hi : i < l.length := (List.getElem?_eq_some_iff.1 hx).1
  have e : (m.take i).length = i := by rw [List.length_take]; omega
  rw [mh, List.getElem?_append_right (by omega), e, Nat.sub_self, List.getElem?_drop]
  simpa using hx
theorem mh_set {α : Type} {m l : List α} (h : m.length = l.length) {i : Nat} {y : α} (hy : m[i]? = some y) : (mh m l i).set i y = mh m l (i + 1) := by
  have hi : i < m.length := (List.getElem?_eq_some_iff.1 hy).1
  have e : (m.take i).length = i := by rw [List.length_take]; omega
  rw [mh, mh, List.set_append_right _ _ (by omega), e, Nat.sub_self, List.take_add_one, hy, List.append_assoc, List.drop_eq_getElem_cons (by omega : i < l.length)]
  rfl
theorem set_get {α : Type} {l : List α} {k : Nat} {x y : α} (hx : l[k]? = some x) : (l.set k y)[k]? = some y := by
  have := (List.getElem?_eq_some_iff.1 hx).1
  simp [this]

/-- A cell of an owned row. -/
theorem own_field {α : Type} {enc : α → List D} {w : World} {ty : TypeId} {xs : List α} {S : List Nat} {g n c k size : Nat} (hl : ∀ x, (enc x).length = size) (hs : 0 < size) (h : Rep w true (.sl size ty (xs.flatMap enc)) (.slice (some ⟨g, 0, none⟩) n c) S) (hk : k < xs.length) (j : Nat) (hj : j < size) :
    (∃ u, w.cell? ⟨g, k * size + j, none⟩ = some u) ∧ w.frozen? ⟨g, k * size + j, none⟩ = false := by
  obtain ⟨vs, S1, hown, hrl, rfl⟩ := Rep.own hl hs h
  have hn : n = xs.length := by
    rcases hown.2 with ⟨e, _⟩ | ⟨g', cap', cur, e, _⟩
    · cases e
    · simp only [Value.slice.injEq] at e; exact e.2.1
  subst hn
  have hb : k * size + size ≤ xs.length * size := by rw [← Nat.succ_mul]; exact Nat.mul_le_mul_right _ hk
  have := own_there hown (k * size) size hb j hj
  exact ⟨Option.isSome_iff_exists.1 (by simpa using this.1), by simpa using this.2⟩



def mkEd (k : Int) : Ed := ⟨k, k + 1⟩

set_option maxHeartbeats 2000000 in
theorem markEdgeS_c (l : List Ed) (k : Int) (v : Value) (S : List Nat) (B : Nat) (w : World) (ha : Rep w true (encEds l) v S) (hF : Fresh B S) (h0 : 0 ≤ k) (h1 : k + 2 * (l.length : Int) ≤ 4611686018427387904) :
    Calls Tryz.prog 124 #[v, .int .i64 k] w fun e w' => e = .returned (.int .i64 (k + 2 * (l.length : Int))) ∧ Rep w' true (encEds (mkR mkEd 2 l.length k)) v S ∧ Only S w w' := by
  obtain ⟨A, c, rfl, hc1, hc2, -⟩ := Rep.open_ (size := 2) (enc := encEd) (fun _ => rfl) (by decide) ha
  unfold maxLen at hc2
  have hl1 : l.length ≤ 4611686018427387904 := by omega
  go_enter Tryz.func124, Tryz.ntmps124
  go_wp2
  go_loopw [1, 5] (fun q i wr => ∃ j : Nat, j ≤ l.length ∧ i = .int .i64 j ∧ q = .int .i64 (k + 2 * (j : Int)) ∧ Rep wr true (encEds (mh (mkR mkEd 2 l.length k) l j)) (.slice A l.length c) S ∧ Only S w wr) (fun _ i _ => l.length - (intOf i).toNat)
  case atStart => exact ⟨0, by omega, rfl, by simp, by rw [mh_zero]; exact ha, Only.refl _ _⟩
  case round =>
    obtain ⟨i, hi, rfl, rfl, hrep, hon⟩ := hrel
    by_cases hlt : i < l.length
    · obtain ⟨x, hx⟩ := get_some hlt
      have hmx := mh_get (mkR_len mkEd 2 l.length k) hx
      have HM := Lib.hid hmx
      have HX := Lib.hid hx
      obtain ⟨g, rfl, -, hg1, hg, -⟩ := Rep.head (enc := encEd) (size := 2) (xs := mh (mkR mkEd 2 l.length k) l i) (fun _ => rfl) (by decide) hrep (by rw [mh_len (mkR_len _ _ _ _)]; omega)
      · skip
        obtain ⟨⟨u0, hu0⟩, hz0⟩ := own_field (enc := encEd) (size := 2) (fun _ => rfl) (by decide) hrep (by rw [mh_len (mkR_len _ _ _ _)]; exact hlt) 0 (by decide)
        obtain ⟨⟨u1, hu1⟩, hz1⟩ := own_field (enc := encEd) (size := 2) (fun _ => rfl) (by decide) hrep (by rw [mh_len (mkR_len _ _ _ _)]; exact hlt) 1 (by decide)
        rw [Nat.add_zero] at hu0 hz0
        have HR := Lib.hid hrep
        clear hmx hx
        have hq0 : 0 ≤ k + 2 * (i : Int) := by omega
        have hq1 : k + 2 * (i : Int) ≤ 4611686018427387904 := by omega
        go_wp2
        go_roundw
        case rel =>
          have hmx := HM.out
          obtain ⟨hr1, ho1, -⟩ := Rep.setField (enc := encEd) (size := 2) (fun _ => rfl) (by decide) hrep hmx 0 (by decide) (.int .i64 (k + 2 * (i : Int))) (y := (⟨k + 2 * (i : Int), x.dst⟩ : Ed)) (fun vk Sk h => by obtain ⟨rfl, rfl⟩ := ed_cells h; exact ed_mk _ _ _) hF
          rw [Nat.add_zero] at hr1 ho1
          have hm1 := set_get (y := (⟨k + 2 * (i : Int), x.dst⟩ : Ed)) hmx
          obtain ⟨hr2, ho2, -⟩ := Rep.setField (enc := encEd) (size := 2) (fun _ => rfl) (by decide) hr1 hm1 1 (by decide) (.int .i64 (k + 2 * (i : Int) + 1)) (y := (⟨k + 2 * (i : Int), k + 2 * (i : Int) + 1⟩ : Ed)) (fun vk Sk h => by obtain ⟨rfl, rfl⟩ := ed_cells h; exact ed_mk _ _ _) hF
          have hm2 := set_get (y := (⟨k + 2 * (i : Int), k + 2 * (i : Int) + 1⟩ : Ed)) hm1
          simp only [List.set_set] at hr2
          refine ⟨i + 1, by omega, by go_num, by go_num, ?_, hon.trans ((ho1).trans ho2 (fun t h => .inl h)) (fun t h => .inl (by simp only [List.mem_singleton] at h; subst h; exact hg1))⟩
          rw [← mh_set (mkR_len _ _ _ _) (mkR_get mkEd 2 l.length k hlt)]
          exact hr2
        case measure => simp [intOf]; omega
    · obtain rfl : i = l.length := by omega
      go_wp2
      go_ret
      exact ⟨rfl, by rw [← mh_done (mkR_len mkEd 2 l.length k)]; exact hrep, hon⟩

set_option maxHeartbeats 2000000 in
theorem heldEdgeS_c (m : Nat) (k : Int) (v : Value) (S : List Nat) (w : World) (own : Bool) (ha : Rep w own (encEds (mkR mkEd 2 m k)) v S) (h0 : 0 ≤ k) (h1 : k + 2 * (m : Int) ≤ 4611686018427387904) :
    Calls Tryz.prog 127 #[v, .int .i64 k] w fun e w' => e = .returned (.int .i64 (k + 2 * (m : Int))) ∧ Below w.heap.size w w' := by
  obtain ⟨A, c, rfl, hc1, hc2, hca⟩ := Rep.open_ (size := 2) (enc := encEd) (fun _ => rfl) (by decide) ha
  rw [mkR_len] at *
  unfold maxLen at hc2
  have hl1 : m ≤ 4611686018427387904 := by omega
  clear ha
  go_enter Tryz.func127, Tryz.ntmps127
  go_wp2
  go_loopw [1, 5] (fun q i wr => ∃ j : Nat, j ≤ m ∧ i = .int .i64 j ∧ q = .int .i64 (k + 2 * (j : Int)) ∧ Below w.heap.size w wr) (fun _ i _ => m - (intOf i).toNat)
  case atStart => exact ⟨0, by omega, rfl, by simp, Below.refl _ _⟩
  case round =>
    obtain ⟨i, hi, rfl, rfl, hbel⟩ := hrel
    by_cases hlt : i < m
    · obtain ⟨b1, o1, vk1, T1, rfl, -, hr1, -, -, hb1, hx1⟩ := hca i _ (mkR_get mkEd 2 m k hlt)
      clear hca
      · skip
        obtain ⟨rfl, rfl⟩ := ed_cells hr1
        have p0 := ctm (b := b1) (o := o1 + i * 2) hbel (hx1 0 _ rfl)
        have p1 := ctm (b := b1) (o := o1 + i * 2 + 1) hbel (hx1 1 _ rfl)
        simp only [mkEd] at p0 p1
        clear hx1
        have hq0 : 0 ≤ k + 2 * (i : Int) := by omega
        have hq1 : k + 2 * (i : Int) ≤ 4611686018427387904 := by omega
        go_wp2
        go_roundw
        case rel => exact ⟨i + 1, by omega, by go_num, by go_num, hbel⟩
        case measure => simp [intOf]; omega
    · obtain rfl : i = m := by omega
      clear hca
      go_wp2
      go_ret
      exact ⟨rfl, hbel⟩

def mkEn (k : Int) : En := ⟨k, k + 1, k + 1 + 1, k + 1 + 1 + 1⟩

set_option maxHeartbeats 2000000 in
theorem markEntryS_c (l : List En) (k : Int) (v : Value) (S : List Nat) (B : Nat) (w : World) (ha : Rep w true (encEns l) v S) (hF : Fresh B S) (h0 : 0 ≤ k) (h1 : k + 4 * (l.length : Int) ≤ 4611686018427387904) :
    Calls Tryz.prog 123 #[v, .int .i64 k] w fun e w' => e = .returned (.int .i64 (k + 4 * (l.length : Int))) ∧ Rep w' true (encEns (mkR mkEn 4 l.length k)) v S ∧ Only S w w' := by
  obtain ⟨A, c, rfl, hc1, hc2, -⟩ := Rep.open_ (size := 4) (enc := encEn) (fun _ => rfl) (by decide) ha
  unfold maxLen at hc2
  have hl1 : l.length ≤ 4611686018427387904 := by omega
  go_enter Tryz.func123, Tryz.ntmps123
  go_wp2
  go_loopw [1, 5] (fun q i wr => ∃ j : Nat, j ≤ l.length ∧ i = .int .i64 j ∧ q = .int .i64 (k + 4 * (j : Int)) ∧ Rep wr true (encEns (mh (mkR mkEn 4 l.length k) l j)) (.slice A l.length c) S ∧ Only S w wr) (fun _ i _ => l.length - (intOf i).toNat)
  case atStart => exact ⟨0, by omega, rfl, by simp, by rw [mh_zero]; exact ha, Only.refl _ _⟩
  case round =>
    obtain ⟨i, hi, rfl, rfl, hrep, hon⟩ := hrel
    by_cases hlt : i < l.length
    · obtain ⟨x, hx⟩ := get_some hlt
      have hmx := mh_get (mkR_len mkEn 4 l.length k) hx
      have HM := Lib.hid hmx
      have HX := Lib.hid hx
      obtain ⟨g, rfl, -, hg1, hg, -⟩ := Rep.head (enc := encEn) (size := 4) (xs := mh (mkR mkEn 4 l.length k) l i) (fun _ => rfl) (by decide) hrep (by rw [mh_len (mkR_len _ _ _ _)]; omega)
      · skip
        obtain ⟨⟨u0, hu0⟩, hz0⟩ := own_field (enc := encEn) (size := 4) (fun _ => rfl) (by decide) hrep (by rw [mh_len (mkR_len _ _ _ _)]; exact hlt) 0 (by decide)
        obtain ⟨⟨u1, hu1⟩, hz1⟩ := own_field (enc := encEn) (size := 4) (fun _ => rfl) (by decide) hrep (by rw [mh_len (mkR_len _ _ _ _)]; exact hlt) 1 (by decide)
        obtain ⟨⟨u2, hu2⟩, hz2⟩ := own_field (enc := encEn) (size := 4) (fun _ => rfl) (by decide) hrep (by rw [mh_len (mkR_len _ _ _ _)]; exact hlt) 2 (by decide)
        obtain ⟨⟨u3, hu3⟩, hz3⟩ := own_field (enc := encEn) (size := 4) (fun _ => rfl) (by decide) hrep (by rw [mh_len (mkR_len _ _ _ _)]; exact hlt) 3 (by decide)
        rw [Nat.add_zero] at hu0 hz0
        have HR := Lib.hid hrep
        clear hmx hx
        have hq0 : 0 ≤ k + 4 * (i : Int) := by omega
        have hq1 : k + 4 * (i : Int) ≤ 4611686018427387904 := by omega
        go_wp2
        go_roundw
        case rel =>
          have hmx := HM.out
          obtain ⟨hr1, ho1, -⟩ := Rep.setField (enc := encEn) (size := 4) (fun _ => rfl) (by decide) hrep hmx 0 (by decide) (.int .i64 (k + 4 * (i : Int))) (y := (⟨k + 4 * (i : Int), x.seq, x.run, x.task⟩ : En)) (fun vk Sk h => by obtain ⟨rfl, rfl⟩ := en_cells h; exact en_mk _ _ _) hF
          rw [Nat.add_zero] at hr1 ho1
          have hm1 := set_get (y := (⟨k + 4 * (i : Int), x.seq, x.run, x.task⟩ : En)) hmx
          obtain ⟨hr2, ho2, -⟩ := Rep.setField (enc := encEn) (size := 4) (fun _ => rfl) (by decide) hr1 hm1 1 (by decide) (.int .i64 (k + 4 * (i : Int) + 1)) (y := (⟨k + 4 * (i : Int), k + 4 * (i : Int) + 1, x.run, x.task⟩ : En)) (fun vk Sk h => by obtain ⟨rfl, rfl⟩ := en_cells h; exact en_mk _ _ _) hF
          have hm2 := set_get (y := (⟨k + 4 * (i : Int), k + 4 * (i : Int) + 1, x.run, x.task⟩ : En)) hm1
          obtain ⟨hr3, ho3, -⟩ := Rep.setField (enc := encEn) (size := 4) (fun _ => rfl) (by decide) hr2 hm2 2 (by decide) (.int .i64 (k + 4 * (i : Int) + 1 + 1)) (y := (⟨k + 4 * (i : Int), k + 4 * (i : Int) + 1, k + 4 * (i : Int) + 1 + 1, x.task⟩ : En)) (fun vk Sk h => by obtain ⟨rfl, rfl⟩ := en_cells h; exact en_mk _ _ _) hF
          have hm3 := set_get (y := (⟨k + 4 * (i : Int), k + 4 * (i : Int) + 1, k + 4 * (i : Int) + 1 + 1, x.task⟩ : En)) hm2
          obtain ⟨hr4, ho4, -⟩ := Rep.setField (enc := encEn) (size := 4) (fun _ => rfl) (by decide) hr3 hm3 3 (by decide) (.int .i64 (k + 4 * (i : Int) + 1 + 1 + 1)) (y := (⟨k + 4 * (i : Int), k + 4 * (i : Int) + 1, k + 4 * (i : Int) + 1 + 1, k + 4 * (i : Int) + 1 + 1 + 1⟩ : En)) (fun vk Sk h => by obtain ⟨rfl, rfl⟩ := en_cells h; exact en_mk _ _ _) hF
          have hm4 := set_get (y := (⟨k + 4 * (i : Int), k + 4 * (i : Int) + 1, k + 4 * (i : Int) + 1 + 1, k + 4 * (i : Int) + 1 + 1 + 1⟩ : En)) hm3
          simp only [List.set_set] at hr4
          refine ⟨i + 1, by omega, by go_num, by go_num, ?_, hon.trans ((((ho1).trans ho2 (fun t h => .inl h)).trans ho3 (fun t h => .inl h)).trans ho4 (fun t h => .inl h)) (fun t h => .inl (by simp only [List.mem_singleton] at h; subst h; exact hg1))⟩
          rw [← mh_set (mkR_len _ _ _ _) (mkR_get mkEn 4 l.length k hlt)]
          exact hr4
        case measure => simp [intOf]; omega
    · obtain rfl : i = l.length := by omega
      go_wp2
      go_ret
      exact ⟨rfl, by rw [← mh_done (mkR_len mkEn 4 l.length k)]; exact hrep, hon⟩

set_option maxHeartbeats 2000000 in
theorem heldEntryS_c (m : Nat) (k : Int) (v : Value) (S : List Nat) (w : World) (own : Bool) (ha : Rep w own (encEns (mkR mkEn 4 m k)) v S) (h0 : 0 ≤ k) (h1 : k + 4 * (m : Int) ≤ 4611686018427387904) :
    Calls Tryz.prog 126 #[v, .int .i64 k] w fun e w' => e = .returned (.int .i64 (k + 4 * (m : Int))) ∧ Below w.heap.size w w' := by
  obtain ⟨A, c, rfl, hc1, hc2, hca⟩ := Rep.open_ (size := 4) (enc := encEn) (fun _ => rfl) (by decide) ha
  rw [mkR_len] at *
  unfold maxLen at hc2
  have hl1 : m ≤ 4611686018427387904 := by omega
  clear ha
  go_enter Tryz.func126, Tryz.ntmps126
  go_wp2
  go_loopw [1, 5] (fun q i wr => ∃ j : Nat, j ≤ m ∧ i = .int .i64 j ∧ q = .int .i64 (k + 4 * (j : Int)) ∧ Below w.heap.size w wr) (fun _ i _ => m - (intOf i).toNat)
  case atStart => exact ⟨0, by omega, rfl, by simp, Below.refl _ _⟩
  case round =>
    obtain ⟨i, hi, rfl, rfl, hbel⟩ := hrel
    by_cases hlt : i < m
    · obtain ⟨b1, o1, vk1, T1, rfl, -, hr1, -, -, hb1, hx1⟩ := hca i _ (mkR_get mkEn 4 m k hlt)
      clear hca
      · skip
        obtain ⟨rfl, rfl⟩ := en_cells hr1
        have p0 := ctm (b := b1) (o := o1 + i * 4) hbel (hx1 0 _ rfl)
        have p1 := ctm (b := b1) (o := o1 + i * 4 + 1) hbel (hx1 1 _ rfl)
        have p2 := ctm (b := b1) (o := o1 + i * 4 + 2) hbel (hx1 2 _ rfl)
        have p3 := ctm (b := b1) (o := o1 + i * 4 + 3) hbel (hx1 3 _ rfl)
        simp only [mkEn] at p0 p1 p2 p3
        clear hx1
        have hq0 : 0 ≤ k + 4 * (i : Int) := by omega
        have hq1 : k + 4 * (i : Int) ≤ 4611686018427387904 := by omega
        go_wp2
        go_roundw
        case rel => exact ⟨i + 1, by omega, by go_num, by go_num, hbel⟩
        case measure => simp [intOf]; omega
    · obtain rfl : i = m := by omega
      clear hca
      go_wp2
      go_ret
      exact ⟨rfl, hbel⟩

def mkTk (k : Int) : Tk := ⟨k, k + 1, k + 1 + 1, k + 1 + 1 + 1⟩

set_option maxHeartbeats 2000000 in
theorem markTaskS_c (l : List Tk) (k : Int) (v : Value) (S : List Nat) (B : Nat) (w : World) (ha : Rep w true (encTks l) v S) (hF : Fresh B S) (h0 : 0 ≤ k) (h1 : k + 4 * (l.length : Int) ≤ 4611686018427387904) :
    Calls Tryz.prog 125 #[v, .int .i64 k] w fun e w' => e = .returned (.int .i64 (k + 4 * (l.length : Int))) ∧ Rep w' true (encTks (mkR mkTk 4 l.length k)) v S ∧ Only S w w' := by
  obtain ⟨A, c, rfl, hc1, hc2, -⟩ := Rep.open_ (size := 4) (enc := encTk) (fun _ => rfl) (by decide) ha
  unfold maxLen at hc2
  have hl1 : l.length ≤ 4611686018427387904 := by omega
  go_enter Tryz.func125, Tryz.ntmps125
  go_wp2
  go_loopw [1, 5] (fun q i wr => ∃ j : Nat, j ≤ l.length ∧ i = .int .i64 j ∧ q = .int .i64 (k + 4 * (j : Int)) ∧ Rep wr true (encTks (mh (mkR mkTk 4 l.length k) l j)) (.slice A l.length c) S ∧ Only S w wr) (fun _ i _ => l.length - (intOf i).toNat)
  case atStart => exact ⟨0, by omega, rfl, by simp, by rw [mh_zero]; exact ha, Only.refl _ _⟩
  case round =>
    obtain ⟨i, hi, rfl, rfl, hrep, hon⟩ := hrel
    by_cases hlt : i < l.length
    · obtain ⟨x, hx⟩ := get_some hlt
      have hmx := mh_get (mkR_len mkTk 4 l.length k) hx
      have HM := Lib.hid hmx
      have HX := Lib.hid hx
      obtain ⟨g, rfl, -, hg1, hg, -⟩ := Rep.head (enc := encTk) (size := 4) (xs := mh (mkR mkTk 4 l.length k) l i) (fun _ => rfl) (by decide) hrep (by rw [mh_len (mkR_len _ _ _ _)]; omega)
      · skip
        obtain ⟨⟨u0, hu0⟩, hz0⟩ := own_field (enc := encTk) (size := 4) (fun _ => rfl) (by decide) hrep (by rw [mh_len (mkR_len _ _ _ _)]; exact hlt) 0 (by decide)
        obtain ⟨⟨u1, hu1⟩, hz1⟩ := own_field (enc := encTk) (size := 4) (fun _ => rfl) (by decide) hrep (by rw [mh_len (mkR_len _ _ _ _)]; exact hlt) 1 (by decide)
        obtain ⟨⟨u2, hu2⟩, hz2⟩ := own_field (enc := encTk) (size := 4) (fun _ => rfl) (by decide) hrep (by rw [mh_len (mkR_len _ _ _ _)]; exact hlt) 2 (by decide)
        obtain ⟨⟨u3, hu3⟩, hz3⟩ := own_field (enc := encTk) (size := 4) (fun _ => rfl) (by decide) hrep (by rw [mh_len (mkR_len _ _ _ _)]; exact hlt) 3 (by decide)
        rw [Nat.add_zero] at hu0 hz0
        have HR := Lib.hid hrep
        clear hmx hx
        have hq0 : 0 ≤ k + 4 * (i : Int) := by omega
        have hq1 : k + 4 * (i : Int) ≤ 4611686018427387904 := by omega
        go_wp2
        go_roundw
        case rel =>
          have hmx := HM.out
          obtain ⟨hr1, ho1, -⟩ := Rep.setField (enc := encTk) (size := 4) (fun _ => rfl) (by decide) hrep hmx 0 (by decide) (.int .i64 (k + 4 * (i : Int))) (y := (⟨k + 4 * (i : Int), x.need, x.tri, x.til⟩ : Tk)) (fun vk Sk h => by obtain ⟨rfl, rfl⟩ := tk_cells h; exact tk_mk _ _ _) hF
          rw [Nat.add_zero] at hr1 ho1
          have hm1 := set_get (y := (⟨k + 4 * (i : Int), x.need, x.tri, x.til⟩ : Tk)) hmx
          obtain ⟨hr2, ho2, -⟩ := Rep.setField (enc := encTk) (size := 4) (fun _ => rfl) (by decide) hr1 hm1 1 (by decide) (.int .i64 (k + 4 * (i : Int) + 1)) (y := (⟨k + 4 * (i : Int), k + 4 * (i : Int) + 1, x.tri, x.til⟩ : Tk)) (fun vk Sk h => by obtain ⟨rfl, rfl⟩ := tk_cells h; exact tk_mk _ _ _) hF
          have hm2 := set_get (y := (⟨k + 4 * (i : Int), k + 4 * (i : Int) + 1, x.tri, x.til⟩ : Tk)) hm1
          obtain ⟨hr3, ho3, -⟩ := Rep.setField (enc := encTk) (size := 4) (fun _ => rfl) (by decide) hr2 hm2 2 (by decide) (.int .i64 (k + 4 * (i : Int) + 1 + 1)) (y := (⟨k + 4 * (i : Int), k + 4 * (i : Int) + 1, k + 4 * (i : Int) + 1 + 1, x.til⟩ : Tk)) (fun vk Sk h => by obtain ⟨rfl, rfl⟩ := tk_cells h; exact tk_mk _ _ _) hF
          have hm3 := set_get (y := (⟨k + 4 * (i : Int), k + 4 * (i : Int) + 1, k + 4 * (i : Int) + 1 + 1, x.til⟩ : Tk)) hm2
          obtain ⟨hr4, ho4, -⟩ := Rep.setField (enc := encTk) (size := 4) (fun _ => rfl) (by decide) hr3 hm3 3 (by decide) (.int .i64 (k + 4 * (i : Int) + 1 + 1 + 1)) (y := (⟨k + 4 * (i : Int), k + 4 * (i : Int) + 1, k + 4 * (i : Int) + 1 + 1, k + 4 * (i : Int) + 1 + 1 + 1⟩ : Tk)) (fun vk Sk h => by obtain ⟨rfl, rfl⟩ := tk_cells h; exact tk_mk _ _ _) hF
          have hm4 := set_get (y := (⟨k + 4 * (i : Int), k + 4 * (i : Int) + 1, k + 4 * (i : Int) + 1 + 1, k + 4 * (i : Int) + 1 + 1 + 1⟩ : Tk)) hm3
          simp only [List.set_set] at hr4
          refine ⟨i + 1, by omega, by go_num, by go_num, ?_, hon.trans ((((ho1).trans ho2 (fun t h => .inl h)).trans ho3 (fun t h => .inl h)).trans ho4 (fun t h => .inl h)) (fun t h => .inl (by simp only [List.mem_singleton] at h; subst h; exact hg1))⟩
          rw [← mh_set (mkR_len _ _ _ _) (mkR_get mkTk 4 l.length k hlt)]
          exact hr4
        case measure => simp [intOf]; omega
    · obtain rfl : i = l.length := by omega
      go_wp2
      go_ret
      exact ⟨rfl, by rw [← mh_done (mkR_len mkTk 4 l.length k)]; exact hrep, hon⟩

set_option maxHeartbeats 2000000 in
theorem heldTaskS_c (m : Nat) (k : Int) (v : Value) (S : List Nat) (w : World) (own : Bool) (ha : Rep w own (encTks (mkR mkTk 4 m k)) v S) (h0 : 0 ≤ k) (h1 : k + 4 * (m : Int) ≤ 4611686018427387904) :
    Calls Tryz.prog 128 #[v, .int .i64 k] w fun e w' => e = .returned (.int .i64 (k + 4 * (m : Int))) ∧ Below w.heap.size w w' := by
  obtain ⟨A, c, rfl, hc1, hc2, hca⟩ := Rep.open_ (size := 4) (enc := encTk) (fun _ => rfl) (by decide) ha
  rw [mkR_len] at *
  unfold maxLen at hc2
  have hl1 : m ≤ 4611686018427387904 := by omega
  clear ha
  go_enter Tryz.func128, Tryz.ntmps128
  go_wp2
  go_loopw [1, 5] (fun q i wr => ∃ j : Nat, j ≤ m ∧ i = .int .i64 j ∧ q = .int .i64 (k + 4 * (j : Int)) ∧ Below w.heap.size w wr) (fun _ i _ => m - (intOf i).toNat)
  case atStart => exact ⟨0, by omega, rfl, by simp, Below.refl _ _⟩
  case round =>
    obtain ⟨i, hi, rfl, rfl, hbel⟩ := hrel
    by_cases hlt : i < m
    · obtain ⟨b1, o1, vk1, T1, rfl, -, hr1, -, -, hb1, hx1⟩ := hca i _ (mkR_get mkTk 4 m k hlt)
      clear hca
      · skip
        obtain ⟨rfl, rfl⟩ := tk_cells hr1
        have p0 := ctm (b := b1) (o := o1 + i * 4) hbel (hx1 0 _ rfl)
        have p1 := ctm (b := b1) (o := o1 + i * 4 + 1) hbel (hx1 1 _ rfl)
        have p2 := ctm (b := b1) (o := o1 + i * 4 + 2) hbel (hx1 2 _ rfl)
        have p3 := ctm (b := b1) (o := o1 + i * 4 + 3) hbel (hx1 3 _ rfl)
        simp only [mkTk] at p0 p1 p2 p3
        clear hx1
        have hq0 : 0 ≤ k + 4 * (i : Int) := by omega
        have hq1 : k + 4 * (i : Int) ≤ 4611686018427387904 := by omega
        go_wp2
        go_roundw
        case rel => exact ⟨i + 1, by omega, by go_num, by go_num, hbel⟩
        case measure => simp [intOf]; omega
    · obtain rfl : i = m := by omega
      clear hca
      go_wp2
      go_ret
      exact ⟨rfl, hbel⟩
end Go.Proofs.YtnhdcbhcocgjhaaGreat
namespace Go.Proofs.YtnhdcbhcocgjhaaGreat
open Go.RowKit Go.Sort Go.BigFrame

/-- Element after element, each from where the last left off. -/
def mkL {α : Type} (mk : α → Int → α) (cnt : α → Nat) : List α → Int → List α
  | [], _ => []
  | x :: l, k => mk x k :: mkL mk cnt l (k + (cnt x : Int))
theorem mkL_len {α : Type} (mk : α → Int → α) (cnt : α → Nat) : ∀ (l : List α) (k : Int), (mkL mk cnt l k).length = l.length
  | [], _ => rfl
  | _ :: l, k => by rw [mkL, List.length_cons, List.length_cons, mkL_len mk cnt l]
theorem mkL_get {α : Type} (mk : α → Int → α) (cnt : α → Nat) : ∀ (l : List α) (k : Int) {i : Nat} {x : α}, l[i]? = some x → (mkL mk cnt l k)[i]? = some (mk x (k + (tsum cnt (l.take i) : Nat)))
  | [], _, i, x, h => by simp at h
  | y :: l, k, 0, x, h => by
    simp at h
    subst h
    simp [mkL, tsum]
  | y :: l, k, i + 1, x, h => by
    simp only [List.getElem?_cons_succ] at h
    rw [mkL, List.getElem?_cons_succ, mkL_get mk cnt l _ h, List.take_succ_cons]
    have : tsum cnt (y :: l.take i) = cnt y + tsum cnt (l.take i) := by simp [tsum]
    rw [this]
    congr 2
    push_cast
    omega

/-- An element of an owned slice, its own memory apart: what turns in that memory alone turns that element alone. -/
theorem Rep.inElem {α : Type} {enc : α → List D} {size : Nat} {ty : TypeId} {w : World} {xs : List α} {S : List Nat} {B : Nat} {g n c k : Nat} {x : α}
    (hl : ∀ x, (enc x).length = size) (hs : 0 < size) (h : Rep w true (.sl size ty (xs.flatMap enc)) (.slice (some ⟨g, 0, none⟩) n c) S) (hF : Go.Proofs.YtnhdcbhcocgjhaaGreat.Fresh B S) (hx : xs[k]? = some x) :
    ∃ vk Sk, RepL w true (enc x) vk Sk ∧ (∀ s ∈ Sk, s ∈ S) ∧ Go.Proofs.YtnhdcbhcocgjhaaGreat.Fresh B Sk ∧ (∀ j u, vk[j]? = some u → w.cell? ⟨g, k * size + j, none⟩ = some u) ∧ g ∉ Sk ∧ g ∈ S ∧
      ∀ w' y, Only Sk w w' → RepL w' true (enc y) vk Sk → Rep w' true (.sl size ty ((xs.set k y).flatMap enc)) (.slice (some ⟨g, 0, none⟩) n c) S := by
  obtain ⟨vs, S1, h1, h2, rfl⟩ := Rep.own hl hs h
  have hk : k < xs.length := (List.getElem?_eq_some_iff.1 hx).1
  obtain ⟨v1, vk, v2, Sa, Sk, Sb, rfl, hv1, hvk, rfl, hr, hra, hrb⟩ := RepL.get hl xs h2 k x hx
  have hn : n = xs.length := by
    rcases h1.2 with ⟨e, _⟩ | ⟨g', cap', cur, e, _⟩
    · cases e
    · simp only [Value.slice.injEq] at e; exact e.2.1
  subst hn
  have hglt : g < w.heap.size := h1.lt g rfl |>.2
  have hg : g ∉ Sk := fun hh => hF.apart g (by simp [blk]) (by simp [hh])
  have hsz : k * size + size ≤ xs.length * size := by rw [← Nat.succ_mul]; exact Nat.mul_le_mul_right _ hk
  refine ⟨vk, Sk, hr, fun s hs => by simp [hs], hF.right.left.right, fun j u hu => ?_, hg, by simp [blk], fun w' y ho hy => ?_⟩
  · have hj : j < size := by have := (List.getElem?_eq_some_iff.1 hu).1; omega
    rw [h1.cellAt (k * size + j) (by omega), List.append_assoc, List.getElem?_append_right (by omega), hv1, Nat.add_sub_cancel_left, List.getElem?_append_left (by omega)]
    exact hu
  · have hna : ∀ s ∈ Sa, s ∉ Sk := hF.right.left.apart
    have hnb : ∀ s ∈ Sb, s ∉ Sk := fun s hs hk' => hF.right.apart s (by simp [hk']) hs
    have h1' : w'.ownsRow 0 ty size (.slice (some ⟨g, 0, none⟩) xs.length c) xs.length (v1 ++ vk ++ v2) := by
      refine ⟨h1.1, ?_⟩
      rcases h1.2 with ⟨e, _⟩ | ⟨g', cap', cur, e, hb, hc, hr⟩
      · cases e
      · refine .inr ⟨g', cap', cur, e, hb, ?_, hr⟩
        simp only [Value.slice.injEq, Option.some.injEq, Addr.mk.injEq, and_true] at e
        obtain ⟨rfl, _⟩ := e
        rw [ho.block g hglt hg]
        exact hc
    exact Rep.of_own h1' (RepL.put xs hk (hra.only ho hna) hy (hrb.only ho hnb))

def c4 (l : List En) : Nat := 4 * l.length
def mkEs (l : List En) (k : Int) : List En := mkR mkEn 4 l.length k
set_option maxHeartbeats 2000000 in
theorem markEntrySS_c (l : List (List En)) (k : Int) (v : Value) (S : List Nat) (B : Nat) (w : World) (ha : Rep w true (encSh l) v S) (hF : Fresh B S) (h0 : 0 ≤ k) (h1 : k + (tsum c4 l : Nat) ≤ 2305843009213693952) (h2 : l.length ≤ 2305843009213693952) :
    Calls Tryz.prog 58 #[v, .int .i64 k] w fun e w' => e = .returned (.int .i64 (k + (tsum c4 l : Nat))) ∧ Rep w' true (encSh (mkL mkEs c4 l k)) v S ∧ Only S w w' := by
  obtain ⟨A, c, rfl, hc1, hc2, -⟩ := Rep.open_ (size := 1) (enc := fun es => [encEns es]) (fun _ => rfl) (by decide) ha
  go_enter Tryz.func58, Tryz.ntmps58
  go_wp2
  go_loopw [1, 5] (fun q i wr => ∃ j : Nat, j ≤ l.length ∧ i = .int .i64 j ∧ q = .int .i64 (k + (tsum c4 (l.take j) : Nat)) ∧ Rep wr true (encSh (mh (mkL mkEs c4 l k) l j)) (.slice A l.length c) S ∧ Only S w wr) (fun _ i _ => l.length - (intOf i).toNat)
  case atStart => exact ⟨0, by omega, rfl, by simp [tsum], by rw [mh_zero]; exact ha, Only.refl _ _⟩
  case round =>
    obtain ⟨i, hi, rfl, rfl, hrep, hon⟩ := hrel
    by_cases hlt : i < l.length
    · obtain ⟨x, hx⟩ := get_some hlt
      have hmx := mh_get (mkL_len mkEs c4 l k) hx
      obtain ⟨g, rfl, -, hg1, hg, -⟩ := Rep.head (enc := fun es => [encEns es]) (size := 1) (xs := mh (mkL mkEs c4 l k) l i) (fun _ => rfl) (by decide) hrep (by rw [mh_len (mkL_len _ _ _ _)]; omega)
      · skip
        obtain ⟨vk, Sk, hrk, hSk, hFk, hcell, hgk, -, hback⟩ := Rep.inElem (enc := fun es => [encEns es]) (size := 1) (fun _ => rfl) (by decide) hrep hF hmx
        obtain ⟨u, _, U0, U1, rfl, rfl, hu, rfl, rfl⟩ := hrk
        have p0 : wr.cell? ⟨g, i, none⟩ = some u := by simpa using hcell 0 u rfl
        obtain ⟨A1, n1, m1, rfl⟩ := Rep.form hu
        have hts := tsum_succ (tot := c4) hx
        have htl := tsum_le c4 l (i + 1)
        have hc4 : c4 x = 4 * x.length := rfl
        have HT := Lib.hid (show k + ((tsum c4 (l.take i) : Nat) : Int) + 4 * (x.length : Int) = k + ((tsum c4 (l.take (i + 1)) : Nat) : Int) by omega)
        have hq0 : 0 ≤ k + ((tsum c4 (l.take i) : Nat) : Int) := by omega
        have hq1 : k + ((tsum c4 (l.take i) : Nat) : Int) + 4 * (x.length : Int) ≤ 2305843009213693952 := by omega
        have HM := Lib.hid (mkL_get mkEs c4 l k hx)
        have HB := Lib.hid hback
        have HF := Lib.hid hFk
        clear hcell hmx hx hts htl hc4 hback
        generalize ((tsum c4 (l.take i) : Nat) : Int) = t at *
        simp only [List.append_nil] at *
        go_wp2_with (go_at_call 123; refine (markEntryS_c x (k + t) _ U0 B wr hu HF.out hq0 (by omega)).mono ?_; rintro e w' ⟨rfl, hr', ho'⟩)
        go_roundw
        case rel =>
          refine ⟨i + 1, by omega, by go_num, by rw [HT.out], ?_, hon.trans ho' (fun t ht => .inl (hSk t ht))⟩
          rw [← mh_set (mkL_len _ _ _ _) HM.out]
          exact HB.out w' _ ho' (by have h := RepL.cons_ hr' (RepL.nil_ (w := w') (own := true)); rw [List.append_nil] at h; exact h)
        case measure => simp [intOf]; omega
    · obtain rfl : i = l.length := by omega
      go_wp2
      go_ret
      rw [List.take_length]
      exact ⟨rfl, by rw [← mh_done (mkL_len mkEs c4 l k)]; exact hrep, hon⟩

set_option maxHeartbeats 2000000 in
theorem heldEntrySS_c (l : List (List En)) (k : Int) (v : Value) (S : List Nat) (w : World) (own : Bool) (ha : Rep w own (encSh (mkL mkEs c4 l k)) v S) (h0 : 0 ≤ k) (h1 : k + (tsum c4 l : Nat) ≤ 2305843009213693952) (h2 : l.length ≤ 2305843009213693952) :
    Calls Tryz.prog 60 #[v, .int .i64 k] w fun e w' => e = .returned (.int .i64 (k + (tsum c4 l : Nat))) ∧ Below w.heap.size w w' := by
  obtain ⟨A, c, rfl, hc1, hc2, hca⟩ := Rep.open_ (size := 1) (enc := fun es => [encEns es]) (fun _ => rfl) (by decide) ha
  rw [mkL_len] at *
  clear ha
  go_enter Tryz.func60, Tryz.ntmps60
  go_wp2
  go_loopw [1, 5] (fun q i wr => ∃ j : Nat, j ≤ l.length ∧ i = .int .i64 j ∧ q = .int .i64 (k + (tsum c4 (l.take j) : Nat)) ∧ Below w.heap.size w wr) (fun _ i _ => l.length - (intOf i).toNat)
  case atStart => exact ⟨0, by omega, rfl, by simp [tsum], Below.refl _ _⟩
  case round =>
    obtain ⟨i, hi, rfl, rfl, hbel⟩ := hrel
    by_cases hlt : i < l.length
    · obtain ⟨x, hx⟩ := get_some hlt
      obtain ⟨b1, o1, vk1, T1, rfl, -, hr1, -, -, hb1, hx1⟩ := hca i _ (mkL_get mkEs c4 l k hx)
      clear hca
      · skip
        obtain ⟨u, _, U0, U1, rfl, rfl, hu, rfl, rfl⟩ := hr1
        have p0 := ctm (b := b1) (o := o1 + i) hbel (by simpa using hx1 0 _ rfl)
        obtain ⟨A1, n1, rfl, hi1, hi2, -⟩ := Rep.open_ (size := 4) (enc := encEn) (fun _ => rfl) (by decide) hu
        have hts := tsum_succ (tot := c4) hx
        have htl := tsum_le c4 l (i + 1)
        have hc4 : c4 x = 4 * x.length := rfl
        have HT := Lib.hid (show k + ((tsum c4 (l.take i) : Nat) : Int) + 4 * (x.length : Int) = k + ((tsum c4 (l.take (i + 1)) : Nat) : Int) by omega)
        have hq0 : 0 ≤ k + ((tsum c4 (l.take i) : Nat) : Int) := by omega
        have hq1 : k + ((tsum c4 (l.take i) : Nat) : Int) + 4 * (x.length : Int) ≤ 2305843009213693952 := by omega
        clear hx1 hx hts htl hc4
        generalize ((tsum c4 (l.take i) : Nat) : Int) = t at *
        have hneg : decide (k + t + 4 * (x.length : Int) < 0) = false := by simp; omega
        go_wp2_with (go_at_call 126; refine (heldEntryS_c x.length (k + t) _ U0 wr own (up hu hbel) hq0 (by omega)).mono ?_; rintro e w' ⟨rfl, hb'⟩)
        go_roundw
        case rel => exact ⟨i + 1, by omega, by go_num, by rw [HT.out], bl_dn hbel hb'⟩
        case measure => simp [intOf]; omega
    · obtain rfl : i = l.length := by omega
      clear hca
      go_wp2
      go_ret
      rw [List.take_length]
      exact ⟨rfl, hbel⟩
end Go.Proofs.YtnhdcbhcocgjhaaGreat
namespace Go.Proofs.YtnhdcbhcocgjhaaGreat
open Go.RowKit Go.Sort Go.BigFrame

theorem onlyC {S : List Nat} {w w' : World} (ho : Only S w w') {b : Nat} (h : b < w.heap.size) (hS : b ∉ S) : (∀ o, w'.cell? ⟨b, o, none⟩ = w.cell? ⟨b, o, none⟩) ∧ (∀ o, w'.frozen? ⟨b, o, none⟩ = w.frozen? ⟨b, o, none⟩) := by
  have e : w'.heap[b]? = w.heap[b]? := ho.block b h hS
  exact ⟨fun o => World.cell?_of_block (w := w) (a := ⟨b, o, none⟩) e, fun o => World.frozen?_of_block (w := w) (a := ⟨b, o, none⟩) e⟩

/-- The marked one, and how many marks it takes. -/
def mkRn (x : Rn) (q : Int) : Rn := ⟨q, ⟨q + 1, q + 1 + 1, q + 1 + 1 + 1, q + 1 + 1 + 1 + 1, mkR mkEd 2 x.plan.edges.length (q + 1 + 1 + 1 + 1 + 1)⟩, q + 1 + 1 + 1 + 1 + 1 + 2 * (x.plan.edges.length : Int), mkR mkTk 4 x.tasks.length (q + 1 + 1 + 1 + 1 + 1 + 2 * (x.plan.edges.length : Int) + 1)⟩
def cRn (x : Rn) : Nat := 6 + 2 * x.plan.edges.length + 4 * x.tasks.length

set_option maxRecDepth 8000 in
set_option maxHeartbeats 8000000 in
theorem markRunS_c (l : List Rn) (k : Int) (v : Value) (S : List Nat) (B : Nat) (w : World) (ha : Rep w true (encRns l) v S) (hF : Fresh B S) (h0 : 0 ≤ k) (h1 : k + (tsum cRn l : Nat) ≤ 2305843009213693952) (h2 : l.length ≤ 2305843009213693952) :
    Calls Tryz.prog 59 #[v, .int .i64 k] w fun e w' => e = .returned (.int .i64 (k + (tsum cRn l : Nat))) ∧ Rep w' true (encRns (mkL mkRn cRn l k)) v S ∧ Only S w w' := by
  obtain ⟨A, c, rfl, hc1, hc2, -⟩ := Rep.open_ (size := 8) (enc := encRn) (fun _ => rfl) (by decide) ha
  go_enter Tryz.func59, Tryz.ntmps59
  go_wp2
  go_loopw [1, 5] (fun q i wr => ∃ j : Nat, j ≤ l.length ∧ i = .int .i64 j ∧ q = .int .i64 (k + (tsum cRn (l.take j) : Nat)) ∧ Rep wr true (encRns (mh (mkL mkRn cRn l k) l j)) (.slice A l.length c) S ∧ Only S w wr) (fun _ i _ => l.length - (intOf i).toNat)
  case atStart => exact ⟨0, by omega, rfl, by simp [tsum], by rw [mh_zero]; exact ha, Only.refl _ _⟩
  case round =>
    obtain ⟨i, hi, rfl, rfl, hrep, hon⟩ := hrel
    by_cases hlt : i < l.length
    · obtain ⟨x, hx⟩ := get_some hlt
      have hmx := mh_get (mkL_len mkRn cRn l k) hx
      obtain ⟨g, rfl, -, hg1, hg, -⟩ := Rep.head (enc := encRn) (size := 8) (xs := mh (mkL mkRn cRn l k) l i) (fun _ => rfl) (by decide) hrep (by rw [mh_len (mkL_len _ _ _ _)]; omega)
      · skip
        have hts := tsum_succ (tot := cRn) hx
        have htl := tsum_le cRn l (i + 1)
        have hcx : cRn x = 6 + 2 * x.plan.edges.length + 4 * x.tasks.length := rfl
        obtain ⟨q, hq⟩ : ∃ q, q = k + ((tsum cRn (l.take i) : Nat) : Int) := ⟨_, rfl⟩
        have HT := Lib.hid (show q + 1 + 1 + 1 + 1 + 1 + 2 * (x.plan.edges.length : Int) + 1 + 4 * (x.tasks.length : Int) = k + ((tsum cRn (l.take (i + 1)) : Nat) : Int) by omega)
        have hq0 : 0 ≤ q := by omega
        have hq1 : q + 1 + 1 + 1 + 1 + 1 + 2 * (x.plan.edges.length : Int) + 1 + 4 * (x.tasks.length : Int) ≤ 2305843009213693952 := by omega
        have HM := Lib.hid (mkL_get mkRn cRn l k hx)
        rw [← hq] at HM ⊢
        clear hq
        obtain ⟨vk, Sk, hrk, hSk, hFk, hcell, hgk, -, -⟩ := Rep.inElem (enc := encRn) (size := 8) (fun _ => rfl) (by decide) hrep hF hmx
        obtain ⟨sv5, sv7, U0, U1, rfl, hs5, hs7, rfl⟩ := rn_cells hrk
        obtain ⟨A5, n5, m5, rfl⟩ := Rep.form hs5
        obtain ⟨A7, n7, m7, rfl⟩ := Rep.form hs7
        have p0 : wr.cell? ⟨g, i * 8, none⟩ = _ := hcell 0 _ rfl
        have p1 : wr.cell? ⟨g, i * 8 + 1, none⟩ = _ := hcell 1 _ rfl
        have p2 : wr.cell? ⟨g, i * 8 + 2, none⟩ = _ := hcell 2 _ rfl
        have p3 : wr.cell? ⟨g, i * 8 + 3, none⟩ = _ := hcell 3 _ rfl
        have p4 : wr.cell? ⟨g, i * 8 + 4, none⟩ = _ := hcell 4 _ rfl
        have p5 : wr.cell? ⟨g, i * 8 + 5, none⟩ = _ := hcell 5 _ rfl
        have p6 : wr.cell? ⟨g, i * 8 + 6, none⟩ = _ := hcell 6 _ rfl
        have p7 : wr.cell? ⟨g, i * 8 + 7, none⟩ = _ := hcell 7 _ rfl
        have z0 : wr.frozen? ⟨g, i * 8, none⟩ = false := (own_field (enc := encRn) (size := 8) (fun _ => rfl) (by decide) hrep (by rw [mh_len (mkL_len _ _ _ _)]; exact hlt) 0 (by decide)).2
        have z1 : wr.frozen? ⟨g, i * 8 + 1, none⟩ = false := (own_field (enc := encRn) (size := 8) (fun _ => rfl) (by decide) hrep (by rw [mh_len (mkL_len _ _ _ _)]; exact hlt) 1 (by decide)).2
        have z2 : wr.frozen? ⟨g, i * 8 + 2, none⟩ = false := (own_field (enc := encRn) (size := 8) (fun _ => rfl) (by decide) hrep (by rw [mh_len (mkL_len _ _ _ _)]; exact hlt) 2 (by decide)).2
        have z3 : wr.frozen? ⟨g, i * 8 + 3, none⟩ = false := (own_field (enc := encRn) (size := 8) (fun _ => rfl) (by decide) hrep (by rw [mh_len (mkL_len _ _ _ _)]; exact hlt) 3 (by decide)).2
        have z4 : wr.frozen? ⟨g, i * 8 + 4, none⟩ = false := (own_field (enc := encRn) (size := 8) (fun _ => rfl) (by decide) hrep (by rw [mh_len (mkL_len _ _ _ _)]; exact hlt) 4 (by decide)).2
        have z6 : wr.frozen? ⟨g, i * 8 + 6, none⟩ = false := (own_field (enc := encRn) (size := 8) (fun _ => rfl) (by decide) hrep (by rw [mh_len (mkL_len _ _ _ _)]; exact hlt) 6 (by decide)).2
        clear hcell hx hts htl hcx
        go_wp2_with (first
          | (go_at_call 124; obtain ⟨hr0, ho0, -⟩ := Rep.setField (enc := encRn) (size := 8) (fun _ => rfl) (by decide) hrep hmx 0 (by decide) (.int .i64 (q)) (y := (⟨q, ⟨x.plan.prio, x.plan.most, x.plan.wait, x.plan.tasks, x.plan.edges⟩, x.state, x.tasks⟩ : Rn)) (fun vk Sk h => by obtain ⟨_, _, _, _, rfl, k1, k2, rfl⟩ := rn_cells h; exact rn_mk k1 k2) hF; rw [Nat.add_zero] at hr0 ho0; have hm0 := set_get (y := (⟨q, ⟨x.plan.prio, x.plan.most, x.plan.wait, x.plan.tasks, x.plan.edges⟩, x.state, x.tasks⟩ : Rn)) hmx; obtain ⟨hr1, ho1, -⟩ := Rep.setField (enc := encRn) (size := 8) (fun _ => rfl) (by decide) hr0 hm0 1 (by decide) (.int .i64 (q + 1)) (y := (⟨q, ⟨q + 1, x.plan.most, x.plan.wait, x.plan.tasks, x.plan.edges⟩, x.state, x.tasks⟩ : Rn)) (fun vk Sk h => by obtain ⟨_, _, _, _, rfl, k1, k2, rfl⟩ := rn_cells h; exact rn_mk k1 k2) hF; have hm1 := set_get (y := (⟨q, ⟨q + 1, x.plan.most, x.plan.wait, x.plan.tasks, x.plan.edges⟩, x.state, x.tasks⟩ : Rn)) hm0; obtain ⟨hr2, ho2, -⟩ := Rep.setField (enc := encRn) (size := 8) (fun _ => rfl) (by decide) hr1 hm1 2 (by decide) (.int .i64 (q + 1 + 1)) (y := (⟨q, ⟨q + 1, q + 1 + 1, x.plan.wait, x.plan.tasks, x.plan.edges⟩, x.state, x.tasks⟩ : Rn)) (fun vk Sk h => by obtain ⟨_, _, _, _, rfl, k1, k2, rfl⟩ := rn_cells h; exact rn_mk k1 k2) hF; have hm2 := set_get (y := (⟨q, ⟨q + 1, q + 1 + 1, x.plan.wait, x.plan.tasks, x.plan.edges⟩, x.state, x.tasks⟩ : Rn)) hm1; obtain ⟨hr3, ho3, -⟩ := Rep.setField (enc := encRn) (size := 8) (fun _ => rfl) (by decide) hr2 hm2 3 (by decide) (.int .i64 (q + 1 + 1 + 1)) (y := (⟨q, ⟨q + 1, q + 1 + 1, q + 1 + 1 + 1, x.plan.tasks, x.plan.edges⟩, x.state, x.tasks⟩ : Rn)) (fun vk Sk h => by obtain ⟨_, _, _, _, rfl, k1, k2, rfl⟩ := rn_cells h; exact rn_mk k1 k2) hF; have hm3 := set_get (y := (⟨q, ⟨q + 1, q + 1 + 1, q + 1 + 1 + 1, x.plan.tasks, x.plan.edges⟩, x.state, x.tasks⟩ : Rn)) hm2; obtain ⟨hr4, ho4, -⟩ := Rep.setField (enc := encRn) (size := 8) (fun _ => rfl) (by decide) hr3 hm3 4 (by decide) (.int .i64 (q + 1 + 1 + 1 + 1)) (y := (⟨q, ⟨q + 1, q + 1 + 1, q + 1 + 1 + 1, q + 1 + 1 + 1 + 1, x.plan.edges⟩, x.state, x.tasks⟩ : Rn)) (fun vk Sk h => by obtain ⟨_, _, _, _, rfl, k1, k2, rfl⟩ := rn_cells h; exact rn_mk k1 k2) hF; have hm4 := set_get (y := (⟨q, ⟨q + 1, q + 1 + 1, q + 1 + 1 + 1, q + 1 + 1 + 1 + 1, x.plan.edges⟩, x.state, x.tasks⟩ : Rn)) hm3; obtain ⟨vkA, SkA, hrkA, hSkA, hFkA, hcellA, hgkA, -, hbackA⟩ := Rep.inElem (enc := encRn) (size := 8) (fun _ => rfl) (by decide) hr4 hF hm4; obtain ⟨evA5, evA7, UA0, UA1, rfl, eA5, eA7, rfl⟩ := rn_cells hrkA; have hvA5 := hcellA 5 _ rfl; simp [go_sem, p5] at hvA5; subst hvA5; have hvA7 := hcellA 7 _ rfl; simp [go_sem, p7] at hvA7; subst hvA7; refine (markEdgeS_c x.plan.edges (q + 1 + 1 + 1 + 1 + 1) _ UA0 B _ eA5 hFkA.left (by omega) (by omega)).mono ?_; rintro e wA ⟨rfl, hrA, hoA⟩; obtain ⟨hdA, hzA⟩ := onlyC hoA (b := g) (by simpa using hg) (fun h => hgkA (by simp [h])); have hgA : g < wA.heap.size := Nat.lt_of_lt_of_le (by simpa using hg) hoA.size)
          | (go_at_call 125; have hbA := hbackA wA (⟨q, ⟨q + 1, q + 1 + 1, q + 1 + 1 + 1, q + 1 + 1 + 1 + 1, mkR mkEd 2 x.plan.edges.length (q + 1 + 1 + 1 + 1 + 1)⟩, x.state, x.tasks⟩ : Rn) (hoA.mono (fun s hs => .inl (by simp [hs]))) (rn_mk (r := (⟨q, ⟨q + 1, q + 1 + 1, q + 1 + 1 + 1, q + 1 + 1 + 1 + 1, mkR mkEd 2 x.plan.edges.length (q + 1 + 1 + 1 + 1 + 1)⟩, x.state, x.tasks⟩ : Rn)) hrA (eA7.only hoA (fun s hs ht => hFkA.apart s ht hs))); have hnA := set_get (y := (⟨q, ⟨q + 1, q + 1 + 1, q + 1 + 1 + 1, q + 1 + 1 + 1 + 1, mkR mkEd 2 x.plan.edges.length (q + 1 + 1 + 1 + 1 + 1)⟩, x.state, x.tasks⟩ : Rn)) hm4; obtain ⟨hr6, ho6, -⟩ := Rep.setField (enc := encRn) (size := 8) (fun _ => rfl) (by decide) hbA hnA 6 (by decide) (.int .i64 (q + 1 + 1 + 1 + 1 + 1 + 2 * (x.plan.edges.length : Int))) (y := (⟨q, ⟨q + 1, q + 1 + 1, q + 1 + 1 + 1, q + 1 + 1 + 1 + 1, mkR mkEd 2 x.plan.edges.length (q + 1 + 1 + 1 + 1 + 1)⟩, q + 1 + 1 + 1 + 1 + 1 + 2 * (x.plan.edges.length : Int), x.tasks⟩ : Rn)) (fun vk Sk h => by obtain ⟨_, _, _, _, rfl, k1, k2, rfl⟩ := rn_cells h; exact rn_mk k1 k2) hF; have hm6 := set_get (y := (⟨q, ⟨q + 1, q + 1 + 1, q + 1 + 1 + 1, q + 1 + 1 + 1 + 1, mkR mkEd 2 x.plan.edges.length (q + 1 + 1 + 1 + 1 + 1)⟩, q + 1 + 1 + 1 + 1 + 1 + 2 * (x.plan.edges.length : Int), x.tasks⟩ : Rn)) hnA; obtain ⟨vkB, SkB, hrkB, hSkB, hFkB, hcellB, hgkB, -, hbackB⟩ := Rep.inElem (enc := encRn) (size := 8) (fun _ => rfl) (by decide) hr6 hF hm6; obtain ⟨evB5, evB7, UB0, UB1, rfl, eB5, eB7, rfl⟩ := rn_cells hrkB; have hvB5 := hcellB 5 _ rfl; simp [go_sem, p5, hdA] at hvB5; subst hvB5; have hvB7 := hcellB 7 _ rfl; simp [go_sem, p7, hdA] at hvB7; subst hvB7; refine (markTaskS_c x.tasks (q + 1 + 1 + 1 + 1 + 1 + 2 * (x.plan.edges.length : Int) + 1) _ UB1 B _ eB7 hFkB.right (by omega) (by omega)).mono ?_; rintro e wB ⟨rfl, hrB, hoB⟩; obtain ⟨hdB, hzB⟩ := onlyC hoB (b := g) (by simpa using hgA) (fun h => hgkB (by simp [h])); have hgB : g < wB.heap.size := Nat.lt_of_lt_of_le (by simpa using hgA) hoB.size))
        go_roundw
        case rel =>
          have hbB := hbackB wB (⟨q, ⟨q + 1, q + 1 + 1, q + 1 + 1 + 1, q + 1 + 1 + 1 + 1, mkR mkEd 2 x.plan.edges.length (q + 1 + 1 + 1 + 1 + 1)⟩, q + 1 + 1 + 1 + 1 + 1 + 2 * (x.plan.edges.length : Int), mkR mkTk 4 x.tasks.length (q + 1 + 1 + 1 + 1 + 1 + 2 * (x.plan.edges.length : Int) + 1)⟩ : Rn) (hoB.mono (fun s hs => .inl (by simp [hs]))) (rn_mk (r := (⟨q, ⟨q + 1, q + 1 + 1, q + 1 + 1 + 1, q + 1 + 1 + 1 + 1, mkR mkEd 2 x.plan.edges.length (q + 1 + 1 + 1 + 1 + 1)⟩, q + 1 + 1 + 1 + 1 + 1 + 2 * (x.plan.edges.length : Int), mkR mkTk 4 x.tasks.length (q + 1 + 1 + 1 + 1 + 1 + 2 * (x.plan.edges.length : Int) + 1)⟩ : Rn)) (eB5.only hoB (fun s hs ht => hFkB.apart s hs ht)) hrB)
          have hnB := set_get (y := (⟨q, ⟨q + 1, q + 1 + 1, q + 1 + 1 + 1, q + 1 + 1 + 1 + 1, mkR mkEd 2 x.plan.edges.length (q + 1 + 1 + 1 + 1 + 1)⟩, q + 1 + 1 + 1 + 1 + 1 + 2 * (x.plan.edges.length : Int), mkR mkTk 4 x.tasks.length (q + 1 + 1 + 1 + 1 + 1 + 2 * (x.plan.edges.length : Int) + 1)⟩ : Rn)) hm6
          simp only [List.set_set] at hbB
          refine ⟨i + 1, by omega, by go_num, by first | (rw [← HT.out]) | (rw [← HT.out]; go_num), ?_, ((((((((hon.trans ho0 (fun t h => .inl (by simp only [List.mem_singleton] at h; subst h; exact hg1))).trans ho1 (fun t h => .inl (by simp only [List.mem_singleton] at h; subst h; exact hg1))).trans ho2 (fun t h => .inl (by simp only [List.mem_singleton] at h; subst h; exact hg1))).trans ho3 (fun t h => .inl (by simp only [List.mem_singleton] at h; subst h; exact hg1))).trans ho4 (fun t h => .inl (by simp only [List.mem_singleton] at h; subst h; exact hg1))).trans hoA (fun t h => .inl (hSkA t (by simp [h])))).trans ho6 (fun t h => .inl (by simp only [List.mem_singleton] at h; subst h; exact hg1))).trans hoB (fun t h => .inl (hSkB t (by simp [h]))))⟩
          rw [← mh_set (mkL_len _ _ _ _) HM.out]
          exact hbB
        case measure => simp [intOf]; omega
    · obtain rfl : i = l.length := by omega
      go_wp2
      go_ret
      rw [List.take_length]
      exact ⟨rfl, by rw [← mh_done (mkL_len mkRn cRn l k)]; exact hrep, hon⟩

set_option maxRecDepth 8000 in
set_option maxHeartbeats 8000000 in
theorem heldRunS_c (l : List Rn) (k : Int) (v : Value) (S : List Nat) (w : World) (own : Bool) (ha : Rep w own (encRns (mkL mkRn cRn l k)) v S) (h0 : 0 ≤ k) (h1 : k + (tsum cRn l : Nat) ≤ 2305843009213693952) (h2 : l.length ≤ 2305843009213693952) :
    Calls Tryz.prog 61 #[v, .int .i64 k] w fun e w' => e = .returned (.int .i64 (k + (tsum cRn l : Nat))) ∧ Below w.heap.size w w' := by
  obtain ⟨A, c, rfl, hc1, hc2, hca⟩ := Rep.open_ (size := 8) (enc := encRn) (fun _ => rfl) (by decide) ha
  rw [mkL_len] at *
  clear ha
  go_enter Tryz.func61, Tryz.ntmps61
  go_wp2
  go_loopw [1, 5] (fun q i wr => ∃ j : Nat, j ≤ l.length ∧ i = .int .i64 j ∧ q = .int .i64 (k + (tsum cRn (l.take j) : Nat)) ∧ Below w.heap.size w wr) (fun _ i _ => l.length - (intOf i).toNat)
  case atStart => exact ⟨0, by omega, rfl, by simp [tsum], Below.refl _ _⟩
  case round =>
    obtain ⟨i, hi, rfl, rfl, hbel⟩ := hrel
    by_cases hlt : i < l.length
    · obtain ⟨x, hx⟩ := get_some hlt
      obtain ⟨b1, o1, vk1, T1, rfl, -, hr1, -, -, hb1, hx1⟩ := hca i _ (mkL_get mkRn cRn l k hx)
      clear hca
      · skip
        have hts := tsum_succ (tot := cRn) hx
        have htl := tsum_le cRn l (i + 1)
        have hcx : cRn x = 6 + 2 * x.plan.edges.length + 4 * x.tasks.length := rfl
        obtain ⟨q, hq⟩ : ∃ q, q = k + ((tsum cRn (l.take i) : Nat) : Int) := ⟨_, rfl⟩
        have HT := Lib.hid (show q + 1 + 1 + 1 + 1 + 1 + 2 * (x.plan.edges.length : Int) + 1 + 4 * (x.tasks.length : Int) = k + ((tsum cRn (l.take (i + 1)) : Nat) : Int) by omega)
        have hq0 : 0 ≤ q := by omega
        have hq1 : q + 1 + 1 + 1 + 1 + 1 + 2 * (x.plan.edges.length : Int) + 1 + 4 * (x.tasks.length : Int) ≤ 2305843009213693952 := by omega
        rw [← hq] at hr1 ⊢
        clear hq hx hts htl hcx
        obtain ⟨sv5, sv7, U0, U1, rfl, hs5, hs7, rfl⟩ := rn_cells hr1
        obtain ⟨A5, n5, rfl, hi5, hj5, -⟩ := Rep.open_ (size := 2) (enc := encEd) (fun _ => rfl) (by decide) hs5
        obtain ⟨A7, n7, rfl, hi7, hj7, -⟩ := Rep.open_ (size := 4) (enc := encTk) (fun _ => rfl) (by decide) hs7
        have p0 := ctm (b := b1) (o := o1 + i * 8) hbel (hx1 0 _ rfl)
        have p1 := ctm (b := b1) (o := o1 + i * 8 + 1) hbel (hx1 1 _ rfl)
        have p2 := ctm (b := b1) (o := o1 + i * 8 + 2) hbel (hx1 2 _ rfl)
        have p3 := ctm (b := b1) (o := o1 + i * 8 + 3) hbel (hx1 3 _ rfl)
        have p4 := ctm (b := b1) (o := o1 + i * 8 + 4) hbel (hx1 4 _ rfl)
        have p5 := ctm (b := b1) (o := o1 + i * 8 + 5) hbel (hx1 5 _ rfl)
        have p6 := ctm (b := b1) (o := o1 + i * 8 + 6) hbel (hx1 6 _ rfl)
        have p7 := ctm (b := b1) (o := o1 + i * 8 + 7) hbel (hx1 7 _ rfl)
        simp only [mkRn, mkR_len] at *
        have hnegA : decide (q + 1 + 1 + 1 + 1 + 1 + 2 * (x.plan.edges.length : Int) < 0) = false := by simp; omega
        have hnegB : decide (q + 1 + 1 + 1 + 1 + 1 + 2 * (x.plan.edges.length : Int) + 1 + 4 * (x.tasks.length : Int) < 0) = false := by simp; omega
        have hlr : b1 < wr.heap.size := by have := hbel.size; omega
        clear hx1
        go_wp2_with (first
          | (go_at_call 127; refine (heldEdgeS_c x.plan.edges.length (q + 1 + 1 + 1 + 1 + 1) _ _ _ own (up hs5 (by first | exact hbel | assumption)) (by omega) (by omega)).mono ?_; rintro e wA ⟨rfl, hbA⟩; obtain ⟨hdA, hzA⟩ := bcell hbA; have hlA : b1 < wA.heap.size := by have := hbel.size; have := hbA.size; omega)
          | (go_at_call 128; refine (heldTaskS_c x.tasks.length (q + 1 + 1 + 1 + 1 + 1 + 2 * (x.plan.edges.length : Int) + 1) _ _ _ own (up hs7 (by first | exact (bl_dn hbel hbA) | assumption)) (by omega) (by omega)).mono ?_; rintro e wB ⟨rfl, hbB⟩; obtain ⟨hdB, hzB⟩ := bcell hbB; have hlB : b1 < wB.heap.size := by have := hbel.size; have := hbA.size; have := hbB.size; omega))
        go_roundw
        case rel => exact ⟨i + 1, by omega, by go_num, by first | (rw [← HT.out]) | (rw [← HT.out]; go_num), (bl_dn (bl_dn hbel hbA) hbB)⟩
        case measure => simp [intOf]; omega
    · obtain rfl : i = l.length := by omega
      clear hca
      go_wp2
      go_ret
      rw [List.take_length]
      exact ⟨rfl, hbel⟩

def mkYd (y : Yd) (k : Int) : Yd := ⟨y.now, y.seq, mkL mkEs c4 y.shelf k, mkL mkRn cRn y.runs (k + (tsum c4 y.shelf : Int))⟩
def cYd (y : Yd) : Nat := tsum c4 y.shelf + tsum cRn y.runs
set_option maxHeartbeats 2000000 in
theorem markYard_c (y : Yd) (k : Int) (v : Value) (S : List Nat) (B : Nat) (w : World) (ha : AggRep w true (encYd y) v S) (hF : Fresh B S) (h0 : 0 ≤ k) (h1 : k + (cYd y : Nat) ≤ 2305843009213693952) (h2 : y.shelf.length ≤ 2305843009213693952) (h3 : y.runs.length ≤ 2305843009213693952) :
    Calls Tryz.prog 16 #[v, .int .i64 k] w fun e w' => e = .returned (.int .i64 (k + (cYd y : Nat))) ∧ AggRep w' true (encYd (mkYd y k)) v S ∧ Only S w w' := by
  obtain ⟨_, rfl, ha⟩ := ha
  obtain ⟨sv, rv, S1, S2, rfl, ah0, ah1, rfl⟩ := yd_cells ha
  clear ha
  have hcy : (cYd y : Int) = (tsum c4 y.shelf : Int) + (tsum cRn y.runs : Int) := by simp [cYd]
  obtain ⟨A0, n0, m0, rfl⟩ := Rep.form ah0
  obtain ⟨A1, n1, m1, rfl⟩ := Rep.form ah1
  have hbx : w.heap.size ∉ S1 := fun h => absurd (Rep.lt _ ah0 _ h) (Nat.lt_irrefl _)
  have hq1 : k + (tsum c4 y.shelf : Int) + (tsum cRn y.runs : Int) ≤ 2305843009213693952 := by omega
  have HC := Lib.hid hcy
  clear hcy h1
  generalize ht1 : (tsum c4 y.shelf : Int) = t1 at *
  generalize ht2 : (tsum cRn y.runs : Int) = t2 at *
  have hp1 : 0 ≤ t1 := by omega
  have hp2 : 0 ≤ t2 := by omega
  have HT1 := Lib.hid ht1
  have HT2 := Lib.hid ht2
  clear ht1 ht2
  go_enter Tryz.func16, Tryz.ntmps16
  go_wp2_with (first
    | (go_at_call 58; go_loud (refine (markEntrySS_c y.shelf k _ S1 B _ (upA ah0 _) hF.left h0 (by rw [HT1.out]; omega) h2).mono ?_; rintro e w1 ⟨rfl, hr1, ho1⟩; (have hoc := onlyC ho1 (b := w.heap.size) (by simp) hbx); obtain ⟨hd1, hz1⟩ := hoc; (have ah1' := (upA ah1 _).only ho1 (fun s hs ht => hF.apart s ht hs)); (have hs1 := ho1.size); simp at hs1; rw [HT1.out]))
    | (go_at_call 59; refine (markRunS_c y.runs (k + t1) _ S2 B _ ah1' hF.right (by omega) (by rw [HT2.out]; omega) h3).mono ?_; rintro e w2 ⟨rfl, hr2, ho2⟩; rw [HT2.out]))
  go_ret
  refine ⟨ret_int (by rw [HC.out]; omega), ⟨_, rfl, yd_mk (y := mkYd y k) (hr1.only ho2 (fun s hs ht => hF.apart s hs ht)) (by unfold mkYd; rw [HT1.out]; exact hr2)⟩, ?_⟩
  exact ((Only.of_below (upB (Below.refl w.heap.size w) _)).trans (ho1.mono (T := S1 ++ S2) (fun s hs => .inl (by simp [hs]))) (fun t ht => .inl ht)).trans (ho2.mono (T := S1 ++ S2) (fun s hs => .inl (by simp [hs]))) (fun t ht => .inl ht)

set_option maxHeartbeats 2000000 in
theorem heldYard_c (y : Yd) (k : Int) (v : Value) (S : List Nat) (w : World) (own : Bool) (ha : AggRep w own (encYd (mkYd y k)) v S) (h0 : 0 ≤ k) (h1 : k + (cYd y : Nat) ≤ 2305843009213693952) (h2 : y.shelf.length ≤ 2305843009213693952) (h3 : y.runs.length ≤ 2305843009213693952) :
    Calls Tryz.prog 17 #[v, .int .i64 k] w fun e w' => e = .returned (.int .i64 (k + (cYd y : Nat))) ∧ Below w.heap.size w w' := by
  obtain ⟨_, rfl, ha⟩ := ha
  obtain ⟨sv, rv, S1, S2, rfl, ah0, ah1, rfl⟩ := yd_cells ha
  clear ha
  simp only [mkYd] at ah0 ah1
  have hcy : (cYd y : Int) = (tsum c4 y.shelf : Int) + (tsum cRn y.runs : Int) := by simp [cYd]
  have hq1 : k + (tsum c4 y.shelf : Int) + (tsum cRn y.runs : Int) ≤ 2305843009213693952 := by omega
  have HC := Lib.hid hcy
  clear hcy h1
  generalize ht1 : (tsum c4 y.shelf : Int) = t1 at *
  generalize ht2 : (tsum cRn y.runs : Int) = t2 at *
  have hp1 : 0 ≤ t1 := by omega
  have hp2 : 0 ≤ t2 := by omega
  have HT1 := Lib.hid ht1
  have HT2 := Lib.hid ht2
  clear ht1 ht2
  have hn1 : decide (k + t1 < 0) = false := by simp; omega
  have hn2 : decide (k + t1 + t2 < 0) = false := by simp; omega
  go_enter Tryz.func17, Tryz.ntmps17
  go_wp2_with (first
    | (go_at_call 60; refine (heldEntrySS_c y.shelf k _ _ _ own (upA ah0 _) h0 (by rw [HT1.out]; omega) h2).mono ?_; rintro e w1 ⟨rfl, hb1⟩; obtain ⟨hc1, hf1⟩ := bcell hb1; rw [HT1.out])
    | (go_at_call 61; refine (heldRunS_c y.runs (k + t1) _ _ _ own (up (upA ah1 _) hb1) (by omega) (by rw [HT2.out]; omega) h3).mono ?_; rintro e w2 ⟨rfl, hb2⟩; obtain ⟨hc2, hf2⟩ := bcell hb2; rw [HT2.out]))
  go_ret
  exact ⟨ret_int (by rw [HC.out]; omega), bl_dn (bl_dn (upB (Below.refl w.heap.size w) _) hb1) hb2⟩
end Go.Proofs.YtnhdcbhcocgjhaaGreat
set_option linter.unusedVariables false
namespace Go.Proofs.YtnhdcbhcocgjhaaGreat
open Go.RowKit Go.Sort

theorem p_eqYard (x y : Yd) : Pure Tryz.prog 15 [.agg (encYd x), .agg (encYd y)] (.c (.val (.bool (decide (x = y))))) := pure2 ⟨_, Tryz.func15, by kernel_rfl, by kernel_rfl⟩ fun w a b ⟨S, ha⟩ ⟨S2, hb⟩ => eqYard_c x y a b S S2 w false false ha hb
theorem p_toYard (x : Yd) (hsz : totYd x ≤ 2000000) : Pure Tryz.prog 13 [.agg (encYd x)] (.agg (encYd x)) := pure_agg ⟨_, Tryz.func13, by kernel_rfl, by kernel_rfl⟩ fun w a ⟨S, ha⟩ => toYard_c x a S w false ha hsz
theorem p_szYard (x : Yd) (left : Int) (h0 : 0 ≤ left) (h1 : left ≤ 1048576) : Pure Tryz.prog 11 [.agg (encYd x), .c (.val (.int .i64 left))] (.c (.val (.int .i64 (szf (totYd x) left)))) := pure2 ⟨_, Tryz.func11, by kernel_rfl, by kernel_rfl⟩ fun w a b ⟨S, ha⟩ hb => by rw [view_val hb]; exact szYard_c x a S w false left ha h0 h1
theorem p_heldYard (y : Yd) (k : Int) (h0 : 0 ≤ k) (h1 : k + (cYd y : Nat) ≤ 2305843009213693952) (h2 : y.shelf.length ≤ 2305843009213693952) (h3 : y.runs.length ≤ 2305843009213693952) : Pure Tryz.prog 17 [.agg (encYd (mkYd y k)), .c (.val (.int .i64 k))] (.c (.val (.int .i64 (k + (cYd y : Nat))))) := pure2 ⟨_, Tryz.func17, by kernel_rfl, by kernel_rfl⟩ fun w a b ⟨S, ha⟩ hb => by rw [view_val hb]; exact heldYard_c y k a S w false ha h0 h1 h2 h3
end Go.Proofs.YtnhdcbhcocgjhaaGreat
namespace Go.Proofs.YtnhdcbhcocgjhaaGreat
theorem tsum_mul {α : Type} {c t : α → Nat} {K : Nat} (h : ∀ x, c x ≤ K * t x + K) : ∀ l : List α, tsum c l ≤ K * tsum t l + K * l.length
  | [] => by simp [tsum]
  | x :: l => by
    have h1 := h x
    have h2 := tsum_mul h l
    simp only [tsum, List.map_cons, List.sum_cons, List.length_cons] at h2 ⊢
    rw [Nat.mul_add, Nat.mul_add]
    omega
theorem b_cRn (r : Rn) : cRn r ≤ 16 * totRn r + 16 := by
  simp only [cRn, totRn, totPl]; omega
theorem b_yd (y : Yd) : cYd y ≤ 16 * totYd y := by
  have h1 := tsum_mul (c := c4) (t := totEnS) (K := 16) (fun l => by simp only [c4, totEnS]; omega) y.shelf
  have h2 := tsum_mul b_cRn y.runs
  have h3 : totYd y = (y.shelf.length + tsum totEnS y.shelf) + (y.runs.length + tsum totRn y.runs) := rfl
  have h4 : cYd y = tsum c4 y.shelf + tsum cRn y.runs := rfl
  omega
@[go_sem] theorem mkYd_now (y : Yd) (k : Int) : (mkYd y k).now = y.now := rfl
@[go_sem] theorem mkYd_seq (y : Yd) (k : Int) : (mkYd y k).seq = y.seq := rfl
end Go.Proofs.YtnhdcbhcocgjhaaGreat
set_option linter.unusedSimpArgs false
set_option linter.unusedVariables false
set_option maxRecDepth 100000
namespace Go.Proofs.YtnhdcbhcocgjhaaGreat
open Go.RowKit Go.Sort
def c_laws_FnExactRestart : C := .seq (.reg [⟨some 1, none, .box 25 4 (.t 0)⟩, ⟨some 2, none, .mov (.c (.bool false))⟩]) (.seq (.reg [⟨some 3, none, .mov (.c (.int .i64 1048576))⟩]) (.seq (.reg [⟨some 11, none, .ld true 4 (.t 1)⟩, ⟨some 12, none, .mov (.t 3)⟩, ⟨some 13, none, .call 11 [.t 11, .t 12]⟩, ⟨some 3, none, .mov (.t 13)⟩]) (.seq (.seq (.reg [⟨some 14, none, .mov (.t 3)⟩, ⟨some 15, none, .bin .lss 3 (.t 14) (.c (.int .i64 0))⟩]) (.cond (.t 15) (.seq (.reg [⟨some 2, none, .mov (.c (.bool true))⟩]) .ret) .skip)) (.seq (.reg [⟨some 16, none, .ld true 4 (.t 1)⟩, ⟨some 17, none, .call 13 [.t 16]⟩, ⟨some 18, none, .call 22 [.t 17]⟩, ⟨some 4, none, .alloc 30 [.int .i64 0, .int .i64 0, .slice none 0 0, .slice none 0 0]⟩, ⟨none, none, .st 4 [none, none, some (1, 103), some (8, 80)] (.t 4) (.t 18)⟩]) (.seq (.reg [⟨some 19, none, .ld true 4 (.t 1)⟩, ⟨some 20, none, .call 13 [.t 19]⟩, ⟨some 5, none, .alloc 30 [.int .i64 0, .int .i64 0, .slice none 0 0, .slice none 0 0]⟩, ⟨none, none, .st 4 [none, none, some (1, 103), some (8, 80)] (.t 5) (.t 20)⟩]) (.seq (.reg [⟨some 21, none, .ld true 4 (.t 5)⟩, ⟨some 22, none, .call 23 [.t 21]⟩, ⟨some 6, none, .alloc 30 [.int .i64 0, .int .i64 0, .slice none 0 0, .slice none 0 0]⟩, ⟨none, none, .st 4 [none, none, some (1, 103), some (8, 80)] (.t 6) (.t 22)⟩]) (.seq (.seq (.reg [⟨some 23, none, .ld true 4 (.t 6)⟩, ⟨some 24, none, .ld true 4 (.t 4)⟩, ⟨some 25, none, .call 15 [.t 23, .t 24]⟩, ⟨some 26, none, .un .not (.t 25)⟩]) (.cond (.t 26) (.seq (.reg [⟨some 2, none, .mov (.c (.bool false))⟩]) .ret) .skip)) (.seq (.seq (.dreg (T.pure 0 ⟨some 27, none, .ld true 4 (.t 5)⟩ (T.pure 1 ⟨some 28, none, .ld true 4 (.t 1)⟩ (T.alt ⟨some 29, none, .call 13 [.t 28]⟩ [0] (T.alt ⟨some 30, none, .call 15 [.t 27, .t 29]⟩ [] (T.pure 4 ⟨some 31, none, .un .not (.t 30)⟩ T.done) T.stop) T.stop)))) (.cond (.t 31) (.seq (.reg [⟨some 2, none, .mov (.c (.bool false))⟩]) .ret) .skip)) (.seq (.reg [⟨some 7, none, .mov (.c (.int .i64 1))⟩]) (.seq (.reg [⟨some 32, none, .ld true 4 (.t 5)⟩, ⟨some 33, none, .mov (.t 7)⟩, ⟨some 34, none, .call 16 [.t 32, .t 33]⟩, ⟨some 7, none, .mov (.t 34)⟩]) (.seq (.seq (.reg [⟨some 35, none, .mov (.t 7)⟩, ⟨some 36, none, .bin .lss 3 (.t 35) (.c (.int .i64 0))⟩, ⟨some 37, none, .mov (.t 36)⟩, ⟨some 38, some (37, false), .ld true 4 (.t 6)⟩, ⟨some 39, some (37, false), .ld true 4 (.t 4)⟩, ⟨some 40, some (37, false), .call 15 [.t 38, .t 39]⟩, ⟨some 41, some (37, false), .un .not (.t 40)⟩, ⟨some 42, none, .pick (.t 37) (.c (.bool true)) (.t 41)⟩]) (.cond (.t 42) (.seq (.reg [⟨some 2, none, .mov (.c (.bool false))⟩]) .ret) .skip)) (.seq (.reg [⟨some 8, none, .mov (.c (.int .i64 1))⟩]) (.seq (.reg [⟨some 43, none, .ld true 4 (.t 6)⟩, ⟨some 44, none, .mov (.t 8)⟩, ⟨some 45, none, .call 16 [.t 43, .t 44]⟩, ⟨some 8, none, .mov (.t 45)⟩]) (.seq (.reg [⟨some 9, none, .mov (.c (.int .i64 1))⟩]) (.seq (.reg [⟨some 46, none, .ld true 4 (.t 6)⟩, ⟨some 47, none, .mov (.t 9)⟩, ⟨some 48, none, .call 17 [.t 46, .t 47]⟩, ⟨some 9, none, .mov (.t 48)⟩]) (.seq (.seq (.reg [⟨some 49, none, .mov (.t 9)⟩, ⟨some 50, none, .bin .lss 3 (.t 49) (.c (.int .i64 0))⟩]) (.cond (.t 50) (.seq (.reg [⟨some 2, none, .mov (.c (.bool false))⟩]) .ret) .skip)) (.seq (.seq (.reg [⟨some 51, none, .mov (.t 9)⟩, ⟨some 52, none, .mov (.t 8)⟩, ⟨some 53, none, .bin .neq 3 (.t 51) (.t 52)⟩]) (.cond (.t 53) (.seq (.reg [⟨some 2, none, .mov (.c (.bool false))⟩]) .ret) .skip)) (.seq (.reg [⟨some 54, none, .ld true 4 (.t 1)⟩, ⟨some 55, none, .call 13 [.t 54]⟩, ⟨some 56, none, .call 23 [.t 55]⟩, ⟨some 10, none, .alloc 30 [.int .i64 0, .int .i64 0, .slice none 0 0, .slice none 0 0]⟩, ⟨none, none, .st 4 [none, none, some (1, 103), some (8, 80)] (.t 10) (.t 56)⟩]) (.seq (.seq (.reg [⟨some 57, none, .ld true 4 (.t 10)⟩, ⟨some 58, none, .ld true 4 (.t 4)⟩, ⟨some 59, none, .call 15 [.t 57, .t 58]⟩, ⟨some 60, none, .un .not (.t 59)⟩]) (.cond (.t 60) (.seq (.reg [⟨some 2, none, .mov (.c (.bool false))⟩]) .ret) .skip)) (.seq (.reg [⟨some 9, none, .mov (.c (.int .i64 1))⟩]) (.seq (.reg [⟨some 61, none, .ld true 4 (.t 6)⟩, ⟨some 62, none, .mov (.t 9)⟩, ⟨some 63, none, .call 17 [.t 61, .t 62]⟩, ⟨some 9, none, .mov (.t 63)⟩]) (.seq (.seq (.reg [⟨some 64, none, .mov (.t 9)⟩, ⟨some 65, none, .bin .lss 3 (.t 64) (.c (.int .i64 0))⟩]) (.cond (.t 65) (.seq (.reg [⟨some 2, none, .mov (.c (.bool false))⟩]) .ret) .skip)) (.seq (.seq (.reg [⟨some 66, none, .mov (.t 9)⟩, ⟨some 67, none, .mov (.t 8)⟩, ⟨some 68, none, .bin .neq 3 (.t 66) (.t 67)⟩]) (.cond (.t 68) (.seq (.reg [⟨some 2, none, .mov (.c (.bool false))⟩]) .ret) .skip)) (.seq (.reg [⟨some 2, none, .mov (.c (.bool true))⟩]) .ret))))))))))))))))))))))))
theorem code_laws_FnExactRestart : fnC Tryz.prog Tryz.f6 = some (c_laws_FnExactRestart, [.t 2], 69) := by kernel_rfl
set_option maxHeartbeats 2000000 in
theorem p_Restart (b0 : Yd) : Pure Tryz.prog 6 [.agg (encYd b0)] (.c (.val (.bool true))) := by
  refine pure_fn Tryz.func6 code_laws_FnExactRestart (by simp) ?_
  unfold c_laws_FnExactRestart
  simp -implicitDefEqProofs only [go_sem, encYd, encNt, encDd, encPl, encRn, encEn, bne_self_eq_false, beq_self_eq_true]
  intros
  refine run_call (p_szYard b0 (1048576) (by omega) (by omega)) (by simp -implicitDefEqProofs only [go_sem, encYd, encNt, encDd, encPl, encRn, encEn, bne_self_eq_false, beq_self_eq_true]) fun η => ?_
  rcases szf_spec (totYd b0) (1048576) with ⟨hle0, hz0⟩ | ⟨hle0, hz0⟩
  rotate_left
  · simp -implicitDefEqProofs only [go_sem, encYd, encNt, encDd, encPl, encRn, encEn, bne_self_eq_false, beq_self_eq_true, hz0]
  have ht0 : totYd b0 ≤ 2000000 := by omega
  have hn0 : ¬ (1048576 - (totYd b0 : Int) < 0) := by omega
  simp -implicitDefEqProofs only [go_sem, encYd, encNt, encDd, encPl, encRn, encEn, bne_self_eq_false, beq_self_eq_true, hz0, hn0]
  intros
  have hca0 := b_yd b0
  have hsa0 : b0.shelf.length ≤ totYd b0 := by simp only [totYd, totSh]; omega
  have hra0 : b0.runs.length ≤ totYd b0 := by simp only [totYd, totRns]; omega
  have hq0 : totYd (restY b0) ≤ 2000000 := tot_rest b0 (by omega)
  have pS := p_spec_Restart b0 (by omega)
  have pI := p_impl_Restart b0 (by omega)
  generalize restY b0 = r0 at *
  have hcr0 := b_yd r0
  have hsr0 : r0.shelf.length ≤ totYd r0 := by simp only [totYd, totSh]; omega
  have hrr0 : r0.runs.length ≤ totYd r0 := by simp only [totYd, totRns]; omega
  refine run_call (p_toYard b0 (by omega)) (by simp -implicitDefEqProofs only [go_sem, encYd, encNt, encDd, encPl, encRn, encEn, bne_self_eq_false, beq_self_eq_true, hz0, hn0]) fun η1 => ?_
  simp -implicitDefEqProofs only [go_sem, encYd, encNt, encDd, encPl, encRn, encEn, bne_self_eq_false, beq_self_eq_true, hz0, hn0]
  intros
  refine run_call (pS) (by simp -implicitDefEqProofs only [go_sem, encYd, encNt, encDd, encPl, encRn, encEn, bne_self_eq_false, beq_self_eq_true, hz0, hn0]) fun η2 => ?_
  simp -implicitDefEqProofs only [go_sem, encYd, encNt, encDd, encPl, encRn, encEn, bne_self_eq_false, beq_self_eq_true, hz0, hn0]
  intros
  refine run_call (p_toYard b0 (by omega)) (by simp -implicitDefEqProofs only [go_sem, encYd, encNt, encDd, encPl, encRn, encEn, bne_self_eq_false, beq_self_eq_true, hz0, hn0]) fun η3 => ?_
  simp -implicitDefEqProofs only [go_sem, encYd, encNt, encDd, encPl, encRn, encEn, bne_self_eq_false, beq_self_eq_true, hz0, hn0]
  intros
  refine run_call (pI) (by simp -implicitDefEqProofs only [go_sem, encYd, encNt, encDd, encPl, encRn, encEn, bne_self_eq_false, beq_self_eq_true, hz0, hn0]) fun η4 => ?_
  simp -implicitDefEqProofs only [go_sem, encYd, encNt, encDd, encPl, encRn, encEn, bne_self_eq_false, beq_self_eq_true, hz0, hn0]
  intros
  refine run_call (p_eqYard r0 r0) (by simp -implicitDefEqProofs only [go_sem, encYd, encNt, encDd, encPl, encRn, encEn, bne_self_eq_false, beq_self_eq_true, hz0, hn0]) fun η5 => ?_
  simp -implicitDefEqProofs only [go_sem, encYd, encNt, encDd, encPl, encRn, encEn, bne_self_eq_false, beq_self_eq_true, hz0, hn0]
  intros
  refine run_call (p_toYard b0 (by omega)) (by simp -implicitDefEqProofs only [go_sem, encYd, encNt, encDd, encPl, encRn, encEn, bne_self_eq_false, beq_self_eq_true, hz0, hn0]) fun η6 => ?_
  simp -implicitDefEqProofs only [go_sem, encYd, encNt, encDd, encPl, encRn, encEn, bne_self_eq_false, beq_self_eq_true, hz0, hn0]
  intros
  refine run_call (p_eqYard b0 b0) (by simp -implicitDefEqProofs only [go_sem, encYd, encNt, encDd, encPl, encRn, encEn, bne_self_eq_false, beq_self_eq_true, hz0, hn0]) fun η7 => ?_
  simp -implicitDefEqProofs only [go_sem, encYd, encNt, encDd, encPl, encRn, encEn, bne_self_eq_false, beq_self_eq_true, hz0, hn0]
  intros
  refine mark_agg (k := 1) (r := 1 + ((cYd b0 : Nat) : Int)) (ds := encYd b0) (ds' := encYd (mkYd b0 1)) ⟨_, Tryz.func16, by kernel_rfl, by kernel_rfl⟩ (fun B w v S h hF => markYard_c b0 1 v S B w h hF (by decide) (by omega) (by omega) (by omega)) ?_
  have hm8 : ¬ (1 + ((cYd b0 : Nat) : Int) < 0) := by omega
  simp -implicitDefEqProofs only [go_sem, encYd, encNt, encDd, encPl, encRn, encEn, bne_self_eq_false, beq_self_eq_true, hz0, hn0, hm8]
  rintro η8 ⟨hm8h0, hm8h1⟩
  intros
  refine run_call (p_eqYard r0 r0) (by simp -implicitDefEqProofs only [go_sem, encYd, encNt, encDd, encPl, encRn, encEn, bne_self_eq_false, beq_self_eq_true, hz0, hn0, hm8, hm8h0, hm8h1]) fun η9 => ?_
  simp -implicitDefEqProofs only [go_sem, encYd, encNt, encDd, encPl, encRn, encEn, bne_self_eq_false, beq_self_eq_true, hz0, hn0, hm8, hm8h0, hm8h1]
  intros
  refine mark_agg (k := 1) (r := 1 + ((cYd r0 : Nat) : Int)) (ds := encYd r0) (ds' := encYd (mkYd r0 1)) ⟨_, Tryz.func16, by kernel_rfl, by kernel_rfl⟩ (fun B w v S h hF => markYard_c r0 1 v S B w h hF (by decide) (by omega) (by omega) (by omega)) ?_
  have hm10 : ¬ (1 + ((cYd r0 : Nat) : Int) < 0) := by omega
  simp -implicitDefEqProofs only [go_sem, encYd, encNt, encDd, encPl, encRn, encEn, bne_self_eq_false, beq_self_eq_true, hz0, hn0, hm8, hm8h0, hm8h1, hm10]
  rintro η10 ⟨hm10h0, hm10h1⟩
  intros
  refine run_call (p_heldYard r0 1 (by decide) (by omega) (by omega) (by omega)) (by simp -implicitDefEqProofs only [go_sem, encYd, encNt, encDd, encPl, encRn, encEn, bne_self_eq_false, beq_self_eq_true, hz0, hn0, hm8, hm8h0, hm8h1, hm10, hm10h0, hm10h1]) fun η11 => ?_
  simp -implicitDefEqProofs only [go_sem, encYd, encNt, encDd, encPl, encRn, encEn, bne_self_eq_false, beq_self_eq_true, hz0, hn0, hm8, hm8h0, hm8h1, hm10, hm10h0, hm10h1]
  intros
  refine run_call (p_toYard b0 (by omega)) (by simp -implicitDefEqProofs only [go_sem, encYd, encNt, encDd, encPl, encRn, encEn, bne_self_eq_false, beq_self_eq_true, hz0, hn0, hm8, hm8h0, hm8h1, hm10, hm10h0, hm10h1]) fun η12 => ?_
  simp -implicitDefEqProofs only [go_sem, encYd, encNt, encDd, encPl, encRn, encEn, bne_self_eq_false, beq_self_eq_true, hz0, hn0, hm8, hm8h0, hm8h1, hm10, hm10h0, hm10h1]
  intros
  refine run_call (pI) (by simp -implicitDefEqProofs only [go_sem, encYd, encNt, encDd, encPl, encRn, encEn, bne_self_eq_false, beq_self_eq_true, hz0, hn0, hm8, hm8h0, hm8h1, hm10, hm10h0, hm10h1]) fun η13 => ?_
  simp -implicitDefEqProofs only [go_sem, encYd, encNt, encDd, encPl, encRn, encEn, bne_self_eq_false, beq_self_eq_true, hz0, hn0, hm8, hm8h0, hm8h1, hm10, hm10h0, hm10h1]
  intros
  refine run_call (p_eqYard r0 r0) (by simp -implicitDefEqProofs only [go_sem, encYd, encNt, encDd, encPl, encRn, encEn, bne_self_eq_false, beq_self_eq_true, hz0, hn0, hm8, hm8h0, hm8h1, hm10, hm10h0, hm10h1]) fun η14 => ?_
  simp -implicitDefEqProofs only [go_sem, encYd, encNt, encDd, encPl, encRn, encEn, bne_self_eq_false, beq_self_eq_true, hz0, hn0, hm8, hm8h0, hm8h1, hm10, hm10h0, hm10h1]
  intros
  refine run_call (p_heldYard r0 1 (by decide) (by omega) (by omega) (by omega)) (by simp -implicitDefEqProofs only [go_sem, encYd, encNt, encDd, encPl, encRn, encEn, bne_self_eq_false, beq_self_eq_true, hz0, hn0, hm8, hm8h0, hm8h1, hm10, hm10h0, hm10h1]) fun η15 => ?_
  simp -implicitDefEqProofs only [go_sem, encYd, encNt, encDd, encPl, encRn, encEn, bne_self_eq_false, beq_self_eq_true, hz0, hn0, hm8, hm8h0, hm8h1, hm10, hm10h0, hm10h1]
end Go.Proofs.YtnhdcbhcocgjhaaGreat
namespace Go.Proofs.YtnhdcbhcocgjhaaGreat
open Go.ChangeShapes Go.WideShapes Go.ChangeAt Go.RowKit

theorem own : ownKnob Tryz.prog.godebug = none := by kernel_rfl
theorem laid : laidOutB Tryz.prog = true := by kernel_rfl

section
variable {H : Type} {enc : TypeId × Value → H} {P : Program}
theorem post_below {f : Func} {s : ChangeSpec} {apart fresh handsOn again : Bool} {W W' : World} {args : Array Value} {v : Value} {ds gs : List (DataW H)} {before pa pv : List MemPlace}
    (hW : DataW.Whole enc P f.params.toList s.vars apart W args.toList ds gs before)
    (hres : ∀ (b : Nat) (sp : Nat → Bool) (hd : Bool), DataW.TrodAll enc P W' b sp hd f.resultTypes.toList (v.resultList f.resultTypes.size) (s.fn H (ds ++ gs)).results [])
    (hargs : ∀ sp : Nat → Bool, (∀ p ∈ before, sp p.block = true) → DataW.TrodAll enc P W' 0 sp true f.params.toList args.toList (s.fn H (ds ++ gs)).args pa)
    (hvars : ∀ sp : Nat → Bool, (∀ p ∈ before, sp p.block = true) → DataW.TrodVars enc P W' sp s.vars (s.fn H (ds ++ gs)).vars pv)
    (hps : before = pa ++ pv) (hb : Below W.heap.size W W')
    (hok : ∀ (j : Nat) (t : TypeId) (r : Value), f.resultTypes[j]? = some t → (v.resultList f.resultTypes.size)[j]? = some r → Value.okWide P W' .any 0 t r) :
    s.post enc P f apart fresh handsOn again W args v W' := by
  have hlt : ∀ p ∈ before, p.block < W.heap.size := fun p hp => hW.lt p hp
  have hold : ∀ p ∈ before, (fun b => decide (b < W.heap.size)) p.block = true := fun p hp => by simpa using hlt p hp
  refine ⟨ds, gs, before, [], pa, pv, hW, hres _ _ _, hargs _ hold, hvars _ hold, World.keptBut_mono (fun p hp => ⟨hp, ?_⟩) (hb.frame (· ∈ before)), fun _ => ?_⟩
  · rw [hps, List.mem_append] at hp
    exact Or.inr hp
  · obtain ⟨_, _, _, _, _, hz, hn⟩ := hW
    refine ⟨hok, _, _, ([] ++ pa) ++ pv, ⟨[] ++ pa, pv, trodAll_append (hargs _ (fun _ _ => rfl)) (hres _ _ _), hvars _ (fun _ _ => rfl), rfl, ?_, ?_⟩, ?_⟩
    · intro b off hp
      have hin : MemPlace.cell b off ∈ before := by rw [hps]; simpa using hp
      rw [hb.frozen (hlt _ hin)]
      exact hz b off hin
    · intro ha
      have := hn ha
      rw [hps] at this
      simpa using this
    · intro p hp _
      rw [hps]
      simpa using hp
/-- An argument reads behind the call as it did, whichever spare places are read. -/
theorem arg_stays {t : TypeId} (hl : laidOutB P = true) (hr : P.readableRec t = true) (hrow : t < P.types.size) {W W' : World} {v : Value} {d : DataW H} {ps : List MemPlace} {sp : Nat → Bool}
    (h : DataW.Trod enc P W 0 (fun _ => true) true t v d ps) (hb : Below W.heap.size W W') (hlt : ∀ x ∈ ps, x.block < W.heap.size) (hsp : ∀ x ∈ ps, sp x.block = true) :
    DataW.Trod enc P W' 0 sp true t v d ps :=
  WideElems.Trod_stays hl hr hrow h (fun x hx => hb.same (hlt x hx)) (fun x hx => hsp x hx)
end
/-- An argument that is a struct: its value, and what it reads as. -/
theorem open_data {H : Type} {enc : TypeId × Value → H} {P : Program} {t : TypeId} {α : Type} {E : α → List D} {X : α → Prop} (hra : ReadsAs P t E X) {fs : Array Field} (ht : P.underlying t = some (.struct fs))
    {W : World} {v : Value} {d : DataW H} {p : List MemPlace} {base : Nat} {spare : Nat → Bool} {held : Bool} {r : _root_.Go.Reach} {b0 : Nat} (hv : Value.okWide P W r b0 t v) (h : DataW.Trod enc P W base spare held t v d p) :
    ∃ x, X x ∧ ∃ S, AggRep W false (E x) v S := by
  obtain ⟨cs, rfl, _⟩ := okWide_struct ht hv
  obtain ⟨fuel, hf⟩ := h
  obtain ⟨x, hx, S, hr⟩ := hra _ _ _ _ _ _ _ _ _ hf
  exact ⟨x, hx, S, _, by simp [Value.cells], hr⟩
/-- A law that has been shown. -/
theorem law_calls {P : Program} {f : FuncId} {vs : List View} {args : List Value} {w : World} (h : Pure P f vs (.c (.val (.bool true)))) (hv : ViewsRel w vs args) :
    Calls P f args.toArray w fun e w' => e = .returned (.bool true) ∧ Below w.heap.size w w' :=
  (h.2 w args hv).mono fun e w' ⟨v, S, he, hr, _, hb⟩ => ⟨by rw [he, show v = _ from hr.1], hb⟩
end Go.Proofs.YtnhdcbhcocgjhaaGreat
