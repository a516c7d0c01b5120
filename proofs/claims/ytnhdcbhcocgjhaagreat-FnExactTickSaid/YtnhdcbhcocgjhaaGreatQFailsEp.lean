/- Texts for laws: FailsEp. -/
import Derived.Test.YtnhdcbhcocgjhaaGreatQTurnP
set_option linter.unusedSimpArgs false
set_option linter.unusedVariables false
set_option maxRecDepth 100000
namespace Go.Proofs.YtnhdcbhcocgjhaaGreat
open Go.RowKit Go.Sort
set_option maxHeartbeats 8000000 in
theorem ep_fails {k t : Nat} {y : Yd} {r : Rn} (hr : y.runs[k]? = some r) (hrun : runsB r t = true) : EpK Tryz.prog 64 k t y (runFails r t) := by
  intro o b10 e2 e3 h10
  refine inl_fn (β := 7000000) Tryz.func64 code_impl_fails (by simp) ?_
  unfold c_impl_fails
  obtain ⟨t', x, ht', hx, hs, hP⟩ := runs_yes hrun
  obtain rfl : t = t' := by omega
  obtain ⟨n, hn, hn1, h12, h30, hes, hnd, -⟩ := pf_0 hP.plan
  have hlen := hP.len
  have hkl := (List.getElem?_eq_some_iff.1 hr).1
  have htl' := (List.getElem?_eq_some_iff.1 hx).1
  have h0t : (t : Int) ≥ 0 := by omega
  have hx2 : (r.tasks.set t ⟨x.state, x.need, x.tri, 0⟩)[t]? = some ⟨x.state, x.need, x.tri, 0⟩ := List.getElem?_set_self htl'
  have hS : ∀ r' : Rn, (y.runs.set k r')[k]? = some r' := fun r' => List.getElem?_set_self hkl
  have q1 := hS ⟨r.id, r.plan, r.state, r.tasks.set t ⟨x.state, x.need, x.tri, 0⟩⟩
  simp -implicitDefEqProofs only [go_sem, h10, Nat.add_zero, htl', h0t, at_rn7 hr, in_rn7 hr, get_rns7 hr, in_tk3 hx, at_tk3 hx, put_rn7 hr (put_tk3 hx 0), at_rn7 q1, in_rn7 q1, get_rns7 q1, at_tk2 hx2, in_tk2 hx2, at_rnM q1, in_rnM q1]
  by_cases hm : x.tri < r.plan.most
  · have hR : runFails r t = ⟨r.id, r.plan, r.state, r.tasks.set t ⟨2, x.need, x.tri, 0⟩⟩ := by rw [runFails_yes hx hrun, failsR, if_pos hm]
    simp -implicitDefEqProofs only [go_sem, Nat.add_zero, hm, hR, at_rn7 q1, in_rn7 q1, get_rns7 q1, at_tk0 hx2, in_tk0 hx2, at_tk0' hx2, in_tk0' hx2, put_rn7 q1 (put_tk0 hx2 2), put_rn7 q1 (put_tk0' hx2 2), List.set_set]
    exact ⟨rfl, rfl, rfl, rfl, rfl, rfl⟩
  have hR : runFails r t = ⟨r.id, r.plan, 3, mapK leaveG (r.tasks.set t ⟨5, x.need, x.tri, 0⟩) r.tasks.length⟩ := by rw [runFails_yes hx hrun, failsR, if_neg hm]
  rw [hR, ← fails_leave hP hx hs]
  simp -implicitDefEqProofs only [go_sem, Nat.add_zero, hm, at_rn7 q1, in_rn7 q1, get_rns7 q1, at_tk0 hx2, in_tk0 hx2, at_tk0' hx2, in_tk0' hx2, put_rn7 q1 (put_tk0 hx2 5), put_rn7 q1 (put_tk0' hx2 5), List.set_set]
  have htl : (r.tasks.set t ⟨5, x.need, x.tri, 0⟩).length = r.tasks.length := by rw [List.length_set]
  generalize r.tasks.set t ⟨5, x.need, x.tri, 0⟩ = ts0 at *
  refine run_inl (inl_fn (β := 8000000) Tryz.func130 code_impl_leave (by simp) ?_)
  unfold c_impl_leave
  have q2 := hS ⟨r.id, r.plan, r.state, ts0⟩
  simp -implicitDefEqProofs only [go_sem, Nat.add_zero, at_rn7 q2, in_rn7 q2, get_rns7 q2]
  refine wp_loopW (fun i : Nat => St.of [(0, .c (.ep 90 3 [] (k * 8) (e3 []))), (1, Ni t), (10, Ni ts0.length), (11, Ni i)] [(90, YdBox b10 tYd y.now y.seq y.shelf e2 (y.runs.set k ⟨r.id, r.plan, r.state, mapK (leaveF t) ts0 i⟩) e3), (91, o 91), (92, o 92), (93, o 93), (94, o 94), (95, o 95), (96, o 96), (97, o 97)]) (fun i => i ≤ ts0.length) (fun i => ts0.length - i) 0 (by (try dsimp only); first | omega | (simp; done) | (and_intros <;> first | omega | simp)) (wk_of [some 90, some 91, some 92, some 93, some 94, some 95, some 96, some 97] (by simp -implicitDefEqProofs only [go_sem, encRn, encPl, mapK_0, simO_self] <;> and_intros <;> first | rfl | assumption)) ?_
  rintro j hj
  have hml := mapK_len (f := leaveF t) (ts := ts0) (k := j)
  by_cases hlt : j < ts0.length
  · have hlt' : (j : Int) < ts0.length := by omega
    have h0j : (j : Int) ≥ 0 := by omega
    obtain ⟨z, hz⟩ := get_some hlt
    have hyk := mapK_get (f := leaveF t) hz
    have hset := mapK_set (f := leaveF t) hz
    have hsame := mapK_same (f := leaveF t) hz
    generalize mapK (leaveF t) ts0 j = M at *
    have hw : IntKind.i64.wrap ((j : Int) + 1) = ((j + 1 : Nat) : Int) := wrap64 (by omega) (by omega)
    have hlm : j < M.length := by omega
    have p1 := hS ⟨r.id, r.plan, r.state, M⟩
    cases hne : (j : Int) != (t : Int)
    · have hg : leaveF t j z = z := by have : (j : Int) = t := by simpa using hne
                                       simp [leaveF, this]
      have hq := hsame hg
      simp -implicitDefEqProofs only [go_sem, encRn, encPl, Nat.add_zero, hml, hlt', h0j, hlt, at_rn7 p1, in_rn7 p1, get_rns7 p1, hne, hw]
      exact ⟨j + 1, by (try dsimp only); first | omega | assumption | (and_intros <;> first | omega | assumption), (wk_of [some 90, some 91, some 92, some 93, some 94, some 95, some 96, some 97] (by simp -implicitDefEqProofs only [go_sem, encRn, encPl, hq, simO_self] <;> and_intros <;> first | rfl | assumption)), by (try dsimp only); omega⟩
    have hne' : ¬ (j : Int) = t := by simpa using hne
    cases hc4 : z.state != 4
    · have hg : leaveF t j z = z := by have : z.state = 4 := by simpa using hc4
                                       simp [leaveF, this]
      have hq := hsame hg
      simp -implicitDefEqProofs only [go_sem, encRn, encPl, Nat.add_zero, hml, hlt', h0j, hlt, at_rn7 p1, in_rn7 p1, get_rns7 p1, hne, at_tk0 hyk, at_tk0' hyk, in_tk0 hyk, in_tk0' hyk, hc4, hw]
      exact ⟨j + 1, by (try dsimp only); first | omega | assumption | (and_intros <;> first | omega | assumption), (wk_of [some 90, some 91, some 92, some 93, some 94, some 95, some 96, some 97] (by simp -implicitDefEqProofs only [go_sem, encRn, encPl, hq, simO_self] <;> and_intros <;> first | rfl | assumption)), by (try dsimp only); omega⟩
    · have hg : leaveF t j z = ⟨6, z.need, z.tri, 0⟩ := by
        have h1 : ¬ z.state = 4 := by simpa using hc4
        simp [leaveF, h1, hne']
      rw [hg] at hset
      have hyk2 : (M.set j ⟨6, z.need, z.tri, z.til⟩)[j]? = some ⟨6, z.need, z.tri, z.til⟩ := List.getElem?_set_self hlm
      have p2 := hS ⟨r.id, r.plan, r.state, M.set j ⟨6, z.need, z.tri, z.til⟩⟩
      simp -implicitDefEqProofs only [go_sem, encRn, encPl, Nat.add_zero, hml, hlt', h0j, hlt, at_rn7 p1, in_rn7 p1, get_rns7 p1, hne, at_tk0 hyk, at_tk0' hyk, in_tk0 hyk, in_tk0' hyk, hc4, put_rn7 p1 (put_tk0 hyk 6), put_rn7 p1 (put_tk0' hyk 6), at_rn7 p2, in_rn7 p2, get_rns7 p2, put_rn7 p2 (put_tk3 hyk2 0), in_tk3 hyk2, at_tk3 hyk2, List.set_set, hset, hw]
      exact ⟨j + 1, by (try dsimp only); first | omega | assumption | (and_intros <;> first | omega | assumption), (wk_of [some 90, some 91, some 92, some 93, some 94, some 95, some 96, some 97] (by simp -implicitDefEqProofs only [go_sem, encRn, encPl, simO_self] <;> and_intros <;> first | rfl | assumption)), by (try dsimp only); omega⟩
  have hlt' : ¬ (j : Int) < ts0.length := by omega
  obtain rfl : j = ts0.length := by omega
  rw [← htl]
  generalize mapK (leaveF t) ts0 ts0.length = M at *
  have p3 := hS ⟨r.id, r.plan, r.state, M⟩
  simp -implicitDefEqProofs only [go_sem, encRn, encPl, Nat.add_zero, hml, hlt', at_rn6 p3, in_rn6 p3, put_rn6 p3, List.set_set]
  exact ⟨rfl, rfl, rfl, rfl, rfl, rfl⟩
end Go.Proofs.YtnhdcbhcocgjhaaGreat
