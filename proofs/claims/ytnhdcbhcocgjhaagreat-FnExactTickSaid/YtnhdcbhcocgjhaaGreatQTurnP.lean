/- Texts for laws: TurnP, DoneEp, Later. -/
import Derived.Test.YtnhdcbhcocgjhaaGreatQHole
import Derived.Test.YtnhdcbhcocgjhaaGreatQSub
set_option linter.unusedSimpArgs false
set_option linter.unusedVariables false
set_option maxRecDepth 100000
namespace Go.Proofs.YtnhdcbhcocgjhaaGreat
open Go.RowKit Go.Sort
/-- The yard in which run k is r, and what stands ready anew is laid. -/
def turnY (y : Yd) (k : Nat) (r : Rn) : Yd := layY ⟨y.now, y.seq, y.shelf, y.runs.set k r⟩ r (newL ((y.runs[k]?).getD default).tasks r.tasks r.tasks.length)
/-- Runs of which the k-th row is this. -/
def rnsR (l : List Rn) (k : Nat) (row : List D) : List D := (l.take k).flatMap encRn ++ (row ++ (l.drop (k + 1)).flatMap encRn)
abbrev rnV (r : Rn) (x5 x7 : Value) : List D := [.val (.int .i64 r.id), .val (.int .i64 r.plan.prio), .val (.int .i64 r.plan.most), .val (.int .i64 r.plan.wait), .val (.int .i64 r.plan.tasks), .val x5, .val (.int .i64 r.state), .val x7]
section
variable {l : List Rn} {k : Nat} {r : Rn} {row row' : List D}
theorem rns_len_take (hk : k < l.length) : ((l.take k).flatMap encRn).length = k * 8 := by rw [rns_len, List.length_take, Nat.min_eq_left (Nat.le_of_lt hk)]
theorem rnsR_enc (h : l[k]? = some r) : l.flatMap encRn = rnsR l k (encRn r) := split_flat (enc := encRn) h
theorem rnsR_get (hk : k < l.length) (j : Nat) (hj : j < row.length) : (rnsR l k row)[k * 8 + j]? = row[j]? := by
  rw [rnsR, List.getElem?_append_right (by rw [rns_len_take hk]; omega), rns_len_take hk, Nat.add_sub_cancel_left, List.getElem?_append_left hj]
theorem rnsR_set (hk : k < l.length) (j : Nat) (hj : j < row.length) (d : D) : (rnsR l k row).set (k * 8 + j) d = rnsR l k (row.set j d) := by
  rw [rnsR, List.set_append_right _ _ (by rw [rns_len_take hk]; omega), rns_len_take hk, Nat.add_sub_cancel_left, List.set_append_left _ _ hj]; rfl
theorem rnsR_at (hk : k < l.length) (h8 : row.length = 8) : ((rnsR l k row).drop (k * 8)).take 8 = row := by
  rw [rnsR, List.drop_append_of_le_length (by rw [rns_len_take hk]; exact Nat.le_refl _), List.drop_eq_nil_of_le (by rw [rns_len_take hk]; exact Nat.le_refl _), List.nil_append, ← h8, List.take_left]
theorem rnsR_len (hk : k < l.length) (h8 : row.length = 8) : (rnsR l k row).length = l.length * 8 := by
  have h1 := rns_len (l.drop (k + 1))
  rw [List.length_drop] at h1
  rw [rnsR, List.length_append, List.length_append, rns_len_take hk, h1, h8]; omega
theorem rnsR_put (hk : k < l.length) (h8 : row.length = 8) (h8' : row'.length = 8) : setAt (rnsR l k row) (k * 8) row' = rnsR l k row' := by
  have h1 := rns_len_take hk
  have h2 := rnsR_len hk h8
  rw [setAt_eq _ _ _ (by rw [h2, h8']; omega), rnsR, List.take_left' h1, h8']
  have : ((l.take k).flatMap encRn ++ (row ++ (l.drop (k + 1)).flatMap encRn)).drop (k * 8 + 8) = (l.drop (k + 1)).flatMap encRn := by
    rw [← List.append_assoc]; exact List.drop_left' (by rw [List.length_append, h1, h8])
  rw [this, rnsR, List.append_assoc]
theorem rnsR_dlen (hk : k < l.length) (h8 : row.length = 8) : (D.sl 8 tRn (rnsR l k row)).len = l.length := by
  simp only [D.len, D.cells, D.size, rnsR_len hk h8]
  exact Nat.mul_div_cancel _ (by decide)
theorem rnsR_rn (hk : k < l.length) : D.sl 8 tRn (rnsR l k (encRn r)) = encRns (l.set k r) := by
  have h1 : (l.set k r)[k]? = some r := List.getElem?_set_self hk
  have h2 := rnsR_enc h1
  have h3 : rnsR (l.set k r) k (encRn r) = rnsR l k (encRn r) := by
    rw [rnsR, rnsR, List.take_set_of_le (Nat.le_refl _), List.drop_set_of_lt (Nat.lt_succ_self k)]
  rw [encRns, h2, h3]
end
theorem stH_any {flat : Bool} {p : List Nat} {k n : Nat} {η : Heads} {K : Heads → Prop} (h : ∀ η', K η') : stH flat p k n η K := by
  cases flat with
  | true => exact h _
  | false => exact fun η' _ => h η'
theorem runDone_len (r : Rn) (t : Int) : (runDone r t).tasks.length = r.tasks.length := by
  unfold runDone
  split
  · simp only [doneR, doneT_len]
  · rfl
theorem runFails_len (r : Rn) (t : Int) : (runFails r t).tasks.length = r.tasks.length := by
  unfold runFails
  split
  · unfold failsR
    split
    · simp only [List.length_set]
    · simp only [mapK_len, List.length_set]
  · rfl
theorem RunOkP.le12 {r : Rn} (h : RunOkP r) : r.tasks.length ≤ 12 := by
  obtain ⟨n, h1, _, h2, _⟩ := pf_0 h.plan
  have := h.len
  omega
/-- Whether the task stood ready before. -/
theorem newB_lt {was ts : List Tk} {k : Nat} {x z : Tk} (h : ts[k]? = some x) (hz : was[k]? = some z) : newB was ts k = ((x.state == 2) && !(z.state == 2)) := by
  have := (List.getElem?_eq_some_iff.1 hz).1
  simp [newB, stT_nat h, stT_nat hz, this]
end Go.Proofs.YtnhdcbhcocgjhaaGreat
set_option linter.unusedSimpArgs false
set_option linter.unusedVariables false
set_option maxRecDepth 100000
namespace Go.Proofs.YtnhdcbhcocgjhaaGreat
open Go.RowKit Go.Sort
section
variable {P : Program} {β : Nat} {s : St} {K : St → Prop} {d : Option Nat} {g : Option (Nat × Bool)}
theorem Inl.weak {f : FuncId} {args : List AV} {o : Nat → Ob} {R R' : AV → (Nat → Ob) → Prop} (h : Inl P f args o R) (hk : ∀ av o', R av o' → R' av o') : Inl P f args o R' :=
  ⟨h.1, fun B w F xs h1 h2 => (h.2 B w F xs h1 h2).mono fun e w' ⟨v, av, o', F', k1, k2, k3, k4⟩ => ⟨v, av, o', F', k1, k2, k3, hk _ _ k4⟩⟩
theorem run_inl_of {f : Nat} {args : List X} {R : AV → (Nat → Ob) → Prop} (h : Inl P f (args.map s.ev) s.o R) (hk : ∀ av o', R av o' → K (St.put ⟨s.t, o'⟩ d av)) : runI P β ⟨d, g, .call f args⟩ s K := run_inl (h.weak hk)
theorem run_inl_at {f : Nat} {args : List X} {vs : List AV} {R : AV → (Nat → Ob) → Prop} (ha : args.map s.ev = vs) (h : Inl P f vs s.o R) (hk : ∀ av o', R av o' → K (St.put ⟨s.t, o'⟩ d av)) : runI P β ⟨d, g, .call f args⟩ s K := by subst ha; exact run_inl_of h hk
theorem simA_self (x : A0) : x.sim x = True := by cases x <;> simp [A0.sim]
theorem simL_self : ∀ l : List A0, simL l l = True
  | [] => rfl
  | x :: l => by simp [simL, simA_self, simL_self l]
theorem simcell_self (x : Cell) : x.sim x = True := by cases x <;> simp [Cell.sim, simA_self]
theorem simC_self : ∀ l : List Cell, simC l l = True
  | [] => rfl
  | x :: l => by simp [simC, simcell_self, simC_self l]
theorem simO_self (x : Ob) : x.sim x = True := by cases x <;> simp [Ob.sim, simC_self]
end
/-- Slots that stay. -/
abbrev Slots (o o' : Nat → Ob) : Prop := o' 92 = o 92 ∧ o' 93 = o 93 ∧ o' 94 = o 94 ∧ o' 95 = o 95 ∧ o' 96 = o 96 ∧ o' 97 = o 97
/-- What a function does in place to run k of a yard (object 90; 91 to 97 stay). -/
def EpK (P : Program) (f : FuncId) (k : Nat) (t : Int) (y : Yd) (r2 : Rn) : Prop := ∀ (o : Nat → Ob) (b : Nat) (e2 e3 : Heads), o 90 = YdBox b tYd y.now y.seq y.shelf e2 y.runs e3 →
  Inl P f [.c (.ep 90 3 [] (k * 8) (e3 [])), Ni t] o fun av o' => av = .tup [] ∧ o' 90 = YdBox b tYd y.now y.seq y.shelf e2 (y.runs.set k r2) e3 ∧ o' 91 = o 91 ∧ Slots o o'
/-- The same, of a closure; what it has caught leads to object 91. -/
def ClosK (P : Program) (f : FuncId) (caps : List A0) (H : Ob) (k : Nat) (y : Yd) (r2 : Rn) : Prop := ∀ (o : Nat → Ob) (b : Nat) (e2 e3 : Heads), o 90 = YdBox b tYd y.now y.seq y.shelf e2 y.runs e3 → o 91 = H →
  Turns P f ([.c (.ep 90 3 [] (k * 8) (e3 []))] ++ caps.map .c) o fun rt o' => rt = .tup [] ∧ o' 90 = YdBox b tYd y.now y.seq y.shelf e2 (y.runs.set k r2) e3 ∧ o' 91 = H ∧ Slots o o'
section
variable {l : List Rn} {k : Nat} {r : Rn}
theorem at_rn7 (h : l[k]? = some r) : ((l.flatMap encRn).drop (k * 8 + 7)).take 1 = [encTks r.tasks] := at1_flat (enc := encRn) (size := 8) (fun _ => rfl) h (j := 7) (n := 1) (by decide)
theorem at_rn6 (h : l[k]? = some r) : ((l.flatMap encRn).drop (k * 8 + 6)).take 1 = [.val (.int .i64 r.state)] := at1_flat (enc := encRn) (size := 8) (fun _ => rfl) h (j := 6) (n := 1) (by decide)
theorem at_rnP (h : l[k]? = some r) : ((l.flatMap encRn).drop (k * 8 + 1)).take 5 = encPl r.plan := at1_flat (enc := encRn) (size := 8) (fun _ => rfl) h (j := 1) (n := 5) (by decide)
theorem at_rnM (h : l[k]? = some r) : ((l.flatMap encRn).drop (k * 8 + 1 + 1)).take 1 = [.val (.int .i64 r.plan.most)] := at1_flat (enc := encRn) (size := 8) (fun _ => rfl) h (j := 2) (n := 1) (by decide)
theorem in_rn7 (h : l[k]? = some r) : k * 8 + 7 + 1 ≤ (l.flatMap encRn).length := in1_flat (enc := encRn) (size := 8) (fun _ => rfl) h (j := 7) (n := 1) (by decide)
theorem in_rn6 (h : l[k]? = some r) : k * 8 + 6 + 1 ≤ (l.flatMap encRn).length := in1_flat (enc := encRn) (size := 8) (fun _ => rfl) h (j := 6) (n := 1) (by decide)
theorem in_rnP (h : l[k]? = some r) : k * 8 + 1 + 5 ≤ (l.flatMap encRn).length := in1_flat (enc := encRn) (size := 8) (fun _ => rfl) h (j := 1) (n := 5) (by decide)
theorem in_rnM (h : l[k]? = some r) : k * 8 + 1 + 1 + 1 ≤ (l.flatMap encRn).length := in1_flat (enc := encRn) (size := 8) (fun _ => rfl) h (j := 2) (n := 1) (by decide)
theorem put_rn6 (h : l[k]? = some r) (v : Int) : D.put [] (k * 8 + 6) [.val (.int .i64 v)] (encRns l) = encRns (l.set k ⟨r.id, r.plan, v, r.tasks⟩) := put1_flat (enc := encRn) (size := 8) (fun _ => rfl) h (j := 6) rfl (by simp [encRn, encPl])
theorem put_rn7 (h : l[k]? = some r) {ts : List Tk} {i : Nat} {ds : List D} (hp : D.put [] i ds (encTks r.tasks) = encTks ts) : D.put [k * 8 + 7] i ds (encRns l) = encRns (l.set k ⟨r.id, r.plan, r.state, ts⟩) := by
  have hk := (List.getElem?_eq_some_iff.1 h).1
  have h7 : (l.flatMap encRn)[k * 8 + 7]? = some (encTks r.tasks) := rns_get (j := 7) h (by decide)
  have e : (l.flatMap encRn).set (k * 8 + 7) (encTks ts) = rnsR l k (encRn ⟨r.id, r.plan, r.state, ts⟩) := by
    rw [rnsR_enc h, rnsR_set hk 7 (by simp [encRn, encPl])]; rfl
  rw [← rnsR_rn hk, ← e]
  simp only [encRns, D.put, h7, hp]
end
set_option maxHeartbeats 8000000 in
theorem ep_done {k t : Nat} {y : Yd} {r : Rn} (hr : y.runs[k]? = some r) (hrun : runsB r t = true) : EpK Tryz.prog 55 k t y (runDone r t) := by
  intro o b10 e2 e3 h10
  refine inl_fn (β := 7000000) Tryz.func55 code_impl_done (by simp) ?_
  unfold c_impl_done
  obtain ⟨t', x, ht', hx, hs, hP⟩ := runs_yes hrun
  obtain rfl : t = t' := by omega
  obtain ⟨n, hn, hn1, h12, h30, hes, hnd, -⟩ := pf_0 hP.plan
  have hlen := hP.len
  have hkl := (List.getElem?_eq_some_iff.1 hr).1
  have htl' := (List.getElem?_eq_some_iff.1 hx).1
  have h0t : (t : Int) ≥ 0 := by omega
  have hx2 : (r.tasks.set t ⟨4, x.need, x.tri, x.til⟩)[t]? = some ⟨4, x.need, x.tri, x.til⟩ := List.getElem?_set_self htl'
  have htl2 : t < (r.tasks.set t ⟨4, x.need, x.tri, x.til⟩).length := by rw [List.length_set]; exact htl'
  have hS : ∀ r' : Rn, (y.runs.set k r')[k]? = some r' := fun r' => List.getElem?_set_self hkl
  have hr2 := hS ⟨r.id, r.plan, r.state, r.tasks.set t ⟨4, x.need, x.tri, x.til⟩⟩
  have hr3 := hS ⟨r.id, r.plan, r.state, r.tasks.set t ⟨4, x.need, x.tri, 0⟩⟩
  simp -implicitDefEqProofs only [go_sem, h10, Nat.add_zero, htl', h0t, at_rn7 hr, in_rn7 hr, get_rns7 hr, put_rn7 hr (put_tk0 hx 4), put_rn7 hr (put_tk0' hx 4), in_tk0 hx, in_tk0' hx, at_tk0 hx, at_tk0' hx, htl2, at_rn7 hr2, in_rn7 hr2, get_rns7 hr2, in_tk3 hx2, at_tk3 hx2, put_rn7 hr2 (put_tk3 hx2 0), List.set_set, at_rnP hr3, in_rnP hr3, encPl, get_rns5' hr3]
  refine run_call (p_impl_BehindOf r.plan t hP.plan) (by simp -implicitDefEqProofs only [go_sem, encRn, encPl, get_rns5 hr3, get_rns5' hr3]) fun ηb => ?_
  simp -implicitDefEqProofs only [go_sem, encRn, encPl, get_rns5 hr3, get_rns5' hr3]
  have hbl := behL_len hn h12 h30 t
  have hlD : (doneT r.plan r.tasks t x).length = r.tasks.length := doneT_len _ _ _ _
  have hR : runDone r t = doneR r t x := runDone_yes hx hrun
  generalize hts : r.tasks.set t ⟨4, x.need, x.tri, 0⟩ = ts0 at *
  have htl : ts0.length = r.tasks.length := by rw [← hts, List.length_set]
  have hdn : doneT r.plan r.tasks t x = (behL r.plan t).foldl stepD ts0 := by rw [← hts]; rfl
  refine wp_loopW (fun i : Nat => St.of [(0, .c (.ep 90 3 [] (k * 8) (e3 []))), (26, Hd 26 (ηb 0)), (27, Ni (behL r.plan t).length), (28, Ni i)] [(90, YdBox b10 tYd y.now y.seq y.shelf e2 (y.runs.set k ⟨r.id, r.plan, r.state, ((behL r.plan t).take i).foldl stepD ts0⟩) e3), (91, o 91), (92, o 92), (93, o 93), (94, o 94), (95, o 95), (96, o 96), (97, o 97), (26, .loose (encInts (behL r.plan t)) (ηb 0))]) (fun i => i ≤ (behL r.plan t).length) (fun i => (behL r.plan t).length - i) 0 (by (try dsimp only); first | omega | (simp; done) | (and_intros <;> first | omega | simp)) (wk_of [some 90, some 91, some 92, some 93, some 94, some 95, some 96, some 97, some 700002600] (by simp -implicitDefEqProofs only [go_sem, encRn, encPl, List.take_zero, List.foldl_nil, simO_self] <;> and_intros <;> first | rfl | assumption)) ?_
  rintro j hj
  by_cases hlt : j < (behL r.plan t).length
  · have hlt' : (j : Int) < (behL r.plan t).length := by omega
    obtain ⟨v, hv⟩ := get_some hlt
    have hvb := behL_in hn (List.mem_of_getElem? hv)
    have hfl := foldD_len ((behL r.plan t).take j) ts0
    have hft := foldD_take hv ts0
    generalize ((behL r.plan t).take j).foldl stepD ts0 = ts at *
    have hvl : v.toNat < ts.length := by omega
    have hv0 := hvb.1
    obtain ⟨z, hz0⟩ := get_some hvl
    have hw : IntKind.i64.wrap ((j : Int) + 1) = ((j + 1 : Nat) : Int) := wrap64 (by omega) (by omega)
    rw [stepD_eq hz0] at hft
    generalize hnd' : IntKind.i64.wrap (z.need - 1) = nd at *
    have hy1 : (ts.set v.toNat ⟨z.state, nd, z.tri, z.til⟩)[v.toNat]? = some ⟨z.state, nd, z.tri, z.til⟩ := List.getElem?_set_self hvl
    have q1 := hS ⟨r.id, r.plan, r.state, ts⟩
    have q2 := hS ⟨r.id, r.plan, r.state, ts.set v.toNat ⟨z.state, nd, z.tri, z.til⟩⟩
    cases hz : nd == 0
    · have hz' : ¬ nd = 0 := by simpa using hz
      rw [if_neg hz'] at hft
      simp -implicitDefEqProofs only [go_sem, encRn, encPl, Nat.add_zero, hlt, hlt', at_encInts hv, in_encInts hlt, at_rn7 q1, in_rn7 q1, get_rns7 q1, hvl, hv0, at_tk1 hz0, in_tk1 hz0, hnd', put_rn7 q1 (put_tk1 hz0 nd), List.set_set, at_rn7 q2, in_rn7 q2, get_rns7 q2, at_tk1 hy1, in_tk1 hy1, hz, hw]
      exact ⟨j + 1, by (try dsimp only); first | omega | assumption | (and_intros <;> first | omega | assumption), (wk_of [some 90, some 91, some 92, some 93, some 94, some 95, some 96, some 97, some 26] (by simp -implicitDefEqProofs only [go_sem, encRn, encPl, hft, simO_self] <;> and_intros <;> first | rfl | assumption)), by (try dsimp only); omega⟩
    · have hz' : nd = 0 := by simpa using hz
      rw [if_pos hz'] at hft
      simp -implicitDefEqProofs only [go_sem, encRn, encPl, Nat.add_zero, hlt, hlt', at_encInts hv, in_encInts hlt, at_rn7 q1, in_rn7 q1, get_rns7 q1, hvl, hv0, at_tk1 hz0, in_tk1 hz0, hnd', put_rn7 q1 (put_tk1 hz0 nd), List.set_set, at_rn7 q2, in_rn7 q2, get_rns7 q2, at_tk1 hy1, in_tk1 hy1, hz, in_tk0 hy1, in_tk0' hy1, put_rn7 q2 (put_tk0 hy1 2), put_rn7 q2 (put_tk0' hy1 2), hw]
      exact ⟨j + 1, by (try dsimp only); first | omega | assumption | (and_intros <;> first | omega | assumption), (wk_of [some 90, some 91, some 92, some 93, some 94, some 95, some 96, some 97, some 26] (by simp -implicitDefEqProofs only [go_sem, encRn, encPl, hft, simO_self] <;> and_intros <;> first | rfl | assumption)), by (try dsimp only); omega⟩
  have hlt' : ¬ (j : Int) < (behL r.plan t).length := by omega
  rw [List.take_of_length_le (by omega)]
  rw [hR, ← hdn]
  have hrr : doneR r t x = ⟨r.id, r.plan, if (tinL 4 (doneT r.plan r.tasks t x)).length = r.tasks.length then 2 else r.state, doneT r.plan r.tasks t x⟩ := rfl
  rw [hrr]
  generalize doneT r.plan r.tasks t x = tD at *
  have q3 := hS ⟨r.id, r.plan, r.state, tD⟩
  simp -implicitDefEqProofs only [go_sem, encRn, encPl, Nat.add_zero, hlt', at_rn q3, in_rn q3, at_rn7 q3, in_rn7 q3, get_rns7 q3, get_rns7' q3, get_rns5' q3]
  refine run_call (p_impl_TasksIn ⟨r.id, r.plan, r.state, tD⟩ 4 (by simp only; omega)) (by simp -implicitDefEqProofs only [go_sem, encRn, encPl, get_rns5' q3, get_rns7' q3, get_rns7 q3]) fun η => ?_
  simp -implicitDefEqProofs only [go_sem, encRn, encPl, get_rns5' q3, get_rns7' q3, get_rns7 q3]
  rw [← hlD]
  generalize hq : (tinL 4 tD).length = q at *
  cases he : (q : Int) == (tD.length : Int)
  · have he' : ¬ q = tD.length := ib_f he
    rw [if_neg he']
    simp -implicitDefEqProofs only [go_sem, encRn, encPl, Nat.add_zero, he, hq]
    exact ⟨rfl, rfl, rfl, rfl, rfl, rfl⟩
  · have he' : q = tD.length := ib_t he
    rw [if_pos he']
    simp -implicitDefEqProofs only [go_sem, encRn, encPl, Nat.add_zero, he, hq, at_rn6 q3, in_rn6 q3, put_rn6 q3, List.set_set]
    exact ⟨rfl, rfl, rfl, rfl, rfl, rfl⟩
end Go.Proofs.YtnhdcbhcocgjhaaGreat
set_option linter.unusedSimpArgs false
set_option linter.unusedVariables false
set_option maxRecDepth 100000
namespace Go.Proofs.YtnhdcbhcocgjhaaGreat
open Go.RowKit Go.Sort
theorem needL_congr {p : Pl} {ts ts' : List Tk} (h : ∀ b : Int, (stT ts' b != 4) = (stT ts b != 4)) (t : Int) : needL p ts' t = needL p ts t := by
  simp only [needL, h]
theorem stT_set {ts : List Tk} {t : Nat} {x y : Tk} (hx : ts[t]? = some x) (h : (y.state != 4) = (x.state != 4)) (b : Int) : (stT (ts.set t y) b != 4) = (stT ts b != 4) := by
  have ht := (List.getElem?_eq_some_iff.1 hx).1
  simp only [stT, List.getElem?_set]
  by_cases e : t = b.toNat
  · rw [if_pos e, ← e, if_pos ht, hx]; exact h
  · rw [if_neg e]
theorem cS_one {s : Int} {ts : List Tk} {t : Nat} (ht : t < ts.length) (h1 : ∀ (j : Nat) (x : Tk), ts[j]? = some x → (x.state = s ↔ j = t)) : cS s ts = 1 := by
  have e : (List.range ts.length).filter (fun (j : Nat) => stT ts (j : Int) == s) = (List.range ts.length).filter (fun j => j == t) := by
    refine List.filter_congr fun j hj => ?_
    rw [List.mem_range] at hj
    have hx : ts[j]? = some ts[j] := List.getElem?_eq_getElem hj
    rw [stT_nat hx, Bool.eq_iff_iff, beq_iff_eq, beq_iff_eq]
    exact h1 j _ hx
  have : (List.range ts.length).count t = 1 := by rw [List.count_range, if_pos ht]
  simp only [cS, tinL, tinF, e, List.length_map]
  rw [← this, List.count_eq_length_filter]
theorem leaveG_4 (j : Nat) (x : Tk) : ((leaveG j x).state != 4) = (x.state != 4) := by
  unfold leaveG
  split
  · rename_i h
    have : (x.state != 4) = true := by simpa using h.1
    rw [this]; rfl
  · rfl
theorem mapK_all {f : Nat → Tk → Tk} {ts : List Tk} {j : Nat} {z : Tk} (h : (mapK f ts ts.length)[j]? = some z) : ∃ x, ts[j]? = some x ∧ z = f j x := by
  simp only [mapK, List.getElem?_mapIdx, Option.map_eq_some_iff] at h
  obtain ⟨x, hx, rfl⟩ := h
  exact ⟨x, hx, by rw [if_pos (List.getElem?_eq_some_iff.1 hx).1]⟩
theorem taskB_iff {p : Pl} {ts : List Tk} {t : Nat} {x : Tk} : taskB p ts t x = true ↔ (1 ≤ x.state ∧ x.state ≤ 6) ∧ x.need = needL p ts t ∧ (0 ≤ x.tri ∧ x.tri ≤ p.most) ∧ tilB x = true ∧ lastB p x = true := by
  simp only [taskB, inB, Bool.and_eq_true, decide_eq_true_eq, beq_iff_eq, and_assoc]
theorem failsR_ok {r : Rn} {t : Nat} {x : Tk} (h : RunOkP r) (hx : r.tasks[t]? = some x) (hs : x.state = 3) : RunOkP (failsR r t x) := by
  obtain ⟨e1, e2, e3, e4⟩ := h.runs hx hs
  have ht := (List.getElem?_eq_some_iff.1 hx).1
  have hx1 := taskB_iff.1 (h.tasks t x hx)
  have hl := hx1.2.2.2.2
  have hl3 : x.need = 0 ∧ 1 ≤ x.tri := by
    simpa [lastB, hs] using hl
  unfold failsR
  split
  · rename_i hm
    have hN : ∀ j : Int, needL r.plan (r.tasks.set t ⟨2, x.need, x.tri, 0⟩) j = needL r.plan r.tasks j := needL_congr (stT_set hx (by simp [hs]))
    have c5 : cS 5 (r.tasks.set t ⟨2, x.need, x.tri, 0⟩) = 0 := cS_of (set_st (q := fun s => s ≠ 5) (by simp) fun y hy => by obtain ⟨k, hk, rfl⟩ := List.getElem_of_mem hy; exact cS_0 e2 (List.getElem?_eq_getElem hk))
    have c6 : cS 6 (r.tasks.set t ⟨2, x.need, x.tri, 0⟩) = 0 := cS_of (set_st (q := fun s => s ≠ 6) (by simp) fun y hy => by obtain ⟨k, hk, rfl⟩ := List.getElem_of_mem hy; exact cS_0 e3 (List.getElem?_eq_getElem hk))
    have hst : ∀ z ∈ r.tasks.set t ⟨2, x.need, x.tri, 0⟩, 1 ≤ z.state ∧ z.state ≤ 6 := set_st (q := fun s => 1 ≤ s ∧ s ≤ 6) (by simp) h.st
    have c2 := cS_pos (s := 2) (List.getElem?_set_self ht : (r.tasks.set t ⟨2, x.need, x.tri, 0⟩)[t]? = some _) rfl
    have hsum := tin_sum hst _ (Nat.le_refl _)
    change cS 1 _ + cS 2 _ + cS 3 _ + cS 4 _ + cS 5 _ + cS 6 _ = _ at hsum
    refine ⟨h.id, h.plan, by rw [List.length_set]; exact h.len, fun j z hz => ?_, ?_, h.live⟩
    · dsimp only at hz ⊢
      rw [List.getElem?_set] at hz
      by_cases e : t = j
      · subst e
        rw [if_pos rfl, if_pos ht] at hz
        obtain rfl := Option.some.inj hz
        rw [taskB_iff, hN]
        exact ⟨by simp, hx1.2.1, hx1.2.2.1, rfl, by simp [lastB, hl3.1, hm]⟩
      · rw [if_neg e] at hz
        have := taskB_iff.1 (h.tasks j z hz)
        rw [taskB_iff, hN]; exact this
    · dsimp only
      rw [e1, stOf, if_neg (by omega), c5, c6, if_neg (by omega), if_neg (by omega), if_pos ⟨rfl, rfl⟩]
  · rename_i hm
    generalize hT : r.tasks.set t ⟨5, x.need, x.tri, 0⟩ = T
    have hTl : T.length = r.tasks.length := by rw [← hT, List.length_set]
    have hTt : T[t]? = some ⟨5, x.need, x.tri, 0⟩ := by rw [← hT]; exact List.getElem?_set_self ht
    have hTj : ∀ j, t ≠ j → T[j]? = r.tasks[j]? := fun j hj => by rw [← hT, List.getElem?_set_ne hj]
    rw [← hTl]
    have hM : ∀ (j : Nat) (z : Tk), (mapK leaveG T T.length)[j]? = some z → (j = t ∧ z = ⟨5, x.need, x.tri, 0⟩) ∨ j ≠ t ∧ ∃ y, r.tasks[j]? = some y ∧ ((y.state = 4 ∧ z = y) ∨ (y.state ≠ 4 ∧ z = ⟨6, y.need, y.tri, 0⟩)) := by
      intro j z hz
      obtain ⟨y, hy, rfl⟩ := mapK_all hz
      by_cases e : t = j
      · subst e
        rw [hTt] at hy
        obtain rfl := Option.some.inj hy
        exact .inl ⟨rfl, by simp [leaveG]⟩
      · rw [hTj j e] at hy
        have h5 : y.state ≠ 5 := cS_0 e2 hy
        refine .inr ⟨fun e' => e e'.symm, y, hy, ?_⟩
        by_cases e4 : y.state = 4
        · exact .inl ⟨e4, by simp [leaveG, e4]⟩
        · exact .inr ⟨e4, by simp [leaveG, e4, h5]⟩
    have hst4 : ∀ b : Int, (stT (mapK leaveG T T.length) b != 4) = (stT r.tasks b != 4) := by
      intro b
      rw [← stT_set hx (y := ⟨5, x.need, x.tri, 0⟩) (by simp [hs]), hT]
      simp only [stT, mapK, List.getElem?_mapIdx]
      cases hb : T[b.toNat]? with
      | none => rfl
      | some z => simp only [Option.map_some, Option.getD_some, if_pos (List.getElem?_eq_some_iff.1 hb).1, leaveG_4]
    have hN := fun j => needL_congr (p := r.plan) hst4 j
    have hlen : (mapK leaveG T T.length).length = T.length := mapK_len
    have hst : ∀ z ∈ mapK leaveG T T.length, 4 ≤ z.state ∧ z.state ≤ 6 := fun z hz => by
      obtain ⟨k, hk, rfl⟩ := List.getElem_of_mem hz
      rcases hM k _ (List.getElem?_eq_getElem hk) with ⟨_, h1⟩ | ⟨_, y, _, ⟨h1, h2⟩ | ⟨_, h2⟩⟩
      · rw [h1]; simp
      · rw [h2]; omega
      · rw [h2]; simp
    have c1 : cS 1 (mapK leaveG T T.length) = 0 := cS_of fun z hz => by have := hst z hz; omega
    have c2 : cS 2 (mapK leaveG T T.length) = 0 := cS_of fun z hz => by have := hst z hz; omega
    have c3 : cS 3 (mapK leaveG T T.length) = 0 := cS_of fun z hz => by have := hst z hz; omega
    have c5 : cS 5 (mapK leaveG T T.length) = 1 := by
      refine cS_one (t := t) (by rw [hlen, hTl]; exact ht) fun j z hz => ?_
      rcases hM j z hz with ⟨h1, h2⟩ | ⟨h1, y, _, ⟨h2, h3⟩ | ⟨_, h3⟩⟩
      · rw [h2]; simp [h1]
      · rw [h3]; simp [h1, h2]
      · rw [h3]; simp [h1]
    have hsum := tin_sum (fun z hz => by have := hst z hz; omega) _ (Nat.le_refl (mapK leaveG T T.length).length)
    change cS 1 _ + cS 2 _ + cS 3 _ + cS 4 _ + cS 5 _ + cS 6 _ = _ at hsum
    refine ⟨h.id, h.plan, by dsimp only; rw [hlen, hTl]; exact h.len, fun j z hz => ?_, ?_, by simp⟩
    · dsimp only at hz ⊢
      rw [taskB_iff, hN]
      rcases hM j z hz with ⟨rfl, rfl⟩ | ⟨h1, y, hy, ⟨h2, rfl⟩ | ⟨h2, rfl⟩⟩
      · exact ⟨by simp, hx1.2.1, hx1.2.2.1, rfl, by simp [lastB, hl3.1, hl3.2]⟩
      · exact taskB_iff.1 (h.tasks j _ hy)
      · have h3 := taskB_iff.1 (h.tasks j _ hy)
        exact ⟨by simp, h3.2.1, h3.2.2.1, rfl, by simp [lastB]⟩
    · dsimp only
      rw [stOf, if_neg (by omega), if_pos ⟨c5, by omega⟩]
theorem runFails_ok {r : Rn} (t : Int) (h : RunOkP r) : RunOkP (runFails r t) := by
  cases hr : runsB r t with
  | false => rw [runFails_no hr]; exact h
  | true =>
    obtain ⟨k, x, rfl, hx, hs, _⟩ := runs_yes hr
    rw [runFails_yes hx hr]
    exact failsR_ok h hx hs
theorem runs_of {r : Rn} {t : Nat} {x : Tk} (h : RunOkP r) (hx : r.tasks[t]? = some x) (hs : x.state = 3) : runsB r t = true := by
  have ht := (List.getElem?_eq_some_iff.1 hx).1
  simp only [runsB, inB, Bool.and_eq_true, decide_eq_true_eq, beq_iff_eq, stT_nat hx, runOk_iff]
  exact ⟨⟨by omega, hs⟩, h⟩
/-- What runs behind it ran before it. -/
theorem runFails_3 {r : Rn} {t : Int} {j : Nat} {z : Tk} (hz : (runFails r t).tasks[j]? = some z) (hs : z.state = 3) : r.tasks[j]? = some z := by
  cases hr : runsB r t with
  | false => rwa [runFails_no hr] at hz
  | true =>
    obtain ⟨k, x, rfl, hx, hs', _⟩ := runs_yes hr
    rw [runFails_yes hx hr, failsR] at hz
    have hk := (List.getElem?_eq_some_iff.1 hx).1
    split at hz
    · dsimp only at hz
      rw [List.getElem?_set] at hz
      by_cases e : k = j
      · subst e
        rw [if_pos rfl, if_pos hk] at hz
        obtain rfl := Option.some.inj hz; cases hs
      · rw [if_neg e] at hz; exact hz
    · dsimp only at hz
      have e : r.tasks.length = (r.tasks.set k ⟨5, x.need, x.tri, 0⟩).length := by rw [List.length_set]
      rw [e] at hz
      obtain ⟨y, hy, rfl⟩ := mapK_all hz
      unfold leaveG at hs
      split at hs
      · cases hs
      · rename_i h
        exact absurd ⟨by omega, by omega⟩ h
theorem runFails_id (r : Rn) (t : Int) : (runFails r t).id = r.id ∧ (runFails r t).plan = r.plan := by
  unfold runFails
  split
  · unfold failsR; split <;> exact ⟨rfl, rfl⟩
  · exact ⟨rfl, rfl⟩
/-- A yard whose runs are those of another one, farther on: what runs is as it was. -/
structure LaterP (y z : Yd) : Prop where
  len : z.runs.length = y.runs.length
  runs : ∀ (k : Nat) (r : Rn), y.runs[k]? = some r → ∃ r', z.runs[k]? = some r' ∧ r'.id = r.id ∧ r'.plan = r.plan ∧ RunOkP r' ∧ r'.tasks.length = r.tasks.length ∧ ∀ (t : Nat) (x : Tk), r'.tasks[t]? = some x → x.state = 3 → r.tasks[t]? = some x
theorem LaterP.refl {y : Yd} (h : YardOkP y) : LaterP y y := ⟨rfl, fun k r hr => ⟨r, hr, rfl, rfl, h.right r (List.mem_of_getElem? hr), rfl, fun _ _ h _ => h⟩⟩
theorem runIx_id : ∀ {l m : List Rn} (id : Int), l.map (·.id) = m.map (·.id) → runIx l id = runIx m id := by
  intro l m id h
  have e : ∀ l : List Rn, l.findIdx? (fun r => r.id == id) = (l.map (·.id)).findIdx? (· == id) := fun l => by rw [List.findIdx?_map]; rfl
  simp only [runIx, e, h]
theorem LaterP.ids {y z : Yd} (h : LaterP y z) : z.runs.map (·.id) = y.runs.map (·.id) := by
  apply List.ext_getElem?
  intro k
  simp only [List.getElem?_map]
  cases hr : y.runs[k]? with
  | none =>
    have : z.runs[k]? = none := by rw [List.getElem?_eq_none_iff] at hr ⊢; rw [h.len]; exact hr
    rw [this]
  | some r =>
    obtain ⟨r', h1, h2, _⟩ := h.runs k r hr
    rw [h1]; simp [h2]
theorem LaterP.runAt {y z : Yd} (h : LaterP y z) (id : Int) : runAt z id = runAt y id := by
  unfold Go.Proofs.YtnhdcbhcocgjhaaGreat.runAt
  rw [h.len, runIx_id id h.ids]
/-- Task t of run k fails, if it runs. -/
noncomputable def failK (y : Yd) (k t : Nat) : Yd := if stT ((y.runs[k]?).getD default).tasks t == 3 then turnY y k (runFails ((y.runs[k]?).getD default) t) else y
theorem turn_runs (y : Yd) (k : Nat) (r : Rn) : (turnY y k r).runs = y.runs.set k r := rfl
theorem LaterP.fail {y z : Yd} (h : LaterP y z) (k t : Nat) : LaterP y (failK z k t) := by
  unfold failK
  split
  · cases hk : y.runs[k]? with
    | none =>
      have hk2 : z.runs[k]? = none := by rw [List.getElem?_eq_none_iff] at hk ⊢; rw [h.len]; exact hk
      rename_i hs
      rw [hk2] at hs
      simp [stT] at hs
      cases hs
    | some r =>
      obtain ⟨r', h1, h2, h3, h4, h5, h6⟩ := h.runs k r hk
      have hk' := (List.getElem?_eq_some_iff.1 h1).1
      rw [h1, Option.getD_some]
      refine ⟨by rw [turn_runs, List.length_set]; exact h.len, fun j q hq => ?_⟩
      rw [turn_runs, List.getElem?_set]
      by_cases e : k = j
      · subst e
        rw [hk] at hq
        obtain rfl := Option.some.inj hq
        rw [if_pos rfl, if_pos hk']
        have hi := runFails_id r' t
        refine ⟨_, rfl, by rw [hi.1]; exact h2, by rw [hi.2]; exact h3, runFails_ok _ h4, by rw [runFails_len]; exact h5, fun i x hx hs => h6 i x (runFails_3 hx hs) hs⟩
      · rw [if_neg e]; exact h.runs j q hq
  · exact h
/-- i turns on, at most. -/
structure StepI (y z : Yd) (i : Nat) : Prop where
  later : LaterP y z
  four : z.shelf.length = 4
  seq : 1 ≤ z.seq ∧ z.seq ≤ 1000000000 + 12 * i
  tot : totYd z ≤ totYd y + 12 * i
  now : z.now = y.now
theorem StepI.refl {y : Yd} (h : YardOkP y) : StepI y y 0 := ⟨.refl h, h.four, by have := h.seq; omega, Nat.le_refl _, rfl⟩
theorem StepI.mono {y z : Yd} {i j : Nat} (h : StepI y z i) (hij : i ≤ j) : StepI y z j := ⟨h.later, h.four, by have := h.seq; omega, by have := h.tot; omega, h.now⟩
theorem tot_turn {y : Yd} {k : Nat} {r r2 : Rn} (hr : y.runs[k]? = some r) (ht : totRn r2 = totRn r) (hl : r2.tasks.length ≤ 12) : totYd (turnY y k r2) ≤ totYd y + 12 := by
  have h1 := tot_lay (y := ⟨y.now, y.seq, y.shelf, y.runs.set k r2⟩) (r := r2) (ids := newL ((y.runs[k]?).getD default).tasks r2.tasks r2.tasks.length)
  have h2 := newL_len ((y.runs[k]?).getD default).tasks r2.tasks r2.tasks.length
  have h3 := tsum_set_eq (f := totRn) r2 hr
  have h4 : totYd ⟨y.now, y.seq, y.shelf, y.runs.set k r2⟩ = totYd y := by
    simp only [totYd, totRns, List.length_set]; omega
  rw [turnY]; omega
theorem seq_turn (y : Yd) (k : Nat) (r2 : Rn) : y.seq ≤ (turnY y k r2).seq ∧ (turnY y k r2).seq ≤ y.seq + r2.tasks.length := by
  have h2 := newL_len ((y.runs[k]?).getD default).tasks r2.tasks r2.tasks.length
  have h1 := layL_seq r2.plan.prio r2.id (newL ((y.runs[k]?).getD default).tasks r2.tasks r2.tasks.length) ((y.shelf[shN r2.id]?).getD default, y.seq)
  have e : (turnY y k r2).seq = (layL r2.plan.prio r2.id (newL ((y.runs[k]?).getD default).tasks r2.tasks r2.tasks.length) ((y.shelf[shN r2.id]?).getD default, y.seq)).2 := rfl
  rw [e, h1]
  dsimp only
  omega
theorem four_turn (y : Yd) (k : Nat) (r2 : Rn) : (turnY y k r2).shelf.length = y.shelf.length := by
  have e : (turnY y k r2).shelf = y.shelf.set (shN r2.id) (layL r2.plan.prio r2.id (newL ((y.runs[k]?).getD default).tasks r2.tasks r2.tasks.length) ((y.shelf[shN r2.id]?).getD default, y.seq)).1 := rfl
  rw [e, List.length_set]
theorem StepI.fail {y z : Yd} {i : Nat} (h : StepI y z i) (k t : Nat) : StepI y (failK z k t) (i + 1) := by
  have hL := h.later.fail k t
  cases hc : (stT ((z.runs[k]?).getD default).tasks t == 3) with
  | false =>
    have e : failK z k t = z := by unfold failK; rw [hc]; rfl
    rw [e]; exact h.mono (Nat.le_succ i)
  | true =>
    have e : failK z k t = turnY z k (runFails ((z.runs[k]?).getD default) t) := by unfold failK; rw [hc]; rfl
    cases hk : y.runs[k]? with
    | none =>
      have hk2 : z.runs[k]? = none := by rw [List.getElem?_eq_none_iff] at hk ⊢; rw [h.later.len]; exact hk
      rw [hk2] at hc
      simp [stT] at hc
      cases hc
    | some r =>
      obtain ⟨r', h1, h2, h3, h4, h5, h6⟩ := h.later.runs k r hk
      rw [h1, Option.getD_some] at e
      have hl := runFails_len r' t
      have h12 := h4.le12
      have hs := seq_turn z k (runFails r' t)
      have := h.seq
      have := h.tot
      have hT := tot_turn (r2 := runFails r' t) h1 (runFails_tot r' t) (by omega)
      rw [e] at hL ⊢
      exact ⟨hL, by rw [four_turn]; exact h.four, by omega, by omega, h.now⟩
/-- What is held, of a task that ran, is whether it runs. -/
theorem hold_later {y z : Yd} (h : LaterP y z) {k t : Nat} {r : Rn} {x : Tk} (hk : y.runs[k]? = some r) (hra : runAt y r.id = k) (hx : r.tasks[t]? = some x) : holds z r.id t x.tri = (stT ((z.runs[k]?).getD default).tasks t == 3) := by
  obtain ⟨r', h1, h2, h3, h4, h5, h6⟩ := h.runs k r hk
  have ht := (List.getElem?_eq_some_iff.1 hx).1
  have hx' : r'.tasks[t]? = some r'.tasks[t] := List.getElem?_eq_getElem (by omega)
  have hn : ¬ ((k : Int) < 0) := by omega
  have hT : taskAt z r.id t = some r'.tasks[t] := by
    simp only [taskAt, h.runAt, hra, hn, if_false, Int.toNat_natCast, h1]
    rw [if_pos (by omega)]; exact hx'
  rw [h1, Option.getD_some, stT_nat hx']
  simp only [holds, hT]
  cases hs : (r'.tasks[t].state == 3) with
  | false => rfl
  | true =>
    have hs' : r'.tasks[t].state = 3 := by simpa using hs
    have := h6 t _ hx' hs'
    rw [hx] at this
    rw [Option.some.inj this]; simp
end Go.Proofs.YtnhdcbhcocgjhaaGreat
