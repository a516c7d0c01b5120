/- The numbers of a yard's text; what giving up a run makes of it. No program. -/
import Derived.Test.YtbplebgnkhmemaaGreatRunP
import Derived.Test.YtbplebgnkhmemaaGreatNotesT
set_option linter.unusedSimpArgs false
set_option linter.unusedVariables false
namespace Go.Proofs.YtbplebgnkhmemaaGreat
open Go.RowKit Go.Sort
def enI (e : En) : List Int := [e.prio, e.seq, e.run, e.task]
def edI (e : Ed) : List Int := [e.src, e.dst]
def tkI (t : Tk) : List Int := [t.state, t.need, t.tri, t.til]
def plI (p : Pl) : List Int := [p.prio, p.most, p.wait, p.tasks, (p.edges.length : Int)] ++ p.edges.flatMap edI
def rnI (r : Rn) : List Int := (r.id :: plI r.plan) ++ (r.state :: r.tasks.flatMap tkI)
def shI (l : List En) : List Int := (l.length : Int) :: l.flatMap enI
def yardI (y : Yd) : List Int := ([y.now, y.seq] ++ y.shelf.flatMap shI) ++ ((y.runs.length : Int) :: y.runs.flatMap rnI)
noncomputable def yardS (y : Yd) : ByteArray := if yardOkB y = true then varsS (yardI y) else ⟨⟨[]⟩⟩
theorem fl_le {α β : Type} {f : α → List β} {c : Nat} : ∀ {L : List α}, (∀ x ∈ L, (f x).length ≤ c) → (L.flatMap f).length ≤ c * L.length
  | [], _ => by simp
  | x :: L, h => by
    have h1 := h x (by simp)
    have h2 := fl_le (L := L) (c := c) fun y hy => h y (by simp [hy])
    rw [List.flatMap_cons, List.length_append, List.length_cons, Nat.mul_succ]
    omega
theorem fl_take_le {α β : Type} {f : α → List β} {c : Nat} {L : List α} (h : ∀ x ∈ L, (f x).length ≤ c) (k : Nat) : ((L.take k).flatMap f).length ≤ c * L.length := by
  have h1 := fl_le (L := L.take k) (c := c) fun y hy => h y (List.mem_of_mem_take hy)
  have h2 : (L.take k).length ≤ L.length := by rw [List.length_take]; omega
  exact Nat.le_trans h1 (Nat.mul_le_mul_left _ h2)
theorem fl_take {α β : Type} {f : α → List β} {L : List α} {k : Nat} {x : α} (h : L[k]? = some x) : (L.take (k + 1)).flatMap f = (L.take k).flatMap f ++ f x := by
  rw [List.take_add_one, h]; simp
theorem plI_le {p : Pl} (h : p.edges.length ≤ 30) : (plI p).length ≤ 65 := by
  have := fl_le (f := edI) (c := 2) (L := p.edges) fun _ _ => Nat.le_refl 2
  simp only [plI, List.length_append, List.length_cons, List.length_nil]; omega
theorem rnI_le {r : Rn} (h : RunOkP r) : (rnI r).length ≤ 120 := by
  obtain ⟨n, hn, hn1, h12, h30, -⟩ := pf_0 h.plan
  have h1 := plI_le h30
  have h2 := fl_le (f := tkI) (c := 4) (L := r.tasks) fun _ _ => Nat.le_refl 4
  have h3 := h.len
  simp only [rnI, List.length_append, List.length_cons]; omega
theorem shI_le {l : List En} (h : ShelfP l) : (shI l).length ≤ 330 := by
  have := fl_le (f := enI) (c := 4) (L := l) fun _ _ => Nat.le_refl 4
  have := h.most
  simp only [shI, List.length_cons]; omega
theorem yardI_le {y : Yd} (h : YardOkP y) : (yardI y).length ≤ 3000 := by
  have h1 := fl_le (f := shI) (c := 330) (L := y.shelf) fun l hl => shI_le (h.shelves l hl)
  have h2 := fl_le (f := rnI) (c := 120) (L := y.runs) fun r hr => rnI_le (h.right r hr)
  have h3 := h.four
  have h4 := h.eight
  simp only [yardI, List.length_append, List.length_cons, List.length_nil]; omega
theorem yardS_le (y : Yd) : (yardS y).size ≤ 15000 := by
  unfold yardS
  split
  · rename_i h
    have h1 := yardI_le (yard_iff.1 h)
    have h2 := varsL_le (yardI y)
    rw [varsS_size]; omega
  · exact Nat.zero_le _
noncomputable def markS (q : Int) (y : Yd) : ByteArray := if (0 ≤ q ∧ q ≤ 1000000000) ∧ (yardS y).size ≠ 0 ∧ (yardS y).size ≤ 59992 then fourS q ++ fourS (sumS (yardS y)) ++ yardS y else ⟨⟨[]⟩⟩
/-! ### What giving up makes of a run -/
noncomputable def leftR (r : Rn) : Rn := if (runOkB r && r.state == 1) = true then ⟨r.id, r.plan, 4, mapK leaveG r.tasks r.tasks.length⟩ else r
theorem leftR_no {r : Rn} (h : (runOkB r && r.state == 1) = false) : leftR r = r := by simp [leftR, h]
theorem leftR_yes {r : Rn} (h : (runOkB r && r.state == 1) = true) : leftR r = ⟨r.id, r.plan, 4, mapK leaveG r.tasks r.tasks.length⟩ := by simp [leftR, h]
theorem live_5 {r : Rn} (h : RunOkP r) (h1 : r.state = 1) : cS 5 r.tasks = 0 := by
  have h2 := h.state
  rw [h1] at h2
  unfold stOf at h2
  split at h2
  · omega
  split at h2
  · omega
  split at h2
  · omega
  split at h2
  · rename_i h3; exact h3.1
  · omega
theorem left_leave {ts : List Tk} (h : cS 5 ts = 0) (k : Nat) : mapK (leaveF (-1)) ts k = mapK leaveG ts k := by
  refine mapK_congr (fun j y hy => ?_) k
  have h5 : y.state ≠ 5 := cS_0 h hy
  have hj : (j : Int) ≠ -1 := by omega
  simp [leaveF, leaveG, h5, hj]
theorem leftR_tot (r : Rn) : totRn (leftR r) = totRn r := by
  unfold leftR
  split
  · simp only [totRn, mapK_len]
  · rfl
/-! ### Cancel -/
def setRun (y : Yd) (k : Nat) (r : Rn) : Yd := ⟨y.now, y.seq, y.shelf, y.runs.set k r⟩
theorem tsum_set {α : Type} {f : α → Nat} {l : List α} {k : Nat} {x v : α} (h : l[k]? = some x) (hv : f v = f x) : tsum f (l.set k v) = tsum f l := by
  obtain ⟨hk, hx⟩ := List.getElem?_eq_some_iff.1 h
  have e : l = l.take k ++ x :: l.drop (k + 1) := by rw [← hx, ← List.drop_eq_getElem_cons hk, List.take_append_drop]
  have e2 : l.set k v = l.take k ++ v :: l.drop (k + 1) := by rw [List.set_eq_take_append_cons_drop, if_pos hk]
  rw [e2]
  conv => rhs; rw [e]
  rw [tsum_append, tsum_append]
  simp only [tsum, List.map_cons, List.sum_cons, hv]
theorem setRun_tot {y : Yd} {k : Nat} {r r' : Rn} (h : y.runs[k]? = some r) (hr : totRn r' = totRn r) : totYd (setRun y k r') = totYd y := by
  simp only [totYd, totRns, setRun, List.length_set, tsum_set h hr]
noncomputable def cancelC (y : Yd) (id : Int) : Int := if yardOkB y = false then 8 else if runAt y id < 0 then 10 else if ((y.runs[(runAt y id).toNat]?).getD default).state = 1 then 0 else 12
noncomputable def cancelY (y : Yd) (id : Int) : Yd := if cancelC y id = 0 then setRun y (runAt y id).toNat (leftR ((y.runs[(runAt y id).toNat]?).getD default)) else y
end Go.Proofs.YtbplebgnkhmemaaGreat
