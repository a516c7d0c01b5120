/- The reference's functions, as plain Lean over the data. No program. -/
import Derived.Test.YtbplebgnkhmemaaData
namespace Go.Proofs.Ytbplebgnkhmemaa

def runIx (rs : List Rn) (id : Int) : Int := match rs.findIdx? (fun r => r.id == id) with
  | some k => k
  | none => -1
def runAt (y : Yd) (id : Int) : Int := if 8 < y.runs.length then -1 else runIx y.runs id
theorem runIx_found {rs : List Rn} {id : Int} {k : Nat} {x : Rn} (hx : rs[k]? = some x) (h : x.id = id) (hno : ∀ j, j < k → ∀ z, rs[j]? = some z → z.id ≠ id) : runIx rs id = k := by
  have hk : k < rs.length := (List.getElem?_eq_some_iff.1 hx).1
  have : rs.findIdx? (fun r => r.id == id) = some k := by
    rw [List.findIdx?_eq_some_iff_getElem]
    refine ⟨hk, ?_, fun j hj => ?_⟩
    · rw [List.getElem?_eq_getElem hk] at hx
      simp only [Option.some.injEq] at hx
      simp [hx, h]
    · have := hno j hj rs[j] (List.getElem?_eq_getElem (by omega))
      simpa using this
  simp [runIx, this]
theorem runIx_none {rs : List Rn} {id : Int} (hno : ∀ j, j < rs.length → ∀ z, rs[j]? = some z → z.id ≠ id) : runIx rs id = -1 := by
  have : rs.findIdx? (fun r => r.id == id) = none := by
    rw [List.findIdx?_eq_none_iff]
    intro x hx
    obtain ⟨j, hj, rfl⟩ := List.getElem_of_mem hx
    simpa using hno j hj rs[j] (List.getElem?_eq_getElem hj)
  simp [runIx, this]
/-- What RunAt finds. -/
theorem runIx_cases (rs : List Rn) (id : Int) : (∃ (k : Nat) (x : Rn), rs[k]? = some x ∧ x.id = id ∧ (∀ j, j < k → ∀ z, rs[j]? = some z → z.id ≠ id) ∧ runIx rs id = k) ∨ ((∀ x ∈ rs, x.id ≠ id) ∧ runIx rs id = -1) := by
  cases h : rs.findIdx? (fun r => r.id == id) with
  | none =>
    right
    rw [List.findIdx?_eq_none_iff] at h
    have h' : ∀ x ∈ rs, x.id ≠ id := fun x hx => by simpa using h x hx
    exact ⟨h', runIx_none fun j hj z hz => h' z (List.mem_of_getElem? hz)⟩
  | some k =>
    left
    rw [List.findIdx?_eq_some_iff_getElem] at h
    obtain ⟨hk, h1, h2⟩ := h
    have hx : rs[k]? = some rs[k] := List.getElem?_eq_getElem hk
    have h1' : rs[k].id = id := by simpa using h1
    have hno : ∀ j, j < k → ∀ z, rs[j]? = some z → z.id ≠ id := fun j hj z hz => by
      have := h2 j hj
      rw [List.getElem?_eq_getElem (by omega)] at hz
      simp only [Option.some.injEq] at hz
      subst hz
      simpa using this
    exact ⟨k, rs[k], hx, h1', hno, runIx_found hx h1' hno⟩

def taskAt (y : Yd) (id task : Int) : Option Tk :=
  if runAt y id < 0 then none else match y.runs[(runAt y id).toNat]? with
  | some r => if 0 ≤ task then r.tasks[task.toNat]? else none
  | none => none
def fresh (y : Yd) (e : En) : Bool := match taskAt y e.run e.task with
  | some t => t.state == 2
  | none => false
def holds (y : Yd) (id task tri : Int) : Bool := match taskAt y id task with
  | some t => t.state == 3 && t.tri == tri
  | none => false
/-- The three ways of a look for a task. -/
theorem taskAt_cases (y : Yd) (id task : Int) : (runAt y id = -1 ∧ taskAt y id task = none) ∨
    (∃ (k : Nat) (r : Rn), runAt y id = k ∧ y.runs[k]? = some r ∧ ((¬ (0 ≤ task ∧ task ≤ (r.tasks.length : Int) - 1) ∧ taskAt y id task = none) ∨
      (∃ (j : Nat) (t : Tk), task = j ∧ r.tasks[j]? = some t ∧ taskAt y id task = some t))) := by
  have h1 : runAt y id = -1 ∨ ∃ (k : Nat) (r : Rn), runAt y id = k ∧ y.runs[k]? = some r := by
    unfold runAt
    split
    · exact .inl rfl
    · rcases runIx_cases y.runs id with ⟨k, x, hx, _, _, he⟩ | ⟨_, he⟩
      · exact .inr ⟨k, x, he, hx⟩
      · exact .inl he
  rcases h1 with h | ⟨k, r, h, hr⟩
  · exact .inl ⟨h, by unfold taskAt; rw [if_pos (by omega)]⟩
  · right
    refine ⟨k, r, h, hr, ?_⟩
    have e : taskAt y id task = if 0 ≤ task then r.tasks[task.toNat]? else none := by
      unfold taskAt
      rw [if_neg (by omega), h, Int.toNat_natCast, hr]
    by_cases h0 : 0 ≤ task
    · rw [if_pos h0] at e
      by_cases hl : task.toNat < r.tasks.length
      · right
        exact ⟨task.toNat, r.tasks[task.toNat], by omega, List.getElem?_eq_getElem hl, by rw [e, List.getElem?_eq_getElem hl]⟩
      · left
        exact ⟨by omega, by rw [e, List.getElem?_eq_none (by omega)]⟩
    · left
      rw [if_neg h0] at e
      exact ⟨by omega, e⟩

def liveN (r : Rn) : Nat := if r.state = 1 then r.tasks.length else 0
def staleN (y : Yd) (l : List En) : Nat := l.countP (fun e => !fresh y e)
def allEn (y : Yd) : List En := y.shelf.flatten
def slotsOf (y : Yd) : Int := tsum liveN y.runs + staleN y (allEn y)
def roomFor (y : Yd) (p : Pl) : Bool := decide (y.runs.length < 8) && (decide (0 ≤ p.tasks ∧ p.tasks ≤ 12) && (decide (slotsOf y + p.tasks ≤ 40) && decide (y.seq ≤ 1000000000 - 1000 - p.tasks)))
theorem tsum_live (l : List Rn) : tsum liveN l ≤ tsum totRn l := by
  induction l with
  | nil => simp [tsum]
  | cons r l ih =>
    have h : liveN r ≤ totRn r := by unfold liveN totRn; split <;> omega
    simp only [tsum, List.map_cons, List.sum_cons] at *
    omega
theorem len_flatten (l : List (List En)) : l.flatten.length = tsum totEnS l := by
  induction l with
  | nil => simp [tsum]
  | cons r l ih => simp only [List.flatten_cons, List.length_append, tsum, List.map_cons, List.sum_cons, totEnS] at *; omega
theorem stale_le (y : Yd) (l : List En) : staleN y l ≤ l.length := List.countP_le_length
theorem stale_succ {y : Yd} {l : List En} {k : Nat} {e : En} (h : l[k]? = some e) : staleN y (l.take (k + 1)) = staleN y (l.take k) + (if fresh y e then 0 else 1) := by
  unfold staleN
  rw [List.take_add_one, h, List.countP_append]
  cases hf : fresh y e <;> simp [hf]
theorem stale_take (y : Yd) (l : List En) (k : Nat) : staleN y (l.take k) ≤ staleN y l := by
  unfold staleN
  exact (List.take_sublist k l).countP_le
theorem flatten_take_succ {l : List (List En)} {k : Nat} {es : List En} (h : l[k]? = some es) : (l.take (k + 1)).flatten = (l.take k).flatten ++ es := by
  rw [List.take_add_one, h, List.flatten_append]; simp
end Go.Proofs.Ytbplebgnkhmemaa
