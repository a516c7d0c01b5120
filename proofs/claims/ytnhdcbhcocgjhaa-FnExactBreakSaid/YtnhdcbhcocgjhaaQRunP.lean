/- Texts for laws: RunP. -/
import Derived.Test.YtnhdcbhcocgjhaaQData
set_option linter.unusedSimpArgs false
set_option linter.unusedVariables false
namespace Go.Proofs.Ytnhdcbhcocgjhaa

def isE (es : List Ed) (a b : Int) : Prop := ∃ e ∈ es, e.src = a ∧ e.dst = b
/-- b waits for a, by an edge or more. -/
inductive Rc (es : List Ed) : Int → Int → Prop
  | one {a b : Int} : isE es a b → Rc es a b
  | step {a b c : Int} : Rc es a b → isE es b c → Rc es a c
/-- By at most k edges. -/
def Rk (es : List Ed) : Nat → Int → Int → Prop
  | 0, _, _ => False
  | k + 1, a, b => isE es a b ∨ ∃ c, isE es a c ∧ Rk es k c b
section
variable {es : List Ed}
theorem Rk.mono {a b : Int} : ∀ {k : Nat}, Rk es k a b → Rk es (k + 1) a b := by
  intro k
  induction k generalizing a with
  | zero => intro h; exact h.elim
  | succ k ih =>
    rintro (h | ⟨c, h1, h2⟩)
    · exact .inl h
    · exact .inr ⟨c, h1, ih h2⟩
theorem Rc.cons {a b c : Int} (he : isE es a b) (h : Rc es b c) : Rc es a c := by
  induction h with
  | one h => exact .step (.one he) h
  | step _ h ih => exact .step ih h
theorem Rk.rc {a b : Int} : ∀ {k : Nat}, Rk es k a b → Rc es a b := by
  intro k
  induction k generalizing a with
  | zero => intro h; exact h.elim
  | succ k ih =>
    rintro (h | ⟨c, h1, h2⟩)
    · exact .one h
    · exact .cons h1 (ih h2)
end
def okE (n : Nat) (e : Ed) : Prop := (0 ≤ e.src ∧ e.src < n) ∧ (0 ≤ e.dst ∧ e.dst < n)

def inB (n a b : Int) : Bool := decide (a ≤ n ∧ n ≤ b)
def manyB (p : Pl) : Bool := !inB p.tasks 1 12 || decide (30 < p.edges.length) || !inB p.prio 0 9 || !inB p.most 1 5 || !inB p.wait 1 20
def badE (n : Int) (e : Ed) : Bool := !inB e.src 0 (n - 1) || !inB e.dst 0 (n - 1)
open Classical in
noncomputable def cycB (p : Pl) : Bool := decide (∃ t : Nat, (t : Int) < p.tasks ∧ Rc p.edges t t)
noncomputable def planFault (p : Pl) : Int := if manyB p then 1 else if p.edges.any (badE p.tasks) then 2 else if decide (p.edges.Nodup) then (if cycB p then 4 else 0) else 3
end Go.Proofs.Ytnhdcbhcocgjhaa
set_option linter.unusedSimpArgs false
set_option linter.unusedVariables false
namespace Go.Proofs.Ytnhdcbhcocgjhaa
end Go.Proofs.Ytnhdcbhcocgjhaa
set_option linter.unusedSimpArgs false
set_option linter.unusedVariables false
namespace Go.Proofs.Ytnhdcbhcocgjhaa
/-- The numbers of A, in order. -/
def srtL (n : Nat) (A : List Int) : List Int := (List.range n).flatMap fun (t : Nat) => List.replicate (A.count (t : Int)) (t : Int)
end Go.Proofs.Ytnhdcbhcocgjhaa
set_option linter.unusedSimpArgs false
set_option linter.unusedVariables false
namespace Go.Proofs.Ytnhdcbhcocgjhaa
def befA (es : List Ed) (t : Int) : List Int := (es.filter fun e => e.dst == t).map (·.src)
def befL (p : Pl) (t : Int) : List Int := srtL p.tasks.toNat (befA p.edges t)
section
variable {es : List Ed} {k n : Nat} {e : Ed}
theorem befA_in (hes : ∀ e ∈ es, okE n e) (t : Int) : ∀ x ∈ befA es t, 0 ≤ x ∧ x < n := by
  intro x hx
  simp only [befA, List.mem_map, List.mem_filter] at hx
  obtain ⟨e, ⟨h1, -⟩, rfl⟩ := hx
  exact (hes e h1).1
end
def stT (ts : List Tk) (b : Int) : Int := ((ts[b.toNat]?).getD default).state
theorem stT_nat {ts : List Tk} {k : Nat} {x : Tk} (h : ts[k]? = some x) : stT ts (k : Int) = x.state := by simp [stT, h]
def tinF (s : Int) (ts : List Tk) (k : Nat) : List Int := ((List.range k).filter fun (j : Nat) => stT ts (j : Int) == s).map fun (j : Nat) => (j : Int)
def tinL (s : Int) (ts : List Tk) : List Int := tinF s ts ts.length
def cS (s : Int) (ts : List Tk) : Nat := (tinL s ts).length
theorem tinF_succ {ts : List Tk} {k : Nat} {x : Tk} (h : ts[k]? = some x) (s : Int) : tinF s ts (k + 1) = tinF s ts k ++ (if x.state = s then [(k : Int)] else []) := by
  have hs := stT_nat h
  by_cases hx : x.state = s <;> simp [tinF, List.range_succ, hs, hx]
theorem tin_sum {ts : List Tk} (h : ∀ x ∈ ts, 1 ≤ x.state ∧ x.state ≤ 6) : ∀ (k : Nat), k ≤ ts.length → (tinF 1 ts k).length + (tinF 2 ts k).length + (tinF 3 ts k).length + (tinF 4 ts k).length + (tinF 5 ts k).length + (tinF 6 ts k).length = k
  | 0, _ => rfl
  | k + 1, hk => by
    have ih := tin_sum h k (by omega)
    have hx : ts[k]? = some ts[k] := List.getElem?_eq_getElem (by omega)
    have := h ts[k] (List.getElem_mem _)
    have : ts[k].state = 1 ∨ ts[k].state = 2 ∨ ts[k].state = 3 ∨ ts[k].state = 4 ∨ ts[k].state = 5 ∨ ts[k].state = 6 := by omega
    simp only [tinF_succ hx, List.length_append]
    rcases this with h1 | h1 | h1 | h1 | h1 | h1 <;> simp [h1] <;> omega
theorem cS_0 {s : Int} {ts : List Tk} (h : cS s ts = 0) {k : Nat} {x : Tk} (hx : ts[k]? = some x) : x.state ≠ s := by
  intro e
  have hk := (List.getElem?_eq_some_iff.1 hx).1
  have : (k : Int) ∈ tinL s ts := by
    simp only [tinL, tinF, List.mem_map, List.mem_filter, List.mem_range]
    exact ⟨k, ⟨hk, by rw [stT_nat hx]; simpa using e⟩, rfl⟩
  rw [cS, List.length_eq_zero_iff] at h
  rw [h] at this
  simp at this
theorem cS_pos {s : Int} {ts : List Tk} {k : Nat} {x : Tk} (hx : ts[k]? = some x) (h : x.state = s) : 0 < cS s ts := by
  rcases Nat.eq_zero_or_pos (cS s ts) with h0 | h0
  · exact absurd h (cS_0 h0 hx)
  · exact h0
def needL (p : Pl) (ts : List Tk) (t : Int) : Int := ((((befL p t).filter fun b => stT ts b != 4).length : Nat) : Int)
def lastB (p : Pl) (x : Tk) : Bool := if x.state = 1 then decide (0 < x.need) else if x.state = 2 then (x.need == 0 && decide (x.tri < p.most)) else if x.state = 6 then true else (x.need == 0 && decide (1 ≤ x.tri))
def tilB (x : Tk) : Bool := if x.state = 3 then inB x.til 1 1000000000 else x.til == 0
def taskB (p : Pl) (ts : List Tk) (t : Nat) (x : Tk) : Bool := inB x.state 1 6 && x.need == needL p ts t && inB x.tri 0 p.most && tilB x && lastB p x
/-- What the state of a run has to be. -/
def stOf (ts : List Tk) : Int := if cS 4 ts = ts.length then 2 else if cS 5 ts = 1 ∧ cS 4 ts + cS 5 ts + cS 6 ts = ts.length then 3 else if cS 5 ts = 0 ∧ 0 < cS 6 ts ∧ cS 4 ts + cS 5 ts + cS 6 ts = ts.length then 4 else if cS 5 ts = 0 ∧ cS 6 ts = 0 then 1 else 0
structure RunOkP (r : Rn) : Prop where
  id : inB r.id 1 9999 = true
  plan : planFault r.plan = 0
  len : (r.tasks.length : Int) = r.plan.tasks
  tasks : ∀ (t : Nat) (x : Tk), r.tasks[t]? = some x → taskB r.plan r.tasks t x = true
  state : r.state = stOf r.tasks
  live : r.state ≠ 0
theorem RunOkP.st {r : Rn} (h : RunOkP r) : ∀ x ∈ r.tasks, 1 ≤ x.state ∧ x.state ≤ 6 := by
  intro x hx
  obtain ⟨k, hk, rfl⟩ := List.getElem_of_mem hx
  have := h.tasks k _ (List.getElem?_eq_getElem hk)
  simp only [taskB, inB, Bool.and_eq_true, decide_eq_true_eq] at this
  exact this.1.1.1.1
/-- A run of which a task runs is live. -/
theorem RunOkP.runs {r : Rn} (h : RunOkP r) {t : Nat} {x : Tk} (hx : r.tasks[t]? = some x) (hs : x.state = 3) : r.state = 1 ∧ cS 5 r.tasks = 0 ∧ cS 6 r.tasks = 0 ∧ cS 4 r.tasks < r.tasks.length := by
  have h3 := cS_pos hx hs
  have hsum := tin_sum h.st r.tasks.length (Nat.le_refl _)
  have e1 := h.state
  have e2 := h.live
  change cS 1 r.tasks + cS 2 r.tasks + cS 3 r.tasks + cS 4 r.tasks + cS 5 r.tasks + cS 6 r.tasks = _ at hsum
  unfold stOf at e1
  split at e1
  · omega
  · split at e1
    · omega
    · split at e1
      · omega
      · split at e1
        · exact ⟨e1, by omega, by omega, by omega⟩
        · exact absurd e1 e2
end Go.Proofs.Ytnhdcbhcocgjhaa
set_option linter.unusedSimpArgs false
set_option linter.unusedVariables false
namespace Go.Proofs.Ytnhdcbhcocgjhaa
end Go.Proofs.Ytnhdcbhcocgjhaa
set_option linter.unusedSimpArgs false
set_option linter.unusedVariables false
namespace Go.Proofs.Ytnhdcbhcocgjhaa
end Go.Proofs.Ytnhdcbhcocgjhaa
