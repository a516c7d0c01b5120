/- Texts for laws: Data. -/
import Derived.Test.YtmnpailnelmpiaaGreatQBase2
namespace Go.Proofs.YtmnpailnelmpiaaGreat
open Go.RowKit

structure Ed where
  src : Int
  dst : Int
  deriving DecidableEq, Inhabited
structure Pl where
  prio : Int
  most : Int
  wait : Int
  tasks : Int
  edges : List Ed
  deriving DecidableEq, Inhabited
structure En where
  prio : Int
  seq : Int
  run : Int
  task : Int
  deriving DecidableEq, Inhabited
structure Tk where
  state : Int
  need : Int
  tri : Int
  til : Int
  deriving DecidableEq, Inhabited
structure Rn where
  id : Int
  plan : Pl
  state : Int
  tasks : List Tk
  deriving DecidableEq, Inhabited
structure Yd where
  now : Int
  seq : Int
  shelf : List (List En)
  runs : List Rn
  deriving DecidableEq, Inhabited
abbrev tEdS : TypeId := 69
abbrev tTkS : TypeId := 106
abbrev tRnS : TypeId := 35
abbrev tSh : TypeId := 34
abbrev tEd : TypeId := 253
abbrev tEn : TypeId := 111
abbrev tTk : TypeId := 172
abbrev tRn : TypeId := 108
abbrev tEnS : TypeId := 102
abbrev tYd : TypeId := 37
abbrev tInt : TypeId := 3

abbrev iv (n : Int) : D := .val (.int .i64 n)
def encInts (l : List Int) : D := .sl 1 tInt (l.flatMap fun n => [iv n])
def encEd (e : Ed) : List D := [iv e.src, iv e.dst]
def encEds (l : List Ed) : D := .sl 2 tEd (l.flatMap encEd)
def encPl (p : Pl) : List D := [iv p.prio, iv p.most, iv p.wait, iv p.tasks, encEds p.edges]
def encEn (e : En) : List D := [iv e.prio, iv e.seq, iv e.run, iv e.task]
def encEns (l : List En) : D := .sl 4 tEn (l.flatMap encEn)
def encTk (t : Tk) : List D := [iv t.state, iv t.need, iv t.tri, iv t.til]
def encTks (l : List Tk) : D := .sl 4 tTk (l.flatMap encTk)
def encRn (r : Rn) : List D := iv r.id :: (encPl r.plan ++ [iv r.state, encTks r.tasks])
def encRns (l : List Rn) : D := .sl 8 tRn (l.flatMap encRn)
def encSh (l : List (List En)) : D := .sl 1 tEnS (l.flatMap fun es => [encEns es])
def encYd (y : Yd) : List D := [iv y.now, iv y.seq, encSh y.shelf, encRns y.runs]
section
variable {w : World} {own : Bool} {vs : List Value} {v : Value} {S : List Nat}

theorem en_cells {e : En} (h : RepL w own (encEn e) vs S) : vs = [.int .i64 e.prio, .int .i64 e.seq, .int .i64 e.run, .int .i64 e.task] ∧ S = [] := by
  obtain ⟨_, rfl, g1⟩ := RepL.val_inv h
  obtain ⟨_, rfl, g2⟩ := RepL.val_inv g1
  obtain ⟨_, rfl, g3⟩ := RepL.val_inv g2
  obtain ⟨_, rfl, g4⟩ := RepL.val_inv g3
  obtain ⟨rfl, rfl⟩ := g4
  exact ⟨rfl, rfl⟩
theorem tk_cells {e : Tk} (h : RepL w own (encTk e) vs S) : vs = [.int .i64 e.state, .int .i64 e.need, .int .i64 e.tri, .int .i64 e.til] ∧ S = [] := by
  obtain ⟨_, rfl, g1⟩ := RepL.val_inv h
  obtain ⟨_, rfl, g2⟩ := RepL.val_inv g1
  obtain ⟨_, rfl, g3⟩ := RepL.val_inv g2
  obtain ⟨_, rfl, g4⟩ := RepL.val_inv g3
  obtain ⟨rfl, rfl⟩ := g4
  exact ⟨rfl, rfl⟩
theorem ed_cells {e : Ed} (h : RepL w own (encEd e) vs S) : vs = [.int .i64 e.src, .int .i64 e.dst] ∧ S = [] := by
  obtain ⟨_, rfl, g1⟩ := RepL.val_inv h
  obtain ⟨_, rfl, g2⟩ := RepL.val_inv g1
  obtain ⟨rfl, rfl⟩ := g2
  exact ⟨rfl, rfl⟩
theorem pl_cells {p : Pl} (h : RepL w own (encPl p) vs S) : ∃ ev, vs = [.int .i64 p.prio, .int .i64 p.most, .int .i64 p.wait, .int .i64 p.tasks, ev] ∧ Rep w own (encEds p.edges) ev S := by
  obtain ⟨_, rfl, g1⟩ := RepL.val_inv h
  obtain ⟨_, rfl, g2⟩ := RepL.val_inv g1
  obtain ⟨_, rfl, g3⟩ := RepL.val_inv g2
  obtain ⟨_, rfl, g4⟩ := RepL.val_inv g3
  obtain ⟨ev, _, S1, S2, rfl, rfl, h1, rfl, rfl⟩ := g4
  exact ⟨ev, rfl, by simpa using h1⟩
theorem rn_cells {r : Rn} (h : RepL w own (encRn r) vs S) : ∃ ev tv S1 S2, vs = [.int .i64 r.id, .int .i64 r.plan.prio, .int .i64 r.plan.most, .int .i64 r.plan.wait, .int .i64 r.plan.tasks, ev, .int .i64 r.state, tv]
    ∧ Rep w own (encEds r.plan.edges) ev S1 ∧ Rep w own (encTks r.tasks) tv S2 ∧ S = S1 ++ S2 := by
  obtain ⟨_, rfl, g1⟩ := RepL.val_inv h
  obtain ⟨v1, v2, S1, S2, rfl, rfl, h1, h2⟩ := RepL.append_inv _ g1
  obtain ⟨ev, rfl, k1⟩ := pl_cells h1
  obtain ⟨_, rfl, g2⟩ := RepL.val_inv h2
  obtain ⟨tv, _, S3, S4, rfl, rfl, h3, rfl, rfl⟩ := g2
  exact ⟨ev, tv, S1, S3, rfl, k1, h3, by simp⟩
theorem yd_cells {y : Yd} (h : RepL w own (encYd y) vs S) : ∃ sv rv S1 S2, vs = [.int .i64 y.now, .int .i64 y.seq, sv, rv] ∧ Rep w own (encSh y.shelf) sv S1 ∧ Rep w own (encRns y.runs) rv S2 ∧ S = S1 ++ S2 := by
  obtain ⟨_, rfl, g1⟩ := RepL.val_inv h
  obtain ⟨_, rfl, g2⟩ := RepL.val_inv g1
  obtain ⟨sv, _, S1, S2, rfl, rfl, h1, k⟩ := g2
  obtain ⟨rv, _, S3, S4, rfl, rfl, h3, rfl, rfl⟩ := k
  exact ⟨sv, rv, S1, S3, rfl, h1, h3, by simp⟩
theorem en_mk (w : World) (own : Bool) (e : En) : RepL w own (encEn e) [.int .i64 e.prio, .int .i64 e.seq, .int .i64 e.run, .int .i64 e.task] [] := RepL.val_ (RepL.val_ (RepL.val_ (RepL.val_ RepL.nil_)))
theorem tk_mk (w : World) (own : Bool) (e : Tk) : RepL w own (encTk e) [.int .i64 e.state, .int .i64 e.need, .int .i64 e.tri, .int .i64 e.til] [] := RepL.val_ (RepL.val_ (RepL.val_ (RepL.val_ RepL.nil_)))
theorem ed_mk (w : World) (own : Bool) (e : Ed) : RepL w own (encEd e) [.int .i64 e.src, .int .i64 e.dst] [] := RepL.val_ (RepL.val_ RepL.nil_)
theorem pl_mk {p : Pl} {ev : Value} (h : Rep w own (encEds p.edges) ev S) : RepL w own (encPl p) [.int .i64 p.prio, .int .i64 p.most, .int .i64 p.wait, .int .i64 p.tasks, ev] S := by
  have := RepL.val_ (u := .int .i64 p.prio) (RepL.val_ (u := .int .i64 p.most) (RepL.val_ (u := .int .i64 p.wait) (RepL.val_ (u := .int .i64 p.tasks) (RepL.cons_ h (RepL.nil_ (w := w) (own := own))))))
  rwa [List.append_nil] at this
theorem rn_mk {r : Rn} {ev tv : Value} {S1 S2 : List Nat} (h : Rep w own (encEds r.plan.edges) ev S1) (h2 : Rep w own (encTks r.tasks) tv S2) :
    RepL w own (encRn r) [.int .i64 r.id, .int .i64 r.plan.prio, .int .i64 r.plan.most, .int .i64 r.plan.wait, .int .i64 r.plan.tasks, ev, .int .i64 r.state, tv] (S1 ++ S2) := by
  have := RepL.val_ (u := .int .i64 r.id) (RepL.append_ _ (pl_mk h) (RepL.val_ (u := .int .i64 r.state) (RepL.cons_ h2 (RepL.nil_ (w := w) (own := own)))))
  rwa [List.append_nil] at this
theorem yd_mk {y : Yd} {sv rv : Value} {S1 S2 : List Nat} (h : Rep w own (encSh y.shelf) sv S1) (h2 : Rep w own (encRns y.runs) rv S2) :
    RepL w own (encYd y) [.int .i64 y.now, .int .i64 y.seq, sv, rv] (S1 ++ S2) := by
  have := RepL.val_ (u := .int .i64 y.now) (RepL.val_ (u := .int .i64 y.seq) (RepL.cons_ h (RepL.cons_ h2 (RepL.nil_ (w := w) (own := own)))))
  rwa [List.append_nil] at this
theorem encRn_len (r : Rn) : (encRn r).length = 8 := rfl
end
/-- Two lists that agree up to k, and at k. -/
theorem eqS_step {α : Type} {l m : List α} {k : Nat} {x : α} (hx : l[k]? = some x) (hy : m[k]? = some x) (h : l.take k = m.take k) : l.take (k+1) = m.take (k+1) := by
  rw [List.take_add_one, List.take_add_one, h, hx, hy]
theorem eqS_ne {α : Type} {l m : List α} {k : Nat} {x y : α} (hx : l[k]? = some x) (hy : m[k]? = some y) (h : x ≠ y) : l ≠ m := by
  intro e; subst e; rw [hx] at hy; exact h (Option.some.inj hy)
theorem eqS_done {α : Type} {l m : List α} {k : Nat} (hl : l.length ≤ k) (hm : m.length ≤ k) (h : l.take k = m.take k) : l = m := by
  rwa [List.take_of_length_le hl, List.take_of_length_le hm] at h
theorem get_some {α : Type} {l : List α} {k : Nat} (h : k < l.length) : ∃ x, l[k]? = some x := ⟨l[k], List.getElem?_eq_getElem h⟩

theorem ret_bool {b b' : Bool} (h : b = b') : Ending.returned (.bool b) = Ending.returned (.bool b') := by rw [h]

theorem info_of {P : Program} {e : TypeId} {size bytes : Nat} {z : Value} (h : (P.info? e).map (fun i => (i.zero, i.size, i.bytes)) = some (some z, size, bytes)) :
    ∃ i zv, P.info? e = some i ∧ i.zero = some zv ∧ zv.cells = z.cells ∧ i.size = size ∧ i.bytes = bytes := by
  cases hq : P.info? e with
  | none => rw [hq] at h; simp at h
  | some i =>
    rw [hq] at h
    simp at h
    exact ⟨i, z, rfl, h.1, rfl, h.2.1, h.2.2⟩
/-- A list that is being copied, place by place. -/
def half {α : Type} (l : List α) (z : α) (k : Nat) : List α := l.take k ++ List.replicate (l.length - k) z
theorem half_zero {α : Type} (l : List α) (z : α) : half l z 0 = List.replicate l.length z := by simp [half]
theorem half_len {α : Type} (l : List α) (z : α) (k : Nat) (h : k ≤ l.length) : (half l z k).length = l.length := by simp [half]; omega
theorem half_all {α : Type} (l : List α) (z : α) : half l z l.length = l := by simp [half]
theorem half_set {α : Type} {l : List α} {z x : α} {k : Nat} (hx : l[k]? = some x) : (half l z k).set k x = half l z (k + 1) := by
  have hk : k < l.length := (List.getElem?_eq_some_iff.1 hx).1
  have hx' : l[k] = x := by rw [List.getElem?_eq_getElem hk] at hx; exact Option.some.inj hx
  unfold half
  rw [List.set_append_right _ _ (by rw [List.length_take]; exact Nat.min_le_left _ _), List.length_take, Nat.min_eq_left (by omega), Nat.sub_self]
  obtain ⟨m, hm⟩ : ∃ m, l.length - k = m + 1 := ⟨l.length - k - 1, by omega⟩
  rw [hm, List.replicate_succ, List.set_cons_zero, List.take_succ_eq_append_getElem hk, hx', List.append_assoc, show l.length - (k + 1) = m by omega]
  rfl

/-- A call that returns a bool, the bool said anew. -/
theorem cb {P : Program} {f : FuncId} {args : Array Value} {w : World} {b b' : Bool} (h : Calls P f args w fun e w' => e = .returned (.bool b) ∧ Below w.heap.size w w') (hb : b = b') : Calls P f args w fun e w' => e = .returned (.bool b') ∧ Below w.heap.size w w' := by subst hb; exact h
theorem bcell {W w1 : World} (hb : Below W.heap.size W w1) : (∀ b o, b < W.heap.size → w1.cell? ⟨b, o, none⟩ = W.cell? ⟨b, o, none⟩) ∧ (∀ b o, b < W.heap.size → w1.frozen? ⟨b, o, none⟩ = W.frozen? ⟨b, o, none⟩) :=
  ⟨fun b o h => hb.cell (p := ⟨b, o, none⟩) h, fun b o h => hb.frozen (p := ⟨b, o, none⟩) h⟩

theorem keep_set {w : World} {own : Bool} {d : D} {v : Value} {S : List Nat} {p : Addr} {u : Value} (h : Rep w own d v S) (hp : ∀ b ∈ S, b ≠ p.block) : Rep (w.setCell p u) own d v S :=
  Rep.keep d h fun b hb => Below.heap_setCell w p u b (hp b hb)
theorem Rep.form {w : World} {own : Bool} {size : Nat} {ty : TypeId} {cs : List D} {v : Value} {S : List Nat} (h : Rep w own (.sl size ty cs) v S) : ∃ A n c, v = .slice A n c := by
  obtain ⟨vs, T, S', hr, _, _⟩ := h
  obtain ⟨_, A, n, c, rfl, _⟩ := hr.ro
  exact ⟨A, n, c, rfl⟩

def tsum {α : Type} (tot : α → Nat) (l : List α) : Nat := (l.map tot).sum
theorem tsum_append {α : Type} (tot : α → Nat) (l m : List α) : tsum tot (l ++ m) = tsum tot l + tsum tot m := by simp [tsum]
theorem tsum_succ {α : Type} {tot : α → Nat} {l : List α} {k : Nat} {x : α} (h : l[k]? = some x) : tsum tot (l.take (k + 1)) = tsum tot (l.take k) + tot x := by
  rw [List.take_add_one, h, tsum_append]; simp [tsum]
theorem tsum_le {α : Type} (tot : α → Nat) (l : List α) (k : Nat) : tsum tot (l.take k) ≤ tsum tot l := by
  conv => rhs; rw [← List.take_append_drop k l, tsum_append]
  exact Nat.le_add_right _ _
theorem tsum_get {α : Type} {tot : α → Nat} {l : List α} {k : Nat} {x : α} (h : l[k]? = some x) : tot x ≤ tsum tot l := by
  have h1 := tsum_succ (tot := tot) h
  have h2 := tsum_le tot l (k + 1)
  omega
def totPl (p : Pl) : Nat := p.edges.length
def totRn (r : Rn) : Nat := totPl r.plan + r.tasks.length
def totEnS (l : List En) : Nat := l.length
def totSh (l : List (List En)) : Nat := l.length + tsum totEnS l
def totRns (l : List Rn) : Nat := l.length + tsum totRn l
def totYd (y : Yd) : Nat := totSh y.shelf + totRns y.runs
def szf (tot : Nat) (left : Int) : Int := if (tot : Int) ≤ left then left - tot else -1
theorem szf_spec (tot : Nat) (left : Int) : ((tot : Int) ≤ left ∧ szf tot left = left - tot) ∨ (left < tot ∧ szf tot left = -1) := by
  unfold szf; split
  · exact .inl ⟨by assumption, rfl⟩
  · exact .inr ⟨by omega, rfl⟩
theorem ret_int {a b : Int} (h : a = b) : Ending.returned (.int .i64 a) = Ending.returned (.int .i64 b) := by rw [h]

/-- A cell of an owned row of one-cell elements. -/
theorem own_cell {α : Type} {enc : α → List D} {w : World} {ty : TypeId} {xs : List α} {S : List Nat} {g n c k : Nat} (hl : ∀ x, (enc x).length = 1) (h : Rep w true (.sl 1 ty (xs.flatMap enc)) (.slice (some ⟨g, 0, none⟩) n c) S) (hk : k < xs.length) :
    (∃ u, w.cell? ⟨g, k, none⟩ = some u) ∧ w.frozen? ⟨g, k, none⟩ = false := by
  obtain ⟨vs, S1, hown, hrl, rfl⟩ := Rep.own hl (by decide) h
  have hn : n = xs.length := by
    rcases hown.2 with ⟨e, _⟩ | ⟨g', cap', cur, e, _⟩
    · cases e
    · simp only [Value.slice.injEq] at e; exact e.2.1
  subst hn
  have := own_there hown k 1 (by omega) 0 (by omega)
  exact ⟨Option.isSome_iff_exists.1 (by simpa using this.1), by simpa using this.2⟩
end Go.Proofs.YtmnpailnelmpiaaGreat
namespace Go.Proofs.YtmnpailnelmpiaaGreat

def runIx (rs : List Rn) (id : Int) : Int := match rs.findIdx? (fun r => r.id == id) with
  | some k => k
  | none => -1
def runAt (y : Yd) (id : Int) : Int := if 8 < y.runs.length then -1 else runIx y.runs id
theorem runIx_found {rs : List Rn} {id : Int} {k : Nat} {x : Rn} (hx : rs[k]? = some x) (h : x.id = id) (hno : ∀ j, j < k → ∀ z, rs[j]? = some z → z.id ≠ id) : runIx rs id = k := by
  have hk : k < rs.length := (List.getElem?_eq_some_iff.1 hx).1
  have : rs.findIdx? (fun r => r.id == id) = some k := by
    rw [List.findIdx?_eq_some_iff_getElem]
    refine ⟨hk, ?_, fun j hj => ?_⟩
    · rw [List.getElem?_eq_getElem hk] at hx
      simp only [Option.some.injEq] at hx
      simp [hx, h]
    · have := hno j hj rs[j] (List.getElem?_eq_getElem (by omega))
      simpa using this
  simp [runIx, this]
theorem runIx_none {rs : List Rn} {id : Int} (hno : ∀ j, j < rs.length → ∀ z, rs[j]? = some z → z.id ≠ id) : runIx rs id = -1 := by
  have : rs.findIdx? (fun r => r.id == id) = none := by
    rw [List.findIdx?_eq_none_iff]
    intro x hx
    obtain ⟨j, hj, rfl⟩ := List.getElem_of_mem hx
    simpa using hno j hj rs[j] (List.getElem?_eq_getElem hj)
  simp [runIx, this]
/-- What RunAt finds. -/
theorem runIx_cases (rs : List Rn) (id : Int) : (∃ (k : Nat) (x : Rn), rs[k]? = some x ∧ x.id = id ∧ (∀ j, j < k → ∀ z, rs[j]? = some z → z.id ≠ id) ∧ runIx rs id = k) ∨ ((∀ x ∈ rs, x.id ≠ id) ∧ runIx rs id = -1) := by
  cases h : rs.findIdx? (fun r => r.id == id) with
  | none =>
    right
    rw [List.findIdx?_eq_none_iff] at h
    have h' : ∀ x ∈ rs, x.id ≠ id := fun x hx => by simpa using h x hx
    exact ⟨h', runIx_none fun j hj z hz => h' z (List.mem_of_getElem? hz)⟩
  | some k =>
    left
    rw [List.findIdx?_eq_some_iff_getElem] at h
    obtain ⟨hk, h1, h2⟩ := h
    have hx : rs[k]? = some rs[k] := List.getElem?_eq_getElem hk
    have h1' : rs[k].id = id := by simpa using h1
    have hno : ∀ j, j < k → ∀ z, rs[j]? = some z → z.id ≠ id := fun j hj z hz => by
      have := h2 j hj
      rw [List.getElem?_eq_getElem (by omega)] at hz
      simp only [Option.some.injEq] at hz
      subst hz
      simpa using this
    exact ⟨k, rs[k], hx, h1', hno, runIx_found hx h1' hno⟩

def taskAt (y : Yd) (id task : Int) : Option Tk :=
  if runAt y id < 0 then none else match y.runs[(runAt y id).toNat]? with
  | some r => if 0 ≤ task then r.tasks[task.toNat]? else none
  | none => none
def fresh (y : Yd) (e : En) : Bool := match taskAt y e.run e.task with
  | some t => t.state == 2
  | none => false
/-- The three ways of a look for a task. -/
theorem taskAt_cases (y : Yd) (id task : Int) : (runAt y id = -1 ∧ taskAt y id task = none) ∨
    (∃ (k : Nat) (r : Rn), runAt y id = k ∧ y.runs[k]? = some r ∧ ((¬ (0 ≤ task ∧ task ≤ (r.tasks.length : Int) - 1) ∧ taskAt y id task = none) ∨
      (∃ (j : Nat) (t : Tk), task = j ∧ r.tasks[j]? = some t ∧ taskAt y id task = some t))) := by
  have h1 : runAt y id = -1 ∨ ∃ (k : Nat) (r : Rn), runAt y id = k ∧ y.runs[k]? = some r := by
    unfold runAt
    split
    · exact .inl rfl
    · rcases runIx_cases y.runs id with ⟨k, x, hx, _, _, he⟩ | ⟨_, he⟩
      · exact .inr ⟨k, x, he, hx⟩
      · exact .inl he
  rcases h1 with h | ⟨k, r, h, hr⟩
  · exact .inl ⟨h, by unfold taskAt; rw [if_pos (by omega)]⟩
  · right
    refine ⟨k, r, h, hr, ?_⟩
    have e : taskAt y id task = if 0 ≤ task then r.tasks[task.toNat]? else none := by
      unfold taskAt
      rw [if_neg (by omega), h, Int.toNat_natCast, hr]
    by_cases h0 : 0 ≤ task
    · rw [if_pos h0] at e
      by_cases hl : task.toNat < r.tasks.length
      · right
        exact ⟨task.toNat, r.tasks[task.toNat], by omega, List.getElem?_eq_getElem hl, by rw [e, List.getElem?_eq_getElem hl]⟩
      · left
        exact ⟨by omega, by rw [e, List.getElem?_eq_none (by omega)]⟩
    · left
      rw [if_neg h0] at e
      exact ⟨by omega, e⟩

def liveN (r : Rn) : Nat := if r.state = 1 then r.tasks.length else 0
def staleN (y : Yd) (l : List En) : Nat := l.countP (fun e => !fresh y e)
def allEn (y : Yd) : List En := y.shelf.flatten
def slotsOf (y : Yd) : Int := tsum liveN y.runs + staleN y (allEn y)
theorem tsum_live (l : List Rn) : tsum liveN l ≤ tsum totRn l := by
  induction l with
  | nil => simp [tsum]
  | cons r l ih =>
    have h : liveN r ≤ totRn r := by unfold liveN totRn; split <;> omega
    simp only [tsum, List.map_cons, List.sum_cons] at *
    omega
theorem len_flatten (l : List (List En)) : l.flatten.length = tsum totEnS l := by
  induction l with
  | nil => simp [tsum]
  | cons r l ih => simp only [List.flatten_cons, List.length_append, tsum, List.map_cons, List.sum_cons, totEnS] at *; omega
theorem stale_le (y : Yd) (l : List En) : staleN y l ≤ l.length := List.countP_le_length
theorem stale_succ {y : Yd} {l : List En} {k : Nat} {e : En} (h : l[k]? = some e) : staleN y (l.take (k + 1)) = staleN y (l.take k) + (if fresh y e then 0 else 1) := by
  unfold staleN
  rw [List.take_add_one, h, List.countP_append]
  cases hf : fresh y e <;> simp [hf]
theorem stale_take (y : Yd) (l : List En) (k : Nat) : staleN y (l.take k) ≤ staleN y l := by
  unfold staleN
  exact (List.take_sublist k l).countP_le
theorem flatten_take_succ {l : List (List En)} {k : Nat} {es : List En} (h : l[k]? = some es) : (l.take (k + 1)).flatten = (l.take k).flatten ++ es := by
  rw [List.take_add_one, h, List.flatten_append]; simp
end Go.Proofs.YtmnpailnelmpiaaGreat
