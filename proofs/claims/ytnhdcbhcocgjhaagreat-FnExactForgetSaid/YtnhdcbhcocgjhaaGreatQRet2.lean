/- Texts for laws: Ret2, RunNew. -/
import Derived.Test.YtnhdcbhcocgjhaaGreatQCopyY
import Derived.Test.YtnhdcbhcocgjhaaGreatQHole
import Derived.Test.YtnhdcbhcocgjhaaGreatQYardB
set_option linter.unusedSimpArgs false
set_option linter.unusedVariables false
set_option maxRecDepth 100000
namespace Go.Proofs.YtnhdcbhcocgjhaaGreat
open Go.RowKit Go.Sort
section
variable {P : Program} {s : St}
def ret2A (s : St) (ds : List D) (d : D) (l : List A0) : AV → Prop
  | .c a => l.length = ds.length ∧ TakeK s (l ++ [a]) fun cs _ => IsD cs (ds ++ [d])
  | _ => False
def ret2K (s : St) (k : Nat) (ds : List D) (d : D) (b : AV) : AV → Prop
  | .c (.bp g c bb) => ldB (s.o g) g c bb k fun l => ret2A s ds d l b
  | _ => False
theorem ret2_ (n k m : Nat) (ds : List D) (d : D) (h : ret2K s k ds d (s.t m) (s.t n)) : RetQ [.cell n true k, .t m] (.tup [(true, ds), (false, [d])]) s := by
  unfold ret2K at h
  split at h
  · rename_i g c bb he
    simp only [ldB] at h
    split at h
    · rename_i b ty cs ho
      obtain ⟨e1, e2, h⟩ := h
      unfold ret2A at h
      split at h
      · rename_i a ha
        obtain ⟨h1, h2⟩ := h
        simp only [RetQ, resK, ha, he]
        refine ⟨_, ⟨ty, cs, by rw [ho, e1], e2, rfl⟩, .inl trivial, ?_⟩
        refine ⟨⟨by simp, by simp [h1]⟩, ?_⟩
        simpa [RT.flat] using h2
      · exact h.elim
    · exact h.elim
  · exact h.elim
theorem ret2A_ (ds : List D) (d : D) (l : List A0) (a : A0) : ret2A s ds d l (.c a) = (l.length = ds.length ∧ TakeK s (l ++ [a]) fun cs _ => IsD cs (ds ++ [d])) := rfl
theorem ret2K_ (k g c bb : Nat) (ds : List D) (d : D) (b : AV) : ret2K s k ds d b (.c (.bp g c bb)) = ldB (s.o g) g c bb k fun l => ret2A s ds d l b := rfl
end
attribute [go_sem] ret2A_ ret2K_
theorem rns_get {l : List Rn} {k j : Nat} {r : Rn} (h : l[k]? = some r) (hj : j < 8) : (l.flatMap encRn)[k * 8 + j]? = (encRn r)[j]? := by
  rw [split_flat (enc := encRn) h, List.getElem?_append_right (by rw [take_len (enc := encRn) (size := 8) (fun _ => rfl) h]; omega), take_len (enc := encRn) (size := 8) (fun _ => rfl) h, Nat.add_sub_cancel_left, List.getElem?_append_left (by exact hj)]
theorem get_rns5 {l : List Rn} {k : Nat} {r : Rn} (h : l[k]? = some r) : D.get [k * 8 + 5] (encRns l) = some (encEds r.plan.edges) := by
  have := rns_get (j := 5) h (by decide)
  simp [encRns, D.get, this, encRn, encPl, get_nil]
theorem get_rns7 {l : List Rn} {k : Nat} {r : Rn} (h : l[k]? = some r) : D.get [k * 8 + 7] (encRns l) = some (encTks r.tasks) := by
  have := rns_get (j := 7) h (by decide)
  simp [encRns, D.get, this, encRn, encPl, get_nil]
theorem get_rns5' {l : List Rn} {k : Nat} {r : Rn} (h : l[k]? = some r) : D.get [k * 8 + 1 + 1 + 1 + 1 + 1] (encRns l) = some (encEds r.plan.edges) := get_rns5 h
theorem get_rns7' {l : List Rn} {k : Nat} {r : Rn} (h : l[k]? = some r) : D.get [k * 8 + 1 + 1 + 1 + 1 + 1 + 1 + 1] (encRns l) = some (encTks r.tasks) := get_rns7 h
theorem put_rn8 {l : List Rn} {k : Nat} (v : Rn) (hk : k < l.length) : D.put [] (k * 8) [.val (.int .i64 v.id), .val (.int .i64 v.plan.prio), .val (.int .i64 v.plan.most), .val (.int .i64 v.plan.wait), .val (.int .i64 v.plan.tasks), encEds v.plan.edges, .val (.int .i64 v.state), encTks v.tasks] (encRns l) = encRns (l.set k v) := put_encRns v hk
theorem runAt_get {y : Yd} {id : Int} (h : ¬ runAt y id < 0) : ∃ (k : Nat) (r : Rn), runAt y id = k ∧ y.runs[k]? = some r ∧ r.id = id ∧ y.runs.length ≤ 8 := by
  unfold runAt at h ⊢
  split at h
  · omega
  · rename_i h8
    rw [if_neg h8]
    rcases runIx_cases y.runs id with ⟨k, x, h1, h2, _, h4⟩ | ⟨_, h2⟩
    · exact ⟨k, x, h4, h1, h2, by omega⟩
    · rw [h2] at h; omega
theorem at_rn {l : List Rn} {k : Nat} {x : Rn} (hx : l[k]? = some x) : ((l.flatMap encRn).drop (k * 8)).take 8 = encRn x := at1_flat (enc := encRn) (size := 8) (fun _ => rfl) hx (j := 0) (n := 8) (by decide)
theorem in_rn {l : List Rn} {k : Nat} {x : Rn} (hx : l[k]? = some x) : k * 8 + 8 ≤ (l.flatMap encRn).length := in1_flat (enc := encRn) (size := 8) (fun _ => rfl) hx (j := 0) (n := 8) (by decide)
end Go.Proofs.YtnhdcbhcocgjhaaGreat
set_option linter.unusedSimpArgs false
set_option linter.unusedVariables false
set_option maxRecDepth 100000
namespace Go.Proofs.YtnhdcbhcocgjhaaGreat
open Go.RowKit Go.Sort
end Go.Proofs.YtnhdcbhcocgjhaaGreat
