/- The reference's functions, as plain Lean over the data. No program. -/
import Derived.Test.YtfjgkakilmiheaaData
namespace Go.Proofs.Ytfjgkakilmiheaa

def runIx (rs : List Rn) (id : Int) : Int := match rs.findIdx? (fun r => r.id == id) with
  | some k => k
  | none => -1
def runAt (y : Yd) (id : Int) : Int := if 8 < y.runs.length then -1 else runIx y.runs id
theorem runIx_found {rs : List Rn} {id : Int} {k : Nat} {x : Rn} (hx : rs[k]? = some x) (h : x.id = id) (hno : ∀ j, j < k → ∀ z, rs[j]? = some z → z.id ≠ id) : runIx rs id = k := by
  have hk : k < rs.length := (List.getElem?_eq_some_iff.1 hx).1
  have : rs.findIdx? (fun r => r.id == id) = some k := by
    rw [List.findIdx?_eq_some_iff_getElem]
    refine ⟨hk, ?_, fun j hj => ?_⟩
    · rw [List.getElem?_eq_getElem hk] at hx
      simp only [Option.some.injEq] at hx
      simp [hx, h]
    · have := hno j hj rs[j] (List.getElem?_eq_getElem (by omega))
      simpa using this
  simp [runIx, this]
theorem runIx_none {rs : List Rn} {id : Int} (hno : ∀ j, j < rs.length → ∀ z, rs[j]? = some z → z.id ≠ id) : runIx rs id = -1 := by
  have : rs.findIdx? (fun r => r.id == id) = none := by
    rw [List.findIdx?_eq_none_iff]
    intro x hx
    obtain ⟨j, hj, rfl⟩ := List.getElem_of_mem hx
    simpa using hno j hj rs[j] (List.getElem?_eq_getElem hj)
  simp [runIx, this]
/-- What RunAt finds. -/
theorem runIx_cases (rs : List Rn) (id : Int) : (∃ (k : Nat) (x : Rn), rs[k]? = some x ∧ x.id = id ∧ (∀ j, j < k → ∀ z, rs[j]? = some z → z.id ≠ id) ∧ runIx rs id = k) ∨ ((∀ x ∈ rs, x.id ≠ id) ∧ runIx rs id = -1) := by
  cases h : rs.findIdx? (fun r => r.id == id) with
  | none =>
    right
    rw [List.findIdx?_eq_none_iff] at h
    have h' : ∀ x ∈ rs, x.id ≠ id := fun x hx => by simpa using h x hx
    exact ⟨h', runIx_none fun j hj z hz => h' z (List.mem_of_getElem? hz)⟩
  | some k =>
    left
    rw [List.findIdx?_eq_some_iff_getElem] at h
    obtain ⟨hk, h1, h2⟩ := h
    have hx : rs[k]? = some rs[k] := List.getElem?_eq_getElem hk
    have h1' : rs[k].id = id := by simpa using h1
    have hno : ∀ j, j < k → ∀ z, rs[j]? = some z → z.id ≠ id := fun j hj z hz => by
      have := h2 j hj
      rw [List.getElem?_eq_getElem (by omega)] at hz
      simp only [Option.some.injEq] at hz
      subst hz
      simpa using this
    exact ⟨k, rs[k], hx, h1', hno, runIx_found hx h1' hno⟩
end Go.Proofs.Ytfjgkakilmiheaa
