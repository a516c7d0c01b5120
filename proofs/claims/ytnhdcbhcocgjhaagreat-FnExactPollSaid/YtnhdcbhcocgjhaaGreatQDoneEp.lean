/- Texts for laws: DoneEp. -/
import Derived.Test.YtnhdcbhcocgjhaaGreatQSub
set_option linter.unusedSimpArgs false
set_option linter.unusedVariables false
set_option maxRecDepth 100000
namespace Go.Proofs.YtnhdcbhcocgjhaaGreat
open Go.RowKit Go.Sort
section
variable {l : List Rn} {k : Nat} {r : Rn}
theorem at_rn7 (h : l[k]? = some r) : ((l.flatMap encRn).drop (k * 8 + 7)).take 1 = [encTks r.tasks] := at1_flat (enc := encRn) (size := 8) (fun _ => rfl) h (j := 7) (n := 1) (by decide)
theorem in_rn7 (h : l[k]? = some r) : k * 8 + 7 + 1 ≤ (l.flatMap encRn).length := in1_flat (enc := encRn) (size := 8) (fun _ => rfl) h (j := 7) (n := 1) (by decide)
theorem put_rn7 (h : l[k]? = some r) {ts : List Tk} {i : Nat} {ds : List D} (hp : D.put [] i ds (encTks r.tasks) = encTks ts) : D.put [k * 8 + 7] i ds (encRns l) = encRns (l.set k ⟨r.id, r.plan, r.state, ts⟩) := by
  have hk := (List.getElem?_eq_some_iff.1 h).1
  have h7 : (l.flatMap encRn)[k * 8 + 7]? = some (encTks r.tasks) := rns_get (j := 7) h (by decide)
  have e : (l.flatMap encRn).set (k * 8 + 7) (encTks ts) = rnsR l k (encRn ⟨r.id, r.plan, r.state, ts⟩) := by
    rw [rnsR_enc h, rnsR_set hk 7 (by simp [encRn, encPl])]; rfl
  rw [← rnsR_rn hk, ← e]
  simp only [encRns, D.put, h7, hp]
end
end Go.Proofs.YtnhdcbhcocgjhaaGreat
