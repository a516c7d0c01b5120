/- Texts for laws: Iss. -/
import Derived.Test.YtnhdcbhcocgjhaaGreatQAb
set_option linter.unusedVariables false
namespace Go.Proofs.YtnhdcbhcocgjhaaGreat
open Go.RowKit Go.Sort
abbrev tIs : TypeId := 96
def encIss (l : List (List Int)) : D := .sl 1 tIs (l.flatMap fun es => [encInts es])
section
variable {P : Program} {β : Nat} {s : St}
theorem len_encIss (l : List (List Int)) : (encIss l).len = l.length := flat_len (enc := fun es => [encInts es]) (fun _ => rfl) (by decide) _ _
theorem elem_encIss {l : List (List Int)} {k : Nat} {x : List Int} (h : l[k]? = some x) : (encIss l).elem k = [encInts x] := flat_elem (enc := fun es => [encInts es]) (fun _ => rfl) h
theorem sl_encIss (l : List (List Int)) : (encIss l).isSl = true := rfl
theorem sz_encIss (l : List (List Int)) : (encIss l).size = 1 := rfl
theorem obj_encIss (l : List (List Int)) (g : Nat) (η : Heads) : (encIss l).obj g η = [(g, .loose (encIss l) η)] := rfl
theorem own_encIss (l : List (List Int)) (g c : Nat) (p : List Nat) (η : Heads) : (encIss l).toOwn g c p η = .h g c p (η p) := rfl
theorem cells_encIss (l : List (List Int)) : (encIss l).cells = l.flatMap (fun es => [encInts es]) := rfl
theorem slK_encIss (l : List (List Int)) (e : Nat) (k : List D → Prop) : slK (encIss l) e 1 k = (tIs = e ∧ k (l.flatMap (fun es => [encInts es]))) := by rw [show encIss l = .sl 1 tIs (l.flatMap (fun es => [encInts es])) from rfl, slK_]; simp
theorem div_encIss (l : List (List Int)) : (l.flatMap (fun es => [encInts es])).length / 1 = l.length := by rw [len_flat (enc := fun es => [encInts es]) (size := 1) (fun _ => rfl)]; exact Nat.mul_div_cancel _ (by decide)
theorem at_encIss {l : List (List Int)} {k : Nat} {x : List Int} (h : l[k]? = some x) : ((l.flatMap (fun es => [encInts es])).drop (k * 1)).take 1 = [encInts x] := elem_encIss h
theorem in_encIss {l : List (List Int)} {k : Nat} (h : k < l.length) : k * 1 + 1 ≤ (l.flatMap (fun es => [encInts es])).length := by rw [len_flat (enc := fun es => [encInts es]) (size := 1) (fun _ => rfl)]; omega
attribute [go_sem] len_encIss sl_encIss sz_encIss obj_encIss own_encIss cells_encIss slK_encIss div_encIss
end
/-- Who is late: run, task, try. -/
def lateT (now id : Int) (t : Tk) (k : Nat) : Option (List Int) := if (t.state == 3 && decide (t.til ≤ now ∨ t.til - 1 = now)) = true then some [id, k, t.tri] else none
def lateR (now : Int) (r : Rn) : Nat → List Tk → List (List Int)
  | _, [] => []
  | k, t :: ts => (lateT now r.id t k).toList ++ lateR now r (k + 1) ts
def lateL (y : Yd) : List (List Int) := y.runs.flatMap fun r => lateR y.now r 0 r.tasks
end Go.Proofs.YtnhdcbhcocgjhaaGreat
