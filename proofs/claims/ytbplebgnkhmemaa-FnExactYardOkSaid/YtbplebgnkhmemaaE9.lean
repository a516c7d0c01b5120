/- Words for slices of data in the engine. No program. -/
import Derived.Test.YtbplebgnkhmemaaE8
import Derived.Test.YtbplebgnkhmemaaData
set_option linter.unusedVariables false
namespace Go.Proofs.Ytbplebgnkhmemaa
open Go.RowKit Go.Sort
section
variable {P : Program} {β : Nat} {s : St}

theorem len_encInts (l : List Int) : (encInts l).len = l.length := flat_len (enc := fun n => [iv n]) (fun _ => rfl) (by decide) _ _
theorem elem_encInts {l : List Int} {k : Nat} {x : Int} (h : l[k]? = some x) : (encInts l).elem k = [iv x] := flat_elem (enc := fun n => [iv n]) (fun _ => rfl) h
theorem sl_encInts (l : List Int) : (encInts l).isSl = true := rfl
theorem sz_encInts (l : List Int) : (encInts l).size = 1 := rfl
theorem ro_encInts (l : List Int) : (encInts l).toRo = .ro (encInts l) := rfl
theorem obj_encInts (l : List Int) (g : Nat) (η : Heads) : (encInts l).obj g η = [(g, .loose (encInts l) η)] := rfl
theorem own_encInts (l : List Int) (g c : Nat) (p : List Nat) (η : Heads) : (encInts l).toOwn g c p η = .h g c p (η p) := rfl
theorem cells_encInts (l : List Int) : (encInts l).cells = l.flatMap (fun n => [iv n]) := rfl
theorem len_encEds (l : List Ed) : (encEds l).len = l.length := flat_len (enc := encEd) (fun _ => rfl) (by decide) _ _
theorem elem_encEds {l : List Ed} {k : Nat} {x : Ed} (h : l[k]? = some x) : (encEds l).elem k = encEd x := flat_elem (enc := encEd) (fun _ => rfl) h
theorem sl_encEds (l : List Ed) : (encEds l).isSl = true := rfl
theorem sz_encEds (l : List Ed) : (encEds l).size = 2 := rfl
theorem obj_encEds (l : List Ed) (g : Nat) (η : Heads) : (encEds l).obj g η = [(g, .loose (encEds l) η)] := rfl
theorem own_encEds (l : List Ed) (g c : Nat) (p : List Nat) (η : Heads) : (encEds l).toOwn g c p η = .h g c p (η p) := rfl
theorem cells_encEds (l : List Ed) : (encEds l).cells = l.flatMap (encEd) := rfl
theorem obj_encEns (l : List En) (g : Nat) (η : Heads) : (encEns l).obj g η = [(g, .loose (encEns l) η)] := rfl
theorem own_encEns (l : List En) (g c : Nat) (p : List Nat) (η : Heads) : (encEns l).toOwn g c p η = .h g c p (η p) := rfl
theorem cells_encEns (l : List En) : (encEns l).cells = l.flatMap (encEn) := rfl
theorem obj_encTks (l : List Tk) (g : Nat) (η : Heads) : (encTks l).obj g η = [(g, .loose (encTks l) η)] := rfl
theorem own_encTks (l : List Tk) (g c : Nat) (p : List Nat) (η : Heads) : (encTks l).toOwn g c p η = .h g c p (η p) := rfl
theorem cells_encTks (l : List Tk) : (encTks l).cells = l.flatMap (encTk) := rfl
theorem obj_encRns (l : List Rn) (g : Nat) (η : Heads) : (encRns l).obj g η = [(g, .loose (encRns l) η)] := rfl
theorem own_encRns (l : List Rn) (g c : Nat) (p : List Nat) (η : Heads) : (encRns l).toOwn g c p η = .h g c p (η p) := rfl
theorem cells_encRns (l : List Rn) : (encRns l).cells = l.flatMap (encRn) := rfl
theorem obj_encSh (l : List (List En)) (g : Nat) (η : Heads) : (encSh l).obj g η = [(g, .loose (encSh l) η)] := rfl
theorem own_encSh (l : List (List En)) (g c : Nat) (p : List Nat) (η : Heads) : (encSh l).toOwn g c p η = .h g c p (η p) := rfl
theorem cells_encSh (l : List (List En)) : (encSh l).cells = l.flatMap (fun es => [encEns es]) := rfl
theorem len_encNts (l : List Nt) : (encNts l).len = l.length := flat_len (enc := encNt) (fun _ => rfl) (by decide) _ _
theorem elem_encNts {l : List Nt} {k : Nat} {x : Nt} (h : l[k]? = some x) : (encNts l).elem k = encNt x := flat_elem (enc := encNt) (fun _ => rfl) h
theorem sl_encNts (l : List Nt) : (encNts l).isSl = true := rfl
theorem sz_encNts (l : List Nt) : (encNts l).size = 12 := rfl
theorem ro_encNts (l : List Nt) : (encNts l).toRo = .ro (encNts l) := rfl
theorem obj_encNts (l : List Nt) (g : Nat) (η : Heads) : (encNts l).obj g η = [(g, .loose (encNts l) η)] := rfl
theorem own_encNts (l : List Nt) (g c : Nat) (p : List Nat) (η : Heads) : (encNts l).toOwn g c p η = .h g c p (η p) := rfl
theorem cells_encNts (l : List Nt) : (encNts l).cells = l.flatMap (encNt) := rfl
theorem len_encDds (l : List Dd) : (encDds l).len = l.length := flat_len (enc := encDd) (fun _ => rfl) (by decide) _ _
theorem elem_encDds {l : List Dd} {k : Nat} {x : Dd} (h : l[k]? = some x) : (encDds l).elem k = encDd x := flat_elem (enc := encDd) (fun _ => rfl) h
theorem sl_encDds (l : List Dd) : (encDds l).isSl = true := rfl
theorem sz_encDds (l : List Dd) : (encDds l).size = 11 := rfl
theorem ro_encDds (l : List Dd) : (encDds l).toRo = .ro (encDds l) := rfl
theorem obj_encDds (l : List Dd) (g : Nat) (η : Heads) : (encDds l).obj g η = [(g, .loose (encDds l) η)] := rfl
theorem own_encDds (l : List Dd) (g c : Nat) (p : List Nat) (η : Heads) : (encDds l).toOwn g c p η = .h g c p (η p) := rfl
theorem cells_encDds (l : List Dd) : (encDds l).cells = l.flatMap (encDd) := rfl
theorem slK_encInts (l : List Int) (e : Nat) (k : List D → Prop) : slK (encInts l) e 1 k = (tInt = e ∧ k (l.flatMap (fun n => [iv n]))) := by rw [show encInts l = .sl 1 tInt (l.flatMap (fun n => [iv n])) from rfl, slK_]; simp
theorem fold_encInts (l : List Int) : D.sl 1 tInt (l.flatMap (fun n => [iv n])) = encInts l := rfl
theorem div_encInts (l : List Int) : (l.flatMap (fun n => [iv n])).length / 1 = l.length := by rw [len_flat (enc := fun n => [iv n]) (size := 1) (fun _ => rfl)]; exact Nat.mul_div_cancel _ (by decide)
theorem nil_encInts : D.sl 1 tInt [] = encInts [] := rfl
theorem app_encInts (l : List Int) (x : Int) : D.sl 1 tInt (l.flatMap (fun n => [iv n]) ++ (fun n => [iv n]) x) = encInts (l ++ [x]) := by simp [encInts]
theorem flatB_encInts (l : List Int) : flatB (l.flatMap (fun n => [iv n])) = true := by
  induction l with
  | nil => rfl
  | cons x l ih => rw [List.flatMap_cons, flatB_app, ih]; rfl
theorem flatBc_encInts (l : List Int) (r : List D) : flatB (encInts l :: r) = false := rfl
theorem oneB_encInts (l : List Int) (r : List D) : oneB (encInts l :: r) = oneB r := rfl
theorem slK_encEds (l : List Ed) (e : Nat) (k : List D → Prop) : slK (encEds l) e 2 k = (tEd = e ∧ k (l.flatMap (encEd))) := by rw [show encEds l = .sl 2 tEd (l.flatMap (encEd)) from rfl, slK_]; simp
theorem fold_encEds (l : List Ed) : D.sl 2 tEd (l.flatMap (encEd)) = encEds l := rfl
theorem div_encEds (l : List Ed) : (l.flatMap (encEd)).length / 2 = l.length := by rw [len_flat (enc := encEd) (size := 2) (fun _ => rfl)]; exact Nat.mul_div_cancel _ (by decide)
theorem nil_encEds : D.sl 2 tEd [] = encEds [] := rfl
theorem app_encEds (l : List Ed) (x : Ed) : D.sl 2 tEd (l.flatMap (encEd) ++ (encEd) x) = encEds (l ++ [x]) := by simp [encEds]
theorem flatB_encEds (l : List Ed) : flatB (l.flatMap (encEd)) = true := by
  induction l with
  | nil => rfl
  | cons x l ih => rw [List.flatMap_cons, flatB_app, ih]; rfl
theorem flatBc_encEds (l : List Ed) (r : List D) : flatB (encEds l :: r) = false := rfl
theorem oneB_encEds (l : List Ed) (r : List D) : oneB (encEds l :: r) = oneB r := rfl
theorem slK_encEns (l : List En) (e : Nat) (k : List D → Prop) : slK (encEns l) e 4 k = (tEn = e ∧ k (l.flatMap (encEn))) := by rw [show encEns l = .sl 4 tEn (l.flatMap (encEn)) from rfl, slK_]; simp
theorem fold_encEns (l : List En) : D.sl 4 tEn (l.flatMap (encEn)) = encEns l := rfl
theorem div_encEns (l : List En) : (l.flatMap (encEn)).length / 4 = l.length := by rw [len_flat (enc := encEn) (size := 4) (fun _ => rfl)]; exact Nat.mul_div_cancel _ (by decide)
theorem nil_encEns : D.sl 4 tEn [] = encEns [] := rfl
theorem app_encEns (l : List En) (x : En) : D.sl 4 tEn (l.flatMap (encEn) ++ (encEn) x) = encEns (l ++ [x]) := by simp [encEns]
theorem flatB_encEns (l : List En) : flatB (l.flatMap (encEn)) = true := by
  induction l with
  | nil => rfl
  | cons x l ih => rw [List.flatMap_cons, flatB_app, ih]; rfl
theorem flatBc_encEns (l : List En) (r : List D) : flatB (encEns l :: r) = false := rfl
theorem oneB_encEns (l : List En) (r : List D) : oneB (encEns l :: r) = oneB r := rfl
theorem slK_encTks (l : List Tk) (e : Nat) (k : List D → Prop) : slK (encTks l) e 4 k = (tTk = e ∧ k (l.flatMap (encTk))) := by rw [show encTks l = .sl 4 tTk (l.flatMap (encTk)) from rfl, slK_]; simp
theorem fold_encTks (l : List Tk) : D.sl 4 tTk (l.flatMap (encTk)) = encTks l := rfl
theorem div_encTks (l : List Tk) : (l.flatMap (encTk)).length / 4 = l.length := by rw [len_flat (enc := encTk) (size := 4) (fun _ => rfl)]; exact Nat.mul_div_cancel _ (by decide)
theorem nil_encTks : D.sl 4 tTk [] = encTks [] := rfl
theorem app_encTks (l : List Tk) (x : Tk) : D.sl 4 tTk (l.flatMap (encTk) ++ (encTk) x) = encTks (l ++ [x]) := by simp [encTks]
theorem flatB_encTks (l : List Tk) : flatB (l.flatMap (encTk)) = true := by
  induction l with
  | nil => rfl
  | cons x l ih => rw [List.flatMap_cons, flatB_app, ih]; rfl
theorem flatBc_encTks (l : List Tk) (r : List D) : flatB (encTks l :: r) = false := rfl
theorem oneB_encTks (l : List Tk) (r : List D) : oneB (encTks l :: r) = oneB r := rfl
theorem slK_encRns (l : List Rn) (e : Nat) (k : List D → Prop) : slK (encRns l) e 8 k = (tRn = e ∧ k (l.flatMap (encRn))) := by rw [show encRns l = .sl 8 tRn (l.flatMap (encRn)) from rfl, slK_]; simp
theorem fold_encRns (l : List Rn) : D.sl 8 tRn (l.flatMap (encRn)) = encRns l := rfl
theorem div_encRns (l : List Rn) : (l.flatMap (encRn)).length / 8 = l.length := by rw [len_flat (enc := encRn) (size := 8) (fun _ => rfl)]; exact Nat.mul_div_cancel _ (by decide)
theorem nil_encRns : D.sl 8 tRn [] = encRns [] := rfl
theorem app_encRns (l : List Rn) (x : Rn) : D.sl 8 tRn (l.flatMap (encRn) ++ (encRn) x) = encRns (l ++ [x]) := by simp [encRns]
theorem flatBc_encRns (l : List Rn) (r : List D) : flatB (encRns l :: r) = false := rfl
theorem oneB_encRns (l : List Rn) (r : List D) : oneB (encRns l :: r) = oneB r := rfl
theorem slK_encSh (l : List (List En)) (e : Nat) (k : List D → Prop) : slK (encSh l) e 1 k = (tEnS = e ∧ k (l.flatMap (fun es => [encEns es]))) := by rw [show encSh l = .sl 1 tEnS (l.flatMap (fun es => [encEns es])) from rfl, slK_]; simp
theorem fold_encSh (l : List (List En)) : D.sl 1 tEnS (l.flatMap (fun es => [encEns es])) = encSh l := rfl
theorem div_encSh (l : List (List En)) : (l.flatMap (fun es => [encEns es])).length / 1 = l.length := by rw [len_flat (enc := fun es => [encEns es]) (size := 1) (fun _ => rfl)]; exact Nat.mul_div_cancel _ (by decide)
theorem nil_encSh : D.sl 1 tEnS [] = encSh [] := rfl
theorem app_encSh (l : List (List En)) (x : List En) : D.sl 1 tEnS (l.flatMap (fun es => [encEns es]) ++ (fun es => [encEns es]) x) = encSh (l ++ [x]) := by simp [encSh]
theorem flatBc_encSh (l : List (List En)) (r : List D) : flatB (encSh l :: r) = false := rfl
theorem oneB_encSh (l : List (List En)) (r : List D) : oneB (encSh l :: r) = oneB r := rfl
theorem slK_encNts (l : List Nt) (e : Nat) (k : List D → Prop) : slK (encNts l) e 12 k = (tNt = e ∧ k (l.flatMap (encNt))) := by rw [show encNts l = .sl 12 tNt (l.flatMap (encNt)) from rfl, slK_]; simp
theorem fold_encNts (l : List Nt) : D.sl 12 tNt (l.flatMap (encNt)) = encNts l := rfl
theorem div_encNts (l : List Nt) : (l.flatMap (encNt)).length / 12 = l.length := by rw [len_flat (enc := encNt) (size := 12) (fun _ => rfl)]; exact Nat.mul_div_cancel _ (by decide)
theorem nil_encNts : D.sl 12 tNt [] = encNts [] := rfl
theorem app_encNts (l : List Nt) (x : Nt) : D.sl 12 tNt (l.flatMap (encNt) ++ (encNt) x) = encNts (l ++ [x]) := by simp [encNts]
theorem flatBc_encNts (l : List Nt) (r : List D) : flatB (encNts l :: r) = false := rfl
theorem oneB_encNts (l : List Nt) (r : List D) : oneB (encNts l :: r) = oneB r := rfl
theorem slK_encDds (l : List Dd) (e : Nat) (k : List D → Prop) : slK (encDds l) e 11 k = (tDd = e ∧ k (l.flatMap (encDd))) := by rw [show encDds l = .sl 11 tDd (l.flatMap (encDd)) from rfl, slK_]; simp
theorem fold_encDds (l : List Dd) : D.sl 11 tDd (l.flatMap (encDd)) = encDds l := rfl
theorem div_encDds (l : List Dd) : (l.flatMap (encDd)).length / 11 = l.length := by rw [len_flat (enc := encDd) (size := 11) (fun _ => rfl)]; exact Nat.mul_div_cancel _ (by decide)
theorem nil_encDds : D.sl 11 tDd [] = encDds [] := rfl
theorem app_encDds (l : List Dd) (x : Dd) : D.sl 11 tDd (l.flatMap (encDd) ++ (encDd) x) = encDds (l ++ [x]) := by simp [encDds]
theorem flatBc_encDds (l : List Dd) (r : List D) : flatB (encDds l :: r) = false := rfl
theorem oneB_encDds (l : List Dd) (r : List D) : oneB (encDds l :: r) = oneB r := rfl
theorem oneB_v (u : Value) (l : List D) : oneB (.val u :: l) = (u.oneCell' && oneB l) := rfl
theorem oneB_nil : oneB [] = true := rfl
theorem flatMap_snoc {α : Type} (f : α → List D) (l : List α) (x : α) : l.flatMap f ++ f x = (l ++ [x]).flatMap f := by simp
theorem isDn_encInts (l : List Cell) (ds : List D) : IsD (.a (.v (.slice none 0 0)) :: l) (encInts [] :: ds) = IsD l ds := isD_none l _ _ ds
theorem isDn_encEds (l : List Cell) (ds : List D) : IsD (.a (.v (.slice none 0 0)) :: l) (encEds [] :: ds) = IsD l ds := isD_none l _ _ ds
theorem isDn_encEns (l : List Cell) (ds : List D) : IsD (.a (.v (.slice none 0 0)) :: l) (encEns [] :: ds) = IsD l ds := isD_none l _ _ ds
theorem isDn_encTks (l : List Cell) (ds : List D) : IsD (.a (.v (.slice none 0 0)) :: l) (encTks [] :: ds) = IsD l ds := isD_none l _ _ ds
theorem isDn_encRns (l : List Cell) (ds : List D) : IsD (.a (.v (.slice none 0 0)) :: l) (encRns [] :: ds) = IsD l ds := isD_none l _ _ ds
theorem isDn_encSh (l : List Cell) (ds : List D) : IsD (.a (.v (.slice none 0 0)) :: l) (encSh [] :: ds) = IsD l ds := isD_none l _ _ ds
theorem isDn_encNts (l : List Cell) (ds : List D) : IsD (.a (.v (.slice none 0 0)) :: l) (encNts [] :: ds) = IsD l ds := isD_none l _ _ ds
theorem isDn_encDds (l : List Cell) (ds : List D) : IsD (.a (.v (.slice none 0 0)) :: l) (encDds [] :: ds) = IsD l ds := isD_none l _ _ ds
theorem isn_encInts : Is s (.v (.slice none 0 0)) (encInts []) = True := is_nil _ _
theorem isn_encEds : Is s (.v (.slice none 0 0)) (encEds []) = True := is_nil _ _
theorem isn_encEns : Is s (.v (.slice none 0 0)) (encEns []) = True := is_nil _ _
theorem isn_encTks : Is s (.v (.slice none 0 0)) (encTks []) = True := is_nil _ _
theorem isn_encRns : Is s (.v (.slice none 0 0)) (encRns []) = True := is_nil _ _
theorem isn_encSh : Is s (.v (.slice none 0 0)) (encSh []) = True := is_nil _ _
theorem isn_encNts : Is s (.v (.slice none 0 0)) (encNts []) = True := is_nil _ _
theorem isn_encDds : Is s (.v (.slice none 0 0)) (encDds []) = True := is_nil _ _
theorem ints_snoc2 (l : List Int) (a b : Int) : D.sl 1 tInt (l.flatMap (fun n => [iv n]) ++ [iv a, iv b]) = encInts (l ++ [a, b]) := by simp [encInts]
theorem at_encInts {l : List Int} {k : Nat} {x : Int} (h : l[k]? = some x) : ((l.flatMap (fun n => [iv n])).drop (k * 1)).take 1 = [iv x] := elem_encInts h
theorem in_encInts {l : List Int} {k : Nat} (h : k < l.length) : k * 1 + 1 ≤ (l.flatMap (fun n => [iv n])).length := by rw [len_flat (enc := fun n => [iv n]) (size := 1) (fun _ => rfl)]; omega
theorem at_encEds {l : List Ed} {k : Nat} {x : Ed} (h : l[k]? = some x) : ((l.flatMap (encEd)).drop (k * 2)).take 2 = encEd x := elem_encEds h
theorem in_encEds {l : List Ed} {k : Nat} (h : k < l.length) : k * 2 + 2 ≤ (l.flatMap (encEd)).length := by rw [len_flat (enc := encEd) (size := 2) (fun _ => rfl)]; omega
theorem at_encEns {l : List En} {k : Nat} {x : En} (h : l[k]? = some x) : ((l.flatMap (encEn)).drop (k * 4)).take 4 = encEn x := elem_encEns h
theorem in_encEns {l : List En} {k : Nat} (h : k < l.length) : k * 4 + 4 ≤ (l.flatMap (encEn)).length := by rw [len_flat (enc := encEn) (size := 4) (fun _ => rfl)]; omega
theorem at_encTks {l : List Tk} {k : Nat} {x : Tk} (h : l[k]? = some x) : ((l.flatMap (encTk)).drop (k * 4)).take 4 = encTk x := elem_encTks h
theorem in_encTks {l : List Tk} {k : Nat} (h : k < l.length) : k * 4 + 4 ≤ (l.flatMap (encTk)).length := by rw [len_flat (enc := encTk) (size := 4) (fun _ => rfl)]; omega
theorem at_encRns {l : List Rn} {k : Nat} {x : Rn} (h : l[k]? = some x) : ((l.flatMap (encRn)).drop (k * 8)).take 8 = encRn x := elem_encRns h
theorem in_encRns {l : List Rn} {k : Nat} (h : k < l.length) : k * 8 + 8 ≤ (l.flatMap (encRn)).length := by rw [len_flat (enc := encRn) (size := 8) (fun _ => rfl)]; omega
theorem at_encSh {l : List (List En)} {k : Nat} {x : List En} (h : l[k]? = some x) : ((l.flatMap (fun es => [encEns es])).drop (k * 1)).take 1 = [encEns x] := elem_encSh h
theorem in_encSh {l : List (List En)} {k : Nat} (h : k < l.length) : k * 1 + 1 ≤ (l.flatMap (fun es => [encEns es])).length := by rw [len_flat (enc := fun es => [encEns es]) (size := 1) (fun _ => rfl)]; omega
theorem at_encNts {l : List Nt} {k : Nat} {x : Nt} (h : l[k]? = some x) : ((l.flatMap (encNt)).drop (k * 12)).take 12 = encNt x := elem_encNts h
theorem in_encNts {l : List Nt} {k : Nat} (h : k < l.length) : k * 12 + 12 ≤ (l.flatMap (encNt)).length := by rw [len_flat (enc := encNt) (size := 12) (fun _ => rfl)]; omega
theorem at_encDds {l : List Dd} {k : Nat} {x : Dd} (h : l[k]? = some x) : ((l.flatMap (encDd)).drop (k * 11)).take 11 = encDd x := elem_encDds h
theorem in_encDds {l : List Dd} {k : Nat} (h : k < l.length) : k * 11 + 11 ≤ (l.flatMap (encDd)).length := by rw [len_flat (enc := encDd) (size := 11) (fun _ => rfl)]; omega
theorem loadE_v (g c : Nat) (p : List Nat) (η : Heads) (i : Nat) (v : Value) (l : List D) : loadE g c p η i (.val v :: l) = .v v :: loadE g c p η (i + 1) l := rfl
theorem loadE_n (g c : Nat) (p : List Nat) (η : Heads) (i : Nat) : loadE g c p η i [] = [] := rfl
end
attribute [go_sem] loadE_v loadE_n isn_encInts isn_encEds isn_encEns isn_encTks isn_encRns isn_encSh isn_encNts isn_encDds isDn_encInts isDn_encEds isDn_encEns isDn_encTks isDn_encRns isDn_encSh isDn_encNts isDn_encDds flatB_encInts slK_encInts div_encInts cells_encInts flatBc_encInts oneB_encInts flatB_encEds slK_encEds div_encEds cells_encEds flatBc_encEds oneB_encEds flatB_encEns slK_encEns div_encEns cells_encEns flatBc_encEns oneB_encEns flatB_encTks slK_encTks div_encTks cells_encTks flatBc_encTks oneB_encTks slK_encRns div_encRns cells_encRns flatBc_encRns oneB_encRns slK_encSh div_encSh cells_encSh flatBc_encSh oneB_encSh slK_encNts div_encNts cells_encNts flatBc_encNts oneB_encNts slK_encDds div_encDds cells_encDds flatBc_encDds oneB_encDds oneB_v oneB_nil Bool.and_false Bool.false_and Bool.and_true Bool.true_and len_encInts sl_encInts sz_encInts ro_encInts obj_encInts own_encInts len_encEds sl_encEds sz_encEds ro_encEds obj_encEds own_encEds len_encEns sl_encEns sz_encEns ro_encEns obj_encEns own_encEns len_encTks sl_encTks sz_encTks ro_encTks obj_encTks own_encTks len_encRns sl_encRns sz_encRns ro_encRns obj_encRns own_encRns len_encSh sl_encSh sz_encSh ro_encSh obj_encSh own_encSh len_encNts sl_encNts sz_encNts ro_encNts obj_encNts own_encNts len_encDds sl_encDds sz_encDds ro_encDds obj_encDds own_encDds
section
variable {P : Program} {β : Nat} {s : St}
/-! ### Ways -/
theorem run_gs {t : Nat} {w b : Bool} {d : Option Nat} {i : I} {l : List Ins} {K : St → Prop} (h : s.t t = .c (.v (.bool b))) (h1 : b = w → runI P β ⟨d, some (t, w), i⟩ s (fun s' => runL P β l s' K)) (h2 : b = !w → runL P β l (s.put d (.c (.v undef))) K) : runL P β (⟨d, some (t, w), i⟩ :: l) s K := by
  cases b <;> cases w <;> simp_all [runL, wantA]
theorem wp_cs {x : X} {a c : C} {b : Bool} {Q : Ex → St → Prop} (h : s.ev x = .c (.v (.bool b))) (h1 : b = true → wpC P β a Q s) (h2 : b = false → wpC P β c Q s) : wpC P β (.cond x a c) Q s := ⟨b, h, h1, h2⟩
theorem rt_gs {t p : Nat} {w b : Bool} {d : Option Nat} {i : I} {T' : T} {l : List (Nat × List Nat)} {K : St → Prop} (h : s.t t = .c (.v (.bool b))) (h1 : b = w → runI P β ⟨d, some (t, w), i⟩ s (fun s' => runT P β T' ((p, i.looks s) :: l) s' K)) (h2 : b = !w → runT P β T' l (s.put d (.c (.v undef))) K) : runT P β (.pure p ⟨d, some (t, w), i⟩ T') l s K := by
  cases b <;> cases w <;> simp_all [runT, wantA]
end
end Go.Proofs.Ytbplebgnkhmemaa
