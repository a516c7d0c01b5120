/- Words for slices of data in the engine. No program. -/
import Derived.Test.YtfjgkakilmiheaaE8
import Derived.Test.YtfjgkakilmiheaaData
set_option linter.unusedVariables false
namespace Go.Proofs.Ytfjgkakilmiheaa
open Go.RowKit Go.Sort
section
variable {P : Program} {β : Nat} {s : St}

theorem len_encInts (l : List Int) : (encInts l).len = l.length := flat_len (enc := fun n => [iv n]) (fun _ => rfl) (by decide) _ _
theorem elem_encInts {l : List Int} {k : Nat} {x : Int} (h : l[k]? = some x) : (encInts l).elem k = [iv x] := flat_elem (enc := fun n => [iv n]) (fun _ => rfl) h
theorem sl_encInts (l : List Int) : (encInts l).isSl = true := rfl
theorem sz_encInts (l : List Int) : (encInts l).size = 1 := rfl
theorem ro_encInts (l : List Int) : (encInts l).toRo = .ro (encInts l) := rfl
theorem obj_encInts (l : List Int) (g : Nat) (η : Heads) : (encInts l).obj g η = [(g, .loose (encInts l) η)] := rfl
theorem own_encInts (l : List Int) (g c : Nat) (p : List Nat) (η : Heads) : (encInts l).toOwn g c p η = .h g c p (η p) := rfl
theorem cells_encInts (l : List Int) : (encInts l).cells = l.flatMap (fun n => [iv n]) := rfl
theorem len_encEds (l : List Ed) : (encEds l).len = l.length := flat_len (enc := encEd) (fun _ => rfl) (by decide) _ _
theorem elem_encEds {l : List Ed} {k : Nat} {x : Ed} (h : l[k]? = some x) : (encEds l).elem k = encEd x := flat_elem (enc := encEd) (fun _ => rfl) h
theorem sl_encEds (l : List Ed) : (encEds l).isSl = true := rfl
theorem sz_encEds (l : List Ed) : (encEds l).size = 2 := rfl
theorem obj_encEds (l : List Ed) (g : Nat) (η : Heads) : (encEds l).obj g η = [(g, .loose (encEds l) η)] := rfl
theorem own_encEds (l : List Ed) (g c : Nat) (p : List Nat) (η : Heads) : (encEds l).toOwn g c p η = .h g c p (η p) := rfl
theorem cells_encEds (l : List Ed) : (encEds l).cells = l.flatMap (encEd) := rfl
theorem obj_encEns (l : List En) (g : Nat) (η : Heads) : (encEns l).obj g η = [(g, .loose (encEns l) η)] := rfl
theorem own_encEns (l : List En) (g c : Nat) (p : List Nat) (η : Heads) : (encEns l).toOwn g c p η = .h g c p (η p) := rfl
theorem cells_encEns (l : List En) : (encEns l).cells = l.flatMap (encEn) := rfl
theorem obj_encTks (l : List Tk) (g : Nat) (η : Heads) : (encTks l).obj g η = [(g, .loose (encTks l) η)] := rfl
theorem own_encTks (l : List Tk) (g c : Nat) (p : List Nat) (η : Heads) : (encTks l).toOwn g c p η = .h g c p (η p) := rfl
theorem cells_encTks (l : List Tk) : (encTks l).cells = l.flatMap (encTk) := rfl
theorem obj_encRns (l : List Rn) (g : Nat) (η : Heads) : (encRns l).obj g η = [(g, .loose (encRns l) η)] := rfl
theorem own_encRns (l : List Rn) (g c : Nat) (p : List Nat) (η : Heads) : (encRns l).toOwn g c p η = .h g c p (η p) := rfl
theorem cells_encRns (l : List Rn) : (encRns l).cells = l.flatMap (encRn) := rfl
theorem obj_encSh (l : List (List En)) (g : Nat) (η : Heads) : (encSh l).obj g η = [(g, .loose (encSh l) η)] := rfl
theorem own_encSh (l : List (List En)) (g c : Nat) (p : List Nat) (η : Heads) : (encSh l).toOwn g c p η = .h g c p (η p) := rfl
theorem cells_encSh (l : List (List En)) : (encSh l).cells = l.flatMap (fun es => [encEns es]) := rfl
theorem len_encNts (l : List Nt) : (encNts l).len = l.length := flat_len (enc := encNt) (fun _ => rfl) (by decide) _ _
theorem elem_encNts {l : List Nt} {k : Nat} {x : Nt} (h : l[k]? = some x) : (encNts l).elem k = encNt x := flat_elem (enc := encNt) (fun _ => rfl) h
theorem sl_encNts (l : List Nt) : (encNts l).isSl = true := rfl
theorem sz_encNts (l : List Nt) : (encNts l).size = 12 := rfl
theorem ro_encNts (l : List Nt) : (encNts l).toRo = .ro (encNts l) := rfl
theorem obj_encNts (l : List Nt) (g : Nat) (η : Heads) : (encNts l).obj g η = [(g, .loose (encNts l) η)] := rfl
theorem own_encNts (l : List Nt) (g c : Nat) (p : List Nat) (η : Heads) : (encNts l).toOwn g c p η = .h g c p (η p) := rfl
theorem cells_encNts (l : List Nt) : (encNts l).cells = l.flatMap (encNt) := rfl
theorem len_encDds (l : List Dd) : (encDds l).len = l.length := flat_len (enc := encDd) (fun _ => rfl) (by decide) _ _
theorem elem_encDds {l : List Dd} {k : Nat} {x : Dd} (h : l[k]? = some x) : (encDds l).elem k = encDd x := flat_elem (enc := encDd) (fun _ => rfl) h
theorem sl_encDds (l : List Dd) : (encDds l).isSl = true := rfl
theorem sz_encDds (l : List Dd) : (encDds l).size = 11 := rfl
theorem ro_encDds (l : List Dd) : (encDds l).toRo = .ro (encDds l) := rfl
theorem obj_encDds (l : List Dd) (g : Nat) (η : Heads) : (encDds l).obj g η = [(g, .loose (encDds l) η)] := rfl
theorem own_encDds (l : List Dd) (g c : Nat) (p : List Nat) (η : Heads) : (encDds l).toOwn g c p η = .h g c p (η p) := rfl
theorem cells_encDds (l : List Dd) : (encDds l).cells = l.flatMap (encDd) := rfl
end
attribute [go_sem] len_encInts sl_encInts sz_encInts ro_encInts obj_encInts own_encInts len_encEds sl_encEds sz_encEds ro_encEds obj_encEds own_encEds len_encEns sl_encEns sz_encEns ro_encEns obj_encEns own_encEns len_encTks sl_encTks sz_encTks ro_encTks obj_encTks own_encTks len_encRns sl_encRns sz_encRns ro_encRns obj_encRns own_encRns len_encSh sl_encSh sz_encSh ro_encSh obj_encSh own_encSh len_encNts sl_encNts sz_encNts ro_encNts obj_encNts own_encNts len_encDds sl_encDds sz_encDds ro_encDds obj_encDds own_encDds
end Go.Proofs.Ytfjgkakilmiheaa
