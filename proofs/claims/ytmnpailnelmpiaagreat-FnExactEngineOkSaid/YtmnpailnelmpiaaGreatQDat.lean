/- Texts for laws: Dat. -/
import Derived.Test.YtmnpailnelmpiaaGreatQW
set_option linter.unusedVariables false
set_option linter.unusedSimpArgs false
namespace Go.Proofs.YtmnpailnelmpiaaGreat
open Go.RowKit Go.Sort
structure Fl where
  name : ByteArray
  data : ByteArray
  safe : Int
  deriving DecidableEq, Inhabited
structure Wt where
  call : Int
  code : Int
  run : Int
  task : Int
  tri : Int
  deriving DecidableEq, Inhabited
abbrev sv (b : ByteArray) : D := .val (.string b)
def encFl (x : Fl) : List D := [sv x.name, sv x.data, iv x.safe]
def encWt (x : Wt) : List D := [iv x.call, iv x.code, iv x.run, iv x.task, iv x.tri]

abbrev tFl : TypeId := 184
def encFls (l : List Fl) : D := .sl 3 tFl (l.flatMap (encFl))
section
variable {P : Program} {β : Nat} {s : St}
theorem len_encFls (l : List Fl) : (encFls l).len = l.length := flat_len (enc := encFl) (fun _ => rfl) (by decide) _ _
theorem elem_encFls {l : List Fl} {k : Nat} {x : Fl} (h : l[k]? = some x) : (encFls l).elem k = encFl x := flat_elem (enc := encFl) (fun _ => rfl) h
theorem sl_encFls (l : List Fl) : (encFls l).isSl = true := rfl
theorem sz_encFls (l : List Fl) : (encFls l).size = 3 := rfl
theorem ro_encFls (l : List Fl) : (encFls l).toRo = .ro (encFls l) := rfl
theorem obj_encFls (l : List Fl) (g : Nat) (η : Heads) : (encFls l).obj g η = [(g, .loose (encFls l) η)] := rfl
theorem own_encFls (l : List Fl) (g c : Nat) (p : List Nat) (η : Heads) : (encFls l).toOwn g c p η = .h g c p (η p) := rfl
theorem cells_encFls (l : List Fl) : (encFls l).cells = l.flatMap (encFl) := rfl
theorem in_encFls {l : List Fl} {k : Nat} (h : k < l.length) : k * 3 + 3 ≤ (l.flatMap (encFl)).length := by rw [len_flat (enc := encFl) (size := 3) (fun _ => rfl)]; omega
theorem put_encFls {l : List Fl} {k : Nat} (v : Fl) (hk : k < l.length) : D.put [] (k * 3) (encFl v) (encFls l) = encFls (l.set k v) := put_flat (enc := encFl) (fun _ => rfl) v hk
theorem flatB_encFls (l : List Fl) : flatB (l.flatMap (encFl)) = true := by
  induction l with
  | nil => rfl
  | cons x l ih => rw [List.flatMap_cons, flatB_app, ih]; rfl
theorem fdt_encFls (l : List Fl) (a b : Nat) : flatB (((l.flatMap (encFl)).drop a).take b) = true := flatB_dt a b (flatB_encFls l)
attribute [go_sem] fdt_encFls len_encFls sl_encFls sz_encFls ro_encFls obj_encFls own_encFls cells_encFls flatB_encFls
end
abbrev tWt : TypeId := 126
def encWts (l : List Wt) : D := .sl 5 tWt (l.flatMap (encWt))
section
variable {P : Program} {β : Nat} {s : St}
theorem len_encWts (l : List Wt) : (encWts l).len = l.length := flat_len (enc := encWt) (fun _ => rfl) (by decide) _ _
theorem elem_encWts {l : List Wt} {k : Nat} {x : Wt} (h : l[k]? = some x) : (encWts l).elem k = encWt x := flat_elem (enc := encWt) (fun _ => rfl) h
theorem sl_encWts (l : List Wt) : (encWts l).isSl = true := rfl
theorem sz_encWts (l : List Wt) : (encWts l).size = 5 := rfl
theorem ro_encWts (l : List Wt) : (encWts l).toRo = .ro (encWts l) := rfl
theorem obj_encWts (l : List Wt) (g : Nat) (η : Heads) : (encWts l).obj g η = [(g, .loose (encWts l) η)] := rfl
theorem own_encWts (l : List Wt) (g c : Nat) (p : List Nat) (η : Heads) : (encWts l).toOwn g c p η = .h g c p (η p) := rfl
theorem cells_encWts (l : List Wt) : (encWts l).cells = l.flatMap (encWt) := rfl
theorem in_encWts {l : List Wt} {k : Nat} (h : k < l.length) : k * 5 + 5 ≤ (l.flatMap (encWt)).length := by rw [len_flat (enc := encWt) (size := 5) (fun _ => rfl)]; omega
theorem put_encWts {l : List Wt} {k : Nat} (v : Wt) (hk : k < l.length) : D.put [] (k * 5) (encWt v) (encWts l) = encWts (l.set k v) := put_flat (enc := encWt) (fun _ => rfl) v hk
theorem flatB_encWts (l : List Wt) : flatB (l.flatMap (encWt)) = true := by
  induction l with
  | nil => rfl
  | cons x l ih => rw [List.flatMap_cons, flatB_app, ih]; rfl
theorem fdt_encWts (l : List Wt) (a b : Nat) : flatB (((l.flatMap (encWt)).drop a).take b) = true := flatB_dt a b (flatB_encWts l)
attribute [go_sem] fdt_encWts len_encWts sl_encWts sz_encWts ro_encWts obj_encWts own_encWts cells_encWts flatB_encWts
end
theorem mk_fls (n : Nat) : D.sl 3 tFl (List.replicate n [D.val (.string ⟨#[]⟩), D.val (.string ⟨#[]⟩), D.val (.int .i64 0)]).flatten = encFls (List.replicate n ⟨⟨#[]⟩, ⟨#[]⟩, 0⟩) := by simp [encFls, List.flatMap, encFl, iv, sv]
theorem mk_wts (n : Nat) : D.sl 5 tWt (List.replicate n [D.val (.int .i64 0), D.val (.int .i64 0), D.val (.int .i64 0), D.val (.int .i64 0), D.val (.int .i64 0)]).flatten = encWts (List.replicate n ⟨0, 0, 0, 0, 0⟩) := by simp [encWts, List.flatMap, encWt, iv]
theorem put_fl3 {l : List Fl} {k : Nat} (a b : ByteArray) (c : Int) (hk : k < l.length) : D.put [] (k * 3) [.val (.string a), .val (.string b), .val (.int .i64 c)] (encFls l) = encFls (l.set k ⟨a, b, c⟩) := put_encFls ⟨a, b, c⟩ hk
theorem put_wt5 {l : List Wt} {k : Nat} (a b c d e : Int) (hk : k < l.length) : D.put [] (k * 5) [.val (.int .i64 a), .val (.int .i64 b), .val (.int .i64 c), .val (.int .i64 d), .val (.int .i64 e)] (encWts l) = encWts (l.set k ⟨a, b, c, d, e⟩) := put_encWts ⟨a, b, c, d, e⟩ hk
/-- An engine. -/
structure Eg where
  yard : Yd
  disk : List Fl
  next : Int
  calls : Int
  waits : List Wt
  state : Int
  broken : Bool
def encEg (x : Eg) : List D := [iv x.yard.now, iv x.yard.seq, encSh x.yard.shelf, encRns x.yard.runs, encFls x.disk, iv x.next, iv x.calls, encWts x.waits, iv x.state, .val (.bool x.broken)]
/-- How much an engine holds. -/
def totFl (x : Fl) : Nat := x.name.size + x.data.size
def totFls (l : List Fl) : Nat := l.length + tsum totFl l
def totEg (x : Eg) : Nat := totYd x.yard + totFls x.disk + x.waits.length
end Go.Proofs.YtmnpailnelmpiaaGreat
