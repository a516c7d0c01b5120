/- Marks of slices of structs that hold slices. -/
import Derived.Test.YthgdkidalekffaaMark2
namespace Go.Proofs.Ythgdkidalekffaa
open Go.RowKit Go.Sort Go.BigFrame

theorem onlyC {S : List Nat} {w w' : World} (ho : Only S w w') {b : Nat} (h : b < w.heap.size) (hS : b ∉ S) : (∀ o, w'.cell? ⟨b, o, none⟩ = w.cell? ⟨b, o, none⟩) ∧ (∀ o, w'.frozen? ⟨b, o, none⟩ = w.frozen? ⟨b, o, none⟩) := by
  have e : w'.heap[b]? = w.heap[b]? := ho.block b h hS
  exact ⟨fun o => World.cell?_of_block (w := w) (a := ⟨b, o, none⟩) e, fun o => World.frozen?_of_block (w := w) (a := ⟨b, o, none⟩) e⟩

/-- The marked one, and how many marks it takes. -/
def mkRn (x : Rn) (q : Int) : Rn := ⟨q, ⟨q + 1, q + 1 + 1, q + 1 + 1 + 1, q + 1 + 1 + 1 + 1, mkR mkEd 2 x.plan.edges.length (q + 1 + 1 + 1 + 1 + 1)⟩, q + 1 + 1 + 1 + 1 + 1 + 2 * (x.plan.edges.length : Int), mkR mkTk 4 x.tasks.length (q + 1 + 1 + 1 + 1 + 1 + 2 * (x.plan.edges.length : Int) + 1)⟩
def cRn (x : Rn) : Nat := 6 + 2 * x.plan.edges.length + 4 * x.tasks.length



/-- The marked one, and how many marks it takes. -/
def mkNt (x : Nt) (q : Int) : Nt := ⟨q, ⟨q + 1, q + 1 + 1, ⟨q + 1 + 1 + 1, q + 1 + 1 + 1 + 1, q + 1 + 1 + 1 + 1 + 1, q + 1 + 1 + 1 + 1 + 1 + 1, mkR mkEd 2 x.deed.plan.edges.length (q + 1 + 1 + 1 + 1 + 1 + 1 + 1)⟩, q + 1 + 1 + 1 + 1 + 1 + 1 + 1 + 2 * (x.deed.plan.edges.length : Int), q + 1 + 1 + 1 + 1 + 1 + 1 + 1 + 2 * (x.deed.plan.edges.length : Int) + 1, q + 1 + 1 + 1 + 1 + 1 + 1 + 1 + 2 * (x.deed.plan.edges.length : Int) + 1 + 1, q + 1 + 1 + 1 + 1 + 1 + 1 + 1 + 2 * (x.deed.plan.edges.length : Int) + 1 + 1 + 1⟩⟩
def cNt (x : Nt) : Nat := 11 + 2 * x.deed.plan.edges.length



def mkYd (y : Yd) (k : Int) : Yd := ⟨y.now, y.seq, mkL mkEs c4 y.shelf k, mkL mkRn cRn y.runs (k + (tsum c4 y.shelf : Int))⟩
def cYd (y : Yd) : Nat := tsum c4 y.shelf + tsum cRn y.runs

end Go.Proofs.Ythgdkidalekffaa
