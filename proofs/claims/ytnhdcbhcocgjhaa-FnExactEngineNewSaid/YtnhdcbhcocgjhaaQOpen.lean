/- Texts for laws: Open. -/
import Derived.Test.YtnhdcbhcocgjhaaQTy
import Derived.ProofKit
import Derived.Deep.Slices
import Derived.ChangeSame
namespace Go.Proofs.Ytnhdcbhcocgjhaa
open Go.RowKit Go.ChangeShapes Go.WideShapes Go.Deep Go.ChangeAt

/-- Whatever lies at type t reads as one of α. -/
def ReadsAs (P : Program) (t : TypeId) {α : Type} (E : α → List D) (W : α → Prop) : Prop :=
  ∀ (H : Type) (enc : TypeId × Value → H) (w : World) (base : Nat) (spare : Nat → Bool) (held : Bool) (n : Nat) (cs : List Value) (y : DataW H × List MemPlace),
    DataW.trod enc P w base spare held n t cs = some y → ∃ x, W x ∧ ∃ S, RepL w false (E x) cs S
section
variable {P : Program} {t e : TypeId} {α β : Type} {E : α → List D} {E' : β → List D} {W : α → Prop} {W' : β → Prop}
theorem ReadsAs.map (h : ReadsAs P t E W) (g : α → β) (hE : ∀ a, E' (g a) = E a) (hW : ∀ a, W a → W' (g a)) : ReadsAs P t E' W' := by
  intro H enc w base spare held n cs y hy
  obtain ⟨x, hx, S, hr⟩ := h H enc w base spare held n cs y hy
  exact ⟨g x, hW x hx, S, by rw [hE]; exact hr⟩
end

end Go.Proofs.Ytnhdcbhcocgjhaa
