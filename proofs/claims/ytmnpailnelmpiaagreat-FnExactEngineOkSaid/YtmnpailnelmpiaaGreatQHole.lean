/- Texts for laws: Hole. -/
import Derived.Test.YtmnpailnelmpiaaGreatQAb
import Derived.Test.YtmnpailnelmpiaaGreatQE8
set_option linter.unusedSimpArgs false
set_option linter.unusedVariables false
namespace Go.Proofs.YtmnpailnelmpiaaGreat
open Go.RowKit Go.Sort
section
variable {P : Program} {B : Nat} {w w0 : World} {F : Nat → List Nat} {o : Nat → Ob}
variable {s : St} {K : St → Prop} {β : Nat} {gd : Option (Nat × Bool)} {d : Option Nat}
theorem ptr_bp (g c b : Nat) (ds : List D) : Ptr s (.bp g c b) ds = obK (s.o g) b fun _ cs => Ptr.go s g b ((cs.drop c).take ds.length) c ds := by
  rw [← ob_ex]
  apply propext
  simp only [Ptr]
  constructor
  · rintro ⟨ty, cs, h1, _, rfl, h3⟩; exact ⟨ty, cs, h1, h3⟩
  · rintro ⟨ty, cs, h1, h3⟩; exact ⟨ty, cs, h1, _, rfl, h3⟩
theorem go_nil_ (g b c : Nat) : Ptr.go s g b [] c [] = True := by simp [Ptr.go]
theorem go_a_ (g b c : Nat) (x : A0) (l : List Cell) (e : D) (ds : List D) : Ptr.go s g b (.a x :: l) c (e :: ds) = (IsP x e ∧ Ptr.go s g b l (c + 1) ds) := rfl
theorem isP_v (x : Value) : IsP (.v x) (.val x) = True := eq_true (.inl rfl)
def mkfK (s : St) (K : St → Prop) (d : Option Nat) (f : Nat) : AV → Prop
  | .c a => K (s.put d (.fn f [a]))
  | _ => False
theorem mkfK_c (f : Nat) (a : A0) : mkfK s K d f (.c a) = K (s.put d (.fn f [a])) := rfl
theorem run_mkf (f : Nat) (x : X) : runI P β ⟨d, gd, .mkf f [x]⟩ s K = mkfK s K d f (s.ev x) := by
  cases hx : s.ev x with
  | c a =>
    refine gen_eq (os := []) (av := .fn f [a]) rfl fun rt st av' os' => ?_
    simp [Gen, capsOf, hx]
  | _ =>
    apply propext
    refine ⟨fun h => ?_, fun h => h.elim⟩
    have h' : ∃ rt, ∀ st, ∃ av os, Gen P s (β + d.getD 0) rt st (.mkf f [x]) av os ∧ K ((s.addO os).put d av) := h
    obtain ⟨rt, h1⟩ := h'
    obtain ⟨av, os, ⟨l, h2, _⟩, _⟩ := h1 ⟨0, fun _ _ => undef⟩
    simp [capsOf, hx] at h2
end
attribute [go_sem] run_mkf mkfK_c ptr_bp go_nil_ go_a_ isP_v
end Go.Proofs.YtmnpailnelmpiaaGreat
