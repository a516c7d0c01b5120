/- Texts for laws: DoneEp. -/
import Derived.Test.YtnhdcbhcocgjhaaQHolds
set_option linter.unusedSimpArgs false
set_option linter.unusedVariables false
set_option maxRecDepth 100000
namespace Go.Proofs.Ytnhdcbhcocgjhaa
open Go.RowKit Go.Sort
section
variable {P : Program} {β : Nat} {s : St} {K : St → Prop} {d : Option Nat} {g : Option (Nat × Bool)}
theorem Inl.weak {f : FuncId} {args : List AV} {o : Nat → Ob} {R R' : AV → (Nat → Ob) → Prop} (h : Inl P f args o R) (hk : ∀ av o', R av o' → R' av o') : Inl P f args o R' :=
  ⟨h.1, fun B w F xs h1 h2 => (h.2 B w F xs h1 h2).mono fun e w' ⟨v, av, o', F', k1, k2, k3, k4⟩ => ⟨v, av, o', F', k1, k2, k3, hk _ _ k4⟩⟩
theorem run_inl_of {f : Nat} {args : List X} {R : AV → (Nat → Ob) → Prop} (h : Inl P f (args.map s.ev) s.o R) (hk : ∀ av o', R av o' → K (St.put ⟨s.t, o'⟩ d av)) : runI P β ⟨d, g, .call f args⟩ s K := run_inl (h.weak hk)
theorem run_inl_at {f : Nat} {args : List X} {vs : List AV} {R : AV → (Nat → Ob) → Prop} (ha : args.map s.ev = vs) (h : Inl P f vs s.o R) (hk : ∀ av o', R av o' → K (St.put ⟨s.t, o'⟩ d av)) : runI P β ⟨d, g, .call f args⟩ s K := by subst ha; exact run_inl_of h hk
theorem simA_self (x : A0) : x.sim x = True := by cases x <;> simp [A0.sim]
theorem simcell_self (x : Cell) : x.sim x = True := by cases x <;> simp [Cell.sim, simA_self]
theorem simC_self : ∀ l : List Cell, simC l l = True
  | [] => rfl
  | x :: l => by simp [simC, simcell_self, simC_self l]
theorem simO_self (x : Ob) : x.sim x = True := by cases x <;> simp [Ob.sim, simC_self]
end
end Go.Proofs.Ytnhdcbhcocgjhaa
