/- Texts for laws: Rest. -/
import Derived.Test.YtnhdcbhcocgjhaaGreatQCompS
import Derived.Test.YtnhdcbhcocgjhaaGreatQFailsEp
import Derived.Test.YtnhdcbhcocgjhaaGreatQTurnP
import Derived.Test.YtnhdcbhcocgjhaaGreatQTurnS
set_option linter.unusedSimpArgs false
set_option linter.unusedVariables false
set_option maxRecDepth 100000
namespace Go.Proofs.YtnhdcbhcocgjhaaGreat
open Go.RowKit Go.Sort
def simAs : List AV → List AV → Prop
  | [], [] => True
  | a :: l, b :: m => a.sim b ∧ simAs l m
  | _, _ => False
theorem simAs_nil : simAs [] [] = True := rfl
theorem simAs_cons (a b : AV) (l m : List AV) : simAs (a :: l) (b :: m) = (a.sim b ∧ simAs l m) := rfl
theorem simAs.rel {B : Nat} {w : World} : ∀ {l m : List AV} {xs : List Value}, simAs l m → VRelL B w l xs → VRelL B w m xs
  | [], [], _, _, h => h
  | _ :: _, _ :: _, _, ⟨h1, h2⟩, ⟨x, xs', e, h3, h4⟩ => ⟨x, xs', e, h1.rel h3, h2.rel h4⟩
theorem inl_ren {P : Program} {f : FuncId} {vs vs2 : List AV} {o o2 : Nat → Ob} {R : AV → (Nat → Ob) → Prop} (hw : Wk (.only o) (.only o2)) (hs : simAs vs vs2) (h : Inl P f vs2 o2 R) : Inl P f vs o R :=
  ⟨h.1, fun B w F xs h1 h2 => by
    obtain ⟨F2, h3, _⟩ := hw _ _ _ _ _ _ h1
    exact h.2 B w F2 xs h3 (hs.rel h2)⟩
/-- A call whose code stands in the caller; the objects are named anew ahead of it. -/
theorem run_inl_ren {P : Program} {β : Nat} {s : St} {K : St → Prop} {d : Option Nat} {g : Option (Nat × Bool)} {f : Nat} {args : List X} {R : AV → (Nat → Ob) → Prop} (ks : List (Option Nat)) (O : List (Nat × Ob)) (vs2 : List AV) (hs : simAs (args.map s.ev) vs2) (hf : fitO s ks O) (h : Inl P f vs2 (lkO O) R) (hk : ∀ av o', R av o' → K (St.put ⟨s.t, o'⟩ d av)) (hn : apartN (srcs ks) = true := by decide) : runI P β ⟨d, g, .call f args⟩ s K := by
  refine run_inl (inl_ren (o2 := lkO O) ?_ hs (h.weak hk))
  have hf' : ∀ {ks : List (Option Nat)} {O : List (Nat × Ob)}, fitO s ks O → fitO (.only s.o) ks O := by
    intro ks
    induction ks with
    | nil => intro O h; cases O <;> first | exact h | exact h.elim
    | cons k ks ih =>
      intro O h
      cases O with
      | nil => cases k <;> exact h.elim
      | cons p O => cases k <;> exact ⟨h.1, ih h.2⟩
  exact wk_of (s := .only s.o) ks (T := []) ⟨trivial, hf' hf⟩ hn
attribute [go_sem] simAs_nil simAs_cons
end Go.Proofs.YtnhdcbhcocgjhaaGreat
