/- Texts for laws: Hole, Ret2, RunNew, Insert, Swept, Put, Room, Sub, Holds, Told, TurnP, DoneEp. -/
import Derived.Test.YtnhdcbhcocgjhaaGreatQAb
import Derived.Test.YtnhdcbhcocgjhaaGreatQCopy
import Derived.Test.YtnhdcbhcocgjhaaGreatQCopyY
import Derived.Test.YtnhdcbhcocgjhaaGreatQE8
import Derived.Test.YtnhdcbhcocgjhaaGreatQFresh
import Derived.Test.YtnhdcbhcocgjhaaGreatQOverP
import Derived.Test.YtnhdcbhcocgjhaaGreatQSlots2
import Derived.Test.YtnhdcbhcocgjhaaGreatQTy
import Derived.Test.YtnhdcbhcocgjhaaGreatQYardB
import Derived.Test.YtnhdcbhcocgjhaaGreatProg
import Derived.Shelf.Spec.SlicesInsertGrow
import Derived.Lib.Overlaps
set_option linter.unusedSimpArgs false
set_option linter.unusedVariables false
namespace Go.Proofs.YtnhdcbhcocgjhaaGreat
open Go.RowKit Go.Sort
section
variable {P : Program} {B : Nat} {w w0 : World} {F : Nat → List Nat} {o : Nat → Ob}
variable {s : St} {K : St → Prop} {β : Nat} {gd : Option (Nat × Bool)} {d : Option Nat}
theorem ptr_bp (g c b : Nat) (ds : List D) : Ptr s (.bp g c b) ds = obK (s.o g) b fun _ cs => Ptr.go s g b ((cs.drop c).take ds.length) c ds := by
  rw [← ob_ex]
  apply propext
  simp only [Ptr]
  constructor
  · rintro ⟨ty, cs, h1, _, rfl, h3⟩; exact ⟨ty, cs, h1, h3⟩
  · rintro ⟨ty, cs, h1, h3⟩; exact ⟨ty, cs, h1, _, rfl, h3⟩
theorem go_nil_ (g b c : Nat) : Ptr.go s g b [] c [] = True := by simp [Ptr.go]
theorem go_a_ (g b c : Nat) (x : A0) (l : List Cell) (e : D) (ds : List D) : Ptr.go s g b (.a x :: l) c (e :: ds) = (IsP x e ∧ Ptr.go s g b l (c + 1) ds) := rfl
theorem isP_v (x : Value) : IsP (.v x) (.val x) = True := eq_true (.inl rfl)
def mkfK (s : St) (K : St → Prop) (d : Option Nat) (f : Nat) : AV → Prop
  | .c a => K (s.put d (.fn f [a]))
  | _ => False
theorem mkfK_c (f : Nat) (a : A0) : mkfK s K d f (.c a) = K (s.put d (.fn f [a])) := rfl
theorem run_mkf (f : Nat) (x : X) : runI P β ⟨d, gd, .mkf f [x]⟩ s K = mkfK s K d f (s.ev x) := by
  cases hx : s.ev x with
  | c a =>
    refine gen_eq (os := []) (av := .fn f [a]) rfl fun rt st av' os' => ?_
    simp [Gen, capsOf, hx]
  | _ =>
    apply propext
    refine ⟨fun h => ?_, fun h => h.elim⟩
    have h' : ∃ rt, ∀ st, ∃ av os, Gen P s (β + d.getD 0) rt st (.mkf f [x]) av os ∧ K ((s.addO os).put d av) := h
    obtain ⟨rt, h1⟩ := h'
    obtain ⟨av, os, ⟨l, h2, _⟩, _⟩ := h1 ⟨0, fun _ _ => undef⟩
    simp [capsOf, hx] at h2
end
attribute [go_sem] run_mkf mkfK_c ptr_bp go_nil_ go_a_ isP_v
end Go.Proofs.YtnhdcbhcocgjhaaGreat
set_option linter.unusedSimpArgs false
set_option linter.unusedVariables false
set_option maxRecDepth 100000
namespace Go.Proofs.YtnhdcbhcocgjhaaGreat
open Go.RowKit Go.Sort
section
variable {P : Program} {s : St}
def ret2A (s : St) (ds : List D) (d : D) (l : List A0) : AV → Prop
  | .c a => l.length = ds.length ∧ TakeK s (l ++ [a]) fun cs _ => IsD cs (ds ++ [d])
  | _ => False
def ret2K (s : St) (k : Nat) (ds : List D) (d : D) (b : AV) : AV → Prop
  | .c (.bp g c bb) => ldB (s.o g) g c bb k fun l => ret2A s ds d l b
  | _ => False
theorem ret2_ (n k m : Nat) (ds : List D) (d : D) (h : ret2K s k ds d (s.t m) (s.t n)) : RetQ [.cell n true k, .t m] (.tup [(true, ds), (false, [d])]) s := by
  unfold ret2K at h
  split at h
  · rename_i g c bb he
    simp only [ldB] at h
    split at h
    · rename_i b ty cs ho
      obtain ⟨e1, e2, h⟩ := h
      unfold ret2A at h
      split at h
      · rename_i a ha
        obtain ⟨h1, h2⟩ := h
        simp only [RetQ, resK, ha, he]
        refine ⟨_, ⟨ty, cs, by rw [ho, e1], e2, rfl⟩, .inl trivial, ?_⟩
        refine ⟨⟨by simp, by simp [h1]⟩, ?_⟩
        simpa [RT.flat] using h2
      · exact h.elim
    · exact h.elim
  · exact h.elim
theorem ret2A_ (ds : List D) (d : D) (l : List A0) (a : A0) : ret2A s ds d l (.c a) = (l.length = ds.length ∧ TakeK s (l ++ [a]) fun cs _ => IsD cs (ds ++ [d])) := rfl
theorem ret2K_ (k g c bb : Nat) (ds : List D) (d : D) (b : AV) : ret2K s k ds d b (.c (.bp g c bb)) = ldB (s.o g) g c bb k fun l => ret2A s ds d l b := rfl
end
attribute [go_sem] ret2A_ ret2K_
end Go.Proofs.YtnhdcbhcocgjhaaGreat
set_option linter.unusedSimpArgs false
set_option linter.unusedVariables false
set_option maxRecDepth 100000
namespace Go.Proofs.YtnhdcbhcocgjhaaGreat
open Go.RowKit Go.Sort
end Go.Proofs.YtnhdcbhcocgjhaaGreat
set_option linter.unusedSimpArgs false
set_option linter.unusedVariables false
namespace Go.Proofs.YtnhdcbhcocgjhaaGreat
open Go.RowKit Go.Sort Go.Lib
end Go.Proofs.YtnhdcbhcocgjhaaGreat
set_option linter.unusedSimpArgs false
set_option linter.unusedVariables false
set_option maxRecDepth 100000
namespace Go.Proofs.YtnhdcbhcocgjhaaGreat
open Go.RowKit Go.Sort
end Go.Proofs.YtnhdcbhcocgjhaaGreat
set_option linter.unusedSimpArgs false
set_option linter.unusedVariables false
set_option maxRecDepth 100000
namespace Go.Proofs.YtnhdcbhcocgjhaaGreat
open Go.RowKit Go.Sort
end Go.Proofs.YtnhdcbhcocgjhaaGreat
namespace Go.Proofs.YtnhdcbhcocgjhaaGreat
open Go.RowKit Go.Sort Go.BigFrame

end Go.Proofs.YtnhdcbhcocgjhaaGreat
set_option linter.unusedSimpArgs false
set_option linter.unusedVariables false
namespace Go.Proofs.YtnhdcbhcocgjhaaGreat
open Go.RowKit Go.Sort
section
variable {P : Program} {β : Nat} {s : St} {K : St → Prop} {Q : Ex → St → Prop}
theorem wp_gk {a : C} (h : WkK s (wpC P β a Q)) : wpC P β (.gh a) Q s := h
theorem WkK.of {K : St → Prop} (h : K s) : WkK s K := fun _ _ _ _ _ F hr => ⟨s, F, hr, h⟩
theorem WkK.wk {s' : St} (h : Wk s s') (hk : WkK s' K) : WkK s K := fun B N w0 w a F hr => let ⟨F', h1, _⟩ := h B N w0 w a F hr; hk B N w0 w a F' h1
theorem slice_one {u : Value} (h : ∃ A n c, u = .slice A n c) : u.oneCell' = true := by obtain ⟨_, _, _, rfl⟩ := h; rfl
theorem isSl_form {w : World} {own : Bool} {d : D} {u : Value} {S : List Nat} (hd : d.isSl = true) (h : Rep w own d u S) : ∃ A n c, u = .slice A n c := by
  cases d with
  | val _ => cases hd
  | sl _ _ _ => exact rep_form h
/-- An own slice becomes an object of its own; its header stays. -/
theorem wk_cut0 (g c g2 : Nat) {d : D} {η : Heads} (ho : (s.o g).own c = some (d, η)) (h2 : s.o g2 = .none) (hne : g2 ≠ g) (hk : (η []).oneCell' = true → WkK ((s.rm g c).setO g2 (.loose d η)) K) : WkK s K := by
  intro B N w0 w a F h
  obtain ⟨u, S, F', j1, j2, j3, j4, j5, j6, j7, j8⟩ := h.rm ho
  have e : η [] = u := by rw [j3, hdr_nil j1]
  exact hk (e ▸ slice_one (isSl_form j1 j2)) _ _ _ _ _ _ (j5.setO (g := g2) (ob := .loose d η) (S := S) ⟨j1, u, j2, j3⟩ j4 (fun g' _ b hb => j6 g' b hb))
theorem cRel_put {B : Nat} {w : World} {d : D} {η : Heads} {u : Value} {S2 : List Nat} (hd : d.isSl = true) (hr : Rep w true d u S2) (hh : ∀ p, η p = hdr w p d u) : ∀ {c : Nat} {l : List Cell} {us : List Value} {S : List Nat}, CRel B w l us S → l[c]? = some (.a (.v u)) →
    ∃ S', CRel B w (l.set c (.own d η)) us S' ∧ S'.Perm (S ++ S2)
  | _, [], _, _, _, h => by simp at h
  | 0, .a x :: l, _, S, ⟨v, us', rfl, h1, h2⟩, h => by
    simp at h; subst h
    have : v = u := h1
    subst this
    exact ⟨S2 ++ S, ⟨v, us', S2, S, rfl, rfl, hd, hr, hh, h2⟩, List.perm_append_comm⟩
  | 0, .own e ε :: l, _, _, _, h => by simp at h
  | c + 1, .a x :: l, _, S, ⟨v, us', rfl, h1, h2⟩, h => by
    simp at h
    obtain ⟨S', a1, a2⟩ := cRel_put hd hr hh h2 h
    exact ⟨S', ⟨v, us', rfl, h1, a1⟩, a2⟩
  | c + 1, .own e ε :: l, _, _, ⟨v, us', T1, T2, rfl, rfl, h1, h2, h3, h4⟩, h => by
    simp at h
    obtain ⟨S', a1, a2⟩ := cRel_put hd hr hh h4 h
    exact ⟨T1 ++ S', ⟨v, us', T1, S', rfl, rfl, h1, h2, h3, a1⟩, by rw [List.append_assoc]; exact List.Perm.append_left _ a2⟩
/-- A loose slice goes into a box, where its header lies. -/
theorem wk_graft0 (g c g2 : Nat) {b ty : Nat} {cs : List Cell} {d : D} {η : Heads} (hb : s.o g = .box b ty cs) (hc : cs[c]? = some (.a (.v (η [])))) (h2 : s.o g2 = .loose d η) (hk : WkK ((s.setO g2 .none).setO g (.box b ty (cs.set c (.own d η)))) K) : WkK s K := by
  intro B N w0 w a F h
  have hne : g2 ≠ g := fun e => by rw [e, hb] at h2; cases h2
  have h3 := h.ob g2
  rw [h2] at h3
  obtain ⟨k1, u, k2, k3⟩ := h3
  have e : η [] = u := by rw [k3, hdr_nil k1]
  rw [e] at hc
  have h4 := h.ob g
  rw [hb] at h4
  obtain ⟨us, S1, q1, q2, q3⟩ := h4
  obtain ⟨S', q4, q5⟩ := cRel_put k1 k2 k3 q2 hc
  have t1 := h.setO (g := g2) (ob := .none) (S := []) rfl (Fresh.nil _) (by simp)
  have hp : (b :: S').Perm (F g ++ F g2) := by rw [q3]; exact q5.cons b
  have hnd : (F g ++ F g2).Nodup := List.nodup_append.2 ⟨(h.fr g).1, (h.fr g2).1, fun x hx y hy e => h.dj g g2 (fun e => hne e.symm) x hx (e ▸ hy)⟩
  refine hk _ _ _ _ _ _ (t1.setO (g := g) (ob := .box b ty (cs.set c (.own d η))) (S := b :: S') ⟨us, S', q1, q4, rfl⟩ ⟨hp.nodup_iff.2 hnd, fun x hx => ?_⟩ (fun g' hg' x hx => ?_))
  · rcases List.mem_append.1 (hp.mem_iff.1 hx) with hx | hx
    · exact (h.fr g).2 x hx
    · exact (h.fr g2).2 x hx
  · split
    · simp
    · rename_i hg2
      intro hh
      rcases List.mem_append.1 (hp.mem_iff.1 hx) with hx | hx
      · exact h.dj g' g hg' x hh hx
      · exact h.dj g' g2 hg2 x hh hx
end
end Go.Proofs.YtnhdcbhcocgjhaaGreat
set_option linter.unusedSimpArgs false
set_option linter.unusedVariables false
set_option maxRecDepth 100000
namespace Go.Proofs.YtnhdcbhcocgjhaaGreat
open Go.RowKit Go.Sort
end Go.Proofs.YtnhdcbhcocgjhaaGreat
set_option linter.unusedSimpArgs false
set_option linter.unusedVariables false
set_option maxRecDepth 100000
namespace Go.Proofs.YtnhdcbhcocgjhaaGreat
open Go.RowKit Go.Sort
end Go.Proofs.YtnhdcbhcocgjhaaGreat
set_option linter.unusedSimpArgs false
set_option linter.unusedVariables false
set_option maxRecDepth 100000
namespace Go.Proofs.YtnhdcbhcocgjhaaGreat
open Go.RowKit Go.Sort
end Go.Proofs.YtnhdcbhcocgjhaaGreat
namespace Go.Proofs.YtnhdcbhcocgjhaaGreat
open Go.RowKit Go.Sort Go.BigFrame

end Go.Proofs.YtnhdcbhcocgjhaaGreat
set_option linter.unusedSimpArgs false
set_option linter.unusedVariables false
set_option maxRecDepth 100000
namespace Go.Proofs.YtnhdcbhcocgjhaaGreat
open Go.RowKit Go.Sort
end Go.Proofs.YtnhdcbhcocgjhaaGreat
set_option linter.unusedSimpArgs false
set_option linter.unusedVariables false
set_option maxRecDepth 100000
namespace Go.Proofs.YtnhdcbhcocgjhaaGreat
open Go.RowKit Go.Sort
end Go.Proofs.YtnhdcbhcocgjhaaGreat
set_option linter.unusedSimpArgs false
set_option linter.unusedVariables false
set_option maxRecDepth 100000
namespace Go.Proofs.YtnhdcbhcocgjhaaGreat
open Go.RowKit Go.Sort
section
variable {P : Program} {β : Nat} {s : St} {K : St → Prop} {d : Option Nat} {g : Option (Nat × Bool)}
theorem Inl.weak {f : FuncId} {args : List AV} {o : Nat → Ob} {R R' : AV → (Nat → Ob) → Prop} (h : Inl P f args o R) (hk : ∀ av o', R av o' → R' av o') : Inl P f args o R' :=
  ⟨h.1, fun B w F xs h1 h2 => (h.2 B w F xs h1 h2).mono fun e w' ⟨v, av, o', F', k1, k2, k3, k4⟩ => ⟨v, av, o', F', k1, k2, k3, hk _ _ k4⟩⟩
theorem run_inl_of {f : Nat} {args : List X} {R : AV → (Nat → Ob) → Prop} (h : Inl P f (args.map s.ev) s.o R) (hk : ∀ av o', R av o' → K (St.put ⟨s.t, o'⟩ d av)) : runI P β ⟨d, g, .call f args⟩ s K := run_inl (h.weak hk)
theorem run_inl_at {f : Nat} {args : List X} {vs : List AV} {R : AV → (Nat → Ob) → Prop} (ha : args.map s.ev = vs) (h : Inl P f vs s.o R) (hk : ∀ av o', R av o' → K (St.put ⟨s.t, o'⟩ d av)) : runI P β ⟨d, g, .call f args⟩ s K := by subst ha; exact run_inl_of h hk
theorem simA_self (x : A0) : x.sim x = True := by cases x <;> simp [A0.sim]
theorem simcell_self (x : Cell) : x.sim x = True := by cases x <;> simp [Cell.sim, simA_self]
theorem simC_self : ∀ l : List Cell, simC l l = True
  | [] => rfl
  | x :: l => by simp [simC, simcell_self, simC_self l]
theorem simO_self (x : Ob) : x.sim x = True := by cases x <;> simp [Ob.sim, simC_self]
end
end Go.Proofs.YtnhdcbhcocgjhaaGreat
