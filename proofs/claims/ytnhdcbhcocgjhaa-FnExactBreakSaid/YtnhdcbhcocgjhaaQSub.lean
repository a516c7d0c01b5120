/- Texts for laws: Sub. -/
import Derived.Test.YtnhdcbhcocgjhaaQHole
import Derived.Test.YtnhdcbhcocgjhaaQLaw
import Derived.Test.YtnhdcbhcocgjhaaQRet2
import Derived.Test.YtnhdcbhcocgjhaaQYardB
set_option linter.unusedSimpArgs false
set_option linter.unusedVariables false
namespace Go.Proofs.Ytnhdcbhcocgjhaa
open Go.RowKit Go.Sort
section
variable {P : Program} {β : Nat} {s : St} {K : St → Prop} {Q : Ex → St → Prop}
theorem wp_gk {a : C} (h : WkK s (wpC P β a Q)) : wpC P β (.gh a) Q s := h
theorem WkK.of {K : St → Prop} (h : K s) : WkK s K := fun _ _ _ _ _ F hr => ⟨s, F, hr, h⟩
theorem WkK.wk {s' : St} (h : Wk s s') (hk : WkK s' K) : WkK s K := fun B N w0 w a F hr => let ⟨F', h1, _⟩ := h B N w0 w a F hr; hk B N w0 w a F' h1
theorem slice_one {u : Value} (h : ∃ A n c, u = .slice A n c) : u.oneCell' = true := by obtain ⟨_, _, _, rfl⟩ := h; rfl
theorem isSl_form {w : World} {own : Bool} {d : D} {u : Value} {S : List Nat} (hd : d.isSl = true) (h : Rep w own d u S) : ∃ A n c, u = .slice A n c := by
  cases d with
  | val _ => cases hd
  | sl _ _ _ => exact rep_form h
/-- An own slice becomes an object of its own; its header stays. -/
theorem wk_cut0 (g c g2 : Nat) {d : D} {η : Heads} (ho : (s.o g).own c = some (d, η)) (h2 : s.o g2 = .none) (hne : g2 ≠ g) (hk : (η []).oneCell' = true → WkK ((s.rm g c).setO g2 (.loose d η)) K) : WkK s K := by
  intro B N w0 w a F h
  obtain ⟨u, S, F', j1, j2, j3, j4, j5, j6, j7, j8⟩ := h.rm ho
  have e : η [] = u := by rw [j3, hdr_nil j1]
  exact hk (e ▸ slice_one (isSl_form j1 j2)) _ _ _ _ _ _ (j5.setO (g := g2) (ob := .loose d η) (S := S) ⟨j1, u, j2, j3⟩ j4 (fun g' _ b hb => j6 g' b hb))
theorem cRel_put {B : Nat} {w : World} {d : D} {η : Heads} {u : Value} {S2 : List Nat} (hd : d.isSl = true) (hr : Rep w true d u S2) (hh : ∀ p, η p = hdr w p d u) : ∀ {c : Nat} {l : List Cell} {us : List Value} {S : List Nat}, CRel B w l us S → l[c]? = some (.a (.v u)) →
    ∃ S', CRel B w (l.set c (.own d η)) us S' ∧ S'.Perm (S ++ S2)
  | _, [], _, _, _, h => by simp at h
  | 0, .a x :: l, _, S, ⟨v, us', rfl, h1, h2⟩, h => by
    simp at h; subst h
    have : v = u := h1
    subst this
    exact ⟨S2 ++ S, ⟨v, us', S2, S, rfl, rfl, hd, hr, hh, h2⟩, List.perm_append_comm⟩
  | 0, .own e ε :: l, _, _, _, h => by simp at h
  | c + 1, .a x :: l, _, S, ⟨v, us', rfl, h1, h2⟩, h => by
    simp at h
    obtain ⟨S', a1, a2⟩ := cRel_put hd hr hh h2 h
    exact ⟨S', ⟨v, us', rfl, h1, a1⟩, a2⟩
  | c + 1, .own e ε :: l, _, _, ⟨v, us', T1, T2, rfl, rfl, h1, h2, h3, h4⟩, h => by
    simp at h
    obtain ⟨S', a1, a2⟩ := cRel_put hd hr hh h4 h
    exact ⟨T1 ++ S', ⟨v, us', T1, S', rfl, rfl, h1, h2, h3, a1⟩, by rw [List.append_assoc]; exact List.Perm.append_left _ a2⟩
/-- A loose slice goes into a box, where its header lies. -/
theorem wk_graft0 (g c g2 : Nat) {b ty : Nat} {cs : List Cell} {d : D} {η : Heads} (hb : s.o g = .box b ty cs) (hc : cs[c]? = some (.a (.v (η [])))) (h2 : s.o g2 = .loose d η) (hk : WkK ((s.setO g2 .none).setO g (.box b ty (cs.set c (.own d η)))) K) : WkK s K := by
  intro B N w0 w a F h
  have hne : g2 ≠ g := fun e => by rw [e, hb] at h2; cases h2
  have h3 := h.ob g2
  rw [h2] at h3
  obtain ⟨k1, u, k2, k3⟩ := h3
  have e : η [] = u := by rw [k3, hdr_nil k1]
  rw [e] at hc
  have h4 := h.ob g
  rw [hb] at h4
  obtain ⟨us, S1, q1, q2, q3⟩ := h4
  obtain ⟨S', q4, q5⟩ := cRel_put k1 k2 k3 q2 hc
  have t1 := h.setO (g := g2) (ob := .none) (S := []) rfl (Fresh.nil _) (by simp)
  have hp : (b :: S').Perm (F g ++ F g2) := by rw [q3]; exact q5.cons b
  have hnd : (F g ++ F g2).Nodup := List.nodup_append.2 ⟨(h.fr g).1, (h.fr g2).1, fun x hx y hy e => h.dj g g2 (fun e => hne e.symm) x hx (e ▸ hy)⟩
  refine hk _ _ _ _ _ _ (t1.setO (g := g) (ob := .box b ty (cs.set c (.own d η))) (S := b :: S') ⟨us, S', q1, q4, rfl⟩ ⟨hp.nodup_iff.2 hnd, fun x hx => ?_⟩ (fun g' hg' x hx => ?_))
  · rcases List.mem_append.1 (hp.mem_iff.1 hx) with hx | hx
    · exact (h.fr g).2 x hx
    · exact (h.fr g2).2 x hx
  · split
    · simp
    · rename_i hg2
      intro hh
      rcases List.mem_append.1 (hp.mem_iff.1 hx) with hx | hx
      · exact h.dj g' g hg' x hh hx
      · exact h.dj g' g2 hg2 x hh hx
end
end Go.Proofs.Ytnhdcbhcocgjhaa
set_option linter.unusedSimpArgs false
set_option linter.unusedVariables false
set_option maxRecDepth 100000
namespace Go.Proofs.Ytnhdcbhcocgjhaa
open Go.RowKit Go.Sort
end Go.Proofs.Ytnhdcbhcocgjhaa
set_option linter.unusedSimpArgs false
set_option linter.unusedVariables false
set_option maxRecDepth 100000
namespace Go.Proofs.Ytnhdcbhcocgjhaa
open Go.RowKit Go.Sort
end Go.Proofs.Ytnhdcbhcocgjhaa
set_option linter.unusedSimpArgs false
set_option linter.unusedVariables false
set_option maxRecDepth 100000
namespace Go.Proofs.Ytnhdcbhcocgjhaa
open Go.RowKit Go.Sort
end Go.Proofs.Ytnhdcbhcocgjhaa
