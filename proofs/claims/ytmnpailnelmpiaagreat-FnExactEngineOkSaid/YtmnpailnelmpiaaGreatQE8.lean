/- Texts for laws: E8. -/
import Derived.Test.YtmnpailnelmpiaaGreatQE7
set_option linter.unusedSimpArgs false
set_option linter.unusedVariables false
namespace Go.Proofs.YtmnpailnelmpiaaGreat
open Go.RowKit Go.Sort
section
variable {P : Program} {f : FuncId}
theorem views2 {w : World} {v1 v2 : View} {xs : List Value} (h : ViewsRel w [v1, v2] xs) : ∃ a b, xs = [a, b] ∧ ViewRel w v1 a ∧ ViewRel w v2 b := by
  obtain ⟨a, _, rfl, h1, b, _, rfl, h2, h3⟩ := h
  rw [show _ = _ from h3]
  exact ⟨a, b, rfl, h1, h2⟩
theorem views1 {w : World} {v1 : View} {xs : List Value} (h : ViewsRel w [v1] xs) : ∃ a, xs = [a] ∧ ViewRel w v1 a := by
  obtain ⟨a, _, rfl, h1, h3⟩ := h
  rw [show _ = _ from h3]
  exact ⟨a, rfl, h1⟩
theorem pure2 {v1 v2 : View} {u : Value} (hn : Named P f) (h : ∀ w a b, ViewRel w v1 a → ViewRel w v2 b → Calls P f #[a, b] w fun e w' => e = .returned u ∧ Below w.heap.size w w') : Pure P f [v1, v2] (.c (.val u)) := by
  refine ⟨hn, fun w xs hv => ?_⟩
  obtain ⟨a, b, rfl, h1, h2⟩ := views2 hv
  exact (h w a b h1 h2).mono fun e w' ⟨he, hb⟩ => ⟨u, [], he, ⟨rfl, rfl⟩, Fresh.nil _, hb⟩
theorem pure1 {v1 : View} {u : Value} (hn : Named P f) (h : ∀ w a, ViewRel w v1 a → Calls P f #[a] w fun e w' => e = .returned u ∧ Below w.heap.size w w') : Pure P f [v1] (.c (.val u)) := by
  refine ⟨hn, fun w xs hv => ?_⟩
  obtain ⟨a, rfl, h1⟩ := views1 hv
  exact (h w a h1).mono fun e w' ⟨he, hb⟩ => ⟨u, [], he, ⟨rfl, rfl⟩, Fresh.nil _, hb⟩
theorem pure_agg {v1 : View} {ds : List D} (hn : Named P f) (h : ∀ w a, ViewRel w v1 a → Calls P f #[a] w (RetAgg w ds)) : Pure P f [v1] (.agg ds) := by
  refine ⟨hn, fun w xs hv => ?_⟩
  obtain ⟨a, rfl, h1⟩ := views1 hv
  exact (h w a h1).mono fun e w' h => h
theorem view_val {w : World} {u a : Value} (h : ViewRel w (.c (.val u)) a) : a = u := by obtain ⟨S, h1, _⟩ := h; exact h1
end

def Placed1 (o : Nat → Ob) : A0 → Prop
  | .h g c _ x => (o g = .none ∧ c = 0) ∨ ∃ b ty cs, o g = .box b ty cs ∧ cs[c]? = some (.a (.v x))
  | _ => True
section
variable {B N : Nat} {w w' w0 : World} {s : St} {a : Act} {F : Nat → List Nat} {P : Program} {f : FuncId}
theorem CRel.back {η : Heads} {d : D} {u : Value} {S1 : List Nat} (hs : d.isSl = true) (hr : Rep w true d u S1) (hη : ∀ p, η p = hdr w p d u) : ∀ {cs : List Cell} {us : List Value} {S : List Nat} {c : Nat}, CRel B w cs us S → (S ++ S1).Nodup → cs[c]? = some (.a (.v u)) →
    ∃ S', CRel B w (cs.set c (.own d η)) us S' ∧ S'.Nodup ∧ ∀ b, b ∈ S' ↔ b ∈ S ∨ b ∈ S1
  | [], _, _, _, _, _, h => by simp at h
  | .a x :: cs, us, S, 0, ⟨u', us', h1, h2, h3⟩, hnd, h => by
    simp at h; subst h
    subst h1
    have h2 : u' = u := h2
    subst h2
    exact ⟨S1 ++ S, ⟨u', us', S1, S, rfl, rfl, hs, hr, hη, h3⟩, (List.perm_append_comm.nodup_iff).1 hnd, fun b => by simp [or_comm]⟩
  | .a x :: cs, us, S, c + 1, ⟨u', us', h1, h2, h3⟩, hnd, h => by
    obtain ⟨S', k1, k2, k3⟩ := CRel.back hs hr hη h3 hnd (by simpa using h)
    exact ⟨S', ⟨u', us', h1, h2, k1⟩, k2, k3⟩
  | .own d0 η0 :: cs, us, S, 0, hr0, hnd, h => by simp at h
  | .own d0 η0 :: cs, us, S, c + 1, ⟨u', us', T1, T2, h1, h2, h3, h4, h5, h6⟩, hnd, h => by
    subst h2
    rw [List.append_assoc] at hnd
    have hn := List.nodup_append.1 hnd
    obtain ⟨S', k1, k2, k3⟩ := CRel.back hs hr hη h6 hn.2.1 (by simpa using h)
    refine ⟨T1 ++ S', ⟨u', us', T1, S', h1, rfl, h3, h4, h5, k1⟩, List.nodup_append.2 ⟨hn.1, k2, fun x hx y hy e => hn.2.2 x hx y (by rw [List.mem_append]; exact (k3 y).1 hy) e⟩, fun b => ?_⟩
    rw [List.mem_append, List.mem_append, k3]
    constructor
    · rintro (h | h | h) <;> simp [h]
    · rintro ((h | h) | h) <;> simp [h]
/-- Each place once. -/
def Apart : List A0 → Prop
  | [] => True
  | .h g c _ _ :: l => (∀ a ∈ l, ∀ g' c' p x, a = .h g' c' p x → (g', c') ≠ (g, c)) ∧ Apart l
  | _ :: l => Apart l
def NoPath : List A0 → Prop
  | [] => True
  | .h _ _ p _ :: l => p = [] ∧ NoPath l
  | _ :: l => NoPath l
theorem NoPath.all {l : List A0} (h : NoPath l) : ∀ a ∈ l, ∀ g c p x, a = .h g c p x → p = [] := by
  induction l with
  | nil => intro a ha; cases ha
  | cons y l ih =>
    intro a ha g c p x e
    rcases List.mem_cons.1 ha with ha | ha
    · subst ha; subst e; exact h.1
    · have h' : NoPath l := by cases y <;> first | exact h | exact h.2
      exact ih h' a ha g c p x e
end
def NoLoc (g c : Nat) : List A0 → Prop
  | [] => True
  | .h g' c' _ _ :: l => ¬ (g' = g ∧ c' = c) ∧ NoLoc g c l
  | _ :: l => NoLoc g c l
def ApartN : List A0 → Prop
  | [] => True
  | .h g c _ _ :: l => NoLoc g c l ∧ ApartN l
  | _ :: l => ApartN l
theorem NoLoc.all {g c : Nat} {l : List A0} (h : NoLoc g c l) : ∀ a ∈ l, ∀ g' c' p x, a = .h g' c' p x → (g', c') ≠ (g, c) := by
  induction l with
  | nil => intro a ha; cases ha
  | cons y l ih =>
    intro a ha g' c' p x e
    rcases List.mem_cons.1 ha with ha | ha
    · subst ha; subst e
      intro e2
      simp only [Prod.mk.injEq] at e2
      exact h.1 e2
    · have h' : NoLoc g c l := by cases y <;> first | exact h | exact h.2
      exact ih h' a ha g' c' p x e
theorem ApartN.apart : ∀ {l : List A0}, ApartN l → Apart l
  | [], _ => trivial
  | .h _ _ _ _ :: _, h => ⟨h.1.all, ApartN.apart h.2⟩
  | .v _ :: l, h => ApartN.apart (l := l) h
  | .ro _ :: l, h => ApartN.apart (l := l) h
  | .rp _ :: l, h => ApartN.apart (l := l) h
  | .bp _ _ _ :: l, h => ApartN.apart (l := l) h
  | .ep _ _ _ _ _ :: l, h => ApartN.apart (l := l) h
  | .un :: l, h => ApartN.apart (l := l) h
  | .hs _ _ _ _ _ _ _ :: l, h => ApartN.apart (l := l) h
attribute [go_sem] and_false false_and
end Go.Proofs.YtmnpailnelmpiaaGreat
