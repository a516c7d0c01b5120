/- Texts for laws: Open. -/
import Derived.Test.YtmnpailnelmpiaaGreatQTy
import Derived.ProofKit
import Derived.Deep.Slices
import Derived.ChangeSame
namespace Go.Proofs.YtmnpailnelmpiaaGreat
open Go.RowKit Go.ChangeShapes Go.WideShapes Go.Deep Go.ChangeAt

def inR (n : Int) : Prop := -9223372036854775808 ≤ n ∧ n ≤ 9223372036854775807
def Pl.wf (p : Pl) : Prop := inR p.prio ∧ inR p.most ∧ inR p.wait ∧ inR p.tasks ∧ ∀ e ∈ p.edges, inR e.src ∧ inR e.dst
def En.wf (e : En) : Prop := inR e.prio ∧ inR e.seq ∧ inR e.run ∧ inR e.task
def Tk.wf (e : Tk) : Prop := inR e.state ∧ inR e.need ∧ inR e.tri ∧ inR e.til
def Rn.wf (r : Rn) : Prop := inR r.id ∧ r.plan.wf ∧ inR r.state ∧ ∀ t ∈ r.tasks, t.wf
def Yd.wf (y : Yd) : Prop := inR y.now ∧ inR y.seq ∧ (∀ l ∈ y.shelf, ∀ e ∈ l, e.wf) ∧ ∀ r ∈ y.runs, r.wf
/-- Whatever lies at type t reads as one of α. -/
def ReadsAs (P : Program) (t : TypeId) {α : Type} (E : α → List D) (W : α → Prop) : Prop :=
  ∀ (H : Type) (enc : TypeId × Value → H) (w : World) (base : Nat) (spare : Nat → Bool) (held : Bool) (n : Nat) (cs : List Value) (y : DataW H × List MemPlace),
    DataW.trod enc P w base spare held n t cs = some y → ∃ x, W x ∧ ∃ S, RepL w false (E x) cs S
def SeqAs (H : Type) (enc : TypeId × Value → H) (P : Program) (w : World) (base : Nat) (spare : Nat → Bool) (held : Bool) (n : Nat) : List Field → List Value → Prop
  | [], cs => cs = []
  | f :: l, cs => (∃ y, DataW.trod enc P w base spare held n f.type (cs.take (P.cellsOf f.type)) = some y) ∧ SeqAs H enc P w base spare held n l (cs.drop (P.cellsOf f.type))
def FieldsAs (P : Program) (l : List Field) {α : Type} (E : α → List D) (W : α → Prop) : Prop :=
  ∀ (H : Type) (enc : TypeId × Value → H) (w : World) (base : Nat) (spare : Nat → Bool) (held : Bool) (n : Nat) (cs : List Value), SeqAs H enc P w base spare held n l cs → ∃ x, W x ∧ ∃ S, RepL w false (E x) cs S
def seqOk (P : Program) : List Field → Nat → Nat → Bool
  | [], off, tot => off == tot
  | f :: l, off, tot => f.offset == off && seqOk P l (off + P.cellsOf f.type) tot

section
variable {P : Program} {t e : TypeId} {α β : Type} {E : α → List D} {E' : β → List D} {W : α → Prop} {W' : β → Prop}
theorem ReadsAs.map (h : ReadsAs P t E W) (g : α → β) (hE : ∀ a, E' (g a) = E a) (hW : ∀ a, W a → W' (g a)) : ReadsAs P t E' W' := by
  intro H enc w base spare held n cs y hy
  obtain ⟨x, hx, S, hr⟩ := h H enc w base spare held n cs y hy
  exact ⟨g x, hW x hx, S, by rw [hE]; exact hr⟩
theorem ra_int (ht : P.underlying t = some (.int .i64)) : ReadsAs P t (fun n => [iv n]) inR := by
  intro H enc w base spare held n cs y hy
  obtain ⟨i, rfl, _, hw⟩ := DataW.trod_int ht hy
  refine ⟨i, ?_, [], RepL.val_ RepL.nil_⟩
  simpa [Lit.wf, IntKind.min, IntKind.max, IntKind.signed, IntKind.bits, inR] using hw
theorem fa_nil : FieldsAs P [] (fun _ : Unit => []) (fun _ => True) := by
  intro H enc w base spare held n cs h
  cases cs with
  | nil => exact ⟨(), trivial, [], RepL.nil_⟩
  | cons c cs => exact absurd h (by simp [SeqAs])
theorem fa_cons {f : Field} {l : List Field} (h : ReadsAs P f.type E W) (k : FieldsAs P l E' W') : FieldsAs P (f :: l) (fun p : α × β => E p.1 ++ E' p.2) (fun p => W p.1 ∧ W' p.2) := by
  intro H enc w base spare held n cs hs
  obtain ⟨⟨y, hy⟩, hs⟩ := hs
  obtain ⟨x, hx, S, hr⟩ := h H enc w base spare held n _ y hy
  obtain ⟨x', hx', S', hr'⟩ := k H enc w base spare held n _ hs
  refine ⟨(x, x'), ⟨hx, hx'⟩, S ++ S', ?_⟩
  have := RepL.append_ _ hr hr'
  rwa [List.take_append_drop] at this
theorem seq_of {H : Type} {enc : TypeId × Value → H} {w : World} {base : Nat} {spare : Nat → Bool} {held : Bool} {n : Nat} : ∀ (l : List Field) (off tot : Nat) (cs : List Value), seqOk P l off tot = true → cs.length = tot →
    (∀ f ∈ l, ∃ y, DataW.trod enc P w base spare held n f.type ((cs.drop f.offset).take (P.cellsOf f.type)) = some y) → SeqAs H enc P w base spare held n l (cs.drop off)
  | [], off, tot, cs, h, hl, _ => by
    simp [seqOk] at h
    exact List.drop_eq_nil_of_le (by omega)
  | f :: l, off, tot, cs, h, hl, hf => by
    simp only [seqOk, Bool.and_eq_true, beq_iff_eq] at h
    obtain ⟨y, hy⟩ := hf f (by simp)
    rw [h.1] at hy
    refine ⟨⟨y, hy⟩, ?_⟩
    rw [List.drop_drop]
    exact seq_of l _ tot cs h.2 hl fun g hg => hf g (by simp [hg])
theorem ra_struct {fs : Array Field} (ht : P.underlying t = some (.struct fs)) (hs : seqOk P fs.toList 0 (P.cellsOf t) = true) (h : FieldsAs P fs.toList E W) : ReadsAs P t E W := by
  intro H enc w base spare held n cs y hy
  obtain ⟨xs, m, _, _, hlen, hxl, hf⟩ := DataW.trod_struct ht hy
  have := seq_of (H := H) (enc := enc) (w := w) (base := base) (spare := spare) (held := held) (n := m) fs.toList 0 _ cs hs hlen (fun f hf' => by
    obtain ⟨i, hi, rfl⟩ := List.getElem_of_mem hf'
    have hi' : i < fs.size := by simpa using hi
    refine ⟨xs[i]'(by omega), ?_⟩
    have h1 := hf i fs[i] (Array.getElem?_eq_getElem hi')
    rw [List.getElem?_eq_getElem (by omega)] at h1
    simpa using h1)
  rw [List.drop_zero] at this
  exact h H enc w base spare held m cs this
theorem cell_spot {w : World} {a : Addr} {v : Value} (h : w.cell? a = some v) : a = ⟨a.block, a.off, none⟩ := by
  obtain ⟨b, o, s⟩ := a
  cases s with
  | none => rfl
  | some s => simp only [World.cell?] at h; split at h <;> simp at h
theorem ra_slice {size : Nat} {ty : TypeId} (ht : P.underlying t = some (.slice e)) (h : ReadsAs P e E W) (hc : P.cellsOf e = size) (hl : ∀ x, (E x).length = size) (_hs : 0 < size) :
    ReadsAs P t (fun xs : List α => [.sl size ty (xs.flatMap E)]) (fun xs => ∀ x ∈ xs, W x) := by
  intro H enc w base spare held n cs y hy
  rcases open_slice ht hy with ⟨rfl, _⟩ | ⟨a, len, cap, m, n', D', Pl, rfl, hb, hlc, hcm, hm, _, hi⟩
  · have hrep : Rep w false (.sl size ty (List.flatMap E [])) (.slice none 0 0) [] := ⟨[], [], [], ⟨by simp, none, 0, 0, rfl, by simp, Nat.le_refl _, Nat.zero_le _, fun _ => rfl, by simp⟩, RepL.nil_, rfl⟩
    exact ⟨[], by simp, [], RepL.cons_ hrep RepL.nil_⟩
  · have hlm : len ≤ m := by rw [hm]; split <;> omega
    have key : ∀ k, k ≤ len → ∃ (xs : List α) (vs : List Value) (S : List Nat), xs.length = k ∧ (∀ x ∈ xs, W x) ∧ RepL w false (xs.flatMap E) vs S ∧ ∀ j u, vs[j]? = some u → w.cell? (a.add j) = some u := by
      intro k
      induction k with
      | zero => exact fun _ => ⟨[], [], [], rfl, by simp, RepL.nil_, by simp⟩
      | succ k ih =>
        intro hk
        obtain ⟨xs, vs, S, hxl, hW, hr, hcell⟩ := ih (by omega)
        obtain ⟨cs', hcs, htr⟩ := hi k (by omega)
        obtain ⟨x, hx, S', hr'⟩ := h H enc w base spare held n' cs' _ htr
        obtain ⟨_, hcl, hat⟩ := World.cells?_some hcs
        rw [hc] at hat hcl
        have hvl : vs.length = k * size := by rw [RepL.length _ hr, len_flat hl, hxl]
        refine ⟨xs ++ [x], vs ++ cs', S ++ S', by simp [hxl], ?_, ?_, ?_⟩
        · intro z hz
          rcases List.mem_append.1 hz with hz | hz
          · exact hW z hz
          · simp at hz; subst hz; exact hx
        · rw [List.flatMap_append]
          exact RepL.append_ _ hr (by simpa using hr')
        · intro j u hu
          by_cases hj : j < vs.length
          · rw [List.getElem?_append_left hj] at hu
            exact hcell j u hu
          · rw [List.getElem?_append_right (by omega)] at hu
            have hjl : j - vs.length < cs'.length := (List.getElem?_eq_some_iff.1 hu).1
            have h2 := hat (j - vs.length) (by omega)
            rw [hu, add_add, show k * size + (j - vs.length) = j by omega] at h2
            exact h2
    obtain ⟨xs, vs, S, hxl, hW, hr, hcell⟩ := key len (Nat.le_refl _)
    have hvl : vs.length = len * size := by rw [RepL.length _ hr, len_flat hl, hxl]
    refine ⟨xs, hW, ?_⟩
    by_cases hne : vs = []
    · subst hne
      refine ⟨S, ?_⟩
      have hrep : Rep w false (.sl size ty (xs.flatMap E)) (.slice (some a) len cap) S := ⟨[], [], S, ⟨by simp, some a, len, cap, rfl, hvl, hlc, hcm, (fun e => nomatch e), by simp⟩, hr, rfl⟩
      have := RepL.cons_ hrep (RepL.nil_ (w := w) (own := false))
      simpa using this
    · obtain ⟨u, us, rfl⟩ := List.exists_cons_of_ne_nil hne
      have h0 := hcell 0 u rfl
      have ha : a.add 0 = a := by simp [Addr.add]
      rw [ha] at h0
      have hsp := cell_spot h0
      have hlt := World.block_lt_of_cell? w _ h0
      refine ⟨[a.block] ++ S, ?_⟩
      have hrep : Rep w false (.sl size ty (xs.flatMap E)) (.slice (some a) len cap) ([a.block] ++ S) := by
        refine ⟨u :: us, [a.block], S, ⟨by simpa using hlt, some a, len, cap, rfl, hvl, hlc, hcm, (fun e => nomatch e), fun _ => ⟨a.block, a.off, by rw [← hsp], rfl, fun j v hv => ?_⟩⟩, hr, rfl⟩
        have := hcell j v hv
        rw [hsp] at this
        rwa [Addr.add_mid] at this
      have := RepL.cons_ hrep (RepL.nil_ (w := w) (own := false))
      simpa using this
end

theorem rInt : ReadsAs Tryz.prog 3 (fun n => [iv n]) inR := ra_int (by kernel_rfl)
theorem rEdge : ReadsAs Tryz.prog 289 encEd (fun e => inR e.src ∧ inR e.dst) :=
  (ra_struct Tryz.underlying289 (by kernel_rfl) (fa_cons rInt (fa_cons rInt fa_nil))).map (fun p => ⟨p.1, p.2.1⟩) (fun _ => rfl) (fun _ h => ⟨h.1, h.2.1⟩)
theorem rEdgeS : ReadsAs Tryz.prog 57 (fun l => [encEds l]) (fun l => ∀ e ∈ l, inR e.src ∧ inR e.dst) :=
  ra_slice (size := 2) (ty := tEd) Tryz.underlying57 rEdge (by kernel_rfl) (fun _ => rfl) (by decide)
theorem rPlan : ReadsAs Tryz.prog 59 encPl Pl.wf :=
  (ra_struct Tryz.underlying59 (by kernel_rfl) (fa_cons rInt (fa_cons rInt (fa_cons rInt (fa_cons rInt (fa_cons rEdgeS fa_nil)))))).map (fun p => ⟨p.1, p.2.1, p.2.2.1, p.2.2.2.1, p.2.2.2.2.1⟩) (fun _ => rfl) (fun _ h => ⟨h.1, h.2.1, h.2.2.1, h.2.2.2.1, h.2.2.2.2.1⟩)
theorem rEntry : ReadsAs Tryz.prog 286 encEn En.wf :=
  (ra_struct Tryz.underlying286 (by kernel_rfl) (fa_cons rInt (fa_cons rInt (fa_cons rInt (fa_cons rInt fa_nil))))).map (fun p => ⟨p.1, p.2.1, p.2.2.1, p.2.2.2.1⟩) (fun _ => rfl) (fun _ h => ⟨h.1, h.2.1, h.2.2.1, h.2.2.2.1⟩)
theorem rEntryS : ReadsAs Tryz.prog 212 (fun l => [encEns l]) (fun l => ∀ e ∈ l, En.wf e) :=
  ra_slice (size := 4) (ty := tEn) Tryz.underlying212 rEntry (by kernel_rfl) (fun _ => rfl) (by decide)
theorem rEntrySS : ReadsAs Tryz.prog 22 (fun l => [encSh l]) (fun l => ∀ es ∈ l, ∀ e ∈ es, En.wf e) :=
  ra_slice (size := 1) (ty := tEnS) Tryz.underlying22 rEntryS (by kernel_rfl) (fun _ => rfl) (by decide)
theorem rTask : ReadsAs Tryz.prog 297 encTk Tk.wf :=
  (ra_struct Tryz.underlying297 (by kernel_rfl) (fa_cons rInt (fa_cons rInt (fa_cons rInt (fa_cons rInt fa_nil))))).map (fun p => ⟨p.1, p.2.1, p.2.2.1, p.2.2.2.1⟩) (fun _ => rfl) (fun _ h => ⟨h.1, h.2.1, h.2.2.1, h.2.2.2.1⟩)
theorem rTaskS : ReadsAs Tryz.prog 214 (fun l => [encTks l]) (fun l => ∀ e ∈ l, Tk.wf e) :=
  ra_slice (size := 4) (ty := tTk) Tryz.underlying214 rTask (by kernel_rfl) (fun _ => rfl) (by decide)
theorem rRun : ReadsAs Tryz.prog 216 encRn Rn.wf :=
  (ra_struct Tryz.underlying216 (by kernel_rfl) (fa_cons rInt (fa_cons rPlan (fa_cons rInt (fa_cons rTaskS fa_nil))))).map (fun p => ⟨p.1, p.2.1, p.2.2.1, p.2.2.2.1⟩) (fun _ => rfl) (fun _ h => ⟨h.1, h.2.1, h.2.2.1, h.2.2.2.1⟩)
theorem rRunS : ReadsAs Tryz.prog 23 (fun l => [encRns l]) (fun l => ∀ e ∈ l, Rn.wf e) :=
  ra_slice (size := 8) (ty := tRn) Tryz.underlying23 rRun (by kernel_rfl) encRn_len (by decide)
theorem rYard : ReadsAs Tryz.prog 25 encYd Yd.wf :=
  (ra_struct Tryz.underlying25 (by kernel_rfl) (fa_cons rInt (fa_cons rInt (fa_cons rEntrySS (fa_cons rRunS fa_nil))))).map (fun p => ⟨p.1, p.2.1, p.2.2.1, p.2.2.2.1⟩) (fun _ => rfl) (fun _ h => ⟨h.1, h.2.1, h.2.2.1, h.2.2.2.1⟩)
end Go.Proofs.YtmnpailnelmpiaaGreat
