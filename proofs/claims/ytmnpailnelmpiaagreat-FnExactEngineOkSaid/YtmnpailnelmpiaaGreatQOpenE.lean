/- Texts for laws: OpenE. -/
import Derived.Test.YtmnpailnelmpiaaGreatQDat
import Derived.Test.YtmnpailnelmpiaaGreatQDatZ
import Derived.Test.YtmnpailnelmpiaaGreatQOpen
import Derived.ChangeArms
namespace Go.Proofs.YtmnpailnelmpiaaGreat
open Go.RowKit Go.ChangeShapes Go.WideShapes Go.Deep Go.ChangeAt
theorem ra_str {P : Program} {t : TypeId} (ht : P.underlying t = some .string) : ReadsAs P t (fun s => [sv s]) (fun s => s.size ≤ 9223372036854775807) := by
  intro H enc w base spare held n cs y hy
  obtain ⟨s, rfl, _, hw⟩ := DataW.trod_string ht hy
  exact ⟨s, by unfold maxLen at hw; omega, [], RepL.val_ RepL.nil_⟩
theorem ra_bool {P : Program} {t : TypeId} (ht : P.underlying t = some .bool) : ReadsAs P t (fun b => [D.val (.bool b)]) (fun _ => True) := by
  intro H enc w base spare held n cs y hy
  obtain ⟨s, rfl, _⟩ := DataW.trod_bool ht hy
  exact ⟨s, trivial, [], RepL.val_ RepL.nil_⟩
theorem ra_len {P : Program} {t : TypeId} {α : Type} {E : α → List D} {size : Nat} {ty : TypeId} {W : List α → Prop} (h : ReadsAs P t (fun xs : List α => [.sl size ty (xs.flatMap E)]) W) (hl : ∀ x, (E x).length = size) (hs : 0 < size) :
    ReadsAs P t (fun xs : List α => [.sl size ty (xs.flatMap E)]) (fun xs => W xs ∧ xs.length ≤ 9223372036854775807) := by
  intro H enc w base spare held n cs y hy
  obtain ⟨xs, hx, S, hr⟩ := h H enc w base spare held n cs y hy
  obtain ⟨v, vs', S1, S2, hv, hS, h1, h2⟩ := id hr
  obtain ⟨A, c, rfl, h3, h4, _⟩ := Rep.open_ hl hs h1
  exact ⟨xs, ⟨hx, by unfold maxLen at h4; omega⟩, _, hr⟩
theorem rString : ReadsAs Tryz.prog 9 (fun s => [sv s]) (fun s => s.size ≤ 9223372036854775807) := ra_str (by kernel_rfl)
theorem rBool : ReadsAs Tryz.prog 4 (fun b => [D.val (.bool b)]) (fun _ => True) := ra_bool (by kernel_rfl)
theorem rFile : ReadsAs Tryz.prog 264 encFl szOk :=
  (ra_struct Tryz.underlying264 (by kernel_rfl) (fa_cons rString (fa_cons rString (fa_cons rInt fa_nil)))).map (fun p => ⟨p.1, p.2.1, p.2.2.1⟩) (fun _ => rfl) (fun _ h => ⟨h.1, h.2.1⟩)
theorem rFileS : ReadsAs Tryz.prog 26 (fun l => [encFls l]) (fun l => (∀ e ∈ l, szOk e) ∧ l.length ≤ 9223372036854775807) :=
  ra_len (ra_slice (size := 3) (ty := tFl) Tryz.underlying26 rFile (by kernel_rfl) (fun _ => rfl) (by decide)) (fun _ => rfl) (by decide)
theorem rDisk : ReadsAs Tryz.prog 28 (fun l => [encFls l]) (fun l => (∀ e ∈ l, szOk e) ∧ l.length ≤ 9223372036854775807) :=
  (ra_struct Tryz.underlying28 (by kernel_rfl) (fa_cons rFileS fa_nil)).map (fun p => p.1) (fun _ => rfl) (fun _ h => h.1)
theorem rReply : ReadsAs Tryz.prog 188 (fun q : Int × Int × Int × Int => [iv q.1, iv q.2.1, iv q.2.2.1, iv q.2.2.2]) (fun _ => True) :=
  (ra_struct Tryz.underlying188 (by kernel_rfl) (fa_cons rInt (fa_cons rInt (fa_cons rInt (fa_cons rInt fa_nil))))).map (fun p => (p.1, p.2.1, p.2.2.1, p.2.2.2.1)) (fun _ => rfl) (fun _ h => trivial)
theorem rWait : ReadsAs Tryz.prog 190 encWt (fun _ => True) :=
  (ra_struct Tryz.underlying190 (by kernel_rfl) (fa_cons rInt (fa_cons rReply fa_nil))).map (fun p => ⟨p.1, p.2.1.1, p.2.1.2.1, p.2.1.2.2.1, p.2.1.2.2.2⟩) (fun _ => rfl) (fun _ h => trivial)
theorem rWaitS : ReadsAs Tryz.prog 29 (fun l => [encWts l]) (fun l => (∀ e ∈ l, True) ∧ l.length ≤ 9223372036854775807) :=
  ra_len (ra_slice (size := 5) (ty := tWt) Tryz.underlying29 rWait (by kernel_rfl) (fun _ => rfl) (by decide)) (fun _ => rfl) (by decide)
def egOk (x : Eg) : Prop := (∀ f ∈ x.disk, szOk f) ∧ x.disk.length ≤ 9223372036854775807 ∧ x.waits.length ≤ 9223372036854775807
theorem rEngine : ReadsAs Tryz.prog 31 encEg egOk :=
  (ra_struct Tryz.underlying31 (by kernel_rfl) (fa_cons rYard (fa_cons rDisk (fa_cons rInt (fa_cons rInt (fa_cons rWaitS (fa_cons rInt (fa_cons rBool fa_nil)))))))).map (fun p => ⟨p.1, p.2.1, p.2.2.1, p.2.2.2.1, p.2.2.2.2.1, p.2.2.2.2.2.1, p.2.2.2.2.2.2.1⟩) (fun _ => by simp [encEg, encYd]) (fun _ h => ⟨h.2.1.1, h.2.1.2, h.2.2.2.2.1.2⟩)
end Go.Proofs.YtmnpailnelmpiaaGreat
