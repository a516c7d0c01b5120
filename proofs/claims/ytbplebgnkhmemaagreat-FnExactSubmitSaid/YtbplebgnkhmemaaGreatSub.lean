/- The engine: what is owned is cut out, and put back where its header lies. No program. -/
import Derived.Test.YtbplebgnkhmemaaGreatHole
import Derived.Test.YtbplebgnkhmemaaGreatRunNew
import Derived.Test.YtbplebgnkhmemaaGreatPut
import Derived.Test.YtbplebgnkhmemaaGreatRoom
set_option linter.unusedSimpArgs false
set_option linter.unusedVariables false
namespace Go.Proofs.YtbplebgnkhmemaaGreat
open Go.RowKit Go.Sort
section
variable {P : Program} {β : Nat} {s : St} {K : St → Prop} {Q : Ex → St → Prop}
theorem wp_gk {a : C} (h : WkK s (wpC P β a Q)) : wpC P β (.gh a) Q s := h
theorem WkK.of {K : St → Prop} (h : K s) : WkK s K := fun _ _ _ _ _ F hr => ⟨s, F, hr, h⟩
theorem WkK.wk {s' : St} (h : Wk s s') (hk : WkK s' K) : WkK s K := fun B N w0 w a F hr => let ⟨F', h1, _⟩ := h B N w0 w a F hr; hk B N w0 w a F' h1
theorem WkK.thn {K' : St → Prop} (h : WkK s K') (hk : ∀ s', K' s' → WkK s' K) : WkK s K := fun B N w0 w a F hr => let ⟨s', F', h1, h2⟩ := h B N w0 w a F hr; hk s' h2 B N w0 w a F' h1
theorem slice_one {u : Value} (h : ∃ A n c, u = .slice A n c) : u.oneCell' = true := by obtain ⟨_, _, _, rfl⟩ := h; rfl
theorem isSl_form {w : World} {own : Bool} {d : D} {u : Value} {S : List Nat} (hd : d.isSl = true) (h : Rep w own d u S) : ∃ A n c, u = .slice A n c := by
  cases d with
  | val _ => cases hd
  | sl _ _ _ => exact rep_form h
/-- An own slice becomes an object of its own; its header stays. -/
theorem wk_cut0 (g c g2 : Nat) {d : D} {η : Heads} (ho : (s.o g).own c = some (d, η)) (h2 : s.o g2 = .none) (hne : g2 ≠ g) (hk : (η []).oneCell' = true → WkK ((s.rm g c).setO g2 (.loose d η)) K) : WkK s K := by
  intro B N w0 w a F h
  obtain ⟨u, S, F', j1, j2, j3, j4, j5, j6, j7, j8⟩ := h.rm ho
  have e : η [] = u := by rw [j3, hdr_nil j1]
  exact hk (e ▸ slice_one (isSl_form j1 j2)) _ _ _ _ _ _ (j5.setO (g := g2) (ob := .loose d η) (S := S) ⟨j1, u, j2, j3⟩ j4 (fun g' _ b hb => j6 g' b hb))
theorem cRel_put {B : Nat} {w : World} {d : D} {η : Heads} {u : Value} {S2 : List Nat} (hd : d.isSl = true) (hr : Rep w true d u S2) (hh : ∀ p, η p = hdr w p d u) : ∀ {c : Nat} {l : List Cell} {us : List Value} {S : List Nat}, CRel B w l us S → l[c]? = some (.a (.v u)) →
    ∃ S', CRel B w (l.set c (.own d η)) us S' ∧ S'.Perm (S ++ S2)
  | _, [], _, _, _, h => by simp at h
  | 0, .a x :: l, _, S, ⟨v, us', rfl, h1, h2⟩, h => by
    simp at h; subst h
    have : v = u := h1
    subst this
    exact ⟨S2 ++ S, ⟨v, us', S2, S, rfl, rfl, hd, hr, hh, h2⟩, List.perm_append_comm⟩
  | 0, .own e ε :: l, _, _, _, h => by simp at h
  | c + 1, .a x :: l, _, S, ⟨v, us', rfl, h1, h2⟩, h => by
    simp at h
    obtain ⟨S', a1, a2⟩ := cRel_put hd hr hh h2 h
    exact ⟨S', ⟨v, us', rfl, h1, a1⟩, a2⟩
  | c + 1, .own e ε :: l, _, _, ⟨v, us', T1, T2, rfl, rfl, h1, h2, h3, h4⟩, h => by
    simp at h
    obtain ⟨S', a1, a2⟩ := cRel_put hd hr hh h4 h
    exact ⟨T1 ++ S', ⟨v, us', T1, S', rfl, rfl, h1, h2, h3, a1⟩, by rw [List.append_assoc]; exact List.Perm.append_left _ a2⟩
/-- A loose slice goes into a box, where its header lies. -/
theorem wk_graft0 (g c g2 : Nat) {b ty : Nat} {cs : List Cell} {d : D} {η : Heads} (hb : s.o g = .box b ty cs) (hc : cs[c]? = some (.a (.v (η [])))) (h2 : s.o g2 = .loose d η) (hk : WkK ((s.setO g2 .none).setO g (.box b ty (cs.set c (.own d η)))) K) : WkK s K := by
  intro B N w0 w a F h
  have hne : g2 ≠ g := fun e => by rw [e, hb] at h2; cases h2
  have h3 := h.ob g2
  rw [h2] at h3
  obtain ⟨k1, u, k2, k3⟩ := h3
  have e : η [] = u := by rw [k3, hdr_nil k1]
  rw [e] at hc
  have h4 := h.ob g
  rw [hb] at h4
  obtain ⟨us, S1, q1, q2, q3⟩ := h4
  obtain ⟨S', q4, q5⟩ := cRel_put k1 k2 k3 q2 hc
  have t1 := h.setO (g := g2) (ob := .none) (S := []) rfl (Fresh.nil _) (by simp)
  have hp : (b :: S').Perm (F g ++ F g2) := by rw [q3]; exact q5.cons b
  have hnd : (F g ++ F g2).Nodup := List.nodup_append.2 ⟨(h.fr g).1, (h.fr g2).1, fun x hx y hy e => h.dj g g2 (fun e => hne e.symm) x hx (e ▸ hy)⟩
  refine hk _ _ _ _ _ _ (t1.setO (g := g) (ob := .box b ty (cs.set c (.own d η))) (S := b :: S') ⟨us, S', q1, q4, rfl⟩ ⟨hp.nodup_iff.2 hnd, fun x hx => ?_⟩ (fun g' hg' x hx => ?_))
  · rcases List.mem_append.1 (hp.mem_iff.1 hx) with hx | hx
    · exact (h.fr g).2 x hx
    · exact (h.fr g2).2 x hx
  · split
    · simp
    · rename_i hg2
      intro hh
      rcases List.mem_append.1 (hp.mem_iff.1 hx) with hx | hx
      · exact h.dj g' g hg' x hh hx
      · exact h.dj g' g2 hg2 x hh hx
/-- The k-th cell of a slice, when it holds a slice: a new datum that stands for the same. -/
theorem cutN_rel {B : Nat} {w : World} {ob : Ob} {S : List Nat} {c k sz tyo : Nat} {ds0 : List D} {e : D} {η : Heads} (h : ORel B w ob S) (ho : ob.own c = some (.sl sz tyo ds0, η)) (hk : ds0[k]? = some e) :
    ∃ v Sk, Rep w true e v Sk ∧ (e.isSl = true → η [k] = v) ∧ (∀ x, e = .val x → v = x) ∧ (∀ b ∈ Sk, b ∈ S) ∧ (S.Nodup → Sk.Nodup) ∧ ∀ e' Sk', Rep w true e' v Sk' → ∃ η' S', ORel B w (ob.putOwn c (.sl sz tyo (ds0.set k e')) η') S' ∧ η' [] = η [] ∧ ∃ R, S.Perm (R ++ Sk) ∧ S'.Perm (R ++ Sk') := by
  obtain ⟨u, SA, Sd, SC, e1, a1, a2, a3, a4⟩ := oRel_split h ho
  obtain ⟨vs, T, S', hrow, hrl, rfl⟩ := a2
  obtain ⟨v, SA', Sk, SC', b1, rfl, b3, b4⟩ := repL_split hrl hk
  have hperm : ∀ X : List Nat, (SA ++ (T ++ (SA' ++ X ++ SC')) ++ SC).Perm ((SA ++ (T ++ (SA' ++ [] ++ SC')) ++ SC) ++ X) := fun X => by
    have e1 : SA ++ (T ++ (SA' ++ X ++ SC')) ++ SC = (SA ++ (T ++ SA')) ++ (X ++ (SC' ++ SC)) := by simp
    have e2 : (SA ++ (T ++ (SA' ++ [] ++ SC')) ++ SC) ++ X = (SA ++ (T ++ SA')) ++ ((SC' ++ SC) ++ X) := by simp
    rw [e1, e2]
    exact List.Perm.append_left _ List.perm_append_comm
  refine ⟨v, Sk, b3, fun hs => ?_, fun x hx => ?_, fun b hb => by rw [e1]; simp [hb], fun hnd => ?_, fun e' Sk' hr => ?_⟩
  · rw [a3]
    rcases own_cells hrow with ⟨_, rfl⟩ | ⟨gg, nn, cc, rfl, _, _, hcell, _⟩
    · simp at b1
    · simp only [hdr, hk, Nat.zero_add, hcell k v b1, Option.getD_some]
      exact hdr_nil hs
  · subst hx; exact b3.1
  · rw [e1] at hnd
    exact (List.nodup_append.1 ((hperm Sk).nodup_iff.1 hnd)).2.1
  · have hrep : Rep w true (.sl sz tyo (ds0.set k e')) u (T ++ (SA' ++ Sk' ++ SC')) := ⟨vs, T, _, hrow, b4 _ _ hr, rfl⟩
    refine ⟨fun p => hdr w p (.sl sz tyo (ds0.set k e')) u, _, a4 _ _ _ rfl hrep (fun _ => rfl), by rw [a3]; rfl, _, by rw [e1]; exact hperm Sk, hperm Sk'⟩
/-- The slice in the k-th cell of an own slice becomes an object of its own; its header stays. -/
theorem wk_cutN (g c k g2 : Nat) {sz tyo size ty : Nat} {ds0 cs : List D} {η : Heads} (ho : (s.o g).own c = some (.sl sz tyo ds0, η)) (hk : ds0[k]? = some (.sl size ty cs)) (h2 : s.o g2 = .none) (hne : g2 ≠ g)
    (hK : ∀ η2 η', η' [] = η [] → η2 [] = η [k] → (η [k]).oneCell' = true → WkK ((s.setO g ((s.o g).putOwn c (.sl sz tyo (ds0.set k (.val (η [k])))) η')).setO g2 (.loose (.sl size ty cs) η2)) K) : WkK s K := by
  intro B N w0 w a F h
  obtain ⟨v, Sk, a1, a2, _, a4, a5, a6⟩ := cutN_rel (h.ob g) ho hk
  have hv := a2 rfl
  obtain ⟨η', S', b1, b2, R, b3, b4⟩ := a6 (.val v) [] ⟨rfl, rfl⟩
  rw [List.append_nil] at b4
  have hnd := b3.nodup_iff.1 (h.fr g).1
  have hsub : ∀ b ∈ S', b ∈ F g := fun b hb => b3.mem_iff.2 (List.mem_append.2 (.inl (b4.mem_iff.1 hb)))
  have t1 := h.setO (g := g) b1 ⟨b4.nodup_iff.2 (List.nodup_append.1 hnd).1, fun b hb => (h.fr g).2 b (hsub b hb)⟩ (fun g' hg' b hb hh => h.dj g' g hg' b hh (hsub b hb))
  have t2 := t1.setO (g := g2) (ob := .loose (.sl size ty cs) (fun p => hdr w p (.sl size ty cs) v)) (S := Sk) ⟨rfl, v, a1, fun _ => rfl⟩ ⟨(List.nodup_append.1 hnd).2.1, fun b hb => (h.fr g).2 b (a4 b hb)⟩ (fun g' _ b hb => by
    split
    · exact fun hh => (List.nodup_append.1 hnd).2.2 b (b4.mem_iff.1 hh) b hb rfl
    · rename_i hgg
      exact fun hh => h.dj g' g hgg b hh (a4 b hb))
  have := hK (fun p => hdr w p (.sl size ty cs) v) η' b2 (by rw [hv]; rfl) (by rw [hv]; exact slice_one (rep_form a1))
  rw [hv] at this
  exact this _ _ _ _ _ _ t2
/-- A loose slice goes into a cell of an own slice, where its header lies. -/
theorem wk_graftN (g c k g2 : Nat) {sz tyo size ty : Nat} {ds0 cs : List D} {e : D} {η η2 : Heads} (ho : (s.o g).own c = some (.sl sz tyo ds0, η)) (hk : ds0[k]? = some e) (he : e = .val (η2 []) ∨ e = nilD (some (size, ty)) (η2 [])) (h2 : s.o g2 = .loose (.sl size ty cs) η2) (hne : g2 ≠ g)
    (hK : ∀ η', η' [] = η [] → WkK ((s.setO g2 .none).setO g ((s.o g).putOwn c (.sl sz tyo (ds0.set k (.sl size ty cs))) η')) K) : WkK s K := by
  intro B N w0 w a F h
  have h3 := h.ob g2
  rw [h2] at h3
  obtain ⟨_, u, k2, k3⟩ := h3
  have eu : η2 [] = u := by rw [k3]; rfl
  rw [eu] at he
  obtain ⟨v, Sk, a1, a2, a3, a4, a5, a6⟩ := cutN_rel (h.ob g) ho hk
  have hX : ∃ X, Rep w true (.sl size ty cs) v X ∧ (X = F g2 ∨ X = Sk) := by
    by_cases hn : u = .slice none 0 0 ∧ e = nilD (some (size, ty)) u
    · obtain ⟨hu, he'⟩ := hn
      subst hu
      have hcs : cs = [] := by
        obtain ⟨vs, T, S', hrow, hrl, _⟩ := k2
        rcases own_cells hrow with ⟨_, rfl⟩ | ⟨gg, nn, c2, e2, _⟩
        · exact List.eq_nil_of_length_eq_zero (RepL.length _ hrl).symm
        · cases e2
      subst hcs
      subst he'
      exact ⟨Sk, a1, .inr rfl⟩
    · refine ⟨F g2, ?_, .inl rfl⟩
      have hvu : v = u := by
        rcases he with he | he
        · exact a3 u he
        · refine a3 _ ?_
          by_cases hn' : u = .slice none 0 0
          · exact absurd ⟨hn', he⟩ hn
          · rw [he]
            obtain ⟨A, n, cc, rfl⟩ := rep_form k2
            unfold nilD
            split
            · rename_i e1; exact absurd e1 hn'
            · rfl
      exact hvu ▸ k2
  obtain ⟨X, hX1, hX2⟩ := hX
  obtain ⟨η', S', b1, b2, R, b3, b4⟩ := a6 (.sl size ty cs) X hX1
  have t1 := h.setO (g := g2) (ob := .none) (S := []) rfl (Fresh.nil _) (by simp)
  have hnd := b3.nodup_iff.1 (h.fr g).1
  have hR : ∀ b ∈ R, b ∈ F g := fun b hb => b3.mem_iff.2 (List.mem_append.2 (.inl hb))
  have hX3 : ∀ b ∈ X, b ∈ F g ∨ b ∈ F g2 := fun b hb => by
    rcases hX2 with rfl | rfl
    · exact .inr hb
    · exact .inl (a4 b hb)
  have hnd2 : (R ++ X).Nodup := by
    rcases hX2 with rfl | rfl
    · exact List.nodup_append.2 ⟨(List.nodup_append.1 hnd).1, (h.fr g2).1, fun x hx y hy e => h.dj g g2 (fun e => hne e.symm) x (hR x hx) (e ▸ hy)⟩
    · exact hnd
  refine hK η' b2 _ _ _ _ _ _ (t1.setO (g := g) (ob := (s.o g).putOwn c (.sl sz tyo (ds0.set k (.sl size ty cs))) η') b1 ⟨b4.nodup_iff.2 hnd2, fun x hx => ?_⟩ (fun g' hg' x hx => ?_))
  · rcases List.mem_append.1 (b4.mem_iff.1 hx) with hx | hx
    · exact (h.fr g).2 x (hR x hx)
    · rcases hX3 x hx with hx | hx
      · exact (h.fr g).2 x hx
      · exact (h.fr g2).2 x hx
  · split
    · simp
    · rename_i hg2
      intro hh
      rcases List.mem_append.1 (b4.mem_iff.1 hx) with hx | hx
      · exact h.dj g' g hg' x hh (hR x hx)
      · rcases hX3 x hx with hx | hx
        · exact h.dj g' g hg' x hh hx
        · exact h.dj g' g2 hg2 x hh hx
end
end Go.Proofs.YtbplebgnkhmemaaGreat
set_option linter.unusedSimpArgs false
set_option linter.unusedVariables false
set_option maxRecDepth 100000
namespace Go.Proofs.YtbplebgnkhmemaaGreat
open Go.RowKit Go.Sort
/-! ### The shelf of a run -/
theorem xorI_b {a b : Int} (ha : 0 ≤ a ∧ a < 4294967296) (hb : 0 ≤ b ∧ b < 4294967296) : 0 ≤ xorI a b ∧ xorI a b < 4294967296 := by
  obtain ⟨a, rfl⟩ := Int.eq_ofNat_of_zero_le ha.1
  obtain ⟨b, rfl⟩ := Int.eq_ofNat_of_zero_le hb.1
  have h1 : a ^^^ b < 2 ^ 32 := Nat.xor_lt_two_pow (by omega) (by omega)
  have h2 : (BitVec.ofInt 64 (a : Int) ^^^ BitVec.ofInt 64 (b : Int)).toNat = a ^^^ b := by
    rw [BitVec.toNat_xor, BitVec.ofInt_natCast, BitVec.ofInt_natCast, BitVec.toNat_ofNat, BitVec.toNat_ofNat, Nat.mod_eq_of_lt (by omega), Nat.mod_eq_of_lt (by omega)]
  rw [xorI, h2, wrap64 (by omega) (by omega)]
  omega
theorem sumBit_b {c : Int} (h : 0 ≤ c ∧ c < 4294967296) : 0 ≤ sumBit c ∧ sumBit c < 4294967296 := by
  have h2 : c.tdiv 2 = c / 2 := Int.tdiv_eq_ediv_of_nonneg h.1
  have h3 : IntKind.i64.wrap (c.tdiv 2) = c / 2 := by rw [h2]; exact wrap64 (by omega) (by omega)
  rw [sumBit, h3]
  split
  · exact xorI_b (by omega) (by omega)
  · omega
theorem iterB_b {c : Int} (h : 0 ≤ c ∧ c < 4294967296) : ∀ n, 0 ≤ iterB n c ∧ iterB n c < 4294967296
  | 0 => h
  | n + 1 => sumBit_b (iterB_b h n)
theorem sumB_b {c : Int} (h : 0 ≤ c ∧ c < 4294967296) (b : UInt8) : 0 ≤ sumB c b ∧ sumB c b < 4294967296 := by
  have := b.toNat_lt
  refine iterB_b (xorI_b h ?_) 8
  rw [wrap64 (by omega) (by omega)]
  omega
theorem sumS_b (b : ByteArray) : 0 ≤ sumS b ∧ sumS b < 4294967296 := by
  refine xorI_b ?_ (by omega)
  have : ∀ (l : List UInt8) (c : Int), 0 ≤ c ∧ c < 4294967296 → 0 ≤ l.foldl sumB c ∧ l.foldl sumB c < 4294967296 := by
    intro l
    induction l with
    | nil => exact fun c h => h
    | cons x l ih => exact fun c h => ih _ (sumB_b h x)
  exact this _ _ (by omega)
def shN (id : Int) : Nat := (shelfI id).toNat
theorem shN_ (id : Int) : shelfI id = (shN id : Int) ∧ shN id < 4 := by
  have h := sumS_b (varS id)
  have h1 : 0 ≤ shelfI id ∧ shelfI id < 4 := by
    unfold shelfI
    split
    · omega
    · rw [Int.tmod_eq_emod_of_nonneg h.1]; omega
  unfold shN
  omega
/-! ### What is laid -/
def layL (prio id : Int) (ids : List Int) (s : List En × Int) : List En × Int := ids.foldl (fun s t => (putL s.1 ⟨prio, s.2, id, t⟩, s.2 + 1)) s
theorem layL_snoc (prio id : Int) (ids : List Int) (t : Int) (s : List En × Int) : layL prio id (ids ++ [t]) s = (putL (layL prio id ids s).1 ⟨prio, (layL prio id ids s).2, id, t⟩, (layL prio id ids s).2 + 1) := by simp [layL]
theorem layL_nil (prio id : Int) (s : List En × Int) : layL prio id [] s = s := rfl
theorem layL_seq (prio id : Int) : ∀ (ids : List Int) (s : List En × Int), (layL prio id ids s).2 = s.2 + ids.length
  | [], s => by simp [layL]
  | t :: ids, s => by
    have := layL_seq prio id ids (putL s.1 ⟨prio, s.2, id, t⟩, s.2 + 1)
    simp only [layL, List.foldl_cons, List.length_cons] at this ⊢
    rw [this]; omega
theorem layL_len (prio id : Int) : ∀ (ids : List Int) (s : List En × Int), (layL prio id ids s).1.length = s.1.length + ids.length
  | [], s => by simp [layL]
  | t :: ids, s => by
    have := layL_len prio id ids (putL s.1 ⟨prio, s.2, id, t⟩, s.2 + 1)
    simp only [layL, List.foldl_cons, List.length_cons] at this ⊢
    rw [this, putL_len]; omega
/-- Stands ready, and did not. -/
def newB (was ts : List Tk) (k : Nat) : Bool := (stT ts k == 2) && !(decide (k < was.length) && (stT was k == 2))
def newL (was ts : List Tk) (k : Nat) : List Int := ((List.range k).filter (newB was ts)).map fun (j : Nat) => (j : Int)
theorem newL_0 (was ts : List Tk) : newL was ts 0 = [] := rfl
theorem newL_s (was ts : List Tk) (k : Nat) : newL was ts (k + 1) = newL was ts k ++ (if newB was ts k then [(k : Int)] else []) := by
  cases h : newB was ts k <;> simp [newL, List.range_succ, h]
theorem newL_len (was ts : List Tk) (k : Nat) : (newL was ts k).length ≤ k := by
  simp only [newL, List.length_map]
  exact Nat.le_trans (List.length_filter_le _ _) (by simp)
theorem newL_tin (ts : List Tk) (k : Nat) : newL [] ts k = tinF 2 ts k := by
  have : newB [] ts = fun (j : Nat) => stT ts (j : Int) == 2 := by funext j; simp [newB]
  simp [newL, tinF, this]
/-- A yard in which the tasks ids of r are laid on the run's shelf. -/
def layY (y : Yd) (r : Rn) (ids : List Int) : Yd :=
  let p := layL r.plan.prio r.id ids ((y.shelf[shN r.id]?).getD default, y.seq)
  ⟨y.now, p.2, y.shelf.set (shN r.id) p.1, y.runs⟩
/-! ### A run of which the headers alone are known -/
abbrev rnH (r : Rn) (x5 x7 : Value) : List D := [.val (.int .i64 r.id), .val (.int .i64 r.plan.prio), .val (.int .i64 r.plan.most), .val (.int .i64 r.plan.wait), .val (.int .i64 r.plan.tasks), nilD (some (2, tEd)) x5, .val (.int .i64 r.state), nilD (some (4, tTk)) x7]
abbrev RnBoxH (b ty : Nat) (r : Rn) (x5 x7 : Value) : Ob := .box b ty [.a (.v (.int .i64 r.id)), .a (.v (.int .i64 r.plan.prio)), .a (.v (.int .i64 r.plan.most)), .a (.v (.int .i64 r.plan.wait)), .a (.v (.int .i64 r.plan.tasks)), .a (.v x5), .a (.v (.int .i64 r.state)), .a (.v x7)]
abbrev YdBoxD (b ty : Nat) (now seq : Int) (sh : List (List En)) (e1 : Heads) (d : D) (e2 : Heads) : Ob := .box b ty [.a (.v (.int .i64 now)), .a (.v (.int .i64 seq)), .own (encSh sh) e1, .own d e2]
theorem oneB_nl (k : Nat × Nat) {x : Value} (h : x.oneCell' = true) (l : List D) : oneB (nilD (some k) x :: l) = oneB l := by
  unfold nilD
  split <;> simp [oneB, *]
/-- After an append of a row of which headers alone are known: whether the row was read or moved, the same stands. -/
theorem app_any {P : Program} {β : Nat} {fl : Prop} [Decidable fl] {m1 m2 o : Prop} {a : C} {Q : Ex → St → Prop} {f g : Heads → St} (st : Heads → St) (h1 : m1) (h2 : m2) (ho : o) (hf : ∀ η, Wk (f η) (st η)) (hg : ∀ η, Wk (g η) (st η)) (key : ∀ η, WkK (st η) (wpC P β a Q)) :
    if fl then m1 ∧ m2 ∧ ∀ η, wpC P β (.gh a) Q (f η) else o ∧ m1 ∧ m2 ∧ ∀ η, wpC P β (.gh a) Q (g η) := by
  split
  · exact ⟨h1, h2, fun η => wp_gk (WkK.wk (hf η) (key η))⟩
  · exact ⟨ho, h1, h2, fun η => wp_gk (WkK.wk (hg η) (key η))⟩
theorem put_sh1 {sh : List (List En)} {n : Nat} (l : List En) : D.put [] n [encEns l] (encSh sh) = encSh (sh.set n l) := by
  simp only [encSh, D.put, setAt, sh_map, List.map_set]
theorem newB_nil {ts : List Tk} {k : Nat} {x : Tk} (h : ts[k]? = some x) : newB [] ts k = (x.state == 2) := by
  simp [newB, stT_nat h]
theorem mem_flat_le {α : Type} {l : List α} : ∀ {L : List (List α)}, l ∈ L → l.length ≤ L.flatten.length
  | [], h => by simp at h
  | x :: L, h => by
    rcases List.mem_cons.1 h with rfl | h
    · simp
    · have := mem_flat_le h
      simp only [List.flatten_cons, List.length_append]; omega
theorem shelf2_le {y : Yd} (ht : totYd y ≤ 2000000) {l : List En} (h : l ∈ y.shelf) : l.length ≤ 2000000 := Nat.le_trans (mem_flat_le h) (shelf_flat ht)
theorem rns_len (l : List Rn) : (l.flatMap encRn).length = l.length * 8 := len_flat (enc := encRn) (fun _ => rfl) l
theorem rnH_at (l : List Rn) (row : List D) (j : Nat) : (l.flatMap encRn ++ row)[l.length * 8 + j]? = row[j]? := by
  rw [List.getElem?_append_right (by rw [rns_len]; omega), rns_len, Nat.add_sub_cancel_left]
theorem rnH_set (l : List Rn) (row : List D) (j : Nat) (d : D) : (l.flatMap encRn ++ row).set (l.length * 8 + j) d = l.flatMap encRn ++ row.set j d := by
  rw [List.set_append_right _ _ (by rw [rns_len]; omega), rns_len, Nat.add_sub_cancel_left]
theorem rnsH_snoc (l : List Rn) (r : Rn) : D.sl 8 tRn (l.flatMap encRn ++ encRn r) = encRns (l ++ [r]) := by simp [encRns]
/-- Where many ways meet: the state is said anew, once. -/
theorem seq_key {P : Program} {β : Nat} {a b : C} {Q : Ex → St → Prop} {s : St} {ι : Type} (mk : ι → St) (h1 : wpC P β a (Ex.thn (fun s' => ∃ i, Wk s' (mk i)) Q) s) (h2 : ∀ i, wpC P β b Q (mk i)) : wpC P β (.seq a (.gh b)) Q s := by
  rw [wp_seq_]
  exact wpC_mono a (thn_mono (fun s' ⟨i, h⟩ => wp_gh (mk i) h (h2 i)) fun _ _ h => h) h1
end Go.Proofs.YtbplebgnkhmemaaGreat
set_option linter.unusedSimpArgs false
set_option linter.unusedVariables false
set_option maxRecDepth 100000
namespace Go.Proofs.YtbplebgnkhmemaaGreat
open Go.RowKit Go.Sort
theorem p_spec_RoomFor (y : Yd) (p : Pl) (ht : totYd y ≤ 2000000) : Pure Tryz.prog 68 [.agg (encYd y), .agg (encPl p)] (.c (.val (.bool (roomFor y p)))) := pure2 ⟨_, Tryz.func68, by kernel_rfl, by kernel_rfl⟩ fun w a b ⟨S, ha⟩ ⟨S', hb⟩ => sRoomFor_c y p a b S S' w false false ha hb ht
theorem p_impl_RoomFor (y : Yd) (p : Pl) (ht : totYd y ≤ 2000000) : Pure Tryz.prog 73 [.agg (encYd y), .agg (encPl p)] (.c (.val (.bool (roomFor y p)))) := pure2 ⟨_, Tryz.func73, by kernel_rfl, by kernel_rfl⟩ fun w a b ⟨S, ha⟩ ⟨S', hb⟩ => iRoomFor_c y p a b S S' w false false ha hb ht
open Classical in
noncomputable def subC (y : Yd) (id : Int) (p : Pl) : Int := if yardOkB y = false then 8 else if ¬ (1 ≤ id ∧ id ≤ 9999) then 5 else if 0 ≤ runAt y id then 6 else if planFault p ≠ 0 then planFault p else if roomFor y p = false then 7 else 0
noncomputable def subY (y : Yd) (id : Int) (p : Pl) : Yd := if subC y id p = 0 then layY ⟨y.now, y.seq, y.shelf, y.runs ++ [runNew id p]⟩ (runNew id p) (tinL 2 (runNew id p).tasks) else y
def c_spec_Submit : C := .seq (.reg [⟨some 3, none, .box 31 4 (.t 0)⟩, ⟨some 5, none, .box 48 5 (.t 2)⟩, ⟨some 6, none, .alloc 31 [.int .i64 0, .int .i64 0, .slice none 0 0, .slice none 0 0]⟩, ⟨some 7, none, .mov (.c (.int .i64 0))⟩]) (.seq (.reg [⟨some 11, none, .ld true 4 (.t 3)⟩, ⟨some 12, none, .call 47 [.t 11]⟩, ⟨some 8, none, .alloc 31 [.int .i64 0, .int .i64 0, .slice none 0 0, .slice none 0 0]⟩, ⟨none, none, .st 4 [none, none, some (1, 105), some (8, 70)] (.t 8) (.t 12)⟩]) (.seq (.blk 0 (.seq (.reg [⟨some 14, none, .ld true 4 (.t 3)⟩, ⟨some 15, none, .call 49 [.t 14]⟩, ⟨some 16, none, .un .not (.t 15)⟩, ⟨some 13, none, .mov (.t 16)⟩]) (.cond (.t 13) (.seq (.reg [⟨some 17, none, .ld true 4 (.t 8)⟩, ⟨none, none, .st 4 [none, none, some (1, 105), some (8, 70)] (.t 6) (.t 17)⟩, ⟨some 7, none, .mov (.c (.int .i64 8))⟩]) .ret) (.seq (.reg [⟨some 19, none, .mov (.t 1)⟩, ⟨some 20, none, .call 66 [.t 19, .c (.int .i64 1), .c (.int .i64 9999)]⟩, ⟨some 21, none, .un .not (.t 20)⟩, ⟨some 18, none, .mov (.t 21)⟩]) (.cond (.t 18) (.seq (.reg [⟨some 22, none, .ld true 4 (.t 8)⟩, ⟨none, none, .st 4 [none, none, some (1, 105), some (8, 70)] (.t 6) (.t 22)⟩, ⟨some 7, none, .mov (.c (.int .i64 5))⟩]) .ret) (.seq (.reg [⟨some 24, none, .ld true 4 (.t 3)⟩, ⟨some 25, none, .mov (.t 1)⟩, ⟨some 26, none, .call 48 [.t 24, .t 25]⟩, ⟨some 27, none, .bin .geq 3 (.t 26) (.c (.int .i64 0))⟩, ⟨some 23, none, .mov (.t 27)⟩]) (.cond (.t 23) (.seq (.reg [⟨some 28, none, .ld true 4 (.t 8)⟩, ⟨none, none, .st 4 [none, none, some (1, 105), some (8, 70)] (.t 6) (.t 28)⟩, ⟨some 7, none, .mov (.c (.int .i64 6))⟩]) .ret) (.seq (.reg [⟨some 30, none, .ld true 5 (.t 5)⟩, ⟨some 31, none, .call 67 [.t 30]⟩, ⟨some 32, none, .bin .neq 3 (.t 31) (.c (.int .i64 0))⟩, ⟨some 29, none, .mov (.t 32)⟩]) (.cond (.t 29) (.seq (.dreg (T.pure 0 ⟨some 33, none, .ld true 4 (.t 8)⟩ (T.pure 1 ⟨some 34, none, .ld true 5 (.t 5)⟩ (T.alt ⟨some 35, none, .call 67 [.t 34]⟩ [0] (T.alt ⟨none, none, .st 4 [none, none, some (1, 105), some (8, 70)] (.t 6) (.t 33)⟩ [] (T.pure 4 ⟨some 7, none, .mov (.t 35)⟩ T.done) T.stop) T.stop)))) .ret) (.seq (.reg [⟨some 37, none, .ld true 4 (.t 3)⟩, ⟨some 38, none, .ld true 5 (.t 5)⟩, ⟨some 39, none, .call 68 [.t 37, .t 38]⟩, ⟨some 40, none, .un .not (.t 39)⟩, ⟨some 36, none, .mov (.t 40)⟩]) (.cond (.t 36) (.seq (.reg [⟨some 41, none, .ld true 4 (.t 8)⟩, ⟨none, none, .st 4 [none, none, some (1, 105), some (8, 70)] (.t 6) (.t 41)⟩, ⟨some 7, none, .mov (.c (.int .i64 7))⟩]) .ret) .skip))))))))))) (.seq (.reg [⟨some 43, none, .mov (.t 1)⟩, ⟨some 44, none, .ld true 5 (.t 5)⟩, ⟨some 45, none, .call 69 [.t 43, .t 44]⟩, ⟨some 42, none, .mov (.t 45)⟩, ⟨some 46, none, .ext (.t 42) 0⟩, ⟨some 47, none, .ext (.t 42) 1⟩, ⟨some 9, none, .alloc 70 [.int .i64 0, .int .i64 0, .int .i64 0, .int .i64 0, .int .i64 0, .slice none 0 0, .int .i64 0, .slice none 0 0]⟩, ⟨none, none, .st 8 [none, none, none, none, none, some (2, 131), none, some (4, 75)] (.t 9) (.t 46)⟩, ⟨some 10, none, .mov (.t 47)⟩]) (.seq (.reg [⟨some 48, none, .fa 3 (.t 8)⟩, ⟨some 49, none, .ld false 1 (.t 48)⟩, ⟨some 50, none, .ld true 8 (.t 9)⟩, ⟨some 51, none, .bsl 70 8 1 [none, none, none, none, none, some (2, 131), none, some (4, 75)] [(0, 8, .t 50)]⟩, ⟨some 52, none, .app 70 8 96 (.t 49) (.t 51)⟩, ⟨some 53, none, .fa 3 (.t 8)⟩, ⟨none, none, .st 1 [some (8, 70)] (.t 53) (.t 52)⟩]) (.seq (.reg [⟨some 54, none, .ld true 4 (.t 8)⟩, ⟨some 55, none, .bld [.int .i64 0, .int .i64 0, .int .i64 0, .int .i64 0, .int .i64 0, .slice none 0 0, .int .i64 0, .slice none 0 0] []⟩, ⟨some 56, none, .ld true 8 (.t 9)⟩, ⟨some 57, none, .call 70 [.t 54, .t 55, .t 56]⟩, ⟨none, none, .st 4 [none, none, some (1, 105), some (8, 70)] (.t 6) (.t 57)⟩, ⟨some 7, none, .mov (.c (.int .i64 0))⟩]) .ret)))))
theorem code_spec_Submit : fnC Tryz.prog Tryz.f22 = some (c_spec_Submit, [.cell 6 true 4, .t 7], 58) := by kernel_rfl
def c_spec_l10Lay : C := .seq (.reg [⟨some 3, none, .box 31 4 (.t 0)⟩, ⟨some 4, none, .box 70 8 (.t 1)⟩, ⟨some 5, none, .box 70 8 (.t 2)⟩, ⟨some 6, none, .alloc 31 [.int .i64 0, .int .i64 0, .slice none 0 0, .slice none 0 0]⟩]) (.seq (.reg [⟨some 9, none, .fa 0 (.t 5)⟩, ⟨some 10, none, .ld false 1 (.t 9)⟩, ⟨some 11, none, .call 126 [.t 10]⟩, ⟨some 7, none, .mov (.t 11)⟩]) (.seq (.seq (.reg [⟨some 8, none, .mov (.c (.int .i64 0))⟩]) (.blk 0 (.loop (.seq (.seq (.reg [⟨some 12, none, .mov (.t 8)⟩, ⟨some 13, none, .fa 7 (.t 5)⟩, ⟨some 14, none, .ld false 1 (.t 13)⟩, ⟨some 15, none, .len false (.t 14)⟩, ⟨some 16, none, .bin .lss 3 (.t 12) (.t 15)⟩]) (.cond (.t 16) .skip (.exit 0))) (.seq (.blk 1 (.seq (.seq (.reg [⟨some 19, none, .fa 7 (.t 5)⟩, ⟨some 20, none, .ld false 1 (.t 19)⟩, ⟨some 21, none, .mov (.t 8)⟩, ⟨some 22, none, .ia 4 (.t 20) (.t 21)⟩, ⟨some 23, none, .fa 0 (.t 22)⟩, ⟨some 24, none, .ld false 1 (.t 23)⟩, ⟨some 25, none, .bin .neq 3 (.t 24) (.c (.int .i64 2))⟩, ⟨some 26, none, .mov (.t 25)⟩, ⟨some 27, some (26, false), .mov (.t 8)⟩, ⟨some 28, some (26, false), .fa 7 (.t 4)⟩, ⟨some 29, some (26, false), .ld false 1 (.t 28)⟩, ⟨some 30, some (26, false), .len false (.t 29)⟩, ⟨some 31, some (26, false), .bin .lss 3 (.t 27) (.t 30)⟩, ⟨some 32, some (26, false), .mov (.t 31)⟩, ⟨some 33, some (32, true), .fa 7 (.t 4)⟩, ⟨some 34, some (32, true), .ld false 1 (.t 33)⟩, ⟨some 35, some (32, true), .mov (.t 8)⟩, ⟨some 36, some (32, true), .ia 4 (.t 34) (.t 35)⟩, ⟨some 37, some (32, true), .fa 0 (.t 36)⟩, ⟨some 38, some (32, true), .ld false 1 (.t 37)⟩, ⟨some 39, some (32, true), .bin .eql 3 (.t 38) (.c (.int .i64 2))⟩, ⟨some 40, some (26, false), .pick (.t 32) (.t 39) (.c (.bool false))⟩, ⟨some 41, none, .pick (.t 26) (.c (.bool true)) (.t 40)⟩]) (.cond (.t 41) (.exit 1) .skip)) (.seq (.dreg (T.pure 0 ⟨some 42, none, .fa 2 (.t 3)⟩ (T.pure 1 ⟨some 43, none, .ld false 1 (.t 42)⟩ (T.pure 2 ⟨some 44, none, .mov (.t 7)⟩ (T.pure 3 ⟨some 45, none, .fa 2 (.t 3)⟩ (T.pure 4 ⟨some 46, none, .ld false 1 (.t 45)⟩ (T.pure 5 ⟨some 47, none, .mov (.t 7)⟩ (T.pure 6 ⟨some 48, none, .ia 1 (.t 46) (.t 47)⟩ (T.pure 7 ⟨some 49, none, .ld false 1 (.t 48)⟩ (T.pure 8 ⟨some 50, none, .fa 1 (.t 5)⟩ (T.pure 9 ⟨some 51, none, .fa 0 (.t 50)⟩ (T.pure 10 ⟨some 52, none, .ld false 1 (.t 51)⟩ (T.pure 11 ⟨some 53, none, .fa 1 (.t 3)⟩ (T.pure 12 ⟨some 54, none, .ld false 1 (.t 53)⟩ (T.pure 13 ⟨some 55, none, .fa 0 (.t 5)⟩ (T.pure 14 ⟨some 56, none, .ld false 1 (.t 55)⟩ (T.pure 15 ⟨some 57, none, .mov (.t 8)⟩ (T.pure 16 ⟨some 58, none, .bld [.int .i64 0, .int .i64 0, .int .i64 0, .int .i64 0] [(0, 1, .t 52), (1, 1, .t 54), (2, 1, .t 56), (3, 1, .t 57)]⟩ (T.alt ⟨some 59, none, .call 127 [.t 49, .t 58]⟩ [2, 1, 0] (T.pure 18 ⟨some 60, none, .ia 1 (.t 43) (.t 44)⟩ (T.alt ⟨none, none, .st 1 [some (4, 107)] (.t 60) (.t 59)⟩ [] T.done T.stop)) T.stop))))))))))))))))))) (.reg [⟨some 61, none, .fa 1 (.t 3)⟩, ⟨some 62, none, .ld false 1 (.t 61)⟩, ⟨some 63, none, .bin .add 3 (.t 62) (.c (.int .i64 1))⟩, ⟨some 64, none, .fa 1 (.t 3)⟩, ⟨none, none, .st 1 [none] (.t 64) (.t 63)⟩])))) (.reg [⟨some 17, none, .mov (.t 8)⟩, ⟨some 18, none, .bin .add 3 (.t 17) (.c (.int .i64 1))⟩, ⟨some 8, none, .mov (.t 18)⟩])))))) (.seq (.reg [⟨some 65, none, .ld true 4 (.t 3)⟩, ⟨none, none, .st 4 [none, none, some (1, 105), some (8, 70)] (.t 6) (.t 65)⟩]) .ret)))
theorem code_spec_l10Lay : fnC Tryz.prog Tryz.f70 = some (c_spec_l10Lay, [.cell 6 true 4], 66) := by kernel_rfl
set_option maxHeartbeats 8000000 in
theorem p_spec_Submit (y : Yd) (id : Int) (p : Pl) (ht : totYd y ≤ 2000000) (hp : p.edges.length ≤ 4000000) : Pure Tryz.prog 22 [.agg (encYd y), .c (.val (.int .i64 id)), .agg (encPl p)] (.tup [(true, encYd (subY y id p)), (false, [.val (.int .i64 (subC y id p))])]) := by
  refine pure_gn [[1,1,1,1,0], [1,1,1,1,1,0], [1,1,1,1,1,1]] Tryz.func22 code_spec_Submit (by simp) ?_
  unfold c_spec_Submit
  simp only [C.ghs, C.ghAt, List.foldr]
  simp -implicitDefEqProofs only [go_sem, encYd, encPl]
  intro b3 b5 b6
  refine run_call (p_spec_l10Copy y ht) (by simp -implicitDefEqProofs only [go_sem, encYd, encPl]) fun ηc => ?_
  simp -implicitDefEqProofs only [go_sem, encYd, encPl]
  intro b8
  refine run_call (p_spec_YardOk y ht) (by simp -implicitDefEqProofs only [go_sem, encYd, encPl]) fun η => ?_
  simp -implicitDefEqProofs only [go_sem, encYd, encPl]
  cases hok : yardOkB y
  · have hc : subC y id p = 8 := by simp [subC, hok]
    have hy : subY y id p = y := by simp [subY, hc]
    simp -implicitDefEqProofs only [go_sem, encYd, encPl, hok, hc, hy]
    refine ret2_ _ _ _ _ _ ?_
    simp -implicitDefEqProofs only [go_sem, encYd, encPl]
  simp -implicitDefEqProofs only [go_sem, encYd, encPl, hok]
  refine run_call (p_spec_l01In id 1 9999) (by simp -implicitDefEqProofs only [go_sem, encYd, encPl]) fun η => ?_
  simp -implicitDefEqProofs only [go_sem, encYd, encPl]
  cases hid : decide (1 ≤ id ∧ id ≤ 9999)
  · have hc : subC y id p = 5 := by simp [subC, hok, of_decide_eq_false hid]
    have hy : subY y id p = y := by simp [subY, hc]
    simp -implicitDefEqProofs only [go_sem, encYd, encPl, hid, hc, hy]
    refine ret2_ _ _ _ _ _ ?_
    simp -implicitDefEqProofs only [go_sem, encYd, encPl]
  have hid' := of_decide_eq_true hid
  simp -implicitDefEqProofs only [go_sem, encYd, encPl, hid]
  refine run_call (p_spec_RunAt y id) (by simp -implicitDefEqProofs only [go_sem, encYd, encPl]) fun η => ?_
  simp -implicitDefEqProofs only [go_sem, encYd, encPl]
  by_cases hge : runAt y id ≥ 0
  · have hc : subC y id p = 6 := by unfold subC; rw [if_neg (by simp [hok]), if_neg (by omega), if_pos hge]
    have hy : subY y id p = y := by simp [subY, hc]
    simp -implicitDefEqProofs only [go_sem, encYd, encPl, hge, hc, hy]
    refine ret2_ _ _ _ _ _ ?_
    simp -implicitDefEqProofs only [go_sem, encYd, encPl]
  simp -implicitDefEqProofs only [go_sem, encYd, encPl, hge]
  refine run_call (p_spec_PlanFault p) (by simp -implicitDefEqProofs only [go_sem, encYd, encPl]) fun η => ?_
  simp -implicitDefEqProofs only [go_sem, encYd, encPl]
  cases hpf : planFault p != 0
  rotate_left
  · have hpf' : planFault p ≠ 0 := by simpa using hpf
    have hc : subC y id p = planFault p := by unfold subC; rw [if_neg (by simp [hok]), if_neg (by omega), if_neg (by omega), if_pos hpf']
    have hy : subY y id p = y := by rw [subY, if_neg (by rw [hc]; exact hpf')]
    simp -implicitDefEqProofs only [go_sem, encYd, encPl, hpf]
    refine run_call (p_spec_PlanFault p) (by simp -implicitDefEqProofs only [go_sem, encYd, encPl]) fun η => ?_
    simp -implicitDefEqProofs only [go_sem, encYd, encPl]
    rw [hc, hy]
    refine ret2_ _ _ _ _ _ ?_
    simp -implicitDefEqProofs only [go_sem, encYd, encPl]
  have hpf' : planFault p = 0 := by simpa using hpf
  simp -implicitDefEqProofs only [go_sem, encYd, encPl, hpf]
  refine run_call (p_spec_RoomFor y p ht) (by simp -implicitDefEqProofs only [go_sem, encYd, encPl]) fun η => ?_
  simp -implicitDefEqProofs only [go_sem, encYd, encPl]
  cases hrf : roomFor y p
  · have hc : subC y id p = 7 := by unfold subC; rw [if_neg (by simp [hok]), if_neg (by omega), if_neg (by omega), if_neg (by simp [hpf']), if_pos hrf]
    have hy : subY y id p = y := by simp [subY, hc]
    simp -implicitDefEqProofs only [go_sem, encYd, encPl, hrf, hc, hy]
    refine ret2_ _ _ _ _ _ ?_
    simp -implicitDefEqProofs only [go_sem, encYd, encPl]
  have hc : subC y id p = 0 := by unfold subC; rw [if_neg (by simp [hok]), if_neg (by omega), if_neg (by omega), if_neg (by simp [hpf']), if_neg (by simp [hrf])]
  rw [hc, subY, if_pos hc]
  simp -implicitDefEqProofs only [go_sem, encYd, encPl, hrf]
  refine run_call (p_spec_RunNew id p hid' hpf') (by simp -implicitDefEqProofs only [go_sem, encYd, encPl, encRn]) fun ηr => ?_
  simp -implicitDefEqProofs only [go_sem, encYd, encPl, encRn]
  intro b9
  refine wp_gk ?_
  obtain ⟨r, hr⟩ : ∃ r, runNew id p = r := ⟨_, rfl⟩
  have hri : r.id = id := by rw [← hr]; rfl
  refine WkK.wk (s' := St.of [(6, Bx 600 b6), (8, Bx 800 b8), (9, Bx 900 b9)] [(600, ZYd b6 _), (800, YdBox b8 _ y.now y.seq y.shelf (ηc 2) y.runs (ηc 3)), (900, RnBox b9 _ r (ηr 5) (ηr 7))]) (wk_of [some 600, some 800, some 900] (by simp -implicitDefEqProofs only [go_sem, encYd, encPl, encRn, hr] <;> and_intros <;> first | rfl | assumption)) ?_
  refine wk_cut0 900 5 901 (d := encEds r.plan.edges) (η := ηr 5) (by simp -implicitDefEqProofs only [go_sem]) (by simp -implicitDefEqProofs only [go_sem]) (by decide) fun hx5 => ?_
  refine wk_cut0 900 7 902 (d := encTks r.tasks) (η := ηr 7) (by simp -implicitDefEqProofs only [go_sem]) (by simp -implicitDefEqProofs only [go_sem]) (by decide) fun hx7 => ?_
  refine WkK.of ?_
  generalize ηr 5 = η5 at *
  generalize ηr 7 = η7 at *
  simp -implicitDefEqProofs only [go_sem, hx5, hx7]
  have m1 : y.runs.length + 1 ≤ maxLen := by unfold maxLen; have := (yard_iff.1 hok).eight; omega
  have m2 : (y.runs.length + 1) * 96 ≤ 140737488355328 := by have := (yard_iff.1 hok).eight; omega
  intro η51
  refine app_any (fun ηR => St.of [(6, Bx 600 b6), (8, Bx 800 b8), (9, Bx 900 b9)] [(600, ZYd b6 tYd), (800, YdBoxD b8 tYd y.now y.seq y.shelf (ηc 2) (.sl 8 tRn (y.runs.flatMap encRn ++ rnH r (η5 []) (η7 []))) ηR), (900, RnBoxH b9 tRn r (η5 []) (η7 [])), (901, .loose (encEds r.plan.edges) η5), (902, .loose (encTks r.tasks) η7)]) m1 m2 ?_ (fun ηR => wk_of [some 600, some 800, some 900, some 901, some 902] (by simp -implicitDefEqProofs only [go_sem] <;> and_intros <;> first | rfl | assumption)) (fun ηR => wk_of [some 600, some 800, some 900, some 901, some 902] (by simp -implicitDefEqProofs only [go_sem] <;> and_intros <;> first | rfl | assumption)) ?_
  · simp only [oneB_nl _ hx5, oneB_nl _ hx7, oneB]; rfl
  intro ηR
  rw [hr]
  generalize hdR : D.sl 8 tRn (y.runs.flatMap encRn ++ rnH r (η5 []) (η7 [])) = dR
  refine wk_graft0 900 5 901 (d := encEds r.plan.edges) (η := η5) rfl rfl rfl ?_
  refine wk_graft0 900 7 902 (d := encTks r.tasks) (η := η7) rfl rfl rfl ?_
  refine WkK.wk (s' := St.of [(6, Bx 600 b6), (8, Bx 800 b8), (9, Bx 900 b9)] [(600, ZYd b6 _), (800, YdBoxD b8 _ y.now y.seq y.shelf (ηc 2) dR ηR), (900, RnBox b9 _ r η5 η7)]) (wk_of [some 600, some 800, some 900] (by simp -implicitDefEqProofs only [go_sem, encYd, encPl, encRn] <;> and_intros <;> first | rfl | assumption)) ?_
  refine WkK.of ?_
  simp -implicitDefEqProofs only [go_sem]
  refine run_inl (inl_fn (β := 7000000) Tryz.func70 code_spec_l10Lay (by simp) ?_)
  unfold c_spec_l10Lay
  simp -implicitDefEqProofs only [go_sem, encEn, encTk]
  intro b73 b74 b75 b76
  refine run_call (p_spec_ShelfOf r.id) (by simp -implicitDefEqProofs only [go_sem]) fun η => ?_
  simp -implicitDefEqProofs only [go_sem]
  obtain ⟨hsn, hs4⟩ := shN_ r.id
  rw [hsn]
  have hLY : layY ⟨y.now, y.seq, y.shelf, y.runs ++ [r]⟩ r (tinL 2 r.tasks) = ⟨y.now, (layL r.plan.prio r.id (tinL 2 r.tasks) ((y.shelf[shN r.id]?).getD default, y.seq)).2, y.shelf.set (shN r.id) (layL r.plan.prio r.id (tinL 2 r.tasks) ((y.shelf[shN r.id]?).getD default, y.seq)).1, y.runs ++ [r]⟩ := rfl
  rw [hLY]
  generalize shN r.id = n at *
  have h4 := (yard_iff.1 hok).four
  have hq := (yard_iff.1 hok).seq
  have hn : n < y.shelf.length := by omega
  have h0n : (n : Int) ≥ 0 := by omega
  obtain ⟨l, hl⟩ := get_some hn
  have hll := shelf2_le ht (List.mem_of_getElem? hl)
  rw [hl, Option.getD_some]
  obtain ⟨t0, ht0, -, h12, -⟩ := pf_0 hpf'
  have hrt : r.tasks.length ≤ 12 := by rw [← hr, runNew, newTs_len]; omega
  have htin : newL [] r.tasks r.tasks.length = tinL 2 r.tasks := newL_tin _ _
  refine wp_loopW (fun i : Nat × Heads => St.of [(3, Bx 3 b73), (4, Bx 4 b74), (5, Bx 5 b75), (6, Bx 66 b76), (7, Ni n), (8, Ni i.1)] [(600, ZYd b6 _), (3, YdBoxD b73 _ y.now (layL r.plan.prio r.id (newL [] r.tasks i.1) (l, y.seq)).2 (y.shelf.set n (layL r.plan.prio r.id (newL [] r.tasks i.1) (l, y.seq)).1) i.2 dR ηR), (4, ZRn b74 _), (5, RnBox b75 _ r η5 η7), (66, ZYd b76 _)]) (fun i => i.1 ≤ r.tasks.length) (fun i => r.tasks.length - i.1) (0, ηc 2) (by (try dsimp only); first | omega | (simp; done) | (and_intros <;> first | omega | simp)) (wk_of [some 600, some 700000300, some 700000400, some 700000500, some 700000600] (by simp -implicitDefEqProofs only [go_sem, encYd, encPl, encRn, newL_0, layL_nil, set_same hl] <;> and_intros <;> first | rfl | assumption)) ?_
  rintro ⟨k, η⟩ hk
  dsimp only at hk
  have hsq := layL_seq r.plan.prio r.id (newL [] r.tasks k) (l, y.seq)
  have hle := layL_len r.plan.prio r.id (newL [] r.tasks k) (l, y.seq)
  have hnl := newL_len [] r.tasks k
  have hsnoc := layL_snoc r.plan.prio r.id (newL [] r.tasks k) k (l, y.seq)
  have hnx := newL_s [] r.tasks k
  dsimp only at hsq hle
  by_cases hlt : k < r.tasks.length
  · have hlt' : (k : Int) < r.tasks.length := by omega
    have h0k : (k : Int) ≥ 0 := by omega
    have hk0 : ¬ (k : Int) < 0 := by omega
    obtain ⟨x, hx⟩ := get_some hlt
    have hw : IntKind.i64.wrap ((k : Int) + 1) = ((k + 1 : Nat) : Int) := wrap64 (by omega) (by omega)
    rw [newB_nil hx] at hnx
    have hw2 : IntKind.i64.wrap ((layL r.plan.prio r.id (newL [] r.tasks k) (l, y.seq)).2 + 1) = (layL r.plan.prio r.id (newL [] r.tasks k) (l, y.seq)).2 + 1 := wrap64 (by omega) (by omega)
    generalize hPe : layL r.plan.prio r.id (newL [] r.tasks k) (l, y.seq) = P at *
    obtain ⟨sh, hsh⟩ : ∃ s, y.shelf.set n P.1 = s := ⟨_, rfl⟩
    have hSl : sh[n]? = some P.1 := by rw [← hsh]; exact List.getElem?_set_self hn
    have hns : n < sh.length := by rw [← hsh, List.length_set]; exact hn
    have hss : ∀ L, sh.set n L = y.shelf.set n L := fun L => by rw [← hsh, List.set_set]
    have hi1 : n + 1 ≤ (sh.flatMap fun es => [encEns es]).length := by have := in_encSh hns; rwa [Nat.mul_one] at this
    have ha1 : ((sh.flatMap fun es => [encEns es]).drop n).take 1 = [encEns P.1] := by have := at_encSh hSl; rwa [Nat.mul_one] at this
    rw [hsh]
    cases h2 : x.state != 2
    · have h2' : (x.state == 2) = true := by have : x.state = 2 := by simpa using h2
                                             simp [this]
      rw [h2', if_pos rfl] at hnx
      rw [← hnx] at hsnoc
      simp -implicitDefEqProofs only [go_sem, encPl, encRn, encTk, hlt', h0k, hk0, hlt, at_tk0 hx, in_tk0 hx, at_tk0' hx, in_tk0' hx, h2]
      simp -implicitDefEqProofs only [go_sem, hns, Nat.mul_one, ha1, hi1, h0n]
      refine run_call (p_spec_PutEntry P.1 ⟨r.plan.prio, P.2, r.id, k⟩ (by omega)) (by simp -implicitDefEqProofs only [go_sem, encEn, get_sh hSl]) fun ηp => ?_
      simp -implicitDefEqProofs only [go_sem, encEn, get_sh hSl]
      simp -implicitDefEqProofs only [go_sem, hns, Nat.mul_one, hi1, ha1, h0n, put_sh1, hw2, hw, hss]
      refine fun η' hη' => ?_
      exact ⟨(k + 1, η'), by (try dsimp only); first | omega | assumption | (and_intros <;> first | omega | assumption), (wk_of [some 600, some 3, some 4, some 5, some 66] (by simp -implicitDefEqProofs only [go_sem, encYd, encPl, encRn, hsnoc] <;> and_intros <;> first | rfl | assumption)), by (try dsimp only); omega⟩
    · have h2' : (x.state == 2) = false := by simpa using h2
      rw [h2'] at hnx
      simp only [Bool.false_eq_true, if_false, List.append_nil] at hnx
      simp -implicitDefEqProofs only [go_sem, encPl, encRn, encTk, hlt', h0k, hk0, hlt, at_tk0 hx, in_tk0 hx, at_tk0' hx, in_tk0' hx, h2, hw]
      exact ⟨(k + 1, η), by (try dsimp only); first | omega | assumption | (and_intros <;> first | omega | assumption), (wk_of [some 600, some 3, some 4, some 5, some 66] (by simp -implicitDefEqProofs only [go_sem, encYd, encPl, encRn, hnx, hPe, hsh] <;> and_intros <;> first | rfl | assumption)), by (try dsimp only); omega⟩
  obtain rfl : k = r.tasks.length := by omega
  have hlt' : ¬ ((r.tasks.length : Nat) : Int) < r.tasks.length := by omega
  rw [htin]
  generalize layL r.plan.prio r.id (tinL 2 r.tasks) (l, y.seq) = P at *
  simp -implicitDefEqProofs only [go_sem, hlt', encPl, encRn]
  refine wp_gk ?_
  subst hdR
  refine WkK.wk (s' := St.of [(6, Bx 600 b6), (7, Ni 0)] [(600, YdBoxD b6 _ y.now P.2 (y.shelf.set n P.1) η (.sl 8 tRn (y.runs.flatMap encRn ++ rnH r (η5 []) (η7 []))) ηR), (5, RnBox b75 _ r η5 η7)]) (wk_of [some 600, some 5] (by simp -implicitDefEqProofs only [go_sem, encPl, encRn] <;> and_intros <;> first | rfl | assumption)) ?_
  refine wk_cut0 5 5 901 (d := encEds r.plan.edges) (η := η5) rfl rfl (by decide) fun _ => ?_
  refine wk_cut0 5 7 902 (d := encTks r.tasks) (η := η7) rfl rfl (by decide) fun _ => ?_
  refine wk_graftN 600 3 (y.runs.length * 8 + 5) 901 (η := ηR) (η2 := η5) (cs := r.plan.edges.flatMap encEd) rfl (rnH_at _ _ 5) (.inr rfl) rfl (by decide) fun ηA _ => ?_
  rw [rnH_set]
  refine wk_graftN 600 3 (y.runs.length * 8 + 7) 902 (η := ηA) (η2 := η7) (cs := r.tasks.flatMap encTk) rfl (rnH_at _ _ 7) (.inr rfl) rfl (by decide) fun ηB _ => ?_
  rw [rnH_set]
  refine WkK.of ?_
  have hrow : (List.set (List.set (rnH r (η5 []) (η7 [])) 5 (.sl 2 tEd (r.plan.edges.flatMap encEd))) 7 (.sl 4 tTk (r.tasks.flatMap encTk))) = encRn r := rfl
  rw [hrow, rnsH_snoc]
  refine ret2_ _ _ _ _ _ ?_
  simp -implicitDefEqProofs only [go_sem, encYd]
end Go.Proofs.YtbplebgnkhmemaaGreat
set_option linter.unusedSimpArgs false
set_option linter.unusedVariables false
set_option maxRecDepth 100000
namespace Go.Proofs.YtbplebgnkhmemaaGreat
open Go.RowKit Go.Sort
def c_impl_Submit : C := .seq (.reg [⟨some 3, none, .box 31 4 (.t 0)⟩, ⟨some 5, none, .box 48 5 (.t 2)⟩, ⟨some 6, none, .alloc 31 [.int .i64 0, .int .i64 0, .slice none 0 0, .slice none 0 0]⟩, ⟨some 7, none, .mov (.c (.int .i64 0))⟩]) (.seq (.reg [⟨some 11, none, .ld true 4 (.t 3)⟩, ⟨some 12, none, .call 51 [.t 11]⟩, ⟨some 8, none, .alloc 31 [.int .i64 0, .int .i64 0, .slice none 0 0, .slice none 0 0]⟩, ⟨none, none, .st 4 [none, none, some (1, 105), some (8, 70)] (.t 8) (.t 12)⟩]) (.seq (.blk 0 (.seq (.reg [⟨some 14, none, .ld true 4 (.t 3)⟩, ⟨some 15, none, .call 53 [.t 14]⟩, ⟨some 16, none, .un .not (.t 15)⟩, ⟨some 13, none, .mov (.t 16)⟩]) (.cond (.t 13) (.seq (.reg [⟨some 17, none, .ld true 4 (.t 8)⟩, ⟨none, none, .st 4 [none, none, some (1, 105), some (8, 70)] (.t 6) (.t 17)⟩, ⟨some 7, none, .mov (.c (.int .i64 8))⟩]) .ret) (.seq (.reg [⟨some 19, none, .mov (.t 1)⟩, ⟨some 20, none, .call 42 [.t 19, .c (.int .i64 1), .c (.int .i64 9999)]⟩, ⟨some 21, none, .un .not (.t 20)⟩, ⟨some 18, none, .mov (.t 21)⟩]) (.cond (.t 18) (.seq (.reg [⟨some 22, none, .ld true 4 (.t 8)⟩, ⟨none, none, .st 4 [none, none, some (1, 105), some (8, 70)] (.t 6) (.t 22)⟩, ⟨some 7, none, .mov (.c (.int .i64 5))⟩]) .ret) (.seq (.reg [⟨some 24, none, .ld true 4 (.t 3)⟩, ⟨some 25, none, .mov (.t 1)⟩, ⟨some 26, none, .call 52 [.t 24, .t 25]⟩, ⟨some 27, none, .bin .geq 3 (.t 26) (.c (.int .i64 0))⟩, ⟨some 23, none, .mov (.t 27)⟩]) (.cond (.t 23) (.seq (.reg [⟨some 28, none, .ld true 4 (.t 8)⟩, ⟨none, none, .st 4 [none, none, some (1, 105), some (8, 70)] (.t 6) (.t 28)⟩, ⟨some 7, none, .mov (.c (.int .i64 6))⟩]) .ret) (.seq (.reg [⟨some 30, none, .ld true 5 (.t 5)⟩, ⟨some 31, none, .call 72 [.t 30]⟩, ⟨some 32, none, .bin .neq 3 (.t 31) (.c (.int .i64 0))⟩, ⟨some 29, none, .mov (.t 32)⟩]) (.cond (.t 29) (.seq (.dreg (T.pure 0 ⟨some 33, none, .ld true 4 (.t 8)⟩ (T.pure 1 ⟨some 34, none, .ld true 5 (.t 5)⟩ (T.alt ⟨some 35, none, .call 72 [.t 34]⟩ [0] (T.alt ⟨none, none, .st 4 [none, none, some (1, 105), some (8, 70)] (.t 6) (.t 33)⟩ [] (T.pure 4 ⟨some 7, none, .mov (.t 35)⟩ T.done) T.stop) T.stop)))) .ret) (.seq (.reg [⟨some 37, none, .ld true 4 (.t 3)⟩, ⟨some 38, none, .ld true 5 (.t 5)⟩, ⟨some 39, none, .call 73 [.t 37, .t 38]⟩, ⟨some 40, none, .un .not (.t 39)⟩, ⟨some 36, none, .mov (.t 40)⟩]) (.cond (.t 36) (.seq (.reg [⟨some 41, none, .ld true 4 (.t 8)⟩, ⟨none, none, .st 4 [none, none, some (1, 105), some (8, 70)] (.t 6) (.t 41)⟩, ⟨some 7, none, .mov (.c (.int .i64 7))⟩]) .ret) .skip))))))))))) (.seq (.reg [⟨some 43, none, .mov (.t 1)⟩, ⟨some 44, none, .ld true 5 (.t 5)⟩, ⟨some 45, none, .call 74 [.t 43, .t 44]⟩, ⟨some 42, none, .mov (.t 45)⟩, ⟨some 46, none, .ext (.t 42) 0⟩, ⟨some 47, none, .ext (.t 42) 1⟩, ⟨some 9, none, .alloc 70 [.int .i64 0, .int .i64 0, .int .i64 0, .int .i64 0, .int .i64 0, .slice none 0 0, .int .i64 0, .slice none 0 0]⟩, ⟨none, none, .st 8 [none, none, none, none, none, some (2, 131), none, some (4, 75)] (.t 9) (.t 46)⟩, ⟨some 10, none, .mov (.t 47)⟩]) (.seq (.reg [⟨some 48, none, .fa 3 (.t 8)⟩, ⟨some 49, none, .ld false 1 (.t 48)⟩, ⟨some 50, none, .ld true 8 (.t 9)⟩, ⟨some 51, none, .bsl 70 8 1 [none, none, none, none, none, some (2, 131), none, some (4, 75)] [(0, 8, .t 50)]⟩, ⟨some 52, none, .app 70 8 96 (.t 49) (.t 51)⟩, ⟨some 53, none, .fa 3 (.t 8)⟩, ⟨none, none, .st 1 [some (8, 70)] (.t 53) (.t 52)⟩]) (.seq (.dreg (T.pure 0 ⟨some 54, none, .ld true 8 (.t 9)⟩ (T.pure 1 ⟨some 55, none, .ld true 8 (.t 9)⟩ (T.alt ⟨some 56, none, .call 76 [.t 55, .c (.int .i64 2)]⟩ [0] (T.alt ⟨some 57, none, .call 75 [.t 8, .t 54, .t 56]⟩ [] T.done T.stop) T.stop)))) (.seq (.reg [⟨some 58, none, .ld true 4 (.t 8)⟩, ⟨none, none, .st 4 [none, none, some (1, 105), some (8, 70)] (.t 6) (.t 58)⟩, ⟨some 7, none, .mov (.c (.int .i64 0))⟩]) .ret))))))
theorem code_impl_Submit : fnC Tryz.prog Tryz.f24 = some (c_impl_Submit, [.cell 6 true 4, .t 7], 59) := by kernel_rfl
def c_impl_stock : C := .seq (.reg [⟨some 4, none, .box 70 8 (.t 1)⟩]) (.seq (.reg [⟨some 9, none, .fa 0 (.t 4)⟩, ⟨some 10, none, .ld false 1 (.t 9)⟩, ⟨some 11, none, .call 133 [.t 10]⟩, ⟨some 6, none, .mov (.t 11)⟩]) (.seq (.reg [⟨some 12, none, .mov (.t 2)⟩, ⟨some 13, none, .len false (.t 12)⟩, ⟨some 14, none, .mov (.c (.int .i64 0))⟩]) (.blk 0 (.loop (.seq (.reg [⟨some 15, none, .bin .lss 3 (.t 14) (.t 13)⟩]) (.seq (.cond (.t 15) .skip (.exit 0)) (.seq (.blk 1 (.seq (.reg [⟨some 16, none, .ia 1 (.t 12) (.t 14)⟩, ⟨some 17, none, .ld false 1 (.t 16)⟩, ⟨some 8, none, .mov (.t 17)⟩]) (.seq (.dreg (T.pure 0 ⟨some 18, none, .mov (.t 0)⟩ (T.pure 1 ⟨some 19, none, .fa 0 (.t 18)⟩ (T.pure 2 ⟨some 20, none, .fa 2 (.t 19)⟩ (T.pure 3 ⟨some 21, none, .ld false 1 (.t 20)⟩ (T.pure 4 ⟨some 22, none, .mov (.t 6)⟩ (T.pure 5 ⟨some 23, none, .mov (.t 0)⟩ (T.pure 6 ⟨some 24, none, .fa 0 (.t 23)⟩ (T.pure 7 ⟨some 25, none, .fa 2 (.t 24)⟩ (T.pure 8 ⟨some 26, none, .ld false 1 (.t 25)⟩ (T.pure 9 ⟨some 27, none, .mov (.t 6)⟩ (T.pure 10 ⟨some 28, none, .ia 1 (.t 26) (.t 27)⟩ (T.pure 11 ⟨some 29, none, .ld false 1 (.t 28)⟩ (T.pure 12 ⟨some 30, none, .fa 1 (.t 4)⟩ (T.pure 13 ⟨some 31, none, .fa 0 (.t 30)⟩ (T.pure 14 ⟨some 32, none, .ld false 1 (.t 31)⟩ (T.pure 15 ⟨some 33, none, .mov (.t 0)⟩ (T.pure 16 ⟨some 34, none, .fa 0 (.t 33)⟩ (T.pure 17 ⟨some 35, none, .fa 1 (.t 34)⟩ (T.pure 18 ⟨some 36, none, .ld false 1 (.t 35)⟩ (T.pure 19 ⟨some 37, none, .fa 0 (.t 4)⟩ (T.pure 20 ⟨some 38, none, .ld false 1 (.t 37)⟩ (T.pure 21 ⟨some 39, none, .mov (.t 8)⟩ (T.pure 22 ⟨some 40, none, .bld [.int .i64 0, .int .i64 0, .int .i64 0, .int .i64 0] [(0, 1, .t 32), (1, 1, .t 36), (2, 1, .t 38), (3, 1, .t 39)]⟩ (T.alt ⟨some 41, none, .call 134 [.t 29, .t 40]⟩ [4, 3, 2, 1, 0] (T.pure 24 ⟨some 42, none, .ia 1 (.t 21) (.t 22)⟩ (T.alt ⟨none, none, .st 1 [some (4, 107)] (.t 42) (.t 41)⟩ [] T.done T.stop)) T.stop))))))))))))))))))))))))) (.reg [⟨some 43, none, .mov (.t 0)⟩, ⟨some 44, none, .fa 0 (.t 43)⟩, ⟨some 45, none, .fa 1 (.t 44)⟩, ⟨some 46, none, .ld false 1 (.t 45)⟩, ⟨some 47, none, .bin .add 3 (.t 46) (.c (.int .i64 1))⟩, ⟨some 48, none, .fa 0 (.t 43)⟩, ⟨some 49, none, .fa 1 (.t 48)⟩, ⟨none, none, .st 1 [none] (.t 49) (.t 47)⟩])))) (.reg [⟨some 50, none, .bin .add 3 (.t 14) (.c (.int .i64 1))⟩, ⟨some 14, none, .mov (.t 50)⟩]))))))))
theorem code_impl_stock : fnC Tryz.prog Tryz.f75 = some (c_impl_stock, [], 51) := by kernel_rfl
set_option maxHeartbeats 8000000 in
theorem p_impl_Submit (y : Yd) (id : Int) (p : Pl) (ht : totYd y ≤ 2000000) (hp : p.edges.length ≤ 4000000) : Pure Tryz.prog 24 [.agg (encYd y), .c (.val (.int .i64 id)), .agg (encPl p)] (.tup [(true, encYd (subY y id p)), (false, [.val (.int .i64 (subC y id p))])]) := by
  refine pure_gn [[1,1,1,1,0], [1,1,1,1,1,0], [1,1,1,1,1,1,1]] Tryz.func24 code_impl_Submit (by simp) ?_
  unfold c_impl_Submit
  simp only [C.ghs, C.ghAt, List.foldr]
  simp -implicitDefEqProofs only [go_sem, encYd, encPl]
  intro b3 b5 b6
  refine run_call (p_impl_copyYard y ht) (by simp -implicitDefEqProofs only [go_sem, encYd, encPl]) fun ηc => ?_
  simp -implicitDefEqProofs only [go_sem, encYd, encPl]
  intro b8
  refine run_call (p_impl_YardOk y ht) (by simp -implicitDefEqProofs only [go_sem, encYd, encPl]) fun η => ?_
  simp -implicitDefEqProofs only [go_sem, encYd, encPl]
  cases hok : yardOkB y
  · have hc : subC y id p = 8 := by simp [subC, hok]
    have hy : subY y id p = y := by simp [subY, hc]
    simp -implicitDefEqProofs only [go_sem, encYd, encPl, hok, hc, hy]
    refine ret2_ _ _ _ _ _ ?_
    simp -implicitDefEqProofs only [go_sem, encYd, encPl]
  simp -implicitDefEqProofs only [go_sem, encYd, encPl, hok]
  refine run_call (p_impl_within id 1 9999) (by simp -implicitDefEqProofs only [go_sem, encYd, encPl]) fun η => ?_
  simp -implicitDefEqProofs only [go_sem, encYd, encPl]
  cases hid : decide (1 ≤ id ∧ id ≤ 9999)
  · have hc : subC y id p = 5 := by simp [subC, hok, of_decide_eq_false hid]
    have hy : subY y id p = y := by simp [subY, hc]
    simp -implicitDefEqProofs only [go_sem, encYd, encPl, hid, hc, hy]
    refine ret2_ _ _ _ _ _ ?_
    simp -implicitDefEqProofs only [go_sem, encYd, encPl]
  have hid' := of_decide_eq_true hid
  simp -implicitDefEqProofs only [go_sem, encYd, encPl, hid]
  refine run_call (p_impl_RunAt y id) (by simp -implicitDefEqProofs only [go_sem, encYd, encPl]) fun η => ?_
  simp -implicitDefEqProofs only [go_sem, encYd, encPl]
  by_cases hge : runAt y id ≥ 0
  · have hc : subC y id p = 6 := by unfold subC; rw [if_neg (by simp [hok]), if_neg (by omega), if_pos hge]
    have hy : subY y id p = y := by simp [subY, hc]
    simp -implicitDefEqProofs only [go_sem, encYd, encPl, hge, hc, hy]
    refine ret2_ _ _ _ _ _ ?_
    simp -implicitDefEqProofs only [go_sem, encYd, encPl]
  simp -implicitDefEqProofs only [go_sem, encYd, encPl, hge]
  refine run_call (p_impl_PlanFault p hp) (by simp -implicitDefEqProofs only [go_sem, encYd, encPl]) fun η => ?_
  simp -implicitDefEqProofs only [go_sem, encYd, encPl]
  cases hpf : planFault p != 0
  rotate_left
  · have hpf' : planFault p ≠ 0 := by simpa using hpf
    have hc : subC y id p = planFault p := by unfold subC; rw [if_neg (by simp [hok]), if_neg (by omega), if_neg (by omega), if_pos hpf']
    have hy : subY y id p = y := by rw [subY, if_neg (by rw [hc]; exact hpf')]
    simp -implicitDefEqProofs only [go_sem, encYd, encPl, hpf]
    refine run_call (p_impl_PlanFault p hp) (by simp -implicitDefEqProofs only [go_sem, encYd, encPl]) fun η => ?_
    simp -implicitDefEqProofs only [go_sem, encYd, encPl]
    rw [hc, hy]
    refine ret2_ _ _ _ _ _ ?_
    simp -implicitDefEqProofs only [go_sem, encYd, encPl]
  have hpf' : planFault p = 0 := by simpa using hpf
  simp -implicitDefEqProofs only [go_sem, encYd, encPl, hpf]
  refine run_call (p_impl_RoomFor y p ht) (by simp -implicitDefEqProofs only [go_sem, encYd, encPl]) fun η => ?_
  simp -implicitDefEqProofs only [go_sem, encYd, encPl]
  cases hrf : roomFor y p
  · have hc : subC y id p = 7 := by unfold subC; rw [if_neg (by simp [hok]), if_neg (by omega), if_neg (by omega), if_neg (by simp [hpf']), if_pos hrf]
    have hy : subY y id p = y := by simp [subY, hc]
    simp -implicitDefEqProofs only [go_sem, encYd, encPl, hrf, hc, hy]
    refine ret2_ _ _ _ _ _ ?_
    simp -implicitDefEqProofs only [go_sem, encYd, encPl]
  have hc : subC y id p = 0 := by unfold subC; rw [if_neg (by simp [hok]), if_neg (by omega), if_neg (by omega), if_neg (by simp [hpf']), if_neg (by simp [hrf])]
  rw [hc, subY, if_pos hc]
  simp -implicitDefEqProofs only [go_sem, encYd, encPl, hrf]
  refine run_call (p_impl_RunNew id p hid' hpf') (by simp -implicitDefEqProofs only [go_sem, encYd, encPl, encRn]) fun ηr => ?_
  simp -implicitDefEqProofs only [go_sem, encYd, encPl, encRn]
  intro b9
  refine wp_gk ?_
  obtain ⟨r, hr⟩ : ∃ r, runNew id p = r := ⟨_, rfl⟩
  have hri : r.id = id := by rw [← hr]; rfl
  refine WkK.wk (s' := St.of [(6, Bx 600 b6), (8, Bx 800 b8), (9, Bx 900 b9)] [(600, ZYd b6 _), (800, YdBox b8 _ y.now y.seq y.shelf (ηc 2) y.runs (ηc 3)), (900, RnBox b9 _ r (ηr 5) (ηr 7))]) (wk_of [some 600, some 800, some 900] (by simp -implicitDefEqProofs only [go_sem, encYd, encPl, encRn, hr] <;> and_intros <;> first | rfl | assumption)) ?_
  refine wk_cut0 900 5 901 (d := encEds r.plan.edges) (η := ηr 5) (by simp -implicitDefEqProofs only [go_sem]) (by simp -implicitDefEqProofs only [go_sem]) (by decide) fun hx5 => ?_
  refine wk_cut0 900 7 902 (d := encTks r.tasks) (η := ηr 7) (by simp -implicitDefEqProofs only [go_sem]) (by simp -implicitDefEqProofs only [go_sem]) (by decide) fun hx7 => ?_
  refine WkK.of ?_
  generalize ηr 5 = η5 at *
  generalize ηr 7 = η7 at *
  simp -implicitDefEqProofs only [go_sem, hx5, hx7]
  have m1 : y.runs.length + 1 ≤ maxLen := by unfold maxLen; have := (yard_iff.1 hok).eight; omega
  have m2 : (y.runs.length + 1) * 96 ≤ 140737488355328 := by have := (yard_iff.1 hok).eight; omega
  intro η51
  refine app_any (fun ηR => St.of [(6, Bx 600 b6), (8, Bx 800 b8), (9, Bx 900 b9)] [(600, ZYd b6 tYd), (800, YdBoxD b8 tYd y.now y.seq y.shelf (ηc 2) (.sl 8 tRn (y.runs.flatMap encRn ++ rnH r (η5 []) (η7 []))) ηR), (900, RnBoxH b9 tRn r (η5 []) (η7 [])), (901, .loose (encEds r.plan.edges) η5), (902, .loose (encTks r.tasks) η7)]) m1 m2 ?_ (fun ηR => wk_of [some 600, some 800, some 900, some 901, some 902] (by simp -implicitDefEqProofs only [go_sem] <;> and_intros <;> first | rfl | assumption)) (fun ηR => wk_of [some 600, some 800, some 900, some 901, some 902] (by simp -implicitDefEqProofs only [go_sem] <;> and_intros <;> first | rfl | assumption)) ?_
  · simp only [oneB_nl _ hx5, oneB_nl _ hx7, oneB]; rfl
  intro ηR
  rw [hr]
  generalize hdR : D.sl 8 tRn (y.runs.flatMap encRn ++ rnH r (η5 []) (η7 [])) = dR
  refine wk_graft0 900 5 901 (d := encEds r.plan.edges) (η := η5) rfl rfl rfl ?_
  refine wk_graft0 900 7 902 (d := encTks r.tasks) (η := η7) rfl rfl rfl ?_
  refine WkK.wk (s' := St.of [(6, Bx 600 b6), (8, Bx 800 b8), (9, Bx 900 b9)] [(600, ZYd b6 _), (800, YdBoxD b8 _ y.now y.seq y.shelf (ηc 2) dR ηR), (900, RnBox b9 _ r η5 η7)]) (wk_of [some 600, some 800, some 900] (by simp -implicitDefEqProofs only [go_sem, encYd, encPl, encRn] <;> and_intros <;> first | rfl | assumption)) ?_
  refine WkK.of ?_
  obtain ⟨t0, ht0, -, h12, -⟩ := pf_0 hpf'
  have hrt : r.tasks.length ≤ 12 := by rw [← hr, runNew, newTs_len]; omega
  simp -implicitDefEqProofs only [go_sem, encYd, encPl, encRn]
  refine run_call (p_impl_TasksIn r 2 (by omega)) (by simp -implicitDefEqProofs only [go_sem, encPl, encRn]) fun ηi => ?_
  simp -implicitDefEqProofs only [go_sem, encPl, encRn]
  refine run_inl (inl_fn (β := 7000000) Tryz.func75 code_impl_stock (by simp) ?_)
  unfold c_impl_stock
  simp -implicitDefEqProofs only [go_sem, encPl, encRn]
  intro b74
  refine run_call (p_impl_ShelfOf r.id) (by simp -implicitDefEqProofs only [go_sem]) fun η => ?_
  simp -implicitDefEqProofs only [go_sem]
  obtain ⟨hsn, hs4⟩ := shN_ r.id
  rw [hsn]
  have hLY : layY ⟨y.now, y.seq, y.shelf, y.runs ++ [r]⟩ r (tinL 2 r.tasks) = ⟨y.now, (layL r.plan.prio r.id (tinL 2 r.tasks) ((y.shelf[shN r.id]?).getD default, y.seq)).2, y.shelf.set (shN r.id) (layL r.plan.prio r.id (tinL 2 r.tasks) ((y.shelf[shN r.id]?).getD default, y.seq)).1, y.runs ++ [r]⟩ := rfl
  rw [hLY]
  generalize shN r.id = n at *
  have h4 := (yard_iff.1 hok).four
  have hq := (yard_iff.1 hok).seq
  have hn : n < y.shelf.length := by omega
  have h0n : (n : Int) ≥ 0 := by omega
  obtain ⟨l, hl⟩ := get_some hn
  have hll := shelf2_le ht (List.mem_of_getElem? hl)
  rw [hl, Option.getD_some]
  have hil : (tinL 2 r.tasks).length ≤ 12 := Nat.le_trans (tinF_len _ _ _) hrt
  generalize tinL 2 r.tasks = ids at *
  refine wp_loopW (fun i : Nat × Heads => St.of [(0, Bx 800 b8), (4, Bx 4 b74), (6, Ni n), (12, Hd 56 (ηi 0)), (13, Ni ids.length), (14, Ni i.1)] [(600, ZYd b6 _), (800, YdBoxD b8 _ y.now (layL r.plan.prio r.id (ids.take i.1) (l, y.seq)).2 (y.shelf.set n (layL r.plan.prio r.id (ids.take i.1) (l, y.seq)).1) i.2 dR ηR), (4, RnBox b74 _ r η5 η7), (56, .loose (encInts ids) (ηi 0))]) (fun i => i.1 ≤ ids.length) (fun i => ids.length - i.1) (0, ηc 2) (by (try dsimp only); first | omega | (simp; done) | (and_intros <;> first | omega | simp)) (wk_of [some 600, some 800, some 700000400, some 5600] (by simp -implicitDefEqProofs only [go_sem, encYd, encPl, encRn, List.take_zero, layL_nil, set_same hl] <;> and_intros <;> first | rfl | assumption)) ?_
  rintro ⟨k, η⟩ hk
  dsimp only at hk
  have hsq := layL_seq r.plan.prio r.id (ids.take k) (l, y.seq)
  have hle := layL_len r.plan.prio r.id (ids.take k) (l, y.seq)
  have hnl : (ids.take k).length = k := by rw [List.length_take]; omega
  dsimp only at hsq hle
  by_cases hlt : k < ids.length
  · have hlt' : (k : Int) < ids.length := by omega
    have h0k : (k : Int) ≥ 0 := by omega
    obtain ⟨x, hx⟩ := get_some hlt
    have hsnoc := layL_snoc r.plan.prio r.id (ids.take k) x (l, y.seq)
    have hnx : ids.take (k + 1) = ids.take k ++ [x] := by rw [List.take_add_one, hx]; rfl
    rw [← hnx] at hsnoc
    have hw : IntKind.i64.wrap ((k : Int) + 1) = ((k + 1 : Nat) : Int) := wrap64 (by omega) (by omega)
    have hw2 : IntKind.i64.wrap ((layL r.plan.prio r.id (ids.take k) (l, y.seq)).2 + 1) = (layL r.plan.prio r.id (ids.take k) (l, y.seq)).2 + 1 := wrap64 (by omega) (by omega)
    generalize hPe : layL r.plan.prio r.id (ids.take k) (l, y.seq) = P at *
    obtain ⟨sh, hsh⟩ : ∃ s, y.shelf.set n P.1 = s := ⟨_, rfl⟩
    have hSl : sh[n]? = some P.1 := by rw [← hsh]; exact List.getElem?_set_self hn
    have hns : n < sh.length := by rw [← hsh, List.length_set]; exact hn
    have hss : ∀ L, sh.set n L = y.shelf.set n L := fun L => by rw [← hsh, List.set_set]
    have hi1 : n + 1 ≤ (sh.flatMap fun es => [encEns es]).length := by have := in_encSh hns; rwa [Nat.mul_one] at this
    have ha1 : ((sh.flatMap fun es => [encEns es]).drop n).take 1 = [encEns P.1] := by have := at_encSh hSl; rwa [Nat.mul_one] at this
    have hxi : k + 1 ≤ (ids.flatMap fun n => [iv n]).length := by have := in_encInts hlt; rwa [Nat.mul_one] at this
    have hxa : ((ids.flatMap fun n => [iv n]).drop k).take 1 = [iv x] := by have := at_encInts hx; rwa [Nat.mul_one] at this
    rw [hsh]
    simp -implicitDefEqProofs only [go_sem, encPl, encRn, hlt', h0k, hlt, hxa, hxi, Nat.add_zero, hns, Nat.mul_one, ha1, hi1, h0n]
    refine run_call (p_impl_PutEntry P.1 ⟨r.plan.prio, P.2, r.id, x⟩ (by omega)) (by simp -implicitDefEqProofs only [go_sem, encEn, get_sh hSl]) fun ηp => ?_
    simp -implicitDefEqProofs only [go_sem, encEn, get_sh hSl]
    simp -implicitDefEqProofs only [go_sem, hns, Nat.mul_one, hi1, ha1, h0n, put_sh1, hw2, hw, hss, Nat.add_zero]
    refine fun η' hη' => ?_
    exact ⟨(k + 1, η'), by (try dsimp only); first | omega | assumption | (and_intros <;> first | omega | assumption), (wk_of [some 600, some 800, some 4, some 56] (by simp -implicitDefEqProofs only [go_sem, encYd, encPl, encRn, hsnoc] <;> and_intros <;> first | rfl | assumption)), by (try dsimp only); omega⟩
  obtain rfl : k = ids.length := by omega
  have hlt' : ¬ ((ids.length : Nat) : Int) < ids.length := by omega
  rw [List.take_length]
  generalize layL r.plan.prio r.id ids (l, y.seq) = P at *
  simp -implicitDefEqProofs only [go_sem, hlt', encPl, encRn]
  refine wp_gk ?_
  subst hdR
  refine WkK.wk (s' := St.of [(6, Bx 600 b6), (7, Ni 0)] [(600, YdBoxD b6 _ y.now P.2 (y.shelf.set n P.1) η (.sl 8 tRn (y.runs.flatMap encRn ++ rnH r (η5 []) (η7 []))) ηR), (5, RnBox b74 _ r η5 η7)]) (wk_of [some 600, some 4] (by simp -implicitDefEqProofs only [go_sem, encPl, encRn] <;> and_intros <;> first | rfl | assumption)) ?_
  refine wk_cut0 5 5 901 (d := encEds r.plan.edges) (η := η5) rfl rfl (by decide) fun _ => ?_
  refine wk_cut0 5 7 902 (d := encTks r.tasks) (η := η7) rfl rfl (by decide) fun _ => ?_
  refine wk_graftN 600 3 (y.runs.length * 8 + 5) 901 (η := ηR) (η2 := η5) (cs := r.plan.edges.flatMap encEd) rfl (rnH_at _ _ 5) (.inr rfl) rfl (by decide) fun ηA _ => ?_
  rw [rnH_set]
  refine wk_graftN 600 3 (y.runs.length * 8 + 7) 902 (η := ηA) (η2 := η7) (cs := r.tasks.flatMap encTk) rfl (rnH_at _ _ 7) (.inr rfl) rfl (by decide) fun ηB _ => ?_
  rw [rnH_set]
  refine WkK.of ?_
  have hrow : (List.set (List.set (rnH r (η5 []) (η7 [])) 5 (.sl 2 tEd (r.plan.edges.flatMap encEd))) 7 (.sl 4 tTk (r.tasks.flatMap encTk))) = encRn r := rfl
  rw [hrow, rnsH_snoc]
  refine ret2_ _ _ _ _ _ ?_
  simp -implicitDefEqProofs only [go_sem, encYd]
theorem tsum_set_eq {α : Type} {f : α → Nat} (v : α) : ∀ {l : List α} {k : Nat} {x : α}, l[k]? = some x → tsum f (l.set k v) + f x = tsum f l + f v
  | [], _, _, h => by simp at h
  | y :: l, 0, x, h => by
    simp at h; subst h
    simp only [tsum, List.set_cons_zero, List.map_cons, List.sum_cons]; omega
  | y :: l, k + 1, x, h => by
    have := tsum_set_eq (f := f) v (l := l) (k := k) (by simpa using h)
    simp only [tsum, List.set_cons_succ, List.map_cons, List.sum_cons] at this ⊢
    omega
theorem tot_lay {y : Yd} {r : Rn} {ids : List Int} : totYd (layY y r ids) ≤ totYd y + ids.length := by
  have h4 : ∀ l : List En, totEnS l = l.length := fun _ => rfl
  cases h : y.shelf[shN r.id]? with
  | none =>
    have : y.shelf.set (shN r.id) (layL r.plan.prio r.id ids ((y.shelf[shN r.id]?).getD default, y.seq)).1 = y.shelf := List.set_eq_of_length_le (List.getElem?_eq_none_iff.1 h)
    simp only [totYd, totSh, layY, this]; omega
  | some l =>
    have h1 := layL_len r.plan.prio r.id ids ((y.shelf[shN r.id]?).getD default, y.seq)
    have h2 := tsum_set_eq (f := totEnS) (layL r.plan.prio r.id ids ((y.shelf[shN r.id]?).getD default, y.seq)).1 h
    simp only [totYd, totSh, layY, List.length_set] at *
    rw [h4, h4] at h2
    rw [h, Option.getD_some] at *
    omega
theorem tot_sub (y : Yd) (id : Int) (p : Pl) (ht : totYd y ≤ 1900000) : totYd (subY y id p) ≤ 2000000 := by
  unfold subY
  split
  · rename_i hc
    have hpf : planFault p = 0 := by
      unfold subC at hc
      split at hc
      · cases hc
      split at hc
      · cases hc
      split at hc
      · cases hc
      split at hc
      · exact hc
      · rename_i h; omega
    obtain ⟨t0, ht0, -, h12, h30, -⟩ := pf_0 hpf
    have h1 := tot_lay (y := ⟨y.now, y.seq, y.shelf, y.runs ++ [runNew id p]⟩) (r := runNew id p) (ids := tinL 2 (runNew id p).tasks)
    have h2 : (tinL 2 (runNew id p).tasks).length ≤ 12 := Nat.le_trans (tinF_len _ _ _) (by rw [runNew, newTs_len]; omega)
    have h3 : totRn (runNew id p) ≤ 42 := by
      have h5 : (runNew id p).tasks.length ≤ 12 := by rw [runNew, newTs_len]; omega
      have h6 : (runNew id p).plan.edges.length ≤ 30 := h30
      simp only [totRn, totPl]; omega
    have h4 : totYd ⟨y.now, y.seq, y.shelf, y.runs ++ [runNew id p]⟩ = totYd y + 1 + totRn (runNew id p) := by
      simp only [totYd, totRns, tsum_append, List.length_append, List.length_cons, List.length_nil]
      simp only [tsum, List.map_cons, List.map_nil, List.sum_cons, List.sum_nil]; omega
    omega
  · omega
end Go.Proofs.YtbplebgnkhmemaaGreat
