/- Texts for laws: Sub. -/
import Derived.Test.YtnhdcbhcocgjhaaGreatQHole
import Derived.Test.YtnhdcbhcocgjhaaGreatQPut
import Derived.Test.YtnhdcbhcocgjhaaGreatQSlots
set_option linter.unusedSimpArgs false
set_option linter.unusedVariables false
namespace Go.Proofs.YtnhdcbhcocgjhaaGreat
open Go.RowKit Go.Sort
section
variable {P : Program} {β : Nat} {s : St} {K : St → Prop} {Q : Ex → St → Prop}
theorem wp_gk {a : C} (h : WkK s (wpC P β a Q)) : wpC P β (.gh a) Q s := h
theorem WkK.of {K : St → Prop} (h : K s) : WkK s K := fun _ _ _ _ _ F hr => ⟨s, F, hr, h⟩
theorem WkK.wk {s' : St} (h : Wk s s') (hk : WkK s' K) : WkK s K := fun B N w0 w a F hr => let ⟨F', h1, _⟩ := h B N w0 w a F hr; hk B N w0 w a F' h1
theorem slice_one {u : Value} (h : ∃ A n c, u = .slice A n c) : u.oneCell' = true := by obtain ⟨_, _, _, rfl⟩ := h; rfl
theorem isSl_form {w : World} {own : Bool} {d : D} {u : Value} {S : List Nat} (hd : d.isSl = true) (h : Rep w own d u S) : ∃ A n c, u = .slice A n c := by
  cases d with
  | val _ => cases hd
  | sl _ _ _ => exact rep_form h
/-- An own slice becomes an object of its own; its header stays. -/
theorem wk_cut0 (g c g2 : Nat) {d : D} {η : Heads} (ho : (s.o g).own c = some (d, η)) (h2 : s.o g2 = .none) (hne : g2 ≠ g) (hk : (η []).oneCell' = true → WkK ((s.rm g c).setO g2 (.loose d η)) K) : WkK s K := by
  intro B N w0 w a F h
  obtain ⟨u, S, F', j1, j2, j3, j4, j5, j6, j7, j8⟩ := h.rm ho
  have e : η [] = u := by rw [j3, hdr_nil j1]
  exact hk (e ▸ slice_one (isSl_form j1 j2)) _ _ _ _ _ _ (j5.setO (g := g2) (ob := .loose d η) (S := S) ⟨j1, u, j2, j3⟩ j4 (fun g' _ b hb => j6 g' b hb))
theorem cRel_put {B : Nat} {w : World} {d : D} {η : Heads} {u : Value} {S2 : List Nat} (hd : d.isSl = true) (hr : Rep w true d u S2) (hh : ∀ p, η p = hdr w p d u) : ∀ {c : Nat} {l : List Cell} {us : List Value} {S : List Nat}, CRel B w l us S → l[c]? = some (.a (.v u)) →
    ∃ S', CRel B w (l.set c (.own d η)) us S' ∧ S'.Perm (S ++ S2)
  | _, [], _, _, _, h => by simp at h
  | 0, .a x :: l, _, S, ⟨v, us', rfl, h1, h2⟩, h => by
    simp at h; subst h
    have : v = u := h1
    subst this
    exact ⟨S2 ++ S, ⟨v, us', S2, S, rfl, rfl, hd, hr, hh, h2⟩, List.perm_append_comm⟩
  | 0, .own e ε :: l, _, _, _, h => by simp at h
  | c + 1, .a x :: l, _, S, ⟨v, us', rfl, h1, h2⟩, h => by
    simp at h
    obtain ⟨S', a1, a2⟩ := cRel_put hd hr hh h2 h
    exact ⟨S', ⟨v, us', rfl, h1, a1⟩, a2⟩
  | c + 1, .own e ε :: l, _, _, ⟨v, us', T1, T2, rfl, rfl, h1, h2, h3, h4⟩, h => by
    simp at h
    obtain ⟨S', a1, a2⟩ := cRel_put hd hr hh h4 h
    exact ⟨T1 ++ S', ⟨v, us', T1, S', rfl, rfl, h1, h2, h3, a1⟩, by rw [List.append_assoc]; exact List.Perm.append_left _ a2⟩
/-- A loose slice goes into a box, where its header lies. -/
theorem wk_graft0 (g c g2 : Nat) {b ty : Nat} {cs : List Cell} {d : D} {η : Heads} (hb : s.o g = .box b ty cs) (hc : cs[c]? = some (.a (.v (η [])))) (h2 : s.o g2 = .loose d η) (hk : WkK ((s.setO g2 .none).setO g (.box b ty (cs.set c (.own d η)))) K) : WkK s K := by
  intro B N w0 w a F h
  have hne : g2 ≠ g := fun e => by rw [e, hb] at h2; cases h2
  have h3 := h.ob g2
  rw [h2] at h3
  obtain ⟨k1, u, k2, k3⟩ := h3
  have e : η [] = u := by rw [k3, hdr_nil k1]
  rw [e] at hc
  have h4 := h.ob g
  rw [hb] at h4
  obtain ⟨us, S1, q1, q2, q3⟩ := h4
  obtain ⟨S', q4, q5⟩ := cRel_put k1 k2 k3 q2 hc
  have t1 := h.setO (g := g2) (ob := .none) (S := []) rfl (Fresh.nil _) (by simp)
  have hp : (b :: S').Perm (F g ++ F g2) := by rw [q3]; exact q5.cons b
  have hnd : (F g ++ F g2).Nodup := List.nodup_append.2 ⟨(h.fr g).1, (h.fr g2).1, fun x hx y hy e => h.dj g g2 (fun e => hne e.symm) x hx (e ▸ hy)⟩
  refine hk _ _ _ _ _ _ (t1.setO (g := g) (ob := .box b ty (cs.set c (.own d η))) (S := b :: S') ⟨us, S', q1, q4, rfl⟩ ⟨hp.nodup_iff.2 hnd, fun x hx => ?_⟩ (fun g' hg' x hx => ?_))
  · rcases List.mem_append.1 (hp.mem_iff.1 hx) with hx | hx
    · exact (h.fr g).2 x hx
    · exact (h.fr g2).2 x hx
  · split
    · simp
    · rename_i hg2
      intro hh
      rcases List.mem_append.1 (hp.mem_iff.1 hx) with hx | hx
      · exact h.dj g' g hg' x hh hx
      · exact h.dj g' g2 hg2 x hh hx
/-- The k-th cell of a slice, when it holds a slice: a new datum that stands for the same. -/
theorem cutN_rel {B : Nat} {w : World} {ob : Ob} {S : List Nat} {c k sz tyo : Nat} {ds0 : List D} {e : D} {η : Heads} (h : ORel B w ob S) (ho : ob.own c = some (.sl sz tyo ds0, η)) (hk : ds0[k]? = some e) :
    ∃ v Sk, Rep w true e v Sk ∧ (e.isSl = true → η [k] = v) ∧ (∀ x, e = .val x → v = x) ∧ (∀ b ∈ Sk, b ∈ S) ∧ (S.Nodup → Sk.Nodup) ∧ ∀ e' Sk', Rep w true e' v Sk' → ∃ η' S', ORel B w (ob.putOwn c (.sl sz tyo (ds0.set k e')) η') S' ∧ η' [] = η [] ∧ ∃ R, S.Perm (R ++ Sk) ∧ S'.Perm (R ++ Sk') := by
  obtain ⟨u, SA, Sd, SC, e1, a1, a2, a3, a4⟩ := oRel_split h ho
  obtain ⟨vs, T, S', hrow, hrl, rfl⟩ := a2
  obtain ⟨v, SA', Sk, SC', b1, rfl, b3, b4⟩ := repL_split hrl hk
  have hperm : ∀ X : List Nat, (SA ++ (T ++ (SA' ++ X ++ SC')) ++ SC).Perm ((SA ++ (T ++ (SA' ++ [] ++ SC')) ++ SC) ++ X) := fun X => by
    have e1 : SA ++ (T ++ (SA' ++ X ++ SC')) ++ SC = (SA ++ (T ++ SA')) ++ (X ++ (SC' ++ SC)) := by simp
    have e2 : (SA ++ (T ++ (SA' ++ [] ++ SC')) ++ SC) ++ X = (SA ++ (T ++ SA')) ++ ((SC' ++ SC) ++ X) := by simp
    rw [e1, e2]
    exact List.Perm.append_left _ List.perm_append_comm
  refine ⟨v, Sk, b3, fun hs => ?_, fun x hx => ?_, fun b hb => by rw [e1]; simp [hb], fun hnd => ?_, fun e' Sk' hr => ?_⟩
  · rw [a3]
    rcases own_cells hrow with ⟨_, rfl⟩ | ⟨gg, nn, cc, rfl, _, _, hcell, _⟩
    · simp at b1
    · simp only [hdr, hk, Nat.zero_add, hcell k v b1, Option.getD_some]
      exact hdr_nil hs
  · subst hx; exact b3.1
  · rw [e1] at hnd
    exact (List.nodup_append.1 ((hperm Sk).nodup_iff.1 hnd)).2.1
  · have hrep : Rep w true (.sl sz tyo (ds0.set k e')) u (T ++ (SA' ++ Sk' ++ SC')) := ⟨vs, T, _, hrow, b4 _ _ hr, rfl⟩
    refine ⟨fun p => hdr w p (.sl sz tyo (ds0.set k e')) u, _, a4 _ _ _ rfl hrep (fun _ => rfl), by rw [a3]; rfl, _, by rw [e1]; exact hperm Sk, hperm Sk'⟩
/-- The slice in the k-th cell of an own slice becomes an object of its own; its header stays. -/
theorem wk_cutN (g c k g2 : Nat) {sz tyo size ty : Nat} {ds0 cs : List D} {η : Heads} (ho : (s.o g).own c = some (.sl sz tyo ds0, η)) (hk : ds0[k]? = some (.sl size ty cs)) (h2 : s.o g2 = .none) (hne : g2 ≠ g)
    (hK : ∀ η2 η', η' [] = η [] → η2 [] = η [k] → (η [k]).oneCell' = true → WkK ((s.setO g ((s.o g).putOwn c (.sl sz tyo (ds0.set k (.val (η [k])))) η')).setO g2 (.loose (.sl size ty cs) η2)) K) : WkK s K := by
  intro B N w0 w a F h
  obtain ⟨v, Sk, a1, a2, _, a4, a5, a6⟩ := cutN_rel (h.ob g) ho hk
  have hv := a2 rfl
  obtain ⟨η', S', b1, b2, R, b3, b4⟩ := a6 (.val v) [] ⟨rfl, rfl⟩
  rw [List.append_nil] at b4
  have hnd := b3.nodup_iff.1 (h.fr g).1
  have hsub : ∀ b ∈ S', b ∈ F g := fun b hb => b3.mem_iff.2 (List.mem_append.2 (.inl (b4.mem_iff.1 hb)))
  have t1 := h.setO (g := g) b1 ⟨b4.nodup_iff.2 (List.nodup_append.1 hnd).1, fun b hb => (h.fr g).2 b (hsub b hb)⟩ (fun g' hg' b hb hh => h.dj g' g hg' b hh (hsub b hb))
  have t2 := t1.setO (g := g2) (ob := .loose (.sl size ty cs) (fun p => hdr w p (.sl size ty cs) v)) (S := Sk) ⟨rfl, v, a1, fun _ => rfl⟩ ⟨(List.nodup_append.1 hnd).2.1, fun b hb => (h.fr g).2 b (a4 b hb)⟩ (fun g' _ b hb => by
    split
    · exact fun hh => (List.nodup_append.1 hnd).2.2 b (b4.mem_iff.1 hh) b hb rfl
    · rename_i hgg
      exact fun hh => h.dj g' g hgg b hh (a4 b hb))
  have := hK (fun p => hdr w p (.sl size ty cs) v) η' b2 (by rw [hv]; rfl) (by rw [hv]; exact slice_one (rep_form a1))
  rw [hv] at this
  exact this _ _ _ _ _ _ t2
/-- A loose slice goes into a cell of an own slice, where its header lies. -/
theorem wk_graftN (g c k g2 : Nat) {sz tyo size ty : Nat} {ds0 cs : List D} {e : D} {η η2 : Heads} (ho : (s.o g).own c = some (.sl sz tyo ds0, η)) (hk : ds0[k]? = some e) (he : e = .val (η2 []) ∨ e = nilD (some (size, ty)) (η2 [])) (h2 : s.o g2 = .loose (.sl size ty cs) η2) (hne : g2 ≠ g)
    (hK : ∀ η', η' [] = η [] → WkK ((s.setO g2 .none).setO g ((s.o g).putOwn c (.sl sz tyo (ds0.set k (.sl size ty cs))) η')) K) : WkK s K := by
  intro B N w0 w a F h
  have h3 := h.ob g2
  rw [h2] at h3
  obtain ⟨_, u, k2, k3⟩ := h3
  have eu : η2 [] = u := by rw [k3]; rfl
  rw [eu] at he
  obtain ⟨v, Sk, a1, a2, a3, a4, a5, a6⟩ := cutN_rel (h.ob g) ho hk
  have hX : ∃ X, Rep w true (.sl size ty cs) v X ∧ (X = F g2 ∨ X = Sk) := by
    by_cases hn : u = .slice none 0 0 ∧ e = nilD (some (size, ty)) u
    · obtain ⟨hu, he'⟩ := hn
      subst hu
      have hcs : cs = [] := by
        obtain ⟨vs, T, S', hrow, hrl, _⟩ := k2
        rcases own_cells hrow with ⟨_, rfl⟩ | ⟨gg, nn, c2, e2, _⟩
        · exact List.eq_nil_of_length_eq_zero (RepL.length _ hrl).symm
        · cases e2
      subst hcs
      subst he'
      exact ⟨Sk, a1, .inr rfl⟩
    · refine ⟨F g2, ?_, .inl rfl⟩
      have hvu : v = u := by
        rcases he with he | he
        · exact a3 u he
        · refine a3 _ ?_
          by_cases hn' : u = .slice none 0 0
          · exact absurd ⟨hn', he⟩ hn
          · rw [he]
            obtain ⟨A, n, cc, rfl⟩ := rep_form k2
            unfold nilD
            split
            · rename_i e1; exact absurd e1 hn'
            · rfl
      exact hvu ▸ k2
  obtain ⟨X, hX1, hX2⟩ := hX
  obtain ⟨η', S', b1, b2, R, b3, b4⟩ := a6 (.sl size ty cs) X hX1
  have t1 := h.setO (g := g2) (ob := .none) (S := []) rfl (Fresh.nil _) (by simp)
  have hnd := b3.nodup_iff.1 (h.fr g).1
  have hR : ∀ b ∈ R, b ∈ F g := fun b hb => b3.mem_iff.2 (List.mem_append.2 (.inl hb))
  have hX3 : ∀ b ∈ X, b ∈ F g ∨ b ∈ F g2 := fun b hb => by
    rcases hX2 with rfl | rfl
    · exact .inr hb
    · exact .inl (a4 b hb)
  have hnd2 : (R ++ X).Nodup := by
    rcases hX2 with rfl | rfl
    · exact List.nodup_append.2 ⟨(List.nodup_append.1 hnd).1, (h.fr g2).1, fun x hx y hy e => h.dj g g2 (fun e => hne e.symm) x (hR x hx) (e ▸ hy)⟩
    · exact hnd
  refine hK η' b2 _ _ _ _ _ _ (t1.setO (g := g) (ob := (s.o g).putOwn c (.sl sz tyo (ds0.set k (.sl size ty cs))) η') b1 ⟨b4.nodup_iff.2 hnd2, fun x hx => ?_⟩ (fun g' hg' x hx => ?_))
  · rcases List.mem_append.1 (b4.mem_iff.1 hx) with hx | hx
    · exact (h.fr g).2 x (hR x hx)
    · rcases hX3 x hx with hx | hx
      · exact (h.fr g).2 x hx
      · exact (h.fr g2).2 x hx
  · split
    · simp
    · rename_i hg2
      intro hh
      rcases List.mem_append.1 (b4.mem_iff.1 hx) with hx | hx
      · exact h.dj g' g hg' x hh (hR x hx)
      · rcases hX3 x hx with hx | hx
        · exact h.dj g' g hg' x hh hx
        · exact h.dj g' g2 hg2 x hh hx
end
end Go.Proofs.YtnhdcbhcocgjhaaGreat
set_option linter.unusedSimpArgs false
set_option linter.unusedVariables false
set_option maxRecDepth 100000
namespace Go.Proofs.YtnhdcbhcocgjhaaGreat
open Go.RowKit Go.Sort
theorem xorI_b {a b : Int} (ha : 0 ≤ a ∧ a < 4294967296) (hb : 0 ≤ b ∧ b < 4294967296) : 0 ≤ xorI a b ∧ xorI a b < 4294967296 := by
  obtain ⟨a, rfl⟩ := Int.eq_ofNat_of_zero_le ha.1
  obtain ⟨b, rfl⟩ := Int.eq_ofNat_of_zero_le hb.1
  have h1 : a ^^^ b < 2 ^ 32 := Nat.xor_lt_two_pow (by omega) (by omega)
  have h2 : (BitVec.ofInt 64 (a : Int) ^^^ BitVec.ofInt 64 (b : Int)).toNat = a ^^^ b := by
    rw [BitVec.toNat_xor, BitVec.ofInt_natCast, BitVec.ofInt_natCast, BitVec.toNat_ofNat, BitVec.toNat_ofNat, Nat.mod_eq_of_lt (by omega), Nat.mod_eq_of_lt (by omega)]
  rw [xorI, h2, wrap64 (by omega) (by omega)]
  omega
theorem sumBit_b {c : Int} (h : 0 ≤ c ∧ c < 4294967296) : 0 ≤ sumBit c ∧ sumBit c < 4294967296 := by
  have h2 : c.tdiv 2 = c / 2 := Int.tdiv_eq_ediv_of_nonneg h.1
  have h3 : IntKind.i64.wrap (c.tdiv 2) = c / 2 := by rw [h2]; exact wrap64 (by omega) (by omega)
  rw [sumBit, h3]
  split
  · exact xorI_b (by omega) (by omega)
  · omega
theorem iterB_b {c : Int} (h : 0 ≤ c ∧ c < 4294967296) : ∀ n, 0 ≤ iterB n c ∧ iterB n c < 4294967296
  | 0 => h
  | n + 1 => sumBit_b (iterB_b h n)
theorem sumB_b {c : Int} (h : 0 ≤ c ∧ c < 4294967296) (b : UInt8) : 0 ≤ sumB c b ∧ sumB c b < 4294967296 := by
  have := b.toNat_lt
  refine iterB_b (xorI_b h ?_) 8
  rw [wrap64 (by omega) (by omega)]
  omega
theorem sumS_b (b : ByteArray) : 0 ≤ sumS b ∧ sumS b < 4294967296 := by
  refine xorI_b ?_ (by omega)
  have : ∀ (l : List UInt8) (c : Int), 0 ≤ c ∧ c < 4294967296 → 0 ≤ l.foldl sumB c ∧ l.foldl sumB c < 4294967296 := by
    intro l
    induction l with
    | nil => exact fun c h => h
    | cons x l ih => exact fun c h => ih _ (sumB_b h x)
  exact this _ _ (by omega)
def shN (id : Int) : Nat := (shelfI id).toNat
theorem shN_ (id : Int) : shelfI id = (shN id : Int) ∧ shN id < 4 := by
  have h := sumS_b (varS id)
  have h1 : 0 ≤ shelfI id ∧ shelfI id < 4 := by
    unfold shelfI
    split
    · omega
    · rw [Int.tmod_eq_emod_of_nonneg h.1]; omega
  unfold shN
  omega
def layL (prio id : Int) (ids : List Int) (s : List En × Int) : List En × Int := ids.foldl (fun s t => (putL s.1 ⟨prio, s.2, id, t⟩, s.2 + 1)) s
theorem layL_snoc (prio id : Int) (ids : List Int) (t : Int) (s : List En × Int) : layL prio id (ids ++ [t]) s = (putL (layL prio id ids s).1 ⟨prio, (layL prio id ids s).2, id, t⟩, (layL prio id ids s).2 + 1) := by simp [layL]
theorem layL_nil (prio id : Int) (s : List En × Int) : layL prio id [] s = s := rfl
theorem layL_seq (prio id : Int) : ∀ (ids : List Int) (s : List En × Int), (layL prio id ids s).2 = s.2 + ids.length
  | [], s => by simp [layL]
  | t :: ids, s => by
    have := layL_seq prio id ids (putL s.1 ⟨prio, s.2, id, t⟩, s.2 + 1)
    simp only [layL, List.foldl_cons, List.length_cons] at this ⊢
    rw [this]; omega
theorem layL_len (prio id : Int) : ∀ (ids : List Int) (s : List En × Int), (layL prio id ids s).1.length = s.1.length + ids.length
  | [], s => by simp [layL]
  | t :: ids, s => by
    have := layL_len prio id ids (putL s.1 ⟨prio, s.2, id, t⟩, s.2 + 1)
    simp only [layL, List.foldl_cons, List.length_cons] at this ⊢
    rw [this, putL_len]; omega
/-- Stands ready, and did not. -/
def newB (was ts : List Tk) (k : Nat) : Bool := (stT ts k == 2) && !(decide (k < was.length) && (stT was k == 2))
def newL (was ts : List Tk) (k : Nat) : List Int := ((List.range k).filter (newB was ts)).map fun (j : Nat) => (j : Int)
theorem newL_0 (was ts : List Tk) : newL was ts 0 = [] := rfl
theorem newL_s (was ts : List Tk) (k : Nat) : newL was ts (k + 1) = newL was ts k ++ (if newB was ts k then [(k : Int)] else []) := by
  cases h : newB was ts k <;> simp [newL, List.range_succ, h]
theorem newL_len (was ts : List Tk) (k : Nat) : (newL was ts k).length ≤ k := by
  simp only [newL, List.length_map]
  exact Nat.le_trans (List.length_filter_le _ _) (by simp)
/-- A yard in which the tasks ids of r are laid on the run's shelf. -/
def layY (y : Yd) (r : Rn) (ids : List Int) : Yd :=
  let p := layL r.plan.prio r.id ids ((y.shelf[shN r.id]?).getD default, y.seq)
  ⟨y.now, p.2, y.shelf.set (shN r.id) p.1, y.runs⟩
abbrev rnH (r : Rn) (x5 x7 : Value) : List D := [.val (.int .i64 r.id), .val (.int .i64 r.plan.prio), .val (.int .i64 r.plan.most), .val (.int .i64 r.plan.wait), .val (.int .i64 r.plan.tasks), nilD (some (2, tEd)) x5, .val (.int .i64 r.state), nilD (some (4, tTk)) x7]
abbrev RnBoxH (b ty : Nat) (r : Rn) (x5 x7 : Value) : Ob := .box b ty [.a (.v (.int .i64 r.id)), .a (.v (.int .i64 r.plan.prio)), .a (.v (.int .i64 r.plan.most)), .a (.v (.int .i64 r.plan.wait)), .a (.v (.int .i64 r.plan.tasks)), .a (.v x5), .a (.v (.int .i64 r.state)), .a (.v x7)]
abbrev YdBoxD (b ty : Nat) (now seq : Int) (sh : List (List En)) (e1 : Heads) (d : D) (e2 : Heads) : Ob := .box b ty [.a (.v (.int .i64 now)), .a (.v (.int .i64 seq)), .own (encSh sh) e1, .own d e2]
theorem put_sh1 {sh : List (List En)} {n : Nat} (l : List En) : D.put [] n [encEns l] (encSh sh) = encSh (sh.set n l) := by
  simp only [encSh, D.put, setAt, sh_map, List.map_set]
theorem mem_flat_le {α : Type} {l : List α} : ∀ {L : List (List α)}, l ∈ L → l.length ≤ L.flatten.length
  | [], h => by simp at h
  | x :: L, h => by
    rcases List.mem_cons.1 h with rfl | h
    · simp
    · have := mem_flat_le h
      simp only [List.flatten_cons, List.length_append]; omega
theorem shelf2_le {y : Yd} (ht : totYd y ≤ 2000000) {l : List En} (h : l ∈ y.shelf) : l.length ≤ 2000000 := Nat.le_trans (mem_flat_le h) (shelf_flat ht)
theorem rns_len (l : List Rn) : (l.flatMap encRn).length = l.length * 8 := len_flat (enc := encRn) (fun _ => rfl) l
end Go.Proofs.YtnhdcbhcocgjhaaGreat
set_option linter.unusedSimpArgs false
set_option linter.unusedVariables false
set_option maxRecDepth 100000
namespace Go.Proofs.YtnhdcbhcocgjhaaGreat
open Go.RowKit Go.Sort
def c_spec_l10Lay : C := .seq (.reg [⟨some 3, none, .box 30 4 (.t 0)⟩, ⟨some 4, none, .box 80 8 (.t 1)⟩, ⟨some 5, none, .box 80 8 (.t 2)⟩, ⟨some 6, none, .alloc 30 [.int .i64 0, .int .i64 0, .slice none 0 0, .slice none 0 0]⟩]) (.seq (.reg [⟨some 9, none, .fa 0 (.t 5)⟩, ⟨some 10, none, .ld false 1 (.t 9)⟩, ⟨some 11, none, .call 164 [.t 10]⟩, ⟨some 7, none, .mov (.t 11)⟩]) (.seq (.seq (.reg [⟨some 8, none, .mov (.c (.int .i64 0))⟩]) (.blk 0 (.loop (.seq (.seq (.reg [⟨some 12, none, .mov (.t 8)⟩, ⟨some 13, none, .fa 7 (.t 5)⟩, ⟨some 14, none, .ld false 1 (.t 13)⟩, ⟨some 15, none, .len false (.t 14)⟩, ⟨some 16, none, .bin .lss 3 (.t 12) (.t 15)⟩]) (.cond (.t 16) .skip (.exit 0))) (.seq (.blk 1 (.seq (.seq (.reg [⟨some 19, none, .fa 7 (.t 5)⟩, ⟨some 20, none, .ld false 1 (.t 19)⟩, ⟨some 21, none, .mov (.t 8)⟩, ⟨some 22, none, .ia 4 (.t 20) (.t 21)⟩, ⟨some 23, none, .fa 0 (.t 22)⟩, ⟨some 24, none, .ld false 1 (.t 23)⟩, ⟨some 25, none, .bin .neq 3 (.t 24) (.c (.int .i64 2))⟩, ⟨some 26, none, .mov (.t 25)⟩, ⟨some 27, some (26, false), .mov (.t 8)⟩, ⟨some 28, some (26, false), .fa 7 (.t 4)⟩, ⟨some 29, some (26, false), .ld false 1 (.t 28)⟩, ⟨some 30, some (26, false), .len false (.t 29)⟩, ⟨some 31, some (26, false), .bin .lss 3 (.t 27) (.t 30)⟩, ⟨some 32, some (26, false), .mov (.t 31)⟩, ⟨some 33, some (32, true), .fa 7 (.t 4)⟩, ⟨some 34, some (32, true), .ld false 1 (.t 33)⟩, ⟨some 35, some (32, true), .mov (.t 8)⟩, ⟨some 36, some (32, true), .ia 4 (.t 34) (.t 35)⟩, ⟨some 37, some (32, true), .fa 0 (.t 36)⟩, ⟨some 38, some (32, true), .ld false 1 (.t 37)⟩, ⟨some 39, some (32, true), .bin .eql 3 (.t 38) (.c (.int .i64 2))⟩, ⟨some 40, some (26, false), .pick (.t 32) (.t 39) (.c (.bool false))⟩, ⟨some 41, none, .pick (.t 26) (.c (.bool true)) (.t 40)⟩]) (.cond (.t 41) (.exit 1) .skip)) (.seq (.dreg (T.pure 0 ⟨some 42, none, .fa 2 (.t 3)⟩ (T.pure 1 ⟨some 43, none, .ld false 1 (.t 42)⟩ (T.pure 2 ⟨some 44, none, .mov (.t 7)⟩ (T.pure 3 ⟨some 45, none, .fa 2 (.t 3)⟩ (T.pure 4 ⟨some 46, none, .ld false 1 (.t 45)⟩ (T.pure 5 ⟨some 47, none, .mov (.t 7)⟩ (T.pure 6 ⟨some 48, none, .ia 1 (.t 46) (.t 47)⟩ (T.pure 7 ⟨some 49, none, .ld false 1 (.t 48)⟩ (T.pure 8 ⟨some 50, none, .fa 1 (.t 5)⟩ (T.pure 9 ⟨some 51, none, .fa 0 (.t 50)⟩ (T.pure 10 ⟨some 52, none, .ld false 1 (.t 51)⟩ (T.pure 11 ⟨some 53, none, .fa 1 (.t 3)⟩ (T.pure 12 ⟨some 54, none, .ld false 1 (.t 53)⟩ (T.pure 13 ⟨some 55, none, .fa 0 (.t 5)⟩ (T.pure 14 ⟨some 56, none, .ld false 1 (.t 55)⟩ (T.pure 15 ⟨some 57, none, .mov (.t 8)⟩ (T.pure 16 ⟨some 58, none, .bld [.int .i64 0, .int .i64 0, .int .i64 0, .int .i64 0] [(0, 1, .t 52), (1, 1, .t 54), (2, 1, .t 56), (3, 1, .t 57)]⟩ (T.alt ⟨some 59, none, .call 143 [.t 49, .t 58]⟩ [2, 1, 0] (T.pure 18 ⟨some 60, none, .ia 1 (.t 43) (.t 44)⟩ (T.alt ⟨none, none, .st 1 [some (4, 108)] (.t 60) (.t 59)⟩ [] T.done T.stop)) T.stop))))))))))))))))))) (.reg [⟨some 61, none, .fa 1 (.t 3)⟩, ⟨some 62, none, .ld false 1 (.t 61)⟩, ⟨some 63, none, .bin .add 3 (.t 62) (.c (.int .i64 1))⟩, ⟨some 64, none, .fa 1 (.t 3)⟩, ⟨none, none, .st 1 [none] (.t 64) (.t 63)⟩])))) (.reg [⟨some 17, none, .mov (.t 8)⟩, ⟨some 18, none, .bin .add 3 (.t 17) (.c (.int .i64 1))⟩, ⟨some 8, none, .mov (.t 18)⟩])))))) (.seq (.reg [⟨some 65, none, .ld true 4 (.t 3)⟩, ⟨none, none, .st 4 [none, none, some (1, 103), some (8, 80)] (.t 6) (.t 65)⟩]) .ret)))
theorem code_spec_l10Lay : fnC Tryz.prog Tryz.f107 = some (c_spec_l10Lay, [.cell 6 true 4], 66) := by kernel_rfl
end Go.Proofs.YtnhdcbhcocgjhaaGreat
set_option linter.unusedSimpArgs false
set_option linter.unusedVariables false
set_option maxRecDepth 100000
namespace Go.Proofs.YtnhdcbhcocgjhaaGreat
open Go.RowKit Go.Sort
def c_impl_stock : C := .seq (.reg [⟨some 4, none, .box 80 8 (.t 1)⟩]) (.seq (.reg [⟨some 9, none, .fa 0 (.t 4)⟩, ⟨some 10, none, .ld false 1 (.t 9)⟩, ⟨some 11, none, .call 170 [.t 10]⟩, ⟨some 6, none, .mov (.t 11)⟩]) (.seq (.reg [⟨some 12, none, .mov (.t 2)⟩, ⟨some 13, none, .len false (.t 12)⟩, ⟨some 14, none, .mov (.c (.int .i64 0))⟩]) (.blk 0 (.loop (.seq (.reg [⟨some 15, none, .bin .lss 3 (.t 14) (.t 13)⟩]) (.seq (.cond (.t 15) .skip (.exit 0)) (.seq (.blk 1 (.seq (.reg [⟨some 16, none, .ia 1 (.t 12) (.t 14)⟩, ⟨some 17, none, .ld false 1 (.t 16)⟩, ⟨some 8, none, .mov (.t 17)⟩]) (.seq (.dreg (T.pure 0 ⟨some 18, none, .mov (.t 0)⟩ (T.pure 1 ⟨some 19, none, .fa 0 (.t 18)⟩ (T.pure 2 ⟨some 20, none, .fa 2 (.t 19)⟩ (T.pure 3 ⟨some 21, none, .ld false 1 (.t 20)⟩ (T.pure 4 ⟨some 22, none, .mov (.t 6)⟩ (T.pure 5 ⟨some 23, none, .mov (.t 0)⟩ (T.pure 6 ⟨some 24, none, .fa 0 (.t 23)⟩ (T.pure 7 ⟨some 25, none, .fa 2 (.t 24)⟩ (T.pure 8 ⟨some 26, none, .ld false 1 (.t 25)⟩ (T.pure 9 ⟨some 27, none, .mov (.t 6)⟩ (T.pure 10 ⟨some 28, none, .ia 1 (.t 26) (.t 27)⟩ (T.pure 11 ⟨some 29, none, .ld false 1 (.t 28)⟩ (T.pure 12 ⟨some 30, none, .fa 1 (.t 4)⟩ (T.pure 13 ⟨some 31, none, .fa 0 (.t 30)⟩ (T.pure 14 ⟨some 32, none, .ld false 1 (.t 31)⟩ (T.pure 15 ⟨some 33, none, .mov (.t 0)⟩ (T.pure 16 ⟨some 34, none, .fa 0 (.t 33)⟩ (T.pure 17 ⟨some 35, none, .fa 1 (.t 34)⟩ (T.pure 18 ⟨some 36, none, .ld false 1 (.t 35)⟩ (T.pure 19 ⟨some 37, none, .fa 0 (.t 4)⟩ (T.pure 20 ⟨some 38, none, .ld false 1 (.t 37)⟩ (T.pure 21 ⟨some 39, none, .mov (.t 8)⟩ (T.pure 22 ⟨some 40, none, .bld [.int .i64 0, .int .i64 0, .int .i64 0, .int .i64 0] [(0, 1, .t 32), (1, 1, .t 36), (2, 1, .t 38), (3, 1, .t 39)]⟩ (T.alt ⟨some 41, none, .call 147 [.t 29, .t 40]⟩ [4, 3, 2, 1, 0] (T.pure 24 ⟨some 42, none, .ia 1 (.t 21) (.t 22)⟩ (T.alt ⟨none, none, .st 1 [some (4, 108)] (.t 42) (.t 41)⟩ [] T.done T.stop)) T.stop))))))))))))))))))))))))) (.reg [⟨some 43, none, .mov (.t 0)⟩, ⟨some 44, none, .fa 0 (.t 43)⟩, ⟨some 45, none, .fa 1 (.t 44)⟩, ⟨some 46, none, .ld false 1 (.t 45)⟩, ⟨some 47, none, .bin .add 3 (.t 46) (.c (.int .i64 1))⟩, ⟨some 48, none, .fa 0 (.t 43)⟩, ⟨some 49, none, .fa 1 (.t 48)⟩, ⟨none, none, .st 1 [none] (.t 49) (.t 47)⟩])))) (.reg [⟨some 50, none, .bin .add 3 (.t 14) (.c (.int .i64 1))⟩, ⟨some 14, none, .mov (.t 50)⟩]))))))))
theorem code_impl_stock : fnC Tryz.prog Tryz.f117 = some (c_impl_stock, [], 51) := by kernel_rfl
theorem tsum_set_eq {α : Type} {f : α → Nat} (v : α) : ∀ {l : List α} {k : Nat} {x : α}, l[k]? = some x → tsum f (l.set k v) + f x = tsum f l + f v
  | [], _, _, h => by simp at h
  | y :: l, 0, x, h => by
    simp at h; subst h
    simp only [tsum, List.set_cons_zero, List.map_cons, List.sum_cons]; omega
  | y :: l, k + 1, x, h => by
    have := tsum_set_eq (f := f) v (l := l) (k := k) (by simpa using h)
    simp only [tsum, List.set_cons_succ, List.map_cons, List.sum_cons] at this ⊢
    omega
theorem tot_lay {y : Yd} {r : Rn} {ids : List Int} : totYd (layY y r ids) ≤ totYd y + ids.length := by
  have h4 : ∀ l : List En, totEnS l = l.length := fun _ => rfl
  cases h : y.shelf[shN r.id]? with
  | none =>
    have : y.shelf.set (shN r.id) (layL r.plan.prio r.id ids ((y.shelf[shN r.id]?).getD default, y.seq)).1 = y.shelf := List.set_eq_of_length_le (List.getElem?_eq_none_iff.1 h)
    simp only [totYd, totSh, layY, this]; omega
  | some l =>
    have h1 := layL_len r.plan.prio r.id ids ((y.shelf[shN r.id]?).getD default, y.seq)
    have h2 := tsum_set_eq (f := totEnS) (layL r.plan.prio r.id ids ((y.shelf[shN r.id]?).getD default, y.seq)).1 h
    simp only [totYd, totSh, layY, List.length_set] at *
    rw [h4, h4] at h2
    rw [h, Option.getD_some] at *
    omega
end Go.Proofs.YtnhdcbhcocgjhaaGreat
