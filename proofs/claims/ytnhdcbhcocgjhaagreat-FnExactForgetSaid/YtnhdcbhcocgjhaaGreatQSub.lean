/- Texts for laws: Sub, Holds, Told, TurnP. -/
import Derived.Test.YtnhdcbhcocgjhaaGreatQFresh
import Derived.Test.YtnhdcbhcocgjhaaGreatQHole
import Derived.Test.YtnhdcbhcocgjhaaGreatQPut
import Derived.Test.YtnhdcbhcocgjhaaGreatQRet2
import Derived.Test.YtnhdcbhcocgjhaaGreatQSlots2
import Derived.Test.YtnhdcbhcocgjhaaGreatQYardB
set_option linter.unusedSimpArgs false
set_option linter.unusedVariables false
namespace Go.Proofs.YtnhdcbhcocgjhaaGreat
open Go.RowKit Go.Sort
section
variable {P : Program} {β : Nat} {s : St} {K : St → Prop} {Q : Ex → St → Prop}
theorem wp_gk {a : C} (h : WkK s (wpC P β a Q)) : wpC P β (.gh a) Q s := h
theorem WkK.of {K : St → Prop} (h : K s) : WkK s K := fun _ _ _ _ _ F hr => ⟨s, F, hr, h⟩
theorem WkK.wk {s' : St} (h : Wk s s') (hk : WkK s' K) : WkK s K := fun B N w0 w a F hr => let ⟨F', h1, _⟩ := h B N w0 w a F hr; hk B N w0 w a F' h1
theorem slice_one {u : Value} (h : ∃ A n c, u = .slice A n c) : u.oneCell' = true := by obtain ⟨_, _, _, rfl⟩ := h; rfl
theorem isSl_form {w : World} {own : Bool} {d : D} {u : Value} {S : List Nat} (hd : d.isSl = true) (h : Rep w own d u S) : ∃ A n c, u = .slice A n c := by
  cases d with
  | val _ => cases hd
  | sl _ _ _ => exact rep_form h
/-- An own slice becomes an object of its own; its header stays. -/
theorem wk_cut0 (g c g2 : Nat) {d : D} {η : Heads} (ho : (s.o g).own c = some (d, η)) (h2 : s.o g2 = .none) (hne : g2 ≠ g) (hk : (η []).oneCell' = true → WkK ((s.rm g c).setO g2 (.loose d η)) K) : WkK s K := by
  intro B N w0 w a F h
  obtain ⟨u, S, F', j1, j2, j3, j4, j5, j6, j7, j8⟩ := h.rm ho
  have e : η [] = u := by rw [j3, hdr_nil j1]
  exact hk (e ▸ slice_one (isSl_form j1 j2)) _ _ _ _ _ _ (j5.setO (g := g2) (ob := .loose d η) (S := S) ⟨j1, u, j2, j3⟩ j4 (fun g' _ b hb => j6 g' b hb))
theorem cRel_put {B : Nat} {w : World} {d : D} {η : Heads} {u : Value} {S2 : List Nat} (hd : d.isSl = true) (hr : Rep w true d u S2) (hh : ∀ p, η p = hdr w p d u) : ∀ {c : Nat} {l : List Cell} {us : List Value} {S : List Nat}, CRel B w l us S → l[c]? = some (.a (.v u)) →
    ∃ S', CRel B w (l.set c (.own d η)) us S' ∧ S'.Perm (S ++ S2)
  | _, [], _, _, _, h => by simp at h
  | 0, .a x :: l, _, S, ⟨v, us', rfl, h1, h2⟩, h => by
    simp at h; subst h
    have : v = u := h1
    subst this
    exact ⟨S2 ++ S, ⟨v, us', S2, S, rfl, rfl, hd, hr, hh, h2⟩, List.perm_append_comm⟩
  | 0, .own e ε :: l, _, _, _, h => by simp at h
  | c + 1, .a x :: l, _, S, ⟨v, us', rfl, h1, h2⟩, h => by
    simp at h
    obtain ⟨S', a1, a2⟩ := cRel_put hd hr hh h2 h
    exact ⟨S', ⟨v, us', rfl, h1, a1⟩, a2⟩
  | c + 1, .own e ε :: l, _, _, ⟨v, us', T1, T2, rfl, rfl, h1, h2, h3, h4⟩, h => by
    simp at h
    obtain ⟨S', a1, a2⟩ := cRel_put hd hr hh h4 h
    exact ⟨T1 ++ S', ⟨v, us', T1, S', rfl, rfl, h1, h2, h3, a1⟩, by rw [List.append_assoc]; exact List.Perm.append_left _ a2⟩
/-- A loose slice goes into a box, where its header lies. -/
theorem wk_graft0 (g c g2 : Nat) {b ty : Nat} {cs : List Cell} {d : D} {η : Heads} (hb : s.o g = .box b ty cs) (hc : cs[c]? = some (.a (.v (η [])))) (h2 : s.o g2 = .loose d η) (hk : WkK ((s.setO g2 .none).setO g (.box b ty (cs.set c (.own d η)))) K) : WkK s K := by
  intro B N w0 w a F h
  have hne : g2 ≠ g := fun e => by rw [e, hb] at h2; cases h2
  have h3 := h.ob g2
  rw [h2] at h3
  obtain ⟨k1, u, k2, k3⟩ := h3
  have e : η [] = u := by rw [k3, hdr_nil k1]
  rw [e] at hc
  have h4 := h.ob g
  rw [hb] at h4
  obtain ⟨us, S1, q1, q2, q3⟩ := h4
  obtain ⟨S', q4, q5⟩ := cRel_put k1 k2 k3 q2 hc
  have t1 := h.setO (g := g2) (ob := .none) (S := []) rfl (Fresh.nil _) (by simp)
  have hp : (b :: S').Perm (F g ++ F g2) := by rw [q3]; exact q5.cons b
  have hnd : (F g ++ F g2).Nodup := List.nodup_append.2 ⟨(h.fr g).1, (h.fr g2).1, fun x hx y hy e => h.dj g g2 (fun e => hne e.symm) x hx (e ▸ hy)⟩
  refine hk _ _ _ _ _ _ (t1.setO (g := g) (ob := .box b ty (cs.set c (.own d η))) (S := b :: S') ⟨us, S', q1, q4, rfl⟩ ⟨hp.nodup_iff.2 hnd, fun x hx => ?_⟩ (fun g' hg' x hx => ?_))
  · rcases List.mem_append.1 (hp.mem_iff.1 hx) with hx | hx
    · exact (h.fr g).2 x hx
    · exact (h.fr g2).2 x hx
  · split
    · simp
    · rename_i hg2
      intro hh
      rcases List.mem_append.1 (hp.mem_iff.1 hx) with hx | hx
      · exact h.dj g' g hg' x hh hx
      · exact h.dj g' g2 hg2 x hh hx
/-- The k-th cell of a slice, when it holds a slice: a new datum that stands for the same. -/
theorem cutN_rel {B : Nat} {w : World} {ob : Ob} {S : List Nat} {c k sz tyo : Nat} {ds0 : List D} {e : D} {η : Heads} (h : ORel B w ob S) (ho : ob.own c = some (.sl sz tyo ds0, η)) (hk : ds0[k]? = some e) :
    ∃ v Sk, Rep w true e v Sk ∧ (e.isSl = true → η [k] = v) ∧ (∀ x, e = .val x → v = x) ∧ (∀ b ∈ Sk, b ∈ S) ∧ (S.Nodup → Sk.Nodup) ∧ ∀ e' Sk', Rep w true e' v Sk' → ∃ η' S', ORel B w (ob.putOwn c (.sl sz tyo (ds0.set k e')) η') S' ∧ η' [] = η [] ∧ ∃ R, S.Perm (R ++ Sk) ∧ S'.Perm (R ++ Sk') := by
  obtain ⟨u, SA, Sd, SC, e1, a1, a2, a3, a4⟩ := oRel_split h ho
  obtain ⟨vs, T, S', hrow, hrl, rfl⟩ := a2
  obtain ⟨v, SA', Sk, SC', b1, rfl, b3, b4⟩ := repL_split hrl hk
  have hperm : ∀ X : List Nat, (SA ++ (T ++ (SA' ++ X ++ SC')) ++ SC).Perm ((SA ++ (T ++ (SA' ++ [] ++ SC')) ++ SC) ++ X) := fun X => by
    have e1 : SA ++ (T ++ (SA' ++ X ++ SC')) ++ SC = (SA ++ (T ++ SA')) ++ (X ++ (SC' ++ SC)) := by simp
    have e2 : (SA ++ (T ++ (SA' ++ [] ++ SC')) ++ SC) ++ X = (SA ++ (T ++ SA')) ++ ((SC' ++ SC) ++ X) := by simp
    rw [e1, e2]
    exact List.Perm.append_left _ List.perm_append_comm
  refine ⟨v, Sk, b3, fun hs => ?_, fun x hx => ?_, fun b hb => by rw [e1]; simp [hb], fun hnd => ?_, fun e' Sk' hr => ?_⟩
  · rw [a3]
    rcases own_cells hrow with ⟨_, rfl⟩ | ⟨gg, nn, cc, rfl, _, _, hcell, _⟩
    · simp at b1
    · simp only [hdr, hk, Nat.zero_add, hcell k v b1, Option.getD_some]
      exact hdr_nil hs
  · subst hx; exact b3.1
  · rw [e1] at hnd
    exact (List.nodup_append.1 ((hperm Sk).nodup_iff.1 hnd)).2.1
  · have hrep : Rep w true (.sl sz tyo (ds0.set k e')) u (T ++ (SA' ++ Sk' ++ SC')) := ⟨vs, T, _, hrow, b4 _ _ hr, rfl⟩
    refine ⟨fun p => hdr w p (.sl sz tyo (ds0.set k e')) u, _, a4 _ _ _ rfl hrep (fun _ => rfl), by rw [a3]; rfl, _, by rw [e1]; exact hperm Sk, hperm Sk'⟩
/-- The slice in the k-th cell of an own slice becomes an object of its own; its header stays. -/
theorem wk_cutN (g c k g2 : Nat) {sz tyo size ty : Nat} {ds0 cs : List D} {η : Heads} (ho : (s.o g).own c = some (.sl sz tyo ds0, η)) (hk : ds0[k]? = some (.sl size ty cs)) (h2 : s.o g2 = .none) (hne : g2 ≠ g)
    (hK : ∀ η2 η', η' [] = η [] → η2 [] = η [k] → (η [k]).oneCell' = true → WkK ((s.setO g ((s.o g).putOwn c (.sl sz tyo (ds0.set k (.val (η [k])))) η')).setO g2 (.loose (.sl size ty cs) η2)) K) : WkK s K := by
  intro B N w0 w a F h
  obtain ⟨v, Sk, a1, a2, _, a4, a5, a6⟩ := cutN_rel (h.ob g) ho hk
  have hv := a2 rfl
  obtain ⟨η', S', b1, b2, R, b3, b4⟩ := a6 (.val v) [] ⟨rfl, rfl⟩
  rw [List.append_nil] at b4
  have hnd := b3.nodup_iff.1 (h.fr g).1
  have hsub : ∀ b ∈ S', b ∈ F g := fun b hb => b3.mem_iff.2 (List.mem_append.2 (.inl (b4.mem_iff.1 hb)))
  have t1 := h.setO (g := g) b1 ⟨b4.nodup_iff.2 (List.nodup_append.1 hnd).1, fun b hb => (h.fr g).2 b (hsub b hb)⟩ (fun g' hg' b hb hh => h.dj g' g hg' b hh (hsub b hb))
  have t2 := t1.setO (g := g2) (ob := .loose (.sl size ty cs) (fun p => hdr w p (.sl size ty cs) v)) (S := Sk) ⟨rfl, v, a1, fun _ => rfl⟩ ⟨(List.nodup_append.1 hnd).2.1, fun b hb => (h.fr g).2 b (a4 b hb)⟩ (fun g' _ b hb => by
    split
    · exact fun hh => (List.nodup_append.1 hnd).2.2 b (b4.mem_iff.1 hh) b hb rfl
    · rename_i hgg
      exact fun hh => h.dj g' g hgg b hh (a4 b hb))
  have := hK (fun p => hdr w p (.sl size ty cs) v) η' b2 (by rw [hv]; rfl) (by rw [hv]; exact slice_one (rep_form a1))
  rw [hv] at this
  exact this _ _ _ _ _ _ t2
/-- A loose slice goes into a cell of an own slice, where its header lies. -/
theorem wk_graftN (g c k g2 : Nat) {sz tyo size ty : Nat} {ds0 cs : List D} {e : D} {η η2 : Heads} (ho : (s.o g).own c = some (.sl sz tyo ds0, η)) (hk : ds0[k]? = some e) (he : e = .val (η2 []) ∨ e = nilD (some (size, ty)) (η2 [])) (h2 : s.o g2 = .loose (.sl size ty cs) η2) (hne : g2 ≠ g)
    (hK : ∀ η', η' [] = η [] → WkK ((s.setO g2 .none).setO g ((s.o g).putOwn c (.sl sz tyo (ds0.set k (.sl size ty cs))) η')) K) : WkK s K := by
  intro B N w0 w a F h
  have h3 := h.ob g2
  rw [h2] at h3
  obtain ⟨_, u, k2, k3⟩ := h3
  have eu : η2 [] = u := by rw [k3]; rfl
  rw [eu] at he
  obtain ⟨v, Sk, a1, a2, a3, a4, a5, a6⟩ := cutN_rel (h.ob g) ho hk
  have hX : ∃ X, Rep w true (.sl size ty cs) v X ∧ (X = F g2 ∨ X = Sk) := by
    by_cases hn : u = .slice none 0 0 ∧ e = nilD (some (size, ty)) u
    · obtain ⟨hu, he'⟩ := hn
      subst hu
      have hcs : cs = [] := by
        obtain ⟨vs, T, S', hrow, hrl, _⟩ := k2
        rcases own_cells hrow with ⟨_, rfl⟩ | ⟨gg, nn, c2, e2, _⟩
        · exact List.eq_nil_of_length_eq_zero (RepL.length _ hrl).symm
        · cases e2
      subst hcs
      subst he'
      exact ⟨Sk, a1, .inr rfl⟩
    · refine ⟨F g2, ?_, .inl rfl⟩
      have hvu : v = u := by
        rcases he with he | he
        · exact a3 u he
        · refine a3 _ ?_
          by_cases hn' : u = .slice none 0 0
          · exact absurd ⟨hn', he⟩ hn
          · rw [he]
            obtain ⟨A, n, cc, rfl⟩ := rep_form k2
            unfold nilD
            split
            · rename_i e1; exact absurd e1 hn'
            · rfl
      exact hvu ▸ k2
  obtain ⟨X, hX1, hX2⟩ := hX
  obtain ⟨η', S', b1, b2, R, b3, b4⟩ := a6 (.sl size ty cs) X hX1
  have t1 := h.setO (g := g2) (ob := .none) (S := []) rfl (Fresh.nil _) (by simp)
  have hnd := b3.nodup_iff.1 (h.fr g).1
  have hR : ∀ b ∈ R, b ∈ F g := fun b hb => b3.mem_iff.2 (List.mem_append.2 (.inl hb))
  have hX3 : ∀ b ∈ X, b ∈ F g ∨ b ∈ F g2 := fun b hb => by
    rcases hX2 with rfl | rfl
    · exact .inr hb
    · exact .inl (a4 b hb)
  have hnd2 : (R ++ X).Nodup := by
    rcases hX2 with rfl | rfl
    · exact List.nodup_append.2 ⟨(List.nodup_append.1 hnd).1, (h.fr g2).1, fun x hx y hy e => h.dj g g2 (fun e => hne e.symm) x (hR x hx) (e ▸ hy)⟩
    · exact hnd
  refine hK η' b2 _ _ _ _ _ _ (t1.setO (g := g) (ob := (s.o g).putOwn c (.sl sz tyo (ds0.set k (.sl size ty cs))) η') b1 ⟨b4.nodup_iff.2 hnd2, fun x hx => ?_⟩ (fun g' hg' x hx => ?_))
  · rcases List.mem_append.1 (b4.mem_iff.1 hx) with hx | hx
    · exact (h.fr g).2 x (hR x hx)
    · rcases hX3 x hx with hx | hx
      · exact (h.fr g).2 x hx
      · exact (h.fr g2).2 x hx
  · split
    · simp
    · rename_i hg2
      intro hh
      rcases List.mem_append.1 (b4.mem_iff.1 hx) with hx | hx
      · exact h.dj g' g hg' x hh (hR x hx)
      · rcases hX3 x hx with hx | hx
        · exact h.dj g' g hg' x hh hx
        · exact h.dj g' g2 hg2 x hh hx
end
end Go.Proofs.YtnhdcbhcocgjhaaGreat
set_option linter.unusedSimpArgs false
set_option linter.unusedVariables false
set_option maxRecDepth 100000
namespace Go.Proofs.YtnhdcbhcocgjhaaGreat
open Go.RowKit Go.Sort
abbrev YdBoxD (b ty : Nat) (now seq : Int) (sh : List (List En)) (e1 : Heads) (d : D) (e2 : Heads) : Ob := .box b ty [.a (.v (.int .i64 now)), .a (.v (.int .i64 seq)), .own (encSh sh) e1, .own d e2]
theorem put_sh1 {sh : List (List En)} {n : Nat} (l : List En) : D.put [] n [encEns l] (encSh sh) = encSh (sh.set n l) := by
  simp only [encSh, D.put, setAt, sh_map, List.map_set]
theorem mem_flat_le {α : Type} {l : List α} : ∀ {L : List (List α)}, l ∈ L → l.length ≤ L.flatten.length
  | [], h => by simp at h
  | x :: L, h => by
    rcases List.mem_cons.1 h with rfl | h
    · simp
    · have := mem_flat_le h
      simp only [List.flatten_cons, List.length_append]; omega
theorem shelf2_le {y : Yd} (ht : totYd y ≤ 2000000) {l : List En} (h : l ∈ y.shelf) : l.length ≤ 2000000 := Nat.le_trans (mem_flat_le h) (shelf_flat ht)
theorem rns_len (l : List Rn) : (l.flatMap encRn).length = l.length * 8 := len_flat (enc := encRn) (fun _ => rfl) l
end Go.Proofs.YtnhdcbhcocgjhaaGreat
set_option linter.unusedSimpArgs false
set_option linter.unusedVariables false
set_option maxRecDepth 100000
namespace Go.Proofs.YtnhdcbhcocgjhaaGreat
open Go.RowKit Go.Sort
end Go.Proofs.YtnhdcbhcocgjhaaGreat
set_option linter.unusedSimpArgs false
set_option linter.unusedVariables false
set_option maxRecDepth 100000
namespace Go.Proofs.YtnhdcbhcocgjhaaGreat
open Go.RowKit Go.Sort
theorem tsum_set_eq {α : Type} {f : α → Nat} (v : α) : ∀ {l : List α} {k : Nat} {x : α}, l[k]? = some x → tsum f (l.set k v) + f x = tsum f l + f v
  | [], _, _, h => by simp at h
  | y :: l, 0, x, h => by
    simp at h; subst h
    simp only [tsum, List.set_cons_zero, List.map_cons, List.sum_cons]; omega
  | y :: l, k + 1, x, h => by
    have := tsum_set_eq (f := f) v (l := l) (k := k) (by simpa using h)
    simp only [tsum, List.set_cons_succ, List.map_cons, List.sum_cons] at this ⊢
    omega
end Go.Proofs.YtnhdcbhcocgjhaaGreat
namespace Go.Proofs.YtnhdcbhcocgjhaaGreat
open Go.RowKit Go.Sort Go.BigFrame

end Go.Proofs.YtnhdcbhcocgjhaaGreat
set_option linter.unusedSimpArgs false
set_option linter.unusedVariables false
set_option maxRecDepth 100000
namespace Go.Proofs.YtnhdcbhcocgjhaaGreat
open Go.RowKit Go.Sort
end Go.Proofs.YtnhdcbhcocgjhaaGreat
set_option linter.unusedSimpArgs false
set_option linter.unusedVariables false
set_option maxRecDepth 100000
namespace Go.Proofs.YtnhdcbhcocgjhaaGreat
open Go.RowKit Go.Sort
/-- Runs of which the k-th row is this. -/
def rnsR (l : List Rn) (k : Nat) (row : List D) : List D := (l.take k).flatMap encRn ++ (row ++ (l.drop (k + 1)).flatMap encRn)
abbrev rnV (r : Rn) (x5 x7 : Value) : List D := [.val (.int .i64 r.id), .val (.int .i64 r.plan.prio), .val (.int .i64 r.plan.most), .val (.int .i64 r.plan.wait), .val (.int .i64 r.plan.tasks), .val x5, .val (.int .i64 r.state), .val x7]
section
variable {l : List Rn} {k : Nat} {r : Rn} {row row' : List D}
theorem rns_len_take (hk : k < l.length) : ((l.take k).flatMap encRn).length = k * 8 := by rw [rns_len, List.length_take, Nat.min_eq_left (Nat.le_of_lt hk)]
theorem rnsR_enc (h : l[k]? = some r) : l.flatMap encRn = rnsR l k (encRn r) := split_flat (enc := encRn) h
theorem rnsR_get (hk : k < l.length) (j : Nat) (hj : j < row.length) : (rnsR l k row)[k * 8 + j]? = row[j]? := by
  rw [rnsR, List.getElem?_append_right (by rw [rns_len_take hk]; omega), rns_len_take hk, Nat.add_sub_cancel_left, List.getElem?_append_left hj]
theorem rnsR_set (hk : k < l.length) (j : Nat) (hj : j < row.length) (d : D) : (rnsR l k row).set (k * 8 + j) d = rnsR l k (row.set j d) := by
  rw [rnsR, List.set_append_right _ _ (by rw [rns_len_take hk]; omega), rns_len_take hk, Nat.add_sub_cancel_left, List.set_append_left _ _ hj]; rfl
theorem rnsR_rn (hk : k < l.length) : D.sl 8 tRn (rnsR l k (encRn r)) = encRns (l.set k r) := by
  have h1 : (l.set k r)[k]? = some r := List.getElem?_set_self hk
  have h2 := rnsR_enc h1
  have h3 : rnsR (l.set k r) k (encRn r) = rnsR l k (encRn r) := by
    rw [rnsR, rnsR, List.take_set_of_le (Nat.le_refl _), List.drop_set_of_lt (Nat.lt_succ_self k)]
  rw [encRns, h2, h3]
end
end Go.Proofs.YtnhdcbhcocgjhaaGreat
