/- Texts for laws: Hole. -/
import Derived.Test.YtnhdcbhcocgjhaaGreatQAb
import Derived.Test.YtnhdcbhcocgjhaaGreatQE8
set_option linter.unusedSimpArgs false
set_option linter.unusedVariables false
namespace Go.Proofs.YtnhdcbhcocgjhaaGreat
open Go.RowKit Go.Sort
section
variable {P : Program} {B : Nat} {w w0 : World} {F : Nat → List Nat} {o : Nat → Ob}
theorem repL_split {own : Bool} : ∀ {k : Nat} {cs : List D} {vs : List Value} {S : List Nat} {d : D}, RepL w own cs vs S → cs[k]? = some d →
    ∃ v SA Sd SC, vs[k]? = some v ∧ S = SA ++ Sd ++ SC ∧ Rep w own d v Sd ∧ ∀ d' Sd', Rep w own d' v Sd' → RepL w own (cs.set k d') vs (SA ++ Sd' ++ SC)
  | _, [], _, _, _, _, h => by simp at h
  | 0, e :: cs, _, _, d, ⟨v, vs', S1, S2, rfl, rfl, h1, h2⟩, h => by
    simp at h; subst h
    exact ⟨v, [], S1, S2, rfl, by simp, h1, fun d' Sd' h3 => ⟨v, vs', Sd', S2, rfl, by simp, h3, h2⟩⟩
  | k + 1, e :: cs, _, _, d, ⟨v, vs', S1, S2, rfl, rfl, h1, h2⟩, h => by
    simp at h
    obtain ⟨v2, SA, Sd, SC, a1, rfl, a3, a4⟩ := repL_split h2 h
    exact ⟨v2, S1 ++ SA, Sd, SC, by simpa using a1, by simp, a3, fun d' Sd' h3 => ⟨v, vs', S1, SA ++ Sd' ++ SC, rfl, by simp, h1, a4 d' Sd' h3⟩⟩
theorem cRel_split : ∀ {c : Nat} {l : List Cell} {us : List Value} {S : List Nat} {d : D} {η : Heads}, CRel B w l us S → l[c]? = some (.own d η) →
    ∃ u SA Sd SC, S = SA ++ Sd ++ SC ∧ d.isSl = true ∧ Rep w true d u Sd ∧ (∀ p, η p = hdr w p d u) ∧ ∀ d' η' Sd', d'.isSl = true → Rep w true d' u Sd' → (∀ p, η' p = hdr w p d' u) → CRel B w (l.set c (.own d' η')) us (SA ++ Sd' ++ SC)
  | _, [], _, _, _, _, _, h => by simp at h
  | 0, .a _ :: l, _, _, d, η, _, h => by simp at h
  | 0, .own e ε :: l, _, _, d, η, ⟨u, us', S1, S2, rfl, rfl, h1, h2, h3, h4⟩, h => by
    simp at h; obtain ⟨rfl, rfl⟩ := h
    exact ⟨u, [], S1, S2, by simp, h1, h2, h3, fun d' η' Sd' a1 a2 a3 => ⟨u, us', Sd', S2, rfl, by simp, a1, a2, a3, h4⟩⟩
  | c + 1, .a x :: l, _, _, d, η, ⟨u, us', rfl, h1, h2⟩, h => by
    simp at h
    obtain ⟨v, SA, Sd, SC, a1, a2, a3, a4, a5⟩ := cRel_split h2 h
    exact ⟨v, SA, Sd, SC, a1, a2, a3, a4, fun d' η' Sd' b1 b2 b3 => ⟨u, us', rfl, h1, a5 d' η' Sd' b1 b2 b3⟩⟩
  | c + 1, .own e ε :: l, _, _, d, η, ⟨u, us', S1, S2, rfl, rfl, h1, h2, h3, h4⟩, h => by
    simp at h
    obtain ⟨v, SA, Sd, SC, rfl, a2, a3, a4, a5⟩ := cRel_split h4 h
    exact ⟨v, S1 ++ SA, Sd, SC, by simp, a2, a3, a4, fun d' η' Sd' b1 b2 b3 => ⟨u, us', S1, SA ++ Sd' ++ SC, rfl, by simp, h1, h2, h3, a5 d' η' Sd' b1 b2 b3⟩⟩
theorem oRel_split {ob : Ob} {c : Nat} {S : List Nat} {d : D} {η : Heads} (ho : ORel B w ob S) (h : ob.own c = some (d, η)) :
    ∃ u SA Sd SC, S = SA ++ Sd ++ SC ∧ d.isSl = true ∧ Rep w true d u Sd ∧ (∀ p, η p = hdr w p d u) ∧ ∀ d' η' Sd', d'.isSl = true → Rep w true d' u Sd' → (∀ p, η' p = hdr w p d' u) → ORel B w (ob.putOwn c d' η') (SA ++ Sd' ++ SC) := by
  cases ob with
  | none => cases h
  | loose e ε =>
    cases c with
    | succ c => cases h
    | zero =>
      simp only [Ob.own, Option.some.injEq, Prod.mk.injEq] at h
      obtain ⟨rfl, rfl⟩ := h
      obtain ⟨h1, u, h2, h3⟩ := ho
      exact ⟨u, [], S, [], by simp, h1, h2, h3, fun d' η' Sd' a1 a2 a3 => ⟨a1, u, by simpa using a2, a3⟩⟩
  | box b ty l =>
    simp only [Ob.own] at h
    split at h
    · rename_i e ε he
      simp only [Option.some.injEq, Prod.mk.injEq] at h
      obtain ⟨rfl, rfl⟩ := h
      obtain ⟨us, S1, h1, h2, rfl⟩ := ho
      obtain ⟨u, SA, Sd, SC, rfl, a2, a3, a4, a5⟩ := cRel_split h2 he
      exact ⟨u, b :: SA, Sd, SC, by simp, a2, a3, a4, fun d' η' Sd' b1 b2 b3 => ⟨us, SA ++ Sd' ++ SC, h1, a5 d' η' Sd' b1 b2 b3, by simp⟩⟩
    · cases h
theorem take_row {size : Nat} {ty : TypeId} {cs : List D} {v : Value} {S : List Nat} {m : Nat} (hs : 0 < size) (h : Rep w true (.sl size ty cs) v S) (hm : m * size ≤ cs.length) : ∃ S', Rep w true (.sl size ty (cs.take (m * size))) (subV v size 0 m) S' ∧ (∀ b ∈ S', b ∈ S) ∧ (S.Nodup → S'.Nodup) ∧ (m * size = cs.length → subV v size 0 m = v) := by
  obtain ⟨vs, T, S2, ⟨n, ⟨h1, h2⟩, rfl⟩, h4, rfl⟩ := h
  have hvl := RepL.length _ h4
  have e : cs = cs.take (m * size) ++ cs.drop (m * size) := (List.take_append_drop _ _).symm
  rw [e] at h4
  obtain ⟨v1, v2, Sa, Sb, rfl, rfl, h5, h6⟩ := RepL.append_inv _ h4
  have hv1 := RepL.length _ h5
  rw [List.length_take, Nat.min_eq_left hm] at hv1
  have key : blk (subV v size 0 m) = blk v ∧ w.ownsRow 0 ty size (subV v size 0 m) m v1 ∧ (m * size = cs.length → subV v size 0 m = v) := by
    rcases h2 with ⟨rfl, rfl⟩ | ⟨g, cap, cur, rfl, a1, a2, a3, a4, a5, a6⟩
    · have hm0 : m = 0 := by
        rcases Nat.eq_zero_or_pos m with h | h
        · exact h
        · have := Nat.mul_pos h hs
          rw [Nat.zero_mul] at h1; omega
      subst hm0
      have : v1 = [] := List.eq_nil_of_length_eq_zero (by omega)
      subst this
      exact ⟨rfl, ⟨by simp, .inl ⟨rfl, rfl⟩⟩, fun _ => rfl⟩
    · have hmn : m * size ≤ n * size := by rw [← h1, hvl]; exact hm
      have hmn' : m ≤ n := Nat.le_of_mul_le_mul_right hmn hs
      have hsub : subV (.slice (some ⟨g, 0, none⟩) n cap) size 0 m = .slice (some ⟨g, 0, none⟩) m cap := by
        simp only [subV]
        split <;> simp [Addr.add_lit]
      rw [hsub]
      refine ⟨rfl, ⟨hv1, .inr ⟨g, cap, cur, rfl, a1, a2, by omega, a4, a5, ?_⟩⟩, fun he => ?_⟩
      · have := congrArg (List.take (m * size)) a6
        rw [List.take_take, Nat.min_eq_left hmn, ← hv1, List.take_left] at this
        exact hv1 ▸ this
      · have : m = n := Nat.eq_of_mul_eq_mul_right hs (by rw [he, ← h1, hvl])
        rw [this]
  refine ⟨blk (subV v size 0 m) ++ Sa, ⟨v1, _, Sa, ⟨m, key.2.1, rfl⟩, h5, rfl⟩, ?_, ?_, key.2.2⟩
  · rw [key.1]; intro b hb
    rcases List.mem_append.1 hb with hb | hb <;> simp [hb]
  · rw [key.1]; intro hn
    have : (blk v ++ Sa ++ Sb).Nodup := by simpa using hn
    exact (List.nodup_append.1 this).1
/-- The k-th slice of a slice of slices is cut to its first m elements and taken out; its header stays behind. -/
def holeO (o : Nat → Ob) (g c g2 : Nat) (d : D) (η' : Heads) (d2 : D) (η2 : Heads) : Nat → Ob := fun j => if j = g2 then .loose d2 η2 else if j = g then (o g).putOwn c d η' else o j
theorem hole_rel (h : RelF B w0 0 (.only o) Act.bare w F) {g c k g2 m size ty tyo : Nat} {cs ds0 : List D} {η : Heads} (ho : (o g).own c = some (.sl 1 tyo ds0, η)) (hk : ds0[k]? = some (.sl size ty cs)) (hg2 : o g2 = .none) (hne : g2 ≠ g) (hs : 0 < size) (hm : m * size ≤ cs.length) :
    ∃ η2 η' F', RelF B w0 0 (.only (holeO o g c g2 (.sl 1 tyo (ds0.set k (.val (η [k])))) η' (.sl size ty (cs.take (m * size))) η2)) Act.bare w F' ∧ η2 [] = subV (η [k]) size 0 m ∧ η' [] = η [] ∧ (m * size = cs.length → subV (η [k]) size 0 m = η [k]) := by
  obtain ⟨u, SA, Sd, SC, e1, a1, a2, a3, a4⟩ := oRel_split (h.ob g) ho
  obtain ⟨vs, T, S', hrow, hrl, rfl⟩ := a2
  obtain ⟨v, SA', Sk, SC', b1, rfl, b3, b4⟩ := repL_split hrl hk
  have hv : η [k] = v := by
    rw [a3]
    rcases own_cells hrow with ⟨_, rfl⟩ | ⟨gg, nn, cc, rfl, _, _, hcell, _⟩
    · simp at b1
    · simp only [hdr, hk, Nat.zero_add, hcell k v b1, Option.getD_some]
  rw [hv]
  obtain ⟨S2, c1, c2, c3, c4⟩ := take_row hs b3 hm
  have hfr := h.fr g
  rw [e1] at hfr
  have hnd := hfr.1
  have hrep : Rep w true (.sl 1 tyo (ds0.set k (.val v))) u (T ++ (SA' ++ [] ++ SC')) := ⟨vs, T, _, hrow, b4 _ _ ⟨rfl, rfl⟩, rfl⟩
  have hob := a4 (.sl 1 tyo (ds0.set k (.val v))) (fun p => hdr w p (.sl 1 tyo (ds0.set k (.val v))) u) _ rfl hrep (fun _ => rfl)
  have hSk : Sk.Nodup := by
    have : Sk.Sublist (SA ++ (T ++ (SA' ++ Sk ++ SC')) ++ SC) := by
      refine List.Sublist.trans ?_ (List.sublist_append_left _ _)
      refine List.Sublist.trans ?_ (List.sublist_append_right _ _)
      refine List.Sublist.trans ?_ (List.sublist_append_right _ _)
      refine List.Sublist.trans ?_ (List.sublist_append_left _ _)
      exact List.sublist_append_right _ _
    exact hnd.sublist this
  have hsub : (SA ++ (T ++ (SA' ++ [] ++ SC')) ++ SC).Sublist (SA ++ (T ++ (SA' ++ Sk ++ SC')) ++ SC) := by
    refine List.Sublist.append (List.Sublist.append (List.Sublist.refl _) (List.Sublist.append (List.Sublist.refl _) (List.Sublist.append (List.Sublist.append (List.Sublist.refl _) (List.nil_sublist _)) (List.Sublist.refl _)))) (List.Sublist.refl _)
  have hmem : ∀ b ∈ SA ++ (T ++ (SA' ++ [] ++ SC')) ++ SC, b ∉ Sk := by
    intro b hb hbk
    have p1 : (SA ++ (T ++ (SA' ++ Sk ++ SC')) ++ SC).Perm (Sk ++ (SA ++ (T ++ (SA' ++ [] ++ SC')) ++ SC)) := by
      have : (SA ++ (T ++ (SA' ++ Sk ++ SC')) ++ SC) = (SA ++ (T ++ SA')) ++ (Sk ++ (SC' ++ SC)) := by simp
      rw [this]
      have : (SA ++ (T ++ (SA' ++ [] ++ SC')) ++ SC) = (SA ++ (T ++ SA')) ++ (SC' ++ SC) := by simp
      rw [this]
      exact (List.perm_append_comm_assoc _ _ _)
    have p2 := p1.nodup_iff.1 hnd
    exact (List.nodup_append.1 p2).2.2 b hbk b hb rfl
  have hin : ∀ b ∈ Sk, b ∈ F g := fun b hb => by rw [e1]; simp [hb]
  have r1 := h.setO (g := g) hob ⟨hnd.sublist hsub, fun b hb => hfr.2 b (hsub.subset hb)⟩ (fun g' hg' b hb hb' => h.dj g' g hg' b hb' (by rw [e1]; exact hsub.subset hb))
  have hob2 : ORel B w (.loose (.sl size ty (cs.take (m * size))) (fun p => hdr w p (.sl size ty (cs.take (m * size))) (subV v size 0 m))) S2 := ⟨rfl, _, c1, fun _ => rfl⟩
  have r2 := r1.setO (g := g2) hob2 ⟨c3 hSk, fun b hb => (h.fr g).2 b (hin b (c2 b hb))⟩ (fun g' hg' b hb => by
    split
    · exact fun hh => hmem b hh (c2 b hb)
    · rename_i hgg
      exact fun hh => h.dj g' g hgg b hh (hin b (c2 b hb)))
  exact ⟨_, _, _, r2, rfl, (a3 []).symm ▸ rfl, c4⟩
/-- A call, inlined, that hands back the first elements of a slice in a slice: they are cut out. -/
theorem inl_cut {f : FuncId} {args : List AV} {R : AV → (Nat → Ob) → Prop} (h : Inl P f args o fun av o' => ∃ g c k g2 m size ty tyo cs ds0 η, (av = .c (.hs g c [k] (η [k]) size 0 m) ∨ av = .c (.h g c [k] (η [k])) ∧ m * size = cs.length) ∧ (o' g).own c = some (.sl 1 tyo ds0, η) ∧ ds0[k]? = some (.sl size ty cs) ∧ o' g2 = .none ∧ g2 ≠ g ∧ 0 < size ∧ m * size ≤ cs.length ∧
      ∀ η2 η', η' [] = η [] → R (.c (.h g2 0 [] (η2 []))) (holeO o' g c g2 (.sl 1 tyo (ds0.set k (.val (η [k])))) η' (.sl size ty (cs.take (m * size))) η2)) : Inl P f args o R :=
  ⟨h.1, fun B w F xs h1 h2 => (h.2 B w F xs h1 h2).mono fun e w' ⟨v, av, o', F', k1, k2, k3, g, c, k, g2, m, size, ty, tyo, cs, ds0, η, e1, e2, e3, e4, e5, e6, e7, e8⟩ => by
    obtain ⟨η2, η', F2, r1, r2, r3, r4⟩ := hole_rel k2 e2 e3 e4 e5 e6 e7
    refine ⟨v, _, _, F2, k1, r1, ?_, e8 η2 η' r3⟩
    rcases e1 with rfl | ⟨rfl, e1⟩
    · obtain ⟨k4, k5⟩ := k3
      exact ⟨by rw [k4, r2], by rw [r2, ← k4]; exact k5⟩
    · obtain ⟨k4, k5⟩ := k3
      exact ⟨by rw [k4, r2, r4 e1], by rw [r2, r4 e1]; exact k5⟩⟩
variable {s : St} {K : St → Prop} {β : Nat} {gd : Option (Nat × Bool)} {d : Option Nat}
theorem is_hp (g c q : Nat) (p : List Nat) (x : Value) (dd : D) : Is s (.h g c (q :: p) x) dd = ownK ((s.o g).own c) fun d0 η => D.get (q :: p) d0 = some dd ∧ η (q :: p) = x ∧ dd.isSl = true := by
  apply propext
  simp only [Is]
  cases (s.o g).own c with
  | none => simp [ownK]
  | some z =>
    obtain ⟨d0, η⟩ := z
    simp only [ownK, Option.some.injEq, Prod.mk.injEq]
    constructor
    · rintro ⟨_, _, ⟨rfl, rfl⟩, h1, h2, h3⟩; exact ⟨h2, h1, h3⟩
    · rintro ⟨h1, h2, h3⟩; exact ⟨_, _, ⟨rfl, rfl⟩, h2, h1, h3⟩
theorem ptr_bp (g c b : Nat) (ds : List D) : Ptr s (.bp g c b) ds = obK (s.o g) b fun _ cs => Ptr.go s g b ((cs.drop c).take ds.length) c ds := by
  rw [← ob_ex]
  apply propext
  simp only [Ptr]
  constructor
  · rintro ⟨ty, cs, h1, _, rfl, h3⟩; exact ⟨ty, cs, h1, h3⟩
  · rintro ⟨ty, cs, h1, h3⟩; exact ⟨ty, cs, h1, _, rfl, h3⟩
theorem go_nil_ (g b c : Nat) : Ptr.go s g b [] c [] = True := by simp [Ptr.go]
theorem go_a_ (g b c : Nat) (x : A0) (l : List Cell) (e : D) (ds : List D) : Ptr.go s g b (.a x :: l) c (e :: ds) = (IsP x e ∧ Ptr.go s g b l (c + 1) ds) := rfl
theorem isP_v (x : Value) : IsP (.v x) (.val x) = True := eq_true (.inl rfl)
theorem isP_ro (e e' : D) : IsP (.ro e) e' = (e' = e) := rfl
theorem loadE_cons (g c i : Nat) (p : List Nat) (η : Heads) (e : D) (l : List D) : loadE g c p η i (e :: l) = e.toOwn g c (p ++ [i]) η :: loadE g c p η (i + 1) l := rfl
def mkfK (s : St) (K : St → Prop) (d : Option Nat) (f : Nat) : AV → Prop
  | .c a => K (s.put d (.fn f [a]))
  | _ => False
theorem mkfK_c (f : Nat) (a : A0) : mkfK s K d f (.c a) = K (s.put d (.fn f [a])) := rfl
theorem run_mkf (f : Nat) (x : X) : runI P β ⟨d, gd, .mkf f [x]⟩ s K = mkfK s K d f (s.ev x) := by
  cases hx : s.ev x with
  | c a =>
    refine gen_eq (os := []) (av := .fn f [a]) rfl fun rt st av' os' => ?_
    simp [Gen, capsOf, hx]
  | _ =>
    apply propext
    refine ⟨fun h => ?_, fun h => h.elim⟩
    have h' : ∃ rt, ∀ st, ∃ av os, Gen P s (β + d.getD 0) rt st (.mkf f [x]) av os ∧ K ((s.addO os).put d av) := h
    obtain ⟨rt, h1⟩ := h'
    obtain ⟨av, os, ⟨l, h2, _⟩, _⟩ := h1 ⟨0, fun _ _ => undef⟩
    simp [capsOf, hx] at h2
def clrA (s : St) (K : St → Prop) (size : Nat) (zs : List D) : AV → Prop
  | .c (.v (.slice none 0 0)) => K s
  | .c (.hs g c p hx sz lo n) => sz = size ∧ 0 < n ∧ ownK ((s.o g).own c) fun d0 η => η p = hx ∧ getK (D.get p d0) fun dd => dd.isSl = true ∧ dd.size = sz ∧ lo + n ≤ dd.len ∧
      stH (flatB (List.replicate n zs).flatten && flatB ((dd.cells.drop (lo * sz)).take (n * sz))) p (lo * sz) (n * sz) η fun η' => K (s.setO g ((s.o g).putOwn c (D.put p (lo * sz) (List.replicate n zs).flatten d0) η'))
  | _ => False
theorem run_clr (size : Nat) (zs : List D) (x : X) : runI P β ⟨none, gd, .clr size zs x⟩ s K = clrA s K size zs (s.ev x) := by
  apply propext
  show (none = none ∧ _) ↔ _
  rw [eq_self, true_and]
  unfold clrA
  split
  · simp_all
  · rename_i g c p hx sz lo n he
    simp only [he]
    cases ho : (s.o g).own c with
    | none => simp [ownK]
    | some z =>
      obtain ⟨d0, η⟩ := z
      simp only [ownK, Option.some.injEq, Prod.mk.injEq]
      constructor
      · rintro ⟨a1, a2, _, _, dd, ⟨rfl, rfl⟩, a3, a4, a5, a6, a7, a8⟩
        refine ⟨a1, a2, a3, ?_⟩
        rw [a4]; exact ⟨a5, a6, a7, a8⟩
      · rintro ⟨a1, a2, a3, a4⟩
        cases hg : D.get p d0 with
        | none => rw [hg] at a4; exact a4.elim
        | some dd => rw [hg] at a4; obtain ⟨a5, a6, a7, a8⟩ := a4; exact ⟨a1, a2, d0, η, dd, ⟨rfl, rfl⟩, a3, hg, a5, a6, a7, a8⟩
  · simp_all
theorem clrA_hs (size : Nat) (zs : List D) (g c : Nat) (p : List Nat) (hx : Value) (sz lo n : Nat) : clrA s K size zs (.c (.hs g c p hx sz lo n)) = (sz = size ∧ 0 < n ∧ ownK ((s.o g).own c) fun d0 η => η p = hx ∧ getK (D.get p d0) fun dd => dd.isSl = true ∧ dd.size = sz ∧ lo + n ≤ dd.len ∧
      stH (flatB (List.replicate n zs).flatten && flatB ((dd.cells.drop (lo * sz)).take (n * sz))) p (lo * sz) (n * sz) η fun η' => K (s.setO g ((s.o g).putOwn c (D.put p (lo * sz) (List.replicate n zs).flatten d0) η'))) := rfl
theorem enc4 (x : En) : (encEn x).length = 4 := rfl
theorem get_sh {sh : List (List En)} {k : Nat} {l : List En} (h : sh[k]? = some l) : D.get [k] (encSh sh) = some (encEns l) := by
  have e : sh.flatMap (fun es => [encEns es]) = sh.map encEns := by clear h; induction sh <;> simp_all
  simp [encSh, D.get, e, h, get_nil]
end
attribute [go_sem] run_mkf mkfK_c loadE_cons is_hp ptr_bp go_nil_ go_a_ isP_v isP_ro run_clr clrA_hs
end Go.Proofs.YtnhdcbhcocgjhaaGreat
