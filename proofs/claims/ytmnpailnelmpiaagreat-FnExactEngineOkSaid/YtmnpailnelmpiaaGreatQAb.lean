/- Texts for laws: Ab. -/
import Derived.Test.YtmnpailnelmpiaaGreatQData
import Derived.Test.YtmnpailnelmpiaaGreatQE7
import Derived.Test.YtmnpailnelmpiaaGreatQE8
set_option linter.unusedSimpArgs false
set_option linter.unusedVariables false
namespace Go.Proofs.YtmnpailnelmpiaaGreat
open Go.RowKit Go.Sort

def nilH : Heads
  | [] => .slice none 0 0
  | _ :: _ => undef
/-- The second says less: names of objects do not count. -/
def A0.sim : A0 → A0 → Prop
  | .v x, .v y => x = y
  | .v x, .h _ _ _ y => x = y ∧ x.oneCell' = true
  | .h _ _ _ x, .h _ _ _ y => x = y
  | .bp _ c b, .bp _ c' b' => c = c' ∧ b = b'
  | .ep _ _ _ i x, .ep _ _ _ i' x' => i = i' ∧ x = x'
  | .hs _ _ _ x s l n, .hs _ _ _ y s' l' n' => x = y ∧ s = s' ∧ l = l' ∧ n = n'
  | .ro d, .ro d' => d = d'
  | .rp ds, .rp ds' => ds = ds'
  | .un, .un => True
  | _, _ => False
def simL : List A0 → List A0 → Prop
  | [], [] => True
  | a :: l, b :: m => a.sim b ∧ simL l m
  | _, _ => False
def AV.sim : AV → AV → Prop
  | .c a, .c b => a.sim b
  | .agg l, .agg m => simL l m
  | .fn f l, .fn f' m => f = f' ∧ simL l m
  | .tup l, .tup m => l = m
  | _, .unk => True
  | _, _ => False
def Cell.sim : Cell → Cell → Prop
  | .a x, .a y => x.sim y
  | .own d η, .own d' η' => d = d' ∧ η = η'
  | .a (.v x), .own d η => x = .slice none 0 0 ∧ d.isSl = true ∧ d.cells = [] ∧ η = nilH
  | _, _ => False
def simC : List Cell → List Cell → Prop
  | [], [] => True
  | a :: l, b :: m => a.sim b ∧ simC l m
  | _, _ => False
def Ob.sim : Ob → Ob → Prop
  | .loose d η, .loose d' η' => d = d' ∧ η = η'
  | .box b ty cs, .box b' ty' cs' => b = b' ∧ ty = ty' ∧ simC cs cs'
  | .none, .none => True
  | _, _ => False
def nilOb : Ob → Prop
  | .loose d η => d.isSl = true ∧ d.cells = [] ∧ η = nilH
  | _ => False
def lkT : List (Nat × AV) → Nat → AV
  | [], _ => .unk
  | (k, v) :: T, n => if n = k then v else lkT T n
def lkO : List (Nat × Ob) → Nat → Ob
  | [], _ => .none
  | (k, v) :: T, n => if n = k then v else lkO T n
/-- The state in which these alone stand. -/
def St.of (T : List (Nat × AV)) (O : List (Nat × Ob)) : St := ⟨lkT T, lkO O⟩
def fitT (s : St) : List (Nat × AV) → Prop
  | [] => True
  | (n, v) :: T => (s.t n).sim v ∧ fitT s T
/-- The objects: each comes of one that was (some k), or is a nil slice (none). -/
def fitO (s : St) : List (Option Nat) → List (Nat × Ob) → Prop
  | [], [] => True
  | some k :: ks, (_, ob) :: O => (s.o k).sim ob ∧ fitO s ks O
  | none :: ks, (_, ob) :: O => nilOb ob ∧ fitO s ks O
  | _, _ => False
def fp (F : Nat → List Nat) : List (Option Nat) → List (Nat × Ob) → Nat → List Nat
  | k :: ks, (g', _) :: O, g => if g = g' then (match k with | some k => F k | none => []) else fp F ks O g
  | _, _, _ => []
def srcs : List (Option Nat) → List Nat
  | [] => []
  | some k :: ks => k :: srcs ks
  | none :: ks => srcs ks
def apartN : List Nat → Bool
  | [] => true
  | k :: ks => !ks.contains k && apartN ks

section
variable {B N : Nat} {w0 w : World} {s : St} {a : Act} {F : Nat → List Nat}
theorem A0.sim.rel : ∀ {a b : A0} {u : Value}, a.sim b → A0Rel B w a u → A0Rel B w b u
  | .v x, .v y, u, hh, hr => by rw [show x = y from hh] at hr; exact hr
  | .v x, .h _ _ _ y, u, hh, hr => by obtain ⟨h1, h2⟩ := hh; subst h1; exact ⟨hr, h2⟩
  | .h _ _ _ x, .h _ _ _ y, u, hh, hr => by rw [show x = y from hh] at hr; exact hr
  | .bp _ c b, .bp _ c' b', u, hh, hr => by obtain ⟨h1, h2⟩ := hh; subst h1 h2; exact hr
  | .ep _ _ _ i x, .ep _ _ _ i' x', u, hh, hr => by obtain ⟨h1, h2⟩ := hh; subst h1 h2; exact hr
  | .hs _ _ _ x s l n, .hs _ _ _ y s' l' n', u, hh, hr => by obtain ⟨h1, h2, h3, h4⟩ := hh; subst h1 h2 h3 h4; exact hr
  | .ro d, .ro d', u, hh, hr => by rw [show d = d' from hh] at hr; exact hr
  | .rp ds, .rp ds', u, hh, hr => by rw [show ds = ds' from hh] at hr; exact hr
  | .un, .un, _, _, hr => hr
theorem simL.rel : ∀ {l m : List A0} {us : List Value}, simL l m → A0RelL B w l us → A0RelL B w m us
  | [], [], _, _, hr => hr
  | _ :: _, _ :: _, _, ⟨h1, h2⟩, ⟨u, us', e, h3, h4⟩ => ⟨u, us', e, h1.rel h3, h2.rel h4⟩
theorem AV.sim.rel {v v' : AV} {u : Value} (h : v.sim v') (hr : VRel B w v u) : VRel B w v' u := by
  cases v' with
  | unk => trivial
  | c b => cases v <;> first | exact A0.sim.rel h hr | exact h.elim
  | agg m => cases v <;> first | (obtain ⟨us, e, h1⟩ := hr; exact ⟨us, e, simL.rel h h1⟩) | exact h.elim
  | fn f m => cases v <;> first | (obtain ⟨us, e, h1⟩ := hr; obtain ⟨rfl, h2⟩ := h; exact ⟨us, e, h2.rel h1⟩) | exact h.elim
  | tup m => cases v <;> first | (rw [show _ = m from h] at hr; exact hr) | exact h.elim
theorem nil_hdr {d : D} (hs : d.isSl = true) (hc : d.cells = []) : (∃ size ty, d = .sl size ty []) ∧ ∀ p, nilH p = hdr w p d (.slice none 0 0) := by
  cases d with
  | val u => cases hs
  | sl size ty cs =>
    obtain rfl : cs = [] := hc
    exact ⟨⟨_, _, rfl⟩, fun p => by cases p <;> rfl⟩
theorem simC.rel : ∀ {cs cs' : List Cell} {us : List Value} {S : List Nat}, simC cs cs' → CRel B w cs us S → CRel B w cs' us S
  | [], [], _, _, _, hr => hr
  | .a x :: l, .a y :: m, _, _, ⟨h1, h2⟩, ⟨u, us', e, h3, h4⟩ => ⟨u, us', e, A0.sim.rel h1 h3, h2.rel h4⟩
  | .own d η :: l, .own d' η' :: m, _, _, ⟨⟨h1, h1'⟩, h2⟩, ⟨u, us', S1, S2, e, e', h3, h4, h5, h6⟩ => by
    subst h1 h1'
    exact ⟨u, us', S1, S2, e, e', h3, h4, h5, h2.rel h6⟩
  | .a (.v x) :: l, .own d η :: m, _, S, ⟨⟨h1, h2, h3, h4⟩, h5⟩, ⟨u, us', e, h6, h7⟩ => by
    subst h1 h4
    obtain ⟨⟨size, ty, rfl⟩, k2⟩ := nil_hdr (w := w) h2 h3
    refine ⟨u, us', [], S, e, rfl, h2, ?_, fun p => ?_, h5.rel h7⟩
    · rw [show u = _ from h6]; exact Rep.nil_ w size ty
    · rw [show u = _ from h6]; exact k2 p
theorem Ob.sim.rel {ob ob' : Ob} {S : List Nat} (h : ob.sim ob') (hr : ORel B w ob S) : ORel B w ob' S := by
  cases ob <;> cases ob' <;> first | exact h.elim | skip
  · exact hr
  · obtain ⟨rfl, rfl⟩ := h; exact hr
  · obtain ⟨rfl, rfl, h⟩ := h; obtain ⟨us, S1, h1, h2, h3⟩ := hr; exact ⟨us, S1, h1, h.rel h2, h3⟩
theorem nilOb.rel {ob : Ob} (h : nilOb ob) : ORel B w ob [] := by
  cases ob with
  | loose d η =>
    obtain ⟨h1, h2, rfl⟩ := h
    obtain ⟨⟨size, ty, rfl⟩, k2⟩ := nil_hdr (w := w) h1 h2
    exact ⟨h1, _, Rep.nil_ w size ty, k2⟩
  | _ => exact h.elim
theorem fp_src : ∀ {ks : List (Option Nat)} {O : List (Nat × Ob)} {g b : Nat}, b ∈ fp F ks O g → ∃ k ∈ srcs ks, b ∈ F k
  | [], _, _, _, h => by simp [fp] at h
  | _ :: _, [], _, _, h => by simp [fp] at h
  | k :: ks, (g', ob) :: O, g, b, h => by
    simp only [fp] at h
    split at h
    · cases k with
      | some k => exact ⟨k, by simp [srcs], h⟩
      | none => simp at h
    · obtain ⟨k', h1, h2⟩ := fp_src h
      exact ⟨k', by cases k <;> simp [srcs, h1], h2⟩
theorem apartN_spec : ∀ {l : List Nat}, apartN l = true → l.Nodup
  | [], _ => List.nodup_nil
  | k :: l, h => by
    simp only [apartN, Bool.and_eq_true, Bool.not_eq_true', List.contains_eq_mem, decide_eq_false_iff_not] at h
    exact List.nodup_cons.2 ⟨h.1, apartN_spec h.2⟩
theorem fp_dj (hdj : ∀ g g', g ≠ g' → ∀ b ∈ F g, b ∉ F g') : ∀ {ks : List (Option Nat)} {O : List (Nat × Ob)}, (srcs ks).Nodup → ∀ g g', g ≠ g' → ∀ b ∈ fp F ks O g, b ∉ fp F ks O g'
  | [], _, _, _, _, _, b, h => by simp [fp] at h
  | _ :: _, [], _, _, _, _, b, h => by simp [fp] at h
  | k :: ks, (g0, ob) :: O, hn, g, g', hne, b, h => by
    have hn' : (srcs ks).Nodup := by cases k with
      | none => exact hn
      | some k => exact (List.nodup_cons.1 hn).2
    have key : ∀ {g g' : Nat}, g = g0 → g' ≠ g0 → b ∈ fp F (k :: ks) ((g0, ob) :: O) g → b ∉ fp F (k :: ks) ((g0, ob) :: O) g' := by
      intro g g' e hne' h h'
      simp only [fp, if_pos e] at h
      simp only [fp, if_neg hne'] at h'
      cases k with
      | none => simp at h
      | some k =>
        obtain ⟨k', h1, h2⟩ := fp_src h'
        have : k ≠ k' := fun e => (List.nodup_cons.1 hn).1 (by rw [e]; exact h1)
        exact hdj _ _ this b h h2
    by_cases e : g = g0
    · exact key e (fun e' => hne (e.trans e'.symm)) h
    · by_cases e' : g' = g0
      · exact fun h' => key e' e h' h
      · simp only [fp, if_neg e] at h
        simp only [fp, if_neg e']
        exact fp_dj hdj hn' g g' hne b h
theorem fp_ob (h : ∀ g, ORel B w (s.o g) (F g)) : ∀ {ks : List (Option Nat)} {O : List (Nat × Ob)}, fitO s ks O → ∀ g, ORel B w (lkO O g) (fp F ks O g)
  | [], [], _, _ => rfl
  | [], _ :: _, hf, _ => hf.elim
  | some _ :: _, [], hf, _ => hf.elim
  | none :: _, [], hf, _ => hf.elim
  | some k :: ks, (g', ob) :: O, ⟨h1, h2⟩, g => by
    simp only [lkO, fp]
    by_cases e : g = g'
    · rw [if_pos e, if_pos e]; exact h1.rel (h k)
    · rw [if_neg e, if_neg e]; exact fp_ob h h2 g
  | none :: ks, (g', ob) :: O, ⟨h1, h2⟩, g => by
    simp only [lkO, fp]
    by_cases e : g = g'
    · rw [if_pos e, if_pos e]; exact h1.rel
    · rw [if_neg e, if_neg e]; exact fp_ob h h2 g
theorem fp_fr (h : ∀ g, Fresh B (F g)) : ∀ (ks : List (Option Nat)) (O : List (Nat × Ob)) (g : Nat), Fresh B (fp F ks O g)
  | [], _, _ => Fresh.nil _
  | _ :: _, [], _ => Fresh.nil _
  | k :: ks, (g', ob) :: O, g => by
    simp only [fp]
    split
    · cases k with
      | some k => exact h k
      | none => exact Fresh.nil _
    · exact fp_fr h ks O g
theorem fit_t (h : ∀ n, VRel B w (s.t n) (a.tmps.getD n undef)) : ∀ {T : List (Nat × AV)}, fitT s T → ∀ n, VRel B w (lkT T n) (a.tmps.getD n undef)
  | [], _, _ => trivial
  | (k, v) :: T, ⟨h1, h2⟩, n => by
    simp only [lkT]
    by_cases e : n = k
    · rw [if_pos e]; subst e; exact h1.rel (h n)
    · rw [if_neg e]; exact fit_t h h2 n
theorem wk_of (ks : List (Option Nat)) {T : List (Nat × AV)} {O : List (Nat × Ob)} (h : fitT s T ∧ fitO s ks O) (hn : apartN (srcs ks) = true := by decide) : Wk s (St.of T O) :=
  fun B N w0 w a F hr => ⟨fp F ks O, ⟨hr.below, hr.hB, hr.df, hr.sz, fit_t hr.sl h.1, fp_ob hr.ob h.2, fp_fr hr.fr ks O, fp_dj hr.dj (apartN_spec hn)⟩,
    fun g b hb => by obtain ⟨k, _, h2⟩ := fp_src hb; exact ⟨k, h2⟩⟩
theorem Wk.trans {s1 s2 s3 : St} (h : Wk s1 s2) (h' : Wk s2 s3) : Wk s1 s3 := fun B N w0 w a F hr => by
  obtain ⟨F1, h1, h2⟩ := h _ _ _ _ _ _ hr
  obtain ⟨F2, h3, h4⟩ := h' _ _ _ _ _ _ h1
  refine ⟨F2, h3, fun g b hb => ?_⟩
  obtain ⟨g1, hb1⟩ := h4 g b hb
  exact h2 g1 b hb1
end
section
variable {P : Program} {β : Nat} {s : St} {Q : Ex → St → Prop}
theorem wp_loopW {ι : Type} {a : C} (mk : ι → St) (J : ι → Prop) (μ : ι → Nat) (i0 : ι) (h0 : J i0) (hw : Wk s (mk i0)) (hr : ∀ i, J i → wpC P β a (Ex.thn (fun s' => ∃ i', J i' ∧ Wk s' (mk i') ∧ μ i' < μ i) Q) (mk i)) : wpC P β (.loop a) Q s := ⟨ι, mk, J, μ, ⟨i0, h0, hw⟩, hr⟩
end
section
variable {s : St}
theorem of_t (T : List (Nat × AV)) (O : List (Nat × Ob)) (n : Nat) : (St.of T O).t n = lkT T n := rfl
theorem of_o (T : List (Nat × AV)) (O : List (Nat × Ob)) (n : Nat) : (St.of T O).o n = lkO O n := rfl
theorem lkT_cons (k n : Nat) (v : AV) (T : List (Nat × AV)) : lkT ((k, v) :: T) n = if n = k then v else lkT T n := rfl
theorem lkO_cons (k n : Nat) (v : Ob) (T : List (Nat × Ob)) : lkO ((k, v) :: T) n = if n = k then v else lkO T n := rfl
theorem fitT_nil : fitT s [] = True := rfl
theorem fitT_cons (n : Nat) (v : AV) (T : List (Nat × AV)) : fitT s ((n, v) :: T) = ((s.t n).sim v ∧ fitT s T) := rfl
theorem fitO_nil : fitO s [] [] = True := rfl
theorem fitO_s (k g : Nat) (ob : Ob) (ks : List (Option Nat)) (O : List (Nat × Ob)) : fitO s (some k :: ks) ((g, ob) :: O) = ((s.o k).sim ob ∧ fitO s ks O) := rfl
theorem fitO_n (g : Nat) (ob : Ob) (ks : List (Option Nat)) (O : List (Nat × Ob)) : fitO s (none :: ks) ((g, ob) :: O) = (nilOb ob ∧ fitO s ks O) := rfl
theorem nilOb_ (d : D) (η : Heads) : nilOb (.loose d η) = (d.isSl = true ∧ d.cells = [] ∧ η = nilH) := rfl
theorem nilH_ : nilH [] = .slice none 0 0 := rfl
theorem sim_c (a b : A0) : AV.sim (.c a) (.c b) = a.sim b := rfl
theorem sim_fn (f f' : Nat) (l m : List A0) : AV.sim (.fn f l) (.fn f' m) = (f = f' ∧ simL l m) := rfl
theorem simL_nil : simL [] [] = True := rfl
theorem simL_cons (a b : A0) (l m : List A0) : simL (a :: l) (b :: m) = (a.sim b ∧ simL l m) := rfl
theorem sim_v (x y : Value) : A0.sim (.v x) (.v y) = (x = y) := rfl
theorem sim_vh (x y : Value) (g c : Nat) (p : List Nat) : A0.sim (.v x) (.h g c p y) = (x = y ∧ x.oneCell' = true) := rfl
theorem sim_h (x y : Value) (g c g' c' : Nat) (p p' : List Nat) : A0.sim (.h g c p x) (.h g' c' p' y) = (x = y) := rfl
theorem sim_bp (g c b g' c' b' : Nat) : A0.sim (.bp g c b) (.bp g' c' b') = (c = c' ∧ b = b') := rfl
theorem sim_ro (d d' : D) : A0.sim (.ro d) (.ro d') = (d = d') := rfl
theorem sim_rp (d d' : List D) : A0.sim (.rp d) (.rp d') = (d = d') := rfl
theorem simc_a (x y : A0) : Cell.sim (.a x) (.a y) = x.sim y := by cases x <;> rfl
theorem simC_nil : simC [] [] = True := rfl
theorem simC_cons (a b : Cell) (l m : List Cell) : simC (a :: l) (b :: m) = (a.sim b ∧ simC l m) := rfl
theorem simO_l (d d' : D) (η η' : Heads) : Ob.sim (.loose d η) (.loose d' η') = (d = d' ∧ η = η') := rfl
theorem simO_b (b ty b' ty' : Nat) (cs cs' : List Cell) : Ob.sim (.box b ty cs) (.box b' ty' cs') = (b = b' ∧ ty = ty' ∧ simC cs cs') := rfl
end
attribute [go_sem] of_t of_o lkT_cons lkO_cons fitT_nil fitT_cons fitO_nil fitO_s fitO_n nilOb_ nilH_ sim_c sim_fn simL_nil simL_cons sim_v sim_vh sim_h sim_bp sim_ro sim_rp simc_a simC_nil simC_cons simO_l simO_b
end Go.Proofs.YtmnpailnelmpiaaGreat
set_option linter.unusedVariables false
namespace Go.Proofs.YtmnpailnelmpiaaGreat
open Go.RowKit Go.Sort
section
variable {P : Program} {β : Nat} {s : St}

theorem len_encInts (l : List Int) : (encInts l).len = l.length := flat_len (enc := fun n => [iv n]) (fun _ => rfl) (by decide) _ _
theorem elem_encInts {l : List Int} {k : Nat} {x : Int} (h : l[k]? = some x) : (encInts l).elem k = [iv x] := flat_elem (enc := fun n => [iv n]) (fun _ => rfl) h
theorem sl_encInts (l : List Int) : (encInts l).isSl = true := rfl
theorem sz_encInts (l : List Int) : (encInts l).size = 1 := rfl
theorem ro_encInts (l : List Int) : (encInts l).toRo = .ro (encInts l) := rfl
theorem obj_encInts (l : List Int) (g : Nat) (η : Heads) : (encInts l).obj g η = [(g, .loose (encInts l) η)] := rfl
theorem own_encInts (l : List Int) (g c : Nat) (p : List Nat) (η : Heads) : (encInts l).toOwn g c p η = .h g c p (η p) := rfl
theorem cells_encInts (l : List Int) : (encInts l).cells = l.flatMap (fun n => [iv n]) := rfl
theorem len_encEds (l : List Ed) : (encEds l).len = l.length := flat_len (enc := encEd) (fun _ => rfl) (by decide) _ _
theorem elem_encEds {l : List Ed} {k : Nat} {x : Ed} (h : l[k]? = some x) : (encEds l).elem k = encEd x := flat_elem (enc := encEd) (fun _ => rfl) h
theorem sl_encEds (l : List Ed) : (encEds l).isSl = true := rfl
theorem sz_encEds (l : List Ed) : (encEds l).size = 2 := rfl
theorem obj_encEns (l : List En) (g : Nat) (η : Heads) : (encEns l).obj g η = [(g, .loose (encEns l) η)] := rfl
theorem own_encEns (l : List En) (g c : Nat) (p : List Nat) (η : Heads) : (encEns l).toOwn g c p η = .h g c p (η p) := rfl
theorem cells_encEns (l : List En) : (encEns l).cells = l.flatMap (encEn) := rfl
theorem obj_encRns (l : List Rn) (g : Nat) (η : Heads) : (encRns l).obj g η = [(g, .loose (encRns l) η)] := rfl
theorem own_encRns (l : List Rn) (g c : Nat) (p : List Nat) (η : Heads) : (encRns l).toOwn g c p η = .h g c p (η p) := rfl
theorem obj_encSh (l : List (List En)) (g : Nat) (η : Heads) : (encSh l).obj g η = [(g, .loose (encSh l) η)] := rfl
theorem own_encSh (l : List (List En)) (g c : Nat) (p : List Nat) (η : Heads) : (encSh l).toOwn g c p η = .h g c p (η p) := rfl
theorem slK_encInts (l : List Int) (e : Nat) (k : List D → Prop) : slK (encInts l) e 1 k = (tInt = e ∧ k (l.flatMap (fun n => [iv n]))) := by rw [show encInts l = .sl 1 tInt (l.flatMap (fun n => [iv n])) from rfl, slK_]; simp
theorem div_encInts (l : List Int) : (l.flatMap (fun n => [iv n])).length / 1 = l.length := by rw [len_flat (enc := fun n => [iv n]) (size := 1) (fun _ => rfl)]; exact Nat.mul_div_cancel _ (by decide)
theorem flatB_encInts (l : List Int) : flatB (l.flatMap (fun n => [iv n])) = true := by
  induction l with
  | nil => rfl
  | cons x l ih => rw [List.flatMap_cons, flatB_app, ih]; rfl
theorem slK_encEns (l : List En) (e : Nat) (k : List D → Prop) : slK (encEns l) e 4 k = (tEn = e ∧ k (l.flatMap (encEn))) := by rw [show encEns l = .sl 4 tEn (l.flatMap (encEn)) from rfl, slK_]; simp
theorem fold_encEns (l : List En) : D.sl 4 tEn (l.flatMap (encEn)) = encEns l := rfl
theorem div_encEns (l : List En) : (l.flatMap (encEn)).length / 4 = l.length := by rw [len_flat (enc := encEn) (size := 4) (fun _ => rfl)]; exact Nat.mul_div_cancel _ (by decide)
theorem flatB_encEns (l : List En) : flatB (l.flatMap (encEn)) = true := by
  induction l with
  | nil => rfl
  | cons x l ih => rw [List.flatMap_cons, flatB_app, ih]; rfl
theorem oneB_v (u : Value) (l : List D) : oneB (.val u :: l) = (u.oneCell' && oneB l) := rfl
theorem isDn_encEns (l : List Cell) (ds : List D) : IsD (.a (.v (.slice none 0 0)) :: l) (encEns [] :: ds) = IsD l ds := isD_none l _ _ ds
theorem at_encInts {l : List Int} {k : Nat} {x : Int} (h : l[k]? = some x) : ((l.flatMap (fun n => [iv n])).drop (k * 1)).take 1 = [iv x] := elem_encInts h
theorem in_encInts {l : List Int} {k : Nat} (h : k < l.length) : k * 1 + 1 ≤ (l.flatMap (fun n => [iv n])).length := by rw [len_flat (enc := fun n => [iv n]) (size := 1) (fun _ => rfl)]; omega
theorem loadE_v (g c : Nat) (p : List Nat) (η : Heads) (i : Nat) (v : Value) (l : List D) : loadE g c p η i (.val v :: l) = .v v :: loadE g c p η (i + 1) l := rfl
theorem loadE_n (g c : Nat) (p : List Nat) (η : Heads) (i : Nat) : loadE g c p η i [] = [] := rfl
end
attribute [go_sem] loadE_v loadE_n isDn_encEns flatB_encInts slK_encInts div_encInts cells_encInts flatB_encEns slK_encEns div_encEns cells_encEns oneB_v Bool.and_false Bool.false_and Bool.and_true Bool.true_and len_encInts sl_encInts sz_encInts ro_encInts obj_encInts own_encInts len_encEds sl_encEds sz_encEds ro_encEds len_encEns sl_encEns sz_encEns ro_encEns obj_encEns own_encEns len_encTks sl_encTks sz_encTks ro_encTks len_encRns sl_encRns sz_encRns ro_encRns obj_encRns own_encRns len_encSh sl_encSh sz_encSh ro_encSh obj_encSh own_encSh
end Go.Proofs.YtmnpailnelmpiaaGreat
namespace Go.Proofs.YtmnpailnelmpiaaGreat
open Go.RowKit Go.Sort
abbrev Ni (n : Int) : AV := .c (.v (.int .i64 n))
abbrev Hd (g : Nat) (η : Heads) : AV := .c (.h g 0 [] (η []))
abbrev Bx (g b : Nat) : AV := .c (.bp g 0 b)
abbrev Ro (d : D) : AV := .c (.ro d)
/-- A box of what came in. -/
abbrev Bi (b ty : Nat) (ds : List D) : Ob := .box b ty (ds.map fun x => .a x.toRo)
end Go.Proofs.YtmnpailnelmpiaaGreat
