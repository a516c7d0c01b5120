/- Texts for the law FnExactRestart. -/
import Derived.Test.YtnhdcbhcocgjhaaGreatQRestartB
import Derived.Test.YtnhdcbhcocgjhaaGreatProg
import Derived.Laws.StructEq
set_option linter.unusedSimpArgs false
set_option linter.unusedVariables false
namespace Go.Proofs.YtnhdcbhcocgjhaaGreat
open Go.RowKit Go.Sort
section
variable {P : Program} {β : Nat} {s : St} {d : Option Nat} {g : Option (Nat × Bool)} {K : St → Prop} {Q : Ex → St → Prop}

def ownK (o : Option (D × Heads)) (k : D → Heads → Prop) : Prop := match o with
  | some (d, η) => k d η
  | none => False
def getK (o : Option D) (k : D → Prop) : Prop := match o with
  | some d => k d
  | none => False
theorem ownK_ (d : D) (η : Heads) (k : D → Heads → Prop) : ownK (some (d, η)) k = k d η := rfl
theorem getK_ (d : D) (k : D → Prop) : getK (some d) k = k d := rfl
theorem own_ex (o : Option (D × Heads)) (k : D → Heads → Prop) : (∃ d η, o = some (d, η) ∧ k d η) = ownK o k := by
  cases o with
  | none => simp [ownK]
  | some p =>
    obtain ⟨d, η⟩ := p
    apply propext
    constructor
    · rintro ⟨_, _, h, h2⟩; cases h; exact h2
    · intro h; exact ⟨d, η, rfl, h⟩
theorem get_nil (d : D) : D.get [] d = some d := by cases d <;> rfl
theorem is_ex (k c : Nat) (p : List Nat) (x : Value) (R : D → Prop) : (∃ d, Is s (.h k c p x) d ∧ R d) = ownK ((s.o k).own c) fun d0 η => η p = x ∧ getK (D.get p d0) fun d => d.isSl = true ∧ R d := by
  apply propext
  rw [← own_ex]
  constructor
  · rintro ⟨d, ⟨d0, η, h1, h2, h3, h4⟩, h5⟩; exact ⟨d0, η, h1, h2, by rw [h3]; exact ⟨h4, h5⟩⟩
  · rintro ⟨d0, η, h1, h2, h3⟩
    cases h : D.get p d0 with
    | none => rw [h] at h3; exact h3.elim
    | some d => rw [h] at h3; exact ⟨d, ⟨d0, η, h1, h2, h, h3.1⟩, h3.2⟩
theorem own_loose (d : D) (η : Heads) : (Ob.loose d η).own 0 = some (d, η) := rfl
def ownC : Option Cell → Option (D × Heads)
  | some (.own d η) => some (d, η)
  | _ => none
theorem own_box (b ty : Nat) (cs : List Cell) (c : Nat) : (Ob.box b ty cs).own c = ownC cs[c]? := by
  simp only [Ob.own, ownC]; split <;> simp_all
theorem ownC_ (d : D) (η : Heads) : ownC (some (.own d η)) = some (d, η) := rfl
theorem rm_o (k c n : Nat) : (s.rm k c).o n = if n = k then (s.o k).rm c else s.o n := rfl
theorem rm_t (k c n : Nat) : (s.rm k c).t n = s.t n := rfl
theorem obrm_loose (d : D) (η : Heads) : (Ob.loose d η).rm 0 = .none := rfl
theorem obrm_box (b ty : Nat) (cs : List Cell) (c : Nat) : (Ob.box b ty cs).rm c = .box b ty (rmC cs c cs[c]?) := rfl
theorem rmC_own (cs : List Cell) (c : Nat) (d : D) (η : Heads) : rmC cs c (some (.own d η)) = cs.set c (.a (.v (η []))) := rfl
theorem lenK_own (k c : Nat) (p : List Nat) (x : Value) : lenK d s K false (.c (.h k c p x)) = ownK ((s.o k).own c) fun d0 η => η p = x ∧ getK (D.get p d0) fun dd => dd.isSl = true ∧ 0 < dd.size ∧ K (s.put d (.c (.v (.int .i64 dd.len)))) := by
  rw [lenK_h, is_ex]
theorem iaK_own (size k c : Nat) (p : List Nat) (hx : Value) (kk : IntKind) (n : Int) : iaK d s K size (.c (.h k c p hx)) (.c (.v (.int kk n))) = ((0 ≤ n ∧ ownK ((s.o k).own c) fun d0 η => η p = hx ∧ getK (D.get p d0) fun dd => dd.isSl = true ∧ dd.size = size ∧ n.toNat < dd.len) ∧ K (s.put d (.c (.ep k c p (n.toNat * size) hx)))) := by
  rw [iaK_h, is_ex]
theorem ldK_own (agg : Bool) (n k c : Nat) (p : List Nat) (i : Nat) (x : Value) : ldK d s K agg n (.c (.ep k c p i x)) = ownK ((s.o k).own c) fun d0 η => η p = x ∧ getK (D.get p d0) fun dd => dd.isSl = true ∧ i + n ≤ dd.cells.length ∧ ldV agg (loadE k c p η i ((dd.cells.drop i).take n)) fun v => K (s.put d v) := by
  apply propext
  rw [← own_ex]
  simp only [ldK]
  constructor
  · rintro ⟨d0, η, dd, h1, h2, h3, h4⟩; exact ⟨d0, η, h1, h2, by rw [h3]; exact h4⟩
  · rintro ⟨d0, η, h1, h2, h3⟩
    cases h : D.get p d0 with
    | none => rw [h] at h3; exact h3.elim
    | some dd => rw [h] at h3; exact ⟨d0, η, dd, h1, h2, h, h3⟩
theorem take_own (k c : Nat) (x : Value) (l : List A0) (R : List Cell → St → Prop) : TakeK s (.h k c [] x :: l) R = ownK ((s.o k).own c) fun d η => η [] = x ∧ TakeK (s.rm k c) l (fun cs s' => R (.own d η :: cs) s') := by
  rw [take_h, own_ex]

def cellsK (a : AV) (n : Nat) (k : List A0 → Prop) : Prop := ∃ l, a.cells = some l ∧ l.length = n ∧ k l
theorem cells_agg (l : List A0) (n : Nat) (k : List A0 → Prop) : cellsK (.agg l) n k = (l.length = n ∧ k l) := by simp [cellsK, AV.cells]
theorem cells_c (a : A0) (n : Nat) (k : List A0 → Prop) : cellsK (.c a) n k = (a.c1 = true ∧ 1 = n ∧ k [a]) := by
  simp only [cellsK, AV.cells]
  cases h : a.c1 <;> simp
def catK (s : St) : List (Nat × Nat × X) → (List A0 → Prop) → Prop
  | [], k => k []
  | (_, size, x) :: ps, k => cellsK (s.ev x) size fun l => catK s ps fun r => k (l ++ r)
theorem cat_ex : ∀ (ps : List (Nat × Nat × X)) (k : List A0 → Prop), (∃ l, catA s ps = some l ∧ k l) = catK s ps k
  | [], k => by simp [catA, catK]
  | (o, size, x) :: ps, k => by
    apply propext
    simp only [catK, cellsK, catA]
    constructor
    · rintro ⟨l, h1, h2⟩
      split at h1
      · rename_i l1 r h3 h4
        split at h1
        · rename_i h5
          simp at h1; subst h1
          refine ⟨l1, h3, h5, ?_⟩
          rw [← cat_ex ps]; exact ⟨r, h4, h2⟩
        · simp at h1
      · simp at h1
    · rintro ⟨l1, h3, h5, h6⟩
      rw [← cat_ex ps] at h6
      obtain ⟨r, h7, h8⟩ := h6
      exact ⟨l1 ++ r, by rw [h3, h7]; simp [h5], h8⟩
theorem cat_nil (k : List A0 → Prop) : catK s [] k = k [] := rfl
theorem cat_cons (o size : Nat) (x : X) (ps : List (Nat × Nat × X)) (k : List A0 → Prop) : catK s ((o, size, x) :: ps) k = cellsK (s.ev x) size fun l => catK s ps fun r => k (l ++ r) := rfl
def fillK (s : St) : List A0 → List (Nat × Nat × X) → (List A0 → Prop) → Prop
  | cs, [], k => k cs
  | cs, (off, size, x) :: ps, k => cellsK (s.ev x) size fun l => off + size ≤ cs.length ∧ fillK s (setAt cs off l) ps k
theorem fill_ex : ∀ (ps : List (Nat × Nat × X)) (cs : List A0) (k : List A0 → Prop), (∃ l, fillA s cs ps = some l ∧ k l) = fillK s cs ps k
  | [], cs, k => by simp [fillA, fillK]
  | (o, size, x) :: ps, cs, k => by
    apply propext
    simp only [fillK, cellsK, fillA]
    constructor
    · rintro ⟨l, h1, h2⟩
      split at h1
      · rename_i l1 h3
        split at h1
        · rename_i h5
          exact ⟨l1, h3, h5.1, h5.2, by rw [← fill_ex ps]; exact ⟨l, h1, h2⟩⟩
        · simp at h1
      · simp at h1
    · rintro ⟨l1, h3, h5, h6, h7⟩
      rw [← fill_ex ps] at h7
      obtain ⟨r, h8, h9⟩ := h7
      exact ⟨r, by rw [h3]; simp [h5, h6, h8], h9⟩
theorem fill_nil (cs : List A0) (k : List A0 → Prop) : fillK s cs [] k = k cs := rfl
theorem fill_cons (cs : List A0) (off size : Nat) (x : X) (ps : List (Nat × Nat × X)) (k : List A0 → Prop) : fillK s cs ((off, size, x) :: ps) k = cellsK (s.ev x) size fun l => off + size ≤ cs.length ∧ fillK s (setAt cs off l) ps k := rfl
theorem run_bld (zs : List Value) (ps : List (Nat × Nat × X)) : runI P β ⟨d, g, .bld zs ps⟩ s K = fillK s (zs.map .v) ps fun l => K (s.put d (.agg l)) := by
  have e := gen_k (P := P) (β := β) (s := s) (d := d) (g := g) (K := K) (i := .bld zs ps) (G := fun av => ∃ l, fillA s (zs.map .v) ps = some l ∧ av = .agg l) rfl (by
    intro _ _ av os
    simp only [Gen]
    constructor
    · rintro ⟨l, h1, h2, h3⟩; exact ⟨⟨l, h1, h2⟩, h3⟩
    · rintro ⟨⟨l, h1, h2⟩, h3⟩; exact ⟨l, h1, h2, h3⟩)
  rw [e, ← fill_ex]
  apply propext
  constructor
  · rintro ⟨_, ⟨l, h1, rfl⟩, h2⟩; exact ⟨l, h1, h2⟩
  · rintro ⟨l, h1, h2⟩; exact ⟨_, ⟨l, h1, rfl⟩, h2⟩
def datK (ks : List (Option (Nat × Nat))) (cs : List Cell) (k : List D → Prop) : Prop := ∃ ds, datumL ks cs = some ds ∧ k ds
theorem dat_nil (ks : List (Option (Nat × Nat))) (k : List D → Prop) : datK ks [] k = k [] := by simp [datK, datumL]
theorem dat_v (ks : List (Option (Nat × Nat))) (x : Value) (l : List Cell) (k : List D → Prop) : datK ks (.a (.v x) :: l) k = datK ks.tail l fun r => k (nilD (ks.head?.getD none) x :: r) := by
  simp only [datK, datumL]
  cases datumL ks.tail l <;> simp
theorem dat_own (ks : List (Option (Nat × Nat))) (dd : D) (η : Heads) (l : List Cell) (k : List D → Prop) : datK ks (.own dd η :: l) k = datK ks.tail l fun r => k (dd :: r) := by
  simp only [datK, datumL]
  cases datumL ks.tail l <;> simp
theorem nilD_0 (x : Value) : nilD none x = .val x := rfl
theorem run_bsl (e size n : Nat) (ks : List (Option (Nat × Nat))) (ps : List (Nat × Nat × X)) : runI P β ⟨d, g, .bsl e size n ks ps⟩ s K = catK s ps fun l => TakeK s l fun cs s' => datK ks cs fun ds => ∀ η, K ((s'.addO [(100 * (β + d.getD 0), .loose (.sl size e ds) η)]).put d (.c (.h (100 * (β + d.getD 0)) 0 [] (η [])))) := by
  rw [← cat_ex]; rfl
theorem run_alloc (ty : Nat) (zs : List Value) : runI P β ⟨d, g, .alloc ty zs⟩ s K = ∀ b, K ((s.addO [(100 * (β + d.getD 0), .box b ty (zs.map fun z => .a (.v z)))]).put d (.c (.bp (100 * (β + d.getD 0)) 0 b))) := by
  apply propext
  constructor
  · rintro ⟨_, h⟩ b
    obtain ⟨_, _, ⟨rfl, rfl⟩, h2⟩ := h ⟨b, fun _ _ => undef⟩
    exact h2
  · intro h
    exact ⟨.c (.val undef), fun st => ⟨_, _, ⟨rfl, rfl⟩, h st.blk⟩⟩
def obK (o : Ob) (b : Nat) (k : Nat → List Cell → Prop) : Prop := match o with
  | .box b' ty ds => b' = b ∧ k ty ds
  | _ => False
theorem obK_ (b b' ty : Nat) (ds : List Cell) (k : Nat → List Cell → Prop) : obK (.box b' ty ds) b k = (b' = b ∧ k ty ds) := rfl
theorem ob_ex (o : Ob) (b : Nat) (k : Nat → List Cell → Prop) : (∃ ty ds, o = .box b ty ds ∧ k ty ds) = obK o b k := by
  cases o with
  | box b' ty ds =>
    simp only [obK]
    apply propext
    constructor
    · rintro ⟨_, _, h, h2⟩; cases h; exact ⟨by trivial, h2⟩
    · rintro ⟨rfl, h2⟩; exact ⟨_, _, rfl, h2⟩
  | _ => simp [obK]
def stA (s' : St) (K : St → Prop) (n : Nat) (ks : List (Option (Nat × Nat))) (cs : List Cell) : AV → Prop
  | .c (.bp g c b) => obK (s'.o g) b fun ty ds => c + n ≤ ds.length ∧ K (s'.setO g (.box b ty (setAt ds c cs)))
  | .c (.ep g c p k hx) => 0 < n ∧ datK ks cs fun ds => ownK ((s'.o g).own c) fun d0 η => η p = hx ∧ getK (D.get p d0) fun dd => dd.isSl = true ∧ k + n ≤ dd.cells.length ∧
      stH (flatB ds && flatB ((dd.cells.drop k).take n)) p k n η fun η' => K (s'.setO g ((s'.o g).putOwn c (D.put p k ds d0) η'))
  | _ => False
theorem stA_bp (s' : St) (n k c b : Nat) (ks : List (Option (Nat × Nat))) (cs : List Cell) : stA s' K n ks cs (.c (.bp k c b)) = obK (s'.o k) b fun ty ds => c + n ≤ ds.length ∧ K (s'.setO k (.box b ty (setAt ds c cs))) := rfl
theorem stA_ep (s' : St) (n k c i : Nat) (p : List Nat) (hx : Value) (ks : List (Option (Nat × Nat))) (cs : List Cell) : stA s' K n ks cs (.c (.ep k c p i hx)) = (0 < n ∧ datK ks cs fun ds => ownK ((s'.o k).own c) fun d0 η => η p = hx ∧ getK (D.get p d0) fun dd => dd.isSl = true ∧ i + n ≤ dd.cells.length ∧
      stH (flatB ds && flatB ((dd.cells.drop i).take n)) p i n η fun η' => K (s'.setO k ((s'.o k).putOwn c (D.put p i ds d0) η'))) := rfl
theorem run_st (n : Nat) (ks : List (Option (Nat × Nat))) (a x : X) : runI P β ⟨none, g, .st n ks a x⟩ s K = cellsK (s.ev x) n fun l => TakeK s l fun cs s' => stA s' K n ks cs (s.ev a) := by
  have e : runI P β ⟨none, g, .st n ks a x⟩ s K = ((none : Option Nat) = none ∧ ∃ l, (s.ev x).cells = some l ∧ l.length = n ∧ TakeK s l fun cs s' => match s.ev a with
    | .c (.bp g c b) => ∃ ty ds, s'.o g = .box b ty ds ∧ c + n ≤ ds.length ∧ K (s'.setO g (.box b ty (setAt ds c cs)))
    | .c (.ep g c p k hx) => 0 < n ∧ ∃ ds, datumL ks cs = some ds ∧ ∃ d0 η dd, (s'.o g).own c = some (d0, η) ∧ η p = hx ∧ D.get p d0 = some dd ∧ dd.isSl = true ∧ k + n ≤ dd.cells.length ∧
        stH (flatB ds && flatB ((dd.cells.drop k).take n)) p k n η fun η' => K (s'.setO g ((s'.o g).putOwn c (D.put p k ds d0) η'))
    | _ => False) := rfl
  rw [e]
  simp only [true_and, cellsK]
  congr 1
  funext l
  congr 2
  congr 1
  funext cs s'
  cases hv : s.ev a with
  | c y =>
    cases y with
    | bp g c b => simp only [stA, ← ob_ex]
    | ep g c p k hx =>
      simp only [stA, datK]
      apply propext
      constructor
      · rintro ⟨h0, ds, h1, d0, η, dd, h2, h3, h4, h5, h6, h7⟩
        exact ⟨h0, ds, h1, by rw [← own_ex]; exact ⟨d0, η, h2, h3, by rw [h4]; exact ⟨h5, h6, h7⟩⟩⟩
      · rintro ⟨h0, ds, h1, h2⟩
        rw [← own_ex] at h2
        obtain ⟨d0, η, h3, h4, h5⟩ := h2
        cases hg : D.get p d0 with
        | none => rw [hg] at h5; exact h5.elim
        | some dd => rw [hg] at h5; exact ⟨h0, ds, h1, d0, η, dd, h3, h4, hg, h5⟩
    | _ => simp [stA]
  | _ => simp [stA]
theorem putOwn_loose (d0 d1 : D) (η η' : Heads) : (Ob.loose d0 η).putOwn 0 d1 η' = .loose d1 η' := rfl
theorem putOwn_box (b ty : Nat) (cs : List Cell) (c : Nat) (d1 : D) (η' : Heads) : (Ob.box b ty cs).putOwn c d1 η' = .box b ty (cs.set c (.own d1 η')) := rfl
theorem setAt_nil {α : Type} (l : List α) (c : Nat) : setAt l c [] = l := rfl
theorem setAt_cons {α : Type} (l : List α) (c : Nat) (x : α) (r : List α) : setAt l c (x :: r) = setAt (l.set c x) (c + 1) r := rfl

theorem run_app (e size bytes : Nat) (x y : X) : runI P β ⟨d, g, .app e size bytes x y⟩ s K = SrcK s size (s.ev y) fun ys s1 => DestK s1 e size (s.ev x) fun xs s2 => xs.length / size + ys.length / size ≤ maxLen ∧ (xs.length / size + ys.length / size) * bytes ≤ 140737488355328 ∧
      ∀ η, K ((s2.addO [(100 * (β + d.getD 0), .loose (.sl size e (xs ++ ys)) η)]).put d (.c (.h (100 * (β + d.getD 0)) 0 [] (η [])))) := rfl
theorem src_ro (size : Nat) (dd : D) (R : List D → St → Prop) : SrcK s size (.c (.ro dd)) R = (dd.isSl = true ∧ dd.size = size ∧ flatB dd.cells = true ∧ R dd.cells s) := rfl
theorem src_h (size k c : Nat) (p : List Nat) (x : Value) (R : List D → St → Prop) : SrcK s size (.c (.h k c p x)) R = ownK ((s.o k).own c) fun d0 η => η p = x ∧ getK (D.get p d0) fun dd => dd.isSl = true ∧ dd.size = size ∧ (if flatB dd.cells = true then R dd.cells s else p = [] ∧ oneB dd.cells = true ∧ R dd.cells (s.rm k c)) := by
  rw [← is_ex]; rfl
theorem dest_nil (e size : Nat) (R : List D → St → Prop) : DestK s e size (.c (.v (.slice none 0 0))) R = R [] s := rfl
def slK (dd : D) (e size : Nat) (k : List D → Prop) : Prop := ∃ cs, dd = .sl size e cs ∧ k cs
theorem slK_ (e size e' size' : Nat) (cs : List D) (k : List D → Prop) : slK (.sl size' e' cs) e size k = ((size' = size ∧ e' = e) ∧ k cs) := by
  simp only [slK]
  apply propext
  constructor
  · rintro ⟨_, h, h2⟩; cases h; exact ⟨⟨by trivial, by trivial⟩, h2⟩
  · rintro ⟨⟨rfl, rfl⟩, h⟩; exact ⟨_, rfl, h⟩
theorem dest_h (e size k c : Nat) (x : Value) (R : List D → St → Prop) : DestK s e size (.c (.h k c [] x)) R = ownK ((s.o k).own c) fun d0 η => slK d0 e size fun cs => η [] = x ∧ R cs (s.rm k c) := by
  apply propext
  rw [← own_ex]
  simp only [DestK, slK]
  constructor
  · rintro ⟨_, cs, η, h1, h2, h3⟩; exact ⟨_, η, h1, cs, rfl, h2, h3⟩
  · rintro ⟨_, η, h1, cs, rfl, h2, h3⟩; exact ⟨trivial, cs, η, h1, h2, h3⟩
theorem flatB_nil : flatB [] = true := rfl
theorem flatB_cons (u : Value) (l : List D) : flatB (.val u :: l) = (u.oneCell' && flatB l) := rfl
theorem flatB_app : ∀ (l m : List D), flatB (l ++ m) = (flatB l && flatB m)
  | [], _ => by simp [flatB]
  | .val u :: l, m => by simp [flatB, flatB_app l m, Bool.and_assoc]
  | .sl _ _ _ :: l, m => by simp [flatB]
theorem run_mks {e size bytes : Nat} {zs : List D} {l c : X} : runI P β ⟨d, g, .mks e size bytes zs l c⟩ s K = ∃ (k k' : IntKind) (n : Nat), s.ev l = .c (.v (.int k (n : Int))) ∧ s.ev c = .c (.v (.int k' (n : Int))) ∧ bytes * n ≤ 281474976710656 ∧ n ≤ maxLen ∧
    ∀ η, K ((s.addO [(100 * (β + d.getD 0), .loose (.sl size e ((List.replicate n zs).flatten)) η)]).put d (.c (.h (100 * (β + d.getD 0)) 0 [] (η [])))) := by
  apply propext
  constructor
  · rintro ⟨_, h⟩
    obtain ⟨_, _, ⟨k, k', n, h1, h2, h3, h4, rfl, rfl⟩, _⟩ := h ⟨0, fun _ _ => undef⟩
    refine ⟨k, k', n, h1, h2, h3, h4, fun η => ?_⟩
    obtain ⟨_, _, ⟨k1, k1', n1, h1', h2', _, _, rfl, rfl⟩, h6⟩ := h ⟨0, fun _ => η⟩
    rw [h1] at h1'
    cases h1'
    exact h6
  · rintro ⟨k, k', n, h1, h2, h3, h4, h5⟩
    exact ⟨.c (.val undef), fun st => ⟨_, _, ⟨k, k', n, h1, h2, h3, h4, rfl, rfl⟩, h5 (st.η 0)⟩⟩

def bnd (s : St) (x : Option X) (dflt : Nat) (k : Nat → Prop) : Prop := match x with
  | none => k dflt
  | some x => ∃ kk n, s.ev x = .c (.v (.int kk n)) ∧ 0 ≤ n ∧ k n.toNat
def bndA (a : AV) (k : Nat → Prop) : Prop := match a with
  | .c (.v (.int _ n)) => 0 ≤ n ∧ k n.toNat
  | _ => False
theorem bndA_ (kk : IntKind) (n : Int) (k : Nat → Prop) : bndA (.c (.v (.int kk n))) k = (0 ≤ n ∧ k n.toNat) := rfl
theorem bnd_n (dflt : Nat) (k : Nat → Prop) : bnd s none dflt k = k dflt := rfl
theorem bnd_s (x : X) (dflt : Nat) (k : Nat → Prop) : bnd s (some x) dflt k = bndA (s.ev x) k := by
  simp only [bnd]
  apply propext
  constructor
  · rintro ⟨kk, n, h1, h2⟩; rw [h1]; exact h2
  · intro h
    unfold bndA at h
    split at h
    · rename_i kk n he; exact ⟨kk, n, he, h⟩
    · exact h.elim
theorem bnd_ex (x : Option X) (dflt : Nat) (R : Nat → Prop) : (∃ l, bound s x dflt l ∧ R l) = bnd s x dflt R := by
  apply propext
  cases x with
  | none => constructor
            · rintro ⟨l, rfl, h⟩; exact h
            · intro h; exact ⟨_, rfl, h⟩
  | some x =>
    constructor
    · rintro ⟨l, ⟨k, h1⟩, h2⟩; exact ⟨k, l, h1, Int.natCast_nonneg _, by simpa using h2⟩
    · rintro ⟨k, n, h1, h2, h3⟩; exact ⟨n.toNat, ⟨k, by rw [h1, Int.toNat_of_nonneg h2]⟩, h3⟩
def slA (d : Option Nat) (s : St) (K : St → Prop) (size : Nat) (lo hi : Option X) : AV → Prop
  | .c (.v (.string b)) => size = 0 ∧ bnd s lo 0 fun l => bnd s hi b.size fun h => (l ≤ h ∧ h ≤ b.size) ∧ K (s.put d (.c (.v (.string (b.extract l h)))))
  | .c (.ro dd) => (0 < size ∧ dd.isSl = true ∧ dd.size = size) ∧ bnd s lo 0 fun l => bnd s hi dd.len fun h => (l ≤ h ∧ h ≤ dd.len) ∧ K (s.put d (.c (.ro (dd.sub l h))))
  | .c (.h k c p x) => 0 < size ∧ ownK ((s.o k).own c) fun d0 η => η p = x ∧ getK (D.get p d0) fun dd => (dd.isSl = true ∧ dd.size = size) ∧ bnd s lo 0 fun l => bnd s hi dd.len fun h => (l ≤ h ∧ h ≤ dd.len) ∧ K (s.put d (.c (.hs k c p x size l (h - l))))
  | _ => False
theorem run_sl (size : Nat) (x : X) (lo hi : Option X) : runI P β ⟨d, g, .sl size x lo hi⟩ s K = slA d s K size lo hi (s.ev x) := by
  have e := gen_k (P := P) (β := β) (s := s) (d := d) (g := g) (K := K) (i := .sl size x lo hi) (G := fun av => ∃ l h, bound s lo 0 l ∧ l ≤ h ∧ (match s.ev x with
      | .c (.v (.string b)) => size = 0 ∧ bound s hi b.size h ∧ h ≤ b.size ∧ av = .c (.v (.string (b.extract l h)))
      | .c (.ro d) => 0 < size ∧ d.isSl = true ∧ d.size = size ∧ bound s hi d.len h ∧ h ≤ d.len ∧ av = .c (.ro (d.sub l h))
      | .c (.h g c p hx) => 0 < size ∧ (∃ d, Is s (.h g c p hx) d ∧ d.size = size ∧ bound s hi d.len h ∧ h ≤ d.len) ∧ av = .c (.hs g c p hx size l (h - l))
      | _ => False)) rfl (by
    intro _ _ av os
    simp only [Gen]
    constructor
    · rintro ⟨l, h, h1, h2, h3, h4⟩; exact ⟨⟨l, h, h1, h2, h3⟩, h4⟩
    · rintro ⟨⟨l, h, h1, h2, h3⟩, h4⟩; exact ⟨l, h, h1, h2, h3, h4⟩)
  rw [e]
  apply propext
  cases hv : s.ev x with
  | c y =>
    cases y with
    | v u =>
      cases u with
      | string b =>
        simp only [slA, ← bnd_ex]
        constructor
        · rintro ⟨_, ⟨l, h, h1, h2, h3, h4, h5, rfl⟩, h6⟩; exact ⟨h3, l, h1, h, h4, ⟨h2, h5⟩, h6⟩
        · rintro ⟨h3, l, h1, h, h4, ⟨h2, h5⟩, h6⟩; exact ⟨_, ⟨l, h, h1, h2, h3, h4, h5, rfl⟩, h6⟩
      | _ => simp [slA]
    | ro dd =>
      simp only [slA, ← bnd_ex]
      constructor
      · rintro ⟨_, ⟨l, h, h1, h2, h3, h4, h5, h6, h7, rfl⟩, h8⟩; exact ⟨⟨h3, h4, h5⟩, l, h1, h, h6, ⟨h2, h7⟩, h8⟩
      · rintro ⟨⟨h3, h4, h5⟩, l, h1, h, h6, ⟨h2, h7⟩, h8⟩; exact ⟨_, ⟨l, h, h1, h2, h3, h4, h5, h6, h7, rfl⟩, h8⟩
    | h k c p hx =>
      simp only [slA]
      constructor
      · rintro ⟨_, ⟨l, h, h1, h2, h3, ⟨dd, ⟨d0, η, k1, k2, k3, k4⟩, k5, k6, k7⟩, rfl⟩, h8⟩
        refine ⟨h3, ?_⟩
        rw [← own_ex]
        refine ⟨d0, η, k1, k2, ?_⟩
        rw [k3]
        refine ⟨⟨k4, k5⟩, ?_⟩
        rw [← bnd_ex]
        refine ⟨l, h1, ?_⟩
        rw [← bnd_ex]
        exact ⟨h, k6, ⟨h2, k7⟩, h8⟩
      · rintro ⟨h3, h4⟩
        rw [← own_ex] at h4
        obtain ⟨d0, η, k1, k2, k3⟩ := h4
        cases hg : D.get p d0 with
        | none => rw [hg] at k3; exact k3.elim
        | some dd =>
          rw [hg] at k3
          obtain ⟨⟨k4, k5⟩, k6⟩ := k3
          rw [← bnd_ex] at k6
          obtain ⟨l, h1, k7⟩ := k6
          rw [← bnd_ex] at k7
          obtain ⟨h, k8, ⟨h2, k9⟩, h8⟩ := k7
          exact ⟨_, ⟨l, h, h1, h2, h3, ⟨dd, ⟨d0, η, k1, k2, hg, k4⟩, k5, k8, k9⟩, rfl⟩, h8⟩
    | _ => simp [slA]
  | _ => simp [slA]
theorem slA_ro (size : Nat) (lo hi : Option X) (dd : D) : slA d s K size lo hi (.c (.ro dd)) = ((0 < size ∧ dd.isSl = true ∧ dd.size = size) ∧ bnd s lo 0 fun l => bnd s hi dd.len fun h => (l ≤ h ∧ h ≤ dd.len) ∧ K (s.put d (.c (.ro (dd.sub l h))))) := rfl
theorem ret_r (rs : List R) (rt : RT) : retE rs rt .ret s = RetQ rs rt s := rfl
def St.n (s : St) (i : Nat) : Nat := match s.t i with | .c (.v (.int _ n)) => n.toNat | _ => 0
theorem st_n {i : Nat} {k : IntKind} {n : Int} (h : s.t i = .c (.v (.int k n))) : s.n i = n.toNat := by simp [St.n, h]
theorem wrap64 {x : Int} (h : -9223372036854775808 ≤ x) (h' : x < 9223372036854775808) : IntKind.i64.wrap x = x := IntWalk.i64_in _ (by omega)
theorem is_v (x : Value) : Is s (.v x) (.val x) = True := by simp [Is]
theorem is_ro (d : D) : Is s (.ro d) d = True := by simp [Is]
theorem isL_nil : IsL s [] [] = True := rfl
theorem isL_cons (a : A0) (l : List A0) (d : D) (ds : List D) : IsL s (a :: l) (d :: ds) = (Is s a d ∧ IsL s l ds) := rfl
theorem args_nil : ArgsAre s [] [] = True := rfl
theorem args_cons (a : AV) (l : List AV) (v : View) (vs : List View) : ArgsAre s (a :: l) (v :: vs) = (ArgIs s a v ∧ ArgsAre s l vs) := rfl
theorem arg_c (a : A0) (d : D) : ArgIs s (.c a) (.c d) = Is s a d := rfl
theorem arg_agg (l : List A0) (ds : List D) : ArgIs s (.agg l) (.agg ds) = IsL s l ds := rfl
theorem arg_ptr (a : A0) (ds : List D) : ArgIs s (.c a) (.ptr ds) = Ptr s a ds := rfl
theorem arg_fn (f : Nat) (caps : List A0) (caps' : List (List D)) : ArgIs s (.fn f caps) (.fn f caps') = PtrL s caps caps' := by simp [ArgIs]
theorem ptrL_nil : PtrL s [] [] = True := rfl
theorem ptrL_cons (a : A0) (l : List A0) (d : List D) (ds : List (List D)) : PtrL s (a :: l) (d :: ds) = (Ptr s a d ∧ PtrL s l ds) := rfl
theorem ptr_rp (ds : List D) : Ptr s (.rp ds) ds = True := by simp [Ptr]
theorem is_h0 (k c : Nat) (x : Value) (d : D) : Is s (.h k c [] x) d = ownK ((s.o k).own c) fun d0 η => d0 = d ∧ η [] = x ∧ d.isSl = true := by
  apply propext
  rw [← own_ex]
  simp only [Is, get_nil]
  constructor
  · rintro ⟨d0, η, h1, h2, h3, h4⟩; cases h3; exact ⟨_, η, h1, rfl, h2, h4⟩
  · rintro ⟨_, η, h1, rfl, h2, h3⟩; exact ⟨_, η, h1, h2, rfl, h3⟩
theorem cvK_text {k c : Nat} {x : Value} {ty : Nat} {cs : List D} {η : Heads} {bs : List UInt8} (h1 : (s.o k).own c = some (.sl 1 ty cs, η)) (h2 : η [] = x) (h3 : cs = bs.map byteVal) (hk : K (s.put d (.c (.v (.string ⟨bs.toArray⟩))))) : cvK d s K .text (.c (.h k c [] x)) := by
  subst h3
  exact ⟨_, ⟨_, ty, bs, rfl, ⟨_, η, h1, h2, get_nil _, rfl⟩, rfl⟩, hk⟩
end
theorem dsize_sl (s : Nat) (t : TypeId) (cs : List D) : (D.sl s t cs).size = s := rfl
theorem dcells_sl (s : Nat) (t : TypeId) (cs : List D) : (D.sl s t cs).cells = cs := rfl
theorem dsl_sl (s : Nat) (t : TypeId) (cs : List D) : (D.sl s t cs).isSl = true := rfl
theorem dobj_v (v : Value) (g : Nat) (η : Heads) : (D.val v).obj g η = [] := rfl
theorem down_v (v : Value) (g c : Nat) (p : List Nat) (η : Heads) : (D.val v).toOwn g c p η = .v v := rfl
attribute [go_sem] dsize_sl dcells_sl dsl_sl dobj_v down_v wp_dreg rt_done rt_stop rt_pure rt_gtt rt_gtf rt_gft rt_gff rt_alt ra_gtt ra_gtf ra_gft ra_gff keepL_nil keepL_cons keep1_nil keep1_cons kept_ob kept_cs sameB_t I.looks AV.looks A0.looks AV.ids A0.ids List.flatMap_cons List.flatMap_nil List.append_nil List.contains_cons List.contains_nil Bool.or_false Bool.or_true Bool.or_self Bool.false_or Bool.true_or ite_true ite_false run_sl slA_ro bnd_n bnd_s bndA_ nilD_0 putOwn_loose putOwn_box List.tail_cons List.head?_cons Nat.zero_add wp_skip_ wp_reg wp_seq_ wp_blk wp_exit_ wp_ret_ wp_cond_t wp_cond_f thn_n thn_e thn_r blk_n blk_r blk_e run_nil_ run_cons_ run_gtt run_gtf run_gft run_gff run_mov run_pick pickK_ run_fa faK_rp faK_bp faK_ep run_ld ldK_rp ldK_bp ldK_own ldB_ ldV_t ldV_f run_ia iaK_ro iaK_own run_len lenK_ro lenK_str lenK_own run_bin binK_i binK_seq run_un unK_not run_cv cvK_num run_sidx sidxK_ run_box boxK_agg run_bsl run_bld run_alloc run_st stA_bp run_app src_ro src_h dest_nil dest_h slK_ ownK_ getK_ get_nil own_loose own_box ownC_ rm_o rm_t obrm_loose obrm_box rmC_own obK_ cells_agg cells_c cat_nil cat_cons fill_nil fill_cons dat_nil dat_v dat_own setAt_nil setAt_cons flatB_nil flatB_cons flatB_app take_nil take_v take_ro take_own one_i one_b one_s one_n A0.c1 ev_t ev_i ev_b ev_s ev_n put_t put_o setO_t setO_o addO_nil addO_cons init_t init_o View.av ro_val intOk intBin loadC ret_r is_v is_ro isL_nil isL_cons args_nil args_cons arg_c arg_agg arg_ptr arg_fn ptrL_nil ptrL_cons ptr_rp is_h0 RT.flat objL RT.av ownL ownT List.map_cons List.map_nil List.length_cons List.length_nil List.take_succ_cons List.take_zero List.drop_succ_cons List.drop_zero List.getElem?_cons_zero List.getElem?_cons_succ List.set_cons_zero List.set_cons_succ List.cons_append List.nil_append Option.getD_some Nat.lt_add_one and_true true_and and_self forall_const imp_self implies_true ge_iff_le gt_iff_lt decide_true decide_false Bool.not_true Bool.not_false Bool.and_self Bool.false_eq_true Int.toNat_natCast Int.natCast_nonneg not_false_eq_true ne_eq
attribute [go_sem_proc] Nat.reduceEqDiff Nat.reduceMul Nat.reduceAdd Nat.reduceLeDiff Nat.reduceLT Nat.reduceBEq Nat.reduceSub reduceCtorEq Int.reduceEq
attribute [go_sem_proc ↓] reduceIte
end Go.Proofs.YtnhdcbhcocgjhaaGreat
set_option linter.unusedSimpArgs false
set_option linter.unusedVariables false
namespace Go.Proofs.YtnhdcbhcocgjhaaGreat
open Go.RowKit Go.Sort
section
variable {P : Program} {β : Nat} {s : St} {Q Q' : Ex → St → Prop}
theorem runL_mono : ∀ {is : List Ins} {s : St} {K K' : St → Prop}, (∀ s, K s → K' s) → runL P β is s K → runL P β is s K'
  | [], _, _, _, h, hk => h _ hk
  | i :: l, s, K, K', h, hk => by
    simp only [runL] at hk ⊢
    split
    · rename_i hw; simp only [hw] at hk; exact run_mono (fun s' => runL_mono h) hk
    · rename_i hw; simp only [hw] at hk; exact runL_mono h hk
    · rename_i hw; simp only [hw] at hk
theorem runT_mono : ∀ {t : T} {l : List (Nat × List Lk)} {s : St} {K K' : St → Prop}, (∀ s, K s → K' s) → runT P β t l s K → runT P β t l s K'
  | .done, _, _, _, _, h, hk => h _ hk
  | .stop, _, _, _, _, _, _ => trivial
  | .pure p i t, l, s, K, K', h, hk => by
    simp only [runT] at hk ⊢
    split
    · rename_i hw; simp only [hw] at hk; exact run_mono (fun s' => runT_mono h) hk
    · rename_i hw; simp only [hw] at hk; exact runT_mono h hk
    · rename_i hw; simp only [hw] at hk
  | .alt i chk t r, l, s, K, K', h, hk => by
    simp only [runT] at hk ⊢
    refine ⟨?_, runT_mono h hk.2⟩
    have hk := hk.1
    split
    · rename_i hw; simp only [hw] at hk; exact run_mono (fun s' ⟨h1, h2⟩ => ⟨h1, runT_mono h h2⟩) hk
    · rename_i hw; simp only [hw] at hk; exact runT_mono h hk
    · rename_i hw; simp only [hw] at hk
theorem thn_mono {n n' : St → Prop} (hn : ∀ s, n s → n' s) (hQ : ∀ e s, Q e s → Q' e s) : ∀ e s, Ex.thn n Q e s → Ex.thn n' Q' e s
  | .normal, _, h => hn _ h
  | .exit _, _, h => hQ _ _ h
  | .ret, _, h => hQ _ _ h
theorem blk_mono {id : Nat} (hQ : ∀ e s, Q e s → Q' e s) : ∀ e s, Ex.inBlk id Q e s → Ex.inBlk id Q' e s
  | .normal, _, h => hQ _ _ h
  | .exit id', _, h => by
    simp only [Ex.inBlk] at h ⊢
    by_cases e : id' = id
    · rw [if_pos e] at h ⊢; exact hQ _ _ h
    · rw [if_neg e] at h ⊢; exact hQ _ _ h
  | .ret, _, h => hQ _ _ h
theorem wpC_mono : ∀ (c : C) {s : St} {Q Q' : Ex → St → Prop}, (∀ e s, Q e s → Q' e s) → wpC P β c Q s → wpC P β c Q' s
  | .skip, _, _, _, h, hk => h _ _ hk
  | .reg _, _, _, _, h, hk => runL_mono (fun _ => h _ _) hk
  | .dreg _, _, _, _, h, hk => runT_mono (fun _ => h _ _) hk
  | .seq a b, s, Q, Q', h, hk => by
    rw [wp_seq_] at hk ⊢
    exact wpC_mono a (thn_mono (fun _ => wpC_mono b h) h) hk
  | .cond x a b, _, _, _, h, ⟨t, h1, h2, h3⟩ => ⟨t, h1, fun ht => wpC_mono a h (h2 ht), fun ht => wpC_mono b h (h3 ht)⟩
  | .blk id a, s, Q, Q', h, hk => by
    rw [wp_blk] at hk ⊢
    exact wpC_mono a (blk_mono h) hk
  | .loop a, _, _, _, h, ⟨ι, mk, J, μ, h1, h2⟩ => ⟨ι, mk, J, μ, h1, fun i hi => wpC_mono a (thn_mono (fun _ h => h) h) (h2 i hi)⟩
  | .gh a, _, _, _, h, hk => fun _ _ _ _ _ _ hr => let ⟨s', F', h1, h2⟩ := hk _ _ _ _ _ _ hr; ⟨s', F', h1, wpC_mono a h h2⟩
  | .exit _, _, _, _, h, hk => h _ _ hk
  | .ret, _, _, _, h, hk => h _ _ hk
theorem Wk.refl (s : St) : Wk s s := fun _ _ _ _ _ F h => ⟨F, h, fun g b hb => ⟨g, hb⟩⟩
theorem wp_loop_ {a : C} {s : St} (J : St → Prop) (μ : St → Nat) (h : J s) (hr : ∀ s, J s → wpC P β a (Ex.thn (fun s' => J s' ∧ μ s' < μ s) Q) s) : wpC P β (.loop a) Q s := by
  refine ⟨St, id, J, μ, ⟨s, h, .refl s⟩, fun s hs => wpC_mono a (thn_mono (fun s' ⟨h1, h2⟩ => ⟨s', h1, .refl s', h2⟩) fun _ _ h => h) (hr s hs)⟩
theorem least {p : Nat → Prop} (h : ∃ n, p n) : ∃ n, p n ∧ ∀ m, p m → n ≤ m := by
  obtain ⟨n, hn⟩ := h
  induction n using Nat.strongRecOn with
  | _ n ih =>
    by_cases hm : ∃ m, m < n ∧ p m
    · obtain ⟨m, h1, h2⟩ := hm
      exact ih m h1 h2
    · exact ⟨n, hn, fun m hp => Nat.le_of_not_lt fun hlt => hm ⟨m, hlt, hp⟩⟩
/-- So many rounds, at most. -/
def rounds (P : Program) (β : Nat) (a : C) (Q : Ex → St → Prop) : Nat → St → Prop
  | 0, _ => False
  | n + 1, s => wpC P β a (Ex.thn (rounds P β a Q n) Q) s
open Classical in
theorem wp_rounds {a : C} {n : Nat} (h : rounds P β a Q n s) : wpC P β (.loop a) Q s := by
  refine wp_loop_ (fun s => ∃ n, rounds P β a Q n s) (fun s => if h : ∃ n, rounds P β a Q n s then Classical.choose (least h) else 0) ⟨n, h⟩ ?_
  intro s hs
  obtain ⟨h1, h0⟩ := Classical.choose_spec (least hs)
  obtain ⟨m, hm⟩ : ∃ m, Classical.choose (least hs) = m + 1 := by
    cases hq : Classical.choose (least hs) with
    | zero => rw [hq] at h1; exact h1.elim
    | succ m => exact ⟨m, rfl⟩
  rw [hm] at h1
  refine wpC_mono _ (thn_mono (fun s' h2 => ⟨⟨m, h2⟩, ?_⟩) fun _ _ h => h) h1
  have h3 : ∃ n, rounds P β a Q n s' := ⟨m, h2⟩
  have h4 := (Classical.choose_spec (least h3)).2 m h2
  simp only [dif_pos hs, dif_pos h3, hm]
  omega
/-- One round first. -/
theorem wp_unroll {a : C} {s : St} (n : Nat) (h : wpC P β a (Ex.thn (rounds P β a Q n) Q) s) : wpC P β (.loop a) Q s := wp_rounds (n := n + 1) h
theorem want_u {t : Nat} {w : Bool} (h : s.t t = .c (.v undef)) : wantA s (some (t, w)) = some false := by
  simp only [wantA, h]
  rfl
theorem run_gu {t : Nat} {w : Bool} {d : Option Nat} {K : St → Prop} (i : I) (l : List Ins) (h : s.t t = .c (.v undef)) : runL P β (⟨d, some (t, w), i⟩ :: l) s K = runL P β l (s.put d (.c (.v undef))) K := by
  simp only [runL, want_u h]
theorem rt_gu {t p : Nat} {w : Bool} {d : Option Nat} {l : List (Nat × List Lk)} {K : St → Prop} (i : I) (t' : T) (h : s.t t = .c (.v undef)) : runT P β (.pure p ⟨d, some (t, w), i⟩ t') l s K = runT P β t' l (s.put d (.c (.v undef))) K := by
  simp only [runT, want_u h]
theorem ra_gu {t : Nat} {w : Bool} {d : Option Nat} {l : List (Nat × List Lk)} {K : St → Prop} (i : I) (chk : List Nat) (t' r : T) (h : s.t t = .c (.v undef)) : runT P β (.alt ⟨d, some (t, w), i⟩ chk t' r) l s K = (runT P β t' l (s.put d (.c (.v undef))) K ∧ runT P β r l s K) := by
  simp only [runT, want_u h]
theorem isD_nil : IsD [] [] = True := by simp [IsD]
theorem isD_v (x : Value) (l : List Cell) (d : D) (ds : List D) : IsD (.a (.v x) :: l) (d :: ds) = ((d = .val x ∨ x = .slice none 0 0 ∧ ∃ size ty, d = .sl size ty []) ∧ IsD l ds) := rfl
theorem isD_val (x : Value) (l : List Cell) (ds : List D) : IsD (.a (.v x) :: l) (.val x :: ds) = IsD l ds := by rw [isD_v]; simp
theorem isD_1 (x u : Value) : IsD [.a (.v x)] [.val u] = (x = u) := by
  rw [isD_v]; simp only [isD_nil]; apply propext
  constructor
  · rintro ⟨h | ⟨_, _, _, h⟩, _⟩
    · cases h; rfl
    · cases h
  · rintro rfl; exact ⟨.inl rfl, trivial⟩
theorem isD_none (l : List Cell) (size : Nat) (ty : TypeId) (ds : List D) : IsD (.a (.v (.slice none 0 0)) :: l) (.sl size ty [] :: ds) = IsD l ds := by rw [isD_v]; simp
theorem isD_own (d d' : D) (η : Heads) (l : List Cell) (ds : List D) : IsD (.own d' η :: l) (d :: ds) = (d' = d ∧ IsD l ds) := rfl
/-- What one slot returns. -/
def retA (s : St) : RT → AV → Prop
  | .c d, .c a => TakeK s [a] fun cs _ => IsD cs [d]
  | .agg ds, .agg l => TakeK s l fun cs _ => IsD cs ds
  | _, _ => False
theorem retA_c (d : D) (a : A0) : retA s (.c d) (.c a) = TakeK s [a] fun cs _ => IsD cs [d] := rfl
theorem retA_agg (ds : List D) (l : List A0) : retA s (.agg ds) (.agg l) = TakeK s l fun cs _ => IsD cs ds := rfl
theorem ret_t (n : Nat) (rt : RT) : RetQ [.t n] rt s = retA s rt (s.t n) := by
  apply propext
  simp only [RetQ, resK]
  cases h : s.t n with
  | c a => cases rt <;> simp [retA, ShapeIs, RT.flat]
  | agg l => cases rt <;> simp [retA, ShapeIs, RT.flat]
  | _ => cases rt <;> simp [retA]
def retCell (s : St) (agg : Bool) (k : Nat) (rt : RT) (a : AV) : Prop := ∃ l, LoadIs s k l a ∧ (agg = true ∨ l.length = 1) ∧ ShapeIs rt [(agg, l)] ∧ TakeK s ([(agg, l)].flatMap (·.2)) fun cs _ => IsD cs rt.flat
theorem ret_cell (n k : Nat) (agg : Bool) (rt : RT) : RetQ [.cell n agg k] rt s = retCell s agg k rt (s.t n) := rfl
theorem retCell_bp (k g c b : Nat) (agg : Bool) (rt : RT) : retCell s agg k rt (.c (.bp g c b)) = ldB (s.o g) g c b k fun l => ldV agg l fun v => retA s rt v := by
  apply propext
  simp only [retCell, LoadIs]
  cases ho : s.o g with
  | box b' ty cs =>
    simp only [ldB, Ob.box.injEq]
    constructor
    · rintro ⟨l, ⟨_, _, ⟨rfl, rfl, rfl⟩, h2, rfl⟩, h3, h4, h5⟩
      refine ⟨rfl, h2, ?_⟩
      cases agg with
      | true => cases rt <;> simp_all [ldV, retA, ShapeIs, RT.flat]
      | false =>
        obtain ⟨a, ha⟩ := List.length_eq_one_iff.1 (by simpa using h3)
        rw [ha] at h4 h5 ⊢
        cases rt <;> simp_all [ldV, retA, ShapeIs, RT.flat]
    · rintro ⟨rfl, h2, h3⟩
      refine ⟨_, ⟨ty, cs, ⟨rfl, rfl, rfl⟩, h2, rfl⟩, ?_⟩
      cases agg with
      | true => cases rt <;> simp_all [ldV, retA, ShapeIs, RT.flat]
      | false =>
        generalize loadC g c ((cs.drop c).take k) = l at h3 ⊢
        match l, h3 with
        | [a], h3 => cases rt <;> simp_all [ldV, retA, ShapeIs, RT.flat]
  | _ => simp [ldB]
theorem ri_r (rs : List R) (K : AV → (Nat → Ob) → Prop) : inlE rs K .ret s = RetI rs K s := rfl
theorem ri_n (rs : List R) (K : AV → (Nat → Ob) → Prop) : inlE rs K .normal s = RetI rs K s := rfl
theorem reti_0 (K : AV → (Nat → Ob) → Prop) : RetI [] K s = K (.tup []) s.o := rfl
def retICell (s : St) (agg : Bool) (k : Nat) (K : AV → (Nat → Ob) → Prop) (a : AV) : Prop := ∃ l, LoadIs s k l a ∧ (agg = true ∨ l.length = 1) ∧ (match [(agg, l)] with
  | [(true, l)] => K (.agg l) s.o
  | [(false, [a])] => K (.c a) s.o
  | [] => K (.tup []) s.o
  | p :: q :: r => K (.tup (p :: q :: r)) s.o
  | _ => False)
theorem reti_cell (n k : Nat) (agg : Bool) (K : AV → (Nat → Ob) → Prop) : RetI [.cell n agg k] K s = retICell s agg k K (s.t n) := rfl
theorem retICell_bp (k g c b : Nat) (agg : Bool) (K : AV → (Nat → Ob) → Prop) : retICell s agg k K (.c (.bp g c b)) = ldB (s.o g) g c b k fun l => ldV agg l fun v => K v s.o := by
  apply propext
  simp only [retICell, LoadIs]
  cases ho : s.o g with
  | box b' ty cs =>
    simp only [ldB, Ob.box.injEq]
    constructor
    · rintro ⟨l, ⟨_, _, ⟨rfl, rfl, rfl⟩, h2, rfl⟩, h3, h4⟩
      refine ⟨rfl, h2, ?_⟩
      cases agg with
      | true => exact h4
      | false =>
        obtain ⟨a, ha⟩ := List.length_eq_one_iff.1 (by simpa using h3)
        rw [ha] at h4 ⊢
        exact h4
    · rintro ⟨rfl, h2, h3⟩
      refine ⟨_, ⟨ty, cs, ⟨rfl, rfl, rfl⟩, h2, rfl⟩, ?_⟩
      cases agg with
      | true => exact ⟨.inl rfl, h3⟩
      | false =>
        generalize loadC g c ((cs.drop c).take k) = l at h3 ⊢
        match l, h3 with
        | [a], h3 => exact ⟨.inr rfl, h3⟩
  | _ => simp [ldB]
theorem start_t (args : List AV) (o : Nat → Ob) (n : Nat) : (St.start args o).t n = (args[n]?).getD .unk := rfl
theorem start_o (args : List AV) (o : Nat → Ob) : (St.start args o).o = o := rfl

end
attribute [go_sem_proc] Int.reduceBEq Int.reduceBNe Nat.reduceBNe Int.reduceAdd Int.reduceSub Int.reduceMul Int.reduceLE Int.reduceLT Int.reduceGE Int.reduceGT Int.reduceTMod Int.reduceTDiv Int.reduceNe Int.reduceNeg Int.reduceToNat Nat.reduceDiv Nat.reduceMod Nat.reducePow Int.reduceNegSucc
attribute [go_sem] Int.cast_ofNat_Int run_gu rt_gu ra_gu isD_nil isD_1 isD_val isD_none isD_own start_t start_o ri_r ri_n reti_0 reti_cell retICell_bp ret_t ret_cell retCell_bp retA_c retA_agg
end Go.Proofs.YtnhdcbhcocgjhaaGreat
set_option linter.unusedSimpArgs false
set_option linter.unusedVariables false
namespace Go.Proofs.YtnhdcbhcocgjhaaGreat
open Go.RowKit Go.Sort
section
variable {P : Program} {f : FuncId}
theorem views2 {w : World} {v1 v2 : View} {xs : List Value} (h : ViewsRel w [v1, v2] xs) : ∃ a b, xs = [a, b] ∧ ViewRel w v1 a ∧ ViewRel w v2 b := by
  obtain ⟨a, _, rfl, h1, b, _, rfl, h2, h3⟩ := h
  rw [show _ = _ from h3]
  exact ⟨a, b, rfl, h1, h2⟩
theorem views1 {w : World} {v1 : View} {xs : List Value} (h : ViewsRel w [v1] xs) : ∃ a, xs = [a] ∧ ViewRel w v1 a := by
  obtain ⟨a, _, rfl, h1, h3⟩ := h
  rw [show _ = _ from h3]
  exact ⟨a, rfl, h1⟩
theorem pure2 {v1 v2 : View} {u : Value} (hn : Named P f) (h : ∀ w a b, ViewRel w v1 a → ViewRel w v2 b → Calls P f #[a, b] w fun e w' => e = .returned u ∧ Below w.heap.size w w') : Pure P f [v1, v2] (.c (.val u)) := by
  refine ⟨hn, fun w xs hv => ?_⟩
  obtain ⟨a, b, rfl, h1, h2⟩ := views2 hv
  exact (h w a b h1 h2).mono fun e w' ⟨he, hb⟩ => ⟨u, [], he, ⟨rfl, rfl⟩, Fresh.nil _, hb⟩
theorem pure1 {v1 : View} {u : Value} (hn : Named P f) (h : ∀ w a, ViewRel w v1 a → Calls P f #[a] w fun e w' => e = .returned u ∧ Below w.heap.size w w') : Pure P f [v1] (.c (.val u)) := by
  refine ⟨hn, fun w xs hv => ?_⟩
  obtain ⟨a, rfl, h1⟩ := views1 hv
  exact (h w a h1).mono fun e w' ⟨he, hb⟩ => ⟨u, [], he, ⟨rfl, rfl⟩, Fresh.nil _, hb⟩
theorem pure_agg {v1 : View} {ds : List D} (hn : Named P f) (h : ∀ w a, ViewRel w v1 a → Calls P f #[a] w (RetAgg w ds)) : Pure P f [v1] (.agg ds) := by
  refine ⟨hn, fun w xs hv => ?_⟩
  obtain ⟨a, rfl, h1⟩ := views1 hv
  exact (h w a h1).mono fun e w' h => h
theorem view_val {w : World} {u a : Value} (h : ViewRel w (.c (.val u)) a) : a = u := by obtain ⟨S, h1, _⟩ := h; exact h1
end

def Placed1 (o : Nat → Ob) : A0 → Prop
  | .h g c _ x => (o g = .none ∧ c = 0) ∨ ∃ b ty cs, o g = .box b ty cs ∧ cs[c]? = some (.a (.v x))
  | _ => True
def Placed (o : Nat → Ob) (l : List A0) : Prop := ∀ a ∈ l, Placed1 o a
theorem placed_rm {s : St} {l : List A0} {g c : Nat} {d : D} {η : Heads} (h : Placed s.o l) (ho : (s.o g).own c = some (d, η)) : Placed (s.rm g c).o l := by
  intro a ha
  have h1 := h a ha
  cases a with
  | h g' c' p x =>
    by_cases hg : g' = g
    · subst hg
      rcases h1 with ⟨h2, _⟩ | ⟨b, ty, cs, h2, h3⟩
      · rw [h2] at ho; simp [Ob.own] at ho
      · right
        rw [h2, own_box] at ho
        refine ⟨b, ty, rmC cs c cs[c]?, ?_, ?_⟩
        · show (if g' = g' then (s.o g').rm c else s.o g') = _
          rw [if_pos rfl, h2]; rfl
        · by_cases hc : c = c'
          · subst hc; rw [h3] at ho; simp [ownC] at ho
          · cases hq : cs[c]? with
            | none => simpa [rmC] using h3
            | some y =>
              cases y with
              | a y => simpa [rmC] using h3
              | own d0 η0 => simp only [rmC]; rw [List.getElem?_set_ne hc]; exact h3
    · have e : (s.rm g c).o g' = s.o g' := by
        show (if g' = g then _ else s.o g') = _
        rw [if_neg hg]
      simp only [Placed1, e]
      exact h1
  | _ => trivial
theorem take_placed : ∀ {l : List A0} {s : St} {l0 : List A0} {K : List Cell → St → Prop}, Placed s.o l0 → TakeK s l K → TakeK s l fun cs s1 => K cs s1 ∧ Placed s1.o (l0 ++ l)
  | [], s, l0, K, h, hk => ⟨hk, by rw [List.append_nil]; exact h⟩
  | x :: l, s, l0, K, h, hk => by
    have plain : ∀ a : A0, (∀ o, Placed1 o a) → TakeK s l (fun cs s' => K (.a a :: cs) s') → TakeK s l (fun cs s' => K (.a a :: cs) s' ∧ Placed s'.o (l0 ++ a :: l)) := fun a ha hk => by
      have := take_placed (l0 := l0 ++ [a]) (fun b hb => by rcases List.mem_append.1 hb with hb | hb; exact h b hb; simp at hb; subst hb; exact ha _) hk
      exact take_mono (fun cs s1 ⟨h1, h2⟩ => ⟨h1, by simpa using h2⟩) this
    cases x with
    | h g c p x =>
      obtain ⟨rfl, d, η, h1, h2, h3⟩ := hk
      refine ⟨rfl, d, η, h1, h2, ?_⟩
      have hp : Placed1 (s.rm g c).o (.h g c [] x) := by
        have e : (s.rm g c).o g = (s.o g).rm c := by show (if g = g then _ else _) = _; rw [if_pos rfl]
        simp only [Placed1, e]
        cases hob : s.o g with
        | none => rw [hob] at h1; simp [Ob.own] at h1
        | loose d0 η0 =>
          rw [hob] at h1
          cases c with
          | succ c => simp [Ob.own] at h1
          | zero => left; exact ⟨rfl, rfl⟩
        | box b ty cs =>
          rw [hob, own_box] at h1
          right
          cases hq : cs[c]? with
          | none => rw [hq] at h1; simp [ownC] at h1
          | some y =>
            cases y with
            | a y => rw [hq] at h1; simp [ownC] at h1
            | own d0 η0 =>
              rw [hq] at h1
              simp [ownC] at h1
              obtain ⟨rfl, rfl⟩ := h1
              refine ⟨b, ty, _, rfl, ?_⟩
              simp only [rmC, hq]
              rw [List.getElem?_set_self (List.getElem?_eq_some_iff.1 hq).1, h2]
      have := take_placed (l0 := l0 ++ [.h g c [] x]) (s := s.rm g c) (fun b hb => by rcases List.mem_append.1 hb with hb | hb; exact placed_rm h h1 b hb; simp at hb; subst hb; exact hp) h3
      exact take_mono (fun cs s1 ⟨h1, h2⟩ => ⟨h1, by simpa using h2⟩) this
    | v x => exact ⟨hk.1, plain _ (fun _ => trivial) hk.2⟩
    | ro x => exact ⟨hk.1, plain _ (fun _ => trivial) hk.2⟩
    | rp x => exact ⟨hk.1, plain _ (fun _ => trivial) hk.2⟩
    | bp x y z => exact ⟨hk.1, plain _ (fun _ => trivial) hk.2⟩
    | ep x y z i j => exact ⟨hk.1, plain _ (fun _ => trivial) hk.2⟩
    | un => exact ⟨hk.1, plain _ (fun _ => trivial) hk.2⟩
    | hs => exact ⟨hk.1, plain _ (fun _ => trivial) hk.2⟩
def backOb (ob : Ob) (c : Nat) (d : D) (η : Heads) : Ob := match ob with
  | .box b ty cs => .box b ty (cs.set c (.own d η))
  | _ => .loose d η
def backL (o : Nat → Ob) : List A0 → List D → (Nat → Heads) → Nat → Ob
  | .h g c _ _ :: l, d :: ds, η => backL (fun k => if k = g then backOb (o g) c d (η 0) else o k) l ds fun i => η (i + 1)
  | _ :: l, _ :: ds, η => backL o l ds fun i => η (i + 1)
  | _, _, _ => o
def HeadsOk : List A0 → (Nat → Heads) → Prop
  | .h _ _ _ x :: l, η => η 0 [] = x ∧ HeadsOk l fun i => η (i + 1)
  | _ :: l, η => HeadsOk l fun i => η (i + 1)
  | [], _ => True
/-- The same form: what is no slice stays what it was. -/
def Alike : List A0 → List D → Prop
  | .h _ _ _ _ :: l, d :: ds => d.isSl = true ∧ Alike l ds
  | .v x :: l, d :: ds => d = .val x ∧ Alike l ds
  | [], [] => True
  | _, _ => False
section
variable {B N : Nat} {w w' w0 : World} {s : St} {a : Act} {F : Nat → List Nat} {P : Program} {f : FuncId}
theorem CRel.back {η : Heads} {d : D} {u : Value} {S1 : List Nat} (hs : d.isSl = true) (hr : Rep w true d u S1) (hη : ∀ p, η p = hdr w p d u) : ∀ {cs : List Cell} {us : List Value} {S : List Nat} {c : Nat}, CRel B w cs us S → (S ++ S1).Nodup → cs[c]? = some (.a (.v u)) →
    ∃ S', CRel B w (cs.set c (.own d η)) us S' ∧ S'.Nodup ∧ ∀ b, b ∈ S' ↔ b ∈ S ∨ b ∈ S1
  | [], _, _, _, _, _, h => by simp at h
  | .a x :: cs, us, S, 0, ⟨u', us', h1, h2, h3⟩, hnd, h => by
    simp at h; subst h
    subst h1
    have h2 : u' = u := h2
    subst h2
    exact ⟨S1 ++ S, ⟨u', us', S1, S, rfl, rfl, hs, hr, hη, h3⟩, (List.perm_append_comm.nodup_iff).1 hnd, fun b => by simp [or_comm]⟩
  | .a x :: cs, us, S, c + 1, ⟨u', us', h1, h2, h3⟩, hnd, h => by
    obtain ⟨S', k1, k2, k3⟩ := CRel.back hs hr hη h3 hnd (by simpa using h)
    exact ⟨S', ⟨u', us', h1, h2, k1⟩, k2, k3⟩
  | .own d0 η0 :: cs, us, S, 0, hr0, hnd, h => by simp at h
  | .own d0 η0 :: cs, us, S, c + 1, ⟨u', us', T1, T2, h1, h2, h3, h4, h5, h6⟩, hnd, h => by
    subst h2
    rw [List.append_assoc] at hnd
    have hn := List.nodup_append.1 hnd
    obtain ⟨S', k1, k2, k3⟩ := CRel.back hs hr hη h6 hn.2.1 (by simpa using h)
    refine ⟨T1 ++ S', ⟨u', us', T1, S', h1, rfl, h3, h4, h5, k1⟩, List.nodup_append.2 ⟨hn.1, k2, fun x hx y hy e => hn.2.2 x hx y (by rw [List.mem_append]; exact (k3 y).1 hy) e⟩, fun b => ?_⟩
    rw [List.mem_append, List.mem_append, k3]
    constructor
    · rintro (h | h | h) <;> simp [h]
    · rintro ((h | h) | h) <;> simp [h]
theorem back1 {o : Nat → Ob} (h : RelF B w0 0 (.only o) Act.bare w F) {g c : Nat} {x : Value} {d : D} {S : List Nat} (hp : Placed1 o (.h g c [] x)) (hs : d.isSl = true) (hr : Rep w true d x S) (hF : Fresh B S) (hd : ∀ k, ∀ b ∈ S, b ∉ F k) :
    ∃ F' η, η [] = x ∧ RelF B w0 0 (.only fun k => if k = g then backOb (o g) c d η else o k) Act.bare w F' ∧ ∀ k b, b ∈ F' k → b ∈ F k ∨ b ∈ S := by
  have hog := h.ob g
  have hη : (fun q => hdr w q d x) [] = x := hdr_nil hs
  rcases hp with ⟨h1, rfl⟩ | ⟨b, ty, cs, h1, h2⟩
  · have := h.setO (g := g) (ob := .loose d (fun q => hdr w q d x)) (S := S) ⟨hs, x, hr, fun _ => rfl⟩ hF (fun g' _ b hb => hd g' b hb)
    refine ⟨fun k => if k = g then S else F k, fun q => hdr w q d x, hη, ?_, fun k b hb => ?_⟩
    · have e : backOb (o g) 0 d (fun q => hdr w q d x) = .loose d (fun q => hdr w q d x) := by rw [h1]; rfl
      rw [e]; exact this
    · have hb : b ∈ (if k = g then S else F k) := hb
      split at hb
      · exact .inr hb
      · exact .inl hb
  · have hog' : ORel B w (.box b ty cs) (F g) := by rw [← h1]; exact hog
    obtain ⟨us, S1, k1, k2, k3⟩ := hog'
    have hfg := h.fr g
    rw [k3] at hfg
    have hn := List.nodup_cons.1 hfg.1
    have hdg : ∀ b' ∈ S, b' ∉ b :: S1 := fun b' hb' hh => hd g b' hb' (by rw [k3]; exact hh)
    obtain ⟨S', m1, m2, m3⟩ := CRel.back (η := fun q => hdr w q d x) hs hr (fun _ => rfl) k2 (List.nodup_append.2 ⟨hn.2, hF.1, fun y hy z hz e => hdg z hz (by rw [← e]; simp [hy])⟩) h2
    have := h.setO (g := g) (ob := .box b ty (cs.set c (.own d (fun q => hdr w q d x)))) (S := b :: S') ⟨us, S', k1, m1, rfl⟩ ⟨List.nodup_cons.2 ⟨fun hb => by
      rcases (m3 b).1 hb with h | h
      · exact hn.1 h
      · exact hdg b h (by simp), m2⟩, fun y hy => by
      rcases List.mem_cons.1 hy with rfl | hy
      · exact hfg.2 y (by simp)
      · rcases (m3 y).1 hy with h | h
        · exact hfg.2 y (by simp [h])
        · exact hF.2 y h⟩ (fun g' hg' y hy => by
      rcases List.mem_cons.1 hy with rfl | hy
      · exact fun hh => h.dj g' g hg' y hh (by rw [k3]; simp)
      · rcases (m3 y).1 hy with h' | h'
        · exact fun hh => h.dj g' g hg' y hh (by rw [k3]; simp [h'])
        · exact hd g' y h')
    refine ⟨fun k => if k = g then b :: S' else F k, fun q => hdr w q d x, hη, ?_, fun k y hy => ?_⟩
    · have e : backOb (o g) c d (fun q => hdr w q d x) = .box b ty (cs.set c (.own d (fun q => hdr w q d x))) := by rw [h1]; rfl
      rw [e]; exact this
    · have hy2 : y ∈ (if k = g then b :: S' else F k) := hy
      clear hy
      by_cases e : k = g
      · rw [if_pos e] at hy2
        subst e
        rcases List.mem_cons.1 hy2 with rfl | hy
        · exact .inl (by rw [k3]; simp)
        · rcases (m3 y).1 hy with h | h
          · exact .inl (by rw [k3]; simp [h])
          · exact .inr h
      · rw [if_neg e] at hy2; exact .inl hy2
theorem placed_back {o : Nat → Ob} {l : List A0} {g c : Nat} {d : D} {η : Heads} (h : Placed o l) (hno : ∀ a ∈ l, ∀ (g' c' : Nat) (p : List Nat) (x : Value), a = .h g' c' p x → (g', c') ≠ (g, c)) (hbox : ∀ a ∈ l, ∀ c' p x, a = .h g c' p x → o g ≠ .none) : Placed (fun k => if k = g then backOb (o g) c d η else o k) l := by
  intro a ha
  have h1 := h a ha
  cases a with
  | h g' c' p x =>
    by_cases hg : g' = g
    · subst hg
      rcases h1 with ⟨h2, _⟩ | ⟨b, ty, cs, h2, h3⟩
      · exact absurd h2 (hbox _ ha _ _ _ rfl)
      · right
        refine ⟨b, ty, cs.set c (.own d η), ?_, ?_⟩
        · show (if g' = g' then _ else _) = _
          rw [if_pos rfl, h2]; rfl
        · have hc : c ≠ c' := fun e => hno _ ha _ _ _ _ rfl (by rw [e])
          rw [List.getElem?_set_ne hc]; exact h3
    · simp only [Placed1, if_neg hg]; exact h1
  | _ => trivial
/-- Each place once. -/
def Apart : List A0 → Prop
  | [] => True
  | .h g c _ _ :: l => (∀ a ∈ l, ∀ g' c' p x, a = .h g' c' p x → (g', c') ≠ (g, c)) ∧ Apart l
  | _ :: l => Apart l
theorem back_rel : ∀ {l : List A0} {ds : List D} {us : List Value} {S : List Nat} {o : Nat → Ob} {F : Nat → List Nat}, RelF B w0 0 (.only o) Act.bare w F → A0RelL B w l us → Alike l ds → Placed o l → Apart l → (∀ a ∈ l, ∀ g c p x, a = .h g c p x → p = [] ∧ (o g = .none → ∀ b ∈ l, ∀ c' p' x', b = .h g c' p' x' → c' = c)) → RepL w true ds us S → Fresh B S → (∀ k, ∀ b ∈ S, b ∉ F k) →
    ∃ F' η, HeadsOk l η ∧ RelF B w0 0 (.only (backL o l ds η)) Act.bare w F'
  | [], [], us, S, o, F, h, _, _, _, _, _, _, _, _ => ⟨F, fun _ _ => undef, trivial, h⟩
  | [], _ :: _, _, _, _, _, _, _, h, _, _, _, _, _, _ => h.elim
  | .h g c p x :: l, [], _, _, _, _, _, _, h, _, _, _, _, _, _ => h.elim
  | .v x :: l, [], _, _, _, _, _, _, h, _, _, _, _, _, _ => h.elim
  | .h g c p x :: l, d :: ds, us, S, o, F, h, ⟨u, us', hu, h2, h3⟩, ⟨h4, h5⟩, hp, ⟨ha1, ha2⟩, hnone, ⟨v, vs', S1, S2, e1, e2, r1, r2⟩, hF, hd => by
    subst hu e2
    cases e1
    have hux : u = x := h2.1
    subst hux
    have hq := hnone (.h g c p u) (by simp) g c p u rfl
    obtain ⟨rfl, hn1⟩ := hq
    obtain ⟨F1, η0, k1, k2, k3⟩ := back1 (d := d) h (hp (.h g c [] u) (by simp)) h4 r1 hF.left (fun k b hb => hd k b (by simp [hb]))
    have hbox : ∀ a ∈ l, ∀ c' p' x', a = .h g c' p' x' → o g ≠ .none := fun a ha c' p' x' e hh => by
      have := hn1 hh a (by simp [ha]) c' p' x' e
      exact ha1 a ha g c' p' x' e (by rw [this])
    obtain ⟨F2, η, k4, k5⟩ := back_rel (us := us') (S := S2) k2 h3 h5 (placed_back (fun a ha => hp a (by simp [ha])) ha1 hbox) ha2 (fun a ha g' c' p' x' e => by
      obtain ⟨e1, e2⟩ := hnone a (by simp [ha]) g' c' p' x' e
      refine ⟨e1, fun hh b hb c'' p'' x'' eb => ?_⟩
      by_cases hg : g' = g
      · subst hg
        rw [if_pos rfl] at hh
        exfalso
        cases ho : o g' <;> rw [ho] at hh <;> cases hh
      · rw [if_neg hg] at hh
        exact e2 hh b (by simp [hb]) c'' p'' x'' eb) r2 hF.right (fun k b hb hh => by
      rcases k3 k b hh with h' | h'
      · exact hd k b (by simp [hb]) h'
      · exact hF.apart b h' hb)
    refine ⟨F2, fun i => match i with | 0 => η0 | i + 1 => η i, ⟨k1, k4⟩, k5⟩
  | .v x :: l, d :: ds, us, S, o, F, h, ⟨u, us', hu, h2, h3⟩, ⟨h4, h5⟩, hp, ha, hnone, ⟨v, vs', S1, S2, e1, e2, r1, r2⟩, hF, hd => by
    subst hu e2
    cases e1
    obtain ⟨F2, η, k4, k5⟩ := back_rel (us := us') (S := S2) h h3 h5 (fun a ha => hp a (by simp [ha])) ha (fun a ha g' c' p' x' e => by
      obtain ⟨e1, e2⟩ := hnone a (by simp [ha]) g' c' p' x' e
      exact ⟨e1, fun hh b hb => e2 hh b (by simp [hb])⟩) r2 hF.right (fun k b hb => hd k b (by simp [hb]))
    exact ⟨F2, fun i => match i with | 0 => fun _ => undef | i + 1 => η i, k4, k5⟩
  | .ro _ :: _, _, _, _, _, _, _, _, h, _, _, _, _, _, _ => h.elim
  | .rp _ :: _, _, _, _, _, _, _, _, h, _, _, _, _, _, _ => h.elim
  | .bp _ _ _ :: _, _, _, _, _, _, _, _, h, _, _, _, _, _, _ => h.elim
  | .ep _ _ _ _ _ :: _, _, _, _, _, _, _, _, h, _, _, _, _, _, _ => h.elim
  | .un :: _, _, _, _, _, _, _, _, h, _, _, _, _, _, _ => h.elim
  | .hs _ _ _ _ _ _ _ :: _, _, _, _, _, _, _, _, h, _, _, _, _, _, _ => h.elim
def NoPath : List A0 → Prop
  | [] => True
  | .h _ _ p _ :: l => p = [] ∧ NoPath l
  | _ :: l => NoPath l
theorem NoPath.all {l : List A0} (h : NoPath l) : ∀ a ∈ l, ∀ g c p x, a = .h g c p x → p = [] := by
  induction l with
  | nil => intro a ha; cases ha
  | cons y l ih =>
    intro a ha g c p x e
    rcases List.mem_cons.1 ha with ha | ha
    · subst ha; subst e; exact h.1
    · have h' : NoPath l := by cases y <;> first | exact h | exact h.2
      exact ih h' a ha g c p x e
theorem placed_none {o : Nat → Ob} {l : List A0} (h : Placed o l) (hp : NoPath l) : ∀ a ∈ l, ∀ g c p x, a = .h g c p x → p = [] ∧ (o g = .none → ∀ b ∈ l, ∀ c' p' x', b = .h g c' p' x' → c' = c) := by
  intro a ha g c p x e
  refine ⟨hp.all a ha g c p x e, fun hn b hb c' p' x' e' => ?_⟩
  have h1 := h a ha
  have h2 := h b hb
  subst e e'
  rcases h1 with ⟨_, rfl⟩ | ⟨_, _, _, k, _⟩
  · rcases h2 with ⟨_, rfl⟩ | ⟨_, _, _, k, _⟩
    · rfl
    · rw [hn] at k; cases k
  · rw [hn] at k; cases k
theorem take_only : ∀ {l : List A0} {s : St} {K : List Cell → St → Prop}, TakeK s l K → TakeK (.only s.o) l fun cs s1 => K cs ⟨s.t, s1.o⟩
  | [], s, K, hk => hk
  | .h g c p x :: l, s, K, ⟨h1, d, η, h2, h3, h4⟩ => ⟨h1, d, η, h2, h3, take_only h4⟩
  | .v _ :: l, s, K, ⟨h1, h2⟩ => ⟨h1, take_only h2⟩
  | .ro _ :: l, s, K, ⟨h1, h2⟩ => ⟨h1, take_only h2⟩
  | .rp _ :: l, s, K, ⟨h1, h2⟩ => ⟨h1, take_only h2⟩
  | .bp _ _ _ :: l, s, K, ⟨h1, h2⟩ => ⟨h1, take_only h2⟩
  | .ep _ _ _ _ _ :: l, s, K, ⟨h1, h2⟩ => ⟨h1, take_only h2⟩
  | .un :: l, s, K, ⟨h1, h2⟩ => ⟨h1, take_only h2⟩
  | .hs _ _ _ _ _ _ _ :: l, s, K, ⟨h1, h2⟩ => ⟨h1, take_only h2⟩
/-- The heart of both. -/
theorem mark_core {l : List A0} {ds ds' : List D} {us : List Value} {v r : Value} {args : Array Value} {Kr : (Nat → Ob) → Prop} (hal : Alike l ds') (hap : Apart l) (hnp : NoPath l) (ho : RelF B w 0 (.only s.o) Act.bare w F) (hus : A0RelL B w l us)
    (hc : ∀ S, RepL w true ds us S → Fresh B S → Calls P f args w fun e w' => e = .returned r ∧ RepL w' true ds' us S ∧ Only S w w') (hr : r.oneCell' = true)
    (hk : TakeK s l fun cs s1 => IsD cs ds ∧ ∀ η, HeadsOk l η → Kr (backL s1.o l ds' η)) :
    Calls P f args w fun e w' => ∃ v rt o' S F', e = .returned v ∧ RelF B w 0 (.only o') Act.bare w' F' ∧ RetRel w' rt v S ∧ Fresh B S ∧ (∀ g, ∀ b ∈ S, b ∉ F' g) ∧ (rt = .c (.val r) ∧ Kr o') := by
  have hk2 := take_placed (l0 := []) (by intro a ha; cases ha) (take_only hk)
  obtain ⟨cs, s1, S, F1, ⟨⟨k1, k2⟩, k3⟩, k4, k5, k6, k7, _⟩ := take_rel ho hus hk2
  have hrep := isD_rel k4 k1
  have hB : B ≤ w.heap.size := Nat.le_trans ho.hB ho.below.size
  refine (hc S hrep k6).mono fun e w' ⟨he, hrep', hon⟩ => ?_
  have hb : Below B w w' := hon.below k6.2 hB
  have k5' : RelF B w 0 s1 Act.bare w' F1 := k5.world' hb fun g b hb' => hon.block b ((k5.ob g).lt b hb') fun hh => k7 g b hh hb'
  have k5'' : RelF B w 0 (.only s1.o) Act.bare w' F1 := ⟨k5'.below, k5'.hB, rfl, rfl, fun _ => trivial, k5'.ob, k5'.fr, k5'.dj⟩
  have hus' : A0RelL B w' l us := hus.mono hb
  obtain ⟨F2, η, m1, m2⟩ := back_rel k5'' hus' hal (by simpa using k3) hap (placed_none (by simpa using k3) hnp) hrep' k6 (fun k b hb => k7 k b hb)
  exact ⟨r, .c (.val r), _, [], F2, he, m2, ⟨rfl, rfl⟩, Fresh.nil _, by simp, rfl, k2 η m1⟩
theorem run_mark_agg {β : Nat} {d : Option Nat} {gd : Option (Nat × Bool)} {x y : X} {l : List A0} {ds ds' : List D} {k r : Int} {K : St → Prop} (hn : Named P f)
    (hc : ∀ (B : Nat) (w : World) (v : Value) (S : List Nat), AggRep w true ds v S → Fresh B S → Calls P f #[v, .int .i64 k] w fun e w' => e = .returned (.int .i64 r) ∧ AggRep w' true ds' v S ∧ Only S w w')
    (hx : s.ev x = .agg l) (hy : s.ev y = .c (.v (.int .i64 k))) (hal : Alike l ds') (hap : Apart l) (hnp : NoPath l)
    (hk : TakeK s l fun cs s1 => IsD cs ds ∧ ∀ η, HeadsOk l η → K (St.put ⟨s.t, backL s1.o l ds' η⟩ d (.c (.v (.int .i64 r))))) :
    runI P β ⟨d, gd, .call f [x, y]⟩ s K := by
  refine run_turn (R := fun rt o' => rt = .c (.val (.int .i64 r)) ∧ K (St.put ⟨s.t, o'⟩ d (.c (.v (.int .i64 r))))) ⟨hn, fun B w F xs ho hv => ?_⟩ (fun rt o' ⟨h1, h2⟩ η => by subst h1; exact h2)
  simp only [List.map_cons, List.map_nil, hx, hy] at hv
  obtain ⟨v, xs', rfl, ⟨us, hve, hus⟩, hv2⟩ := hv
  subst hve
  obtain ⟨kv, xs'', rfl, hkv, hv3⟩ := hv2
  obtain rfl : xs'' = [] := hv3
  obtain rfl : kv = .int .i64 k := hkv
  refine mark_core (s := s) (F := F) (ds' := ds') (r := .int .i64 r) (Kr := fun o' => K (St.put ⟨s.t, o'⟩ d (.c (.v (.int .i64 r))))) (v := .agg us.toArray) hal hap hnp ho hus (fun S hrep hF => ?_) rfl hk
  refine (hc B w (.agg us.toArray) S ⟨us, rfl, hrep⟩ hF).mono fun e w' ⟨he, ⟨us', e', hrep'⟩, hon⟩ => ⟨he, ?_, hon⟩
  have : us = us' := by simpa using e'
  subst this; exact hrep'
end
def NoLoc (g c : Nat) : List A0 → Prop
  | [] => True
  | .h g' c' _ _ :: l => ¬ (g' = g ∧ c' = c) ∧ NoLoc g c l
  | _ :: l => NoLoc g c l
def ApartN : List A0 → Prop
  | [] => True
  | .h g c _ _ :: l => NoLoc g c l ∧ ApartN l
  | _ :: l => ApartN l
theorem NoLoc.all {g c : Nat} {l : List A0} (h : NoLoc g c l) : ∀ a ∈ l, ∀ g' c' p x, a = .h g' c' p x → (g', c') ≠ (g, c) := by
  induction l with
  | nil => intro a ha; cases ha
  | cons y l ih =>
    intro a ha g' c' p x e
    rcases List.mem_cons.1 ha with ha | ha
    · subst ha; subst e
      intro e2
      simp only [Prod.mk.injEq] at e2
      exact h.1 e2
    · have h' : NoLoc g c l := by cases y <;> first | exact h | exact h.2
      exact ih h' a ha g' c' p x e
theorem ApartN.apart : ∀ {l : List A0}, ApartN l → Apart l
  | [], _ => trivial
  | .h _ _ _ _ :: _, h => ⟨h.1.all, ApartN.apart h.2⟩
  | .v _ :: l, h => ApartN.apart (l := l) h
  | .ro _ :: l, h => ApartN.apart (l := l) h
  | .rp _ :: l, h => ApartN.apart (l := l) h
  | .bp _ _ _ :: l, h => ApartN.apart (l := l) h
  | .ep _ _ _ _ _ :: l, h => ApartN.apart (l := l) h
  | .un :: l, h => ApartN.apart (l := l) h
  | .hs _ _ _ _ _ _ _ :: l, h => ApartN.apart (l := l) h
def markA (s : St) (d : Option Nat) (K : St → Prop) (l : List A0) (ds ds' : List D) (r : Int) : Prop := (Alike l ds' ∧ ApartN l ∧ NoPath l) ∧ TakeK s l fun cs s1 => IsD cs ds ∧ ∀ η, HeadsOk l η → K (St.put ⟨s.t, backL s1.o l ds' η⟩ d (.c (.v (.int .i64 r))))
def markX (s : St) (d : Option Nat) (K : St → Prop) (ds ds' : List D) (k r : Int) (x y : AV) : Prop := match x, y with
  | .agg l, .c (.v (.int .i64 k')) => k' = k ∧ markA s d K l ds ds' r
  | _, _ => False
section
variable {P : Program} {f : FuncId} {s : St} {β : Nat} {d : Option Nat} {gd : Option (Nat × Bool)} {x y : X} {k r : Int} {K : St → Prop}
theorem mark_agg {ds ds' : List D} (hn : Named P f)
    (hc : ∀ (B : Nat) (w : World) (v : Value) (S : List Nat), AggRep w true ds v S → Fresh B S → Calls P f #[v, .int .i64 k] w fun e w' => e = .returned (.int .i64 r) ∧ AggRep w' true ds' v S ∧ Only S w w')
    (h : markX s d K ds ds' k r (s.ev x) (s.ev y)) : runI P β ⟨d, gd, .call f [x, y]⟩ s K := by
  unfold markX at h
  split at h
  · rename_i l k' hx hy
    obtain ⟨rfl, ⟨h1, h2, h3⟩, h4⟩ := h
    exact run_mark_agg hn hc hx hy h1 h2.apart h3 h4
  · exact h.elim
theorem markX_ (l : List A0) (ds ds' : List D) (k' : Int) : markX s d K ds ds' k r (.agg l) (.c (.v (.int .i64 k'))) = (k' = k ∧ markA s d K l ds ds' r) := rfl
theorem markA_ (l : List A0) (ds ds' : List D) : markA s d K l ds ds' r = ((Alike l ds' ∧ ApartN l ∧ NoPath l) ∧ TakeK s l fun cs s1 => IsD cs ds ∧ ∀ η, HeadsOk l η → K (St.put ⟨s.t, backL s1.o l ds' η⟩ d (.c (.v (.int .i64 r))))) := rfl
end
theorem alike_h (g c : Nat) (p : List Nat) (x : Value) (l : List A0) (d : D) (ds : List D) : Alike (.h g c p x :: l) (d :: ds) = (d.isSl = true ∧ Alike l ds) := rfl
theorem alike_v (x : Value) (l : List A0) (d : D) (ds : List D) : Alike (.v x :: l) (d :: ds) = (d = .val x ∧ Alike l ds) := rfl
theorem alike_n : Alike [] [] = True := rfl
theorem apart_h (g c : Nat) (p : List Nat) (x : Value) (l : List A0) : ApartN (.h g c p x :: l) = (NoLoc g c l ∧ ApartN l) := rfl
theorem apart_v (x : Value) (l : List A0) : ApartN (.v x :: l) = ApartN l := rfl
theorem apart_n : ApartN [] = True := rfl
theorem noloc_h (g' c' g c : Nat) (p : List Nat) (x : Value) (l : List A0) : NoLoc g' c' (.h g c p x :: l) = (¬ (g = g' ∧ c = c') ∧ NoLoc g' c' l) := rfl
theorem noloc_n (g' c' : Nat) : NoLoc g' c' [] = True := rfl
theorem nopath_h (g c : Nat) (p : List Nat) (x : Value) (l : List A0) : NoPath (.h g c p x :: l) = (p = [] ∧ NoPath l) := rfl
theorem nopath_v (x : Value) (l : List A0) : NoPath (.v x :: l) = NoPath l := rfl
theorem nopath_n : NoPath [] = True := rfl
attribute [go_sem] markX_ markA_ alike_h alike_v alike_n apart_h apart_v apart_n noloc_h noloc_n nopath_h nopath_v nopath_n and_false false_and
theorem back_h (o : Nat → Ob) (g c : Nat) (p : List Nat) (x : Value) (l : List A0) (d : D) (ds : List D) (η : Nat → Heads) : backL o (.h g c p x :: l) (d :: ds) η = backL (fun k => if k = g then backOb (o g) c d (η 0) else o k) l ds fun i => η (i + 1) := rfl
theorem back_v (o : Nat → Ob) (x : Value) (l : List A0) (d : D) (ds : List D) (η : Nat → Heads) : backL o (.v x :: l) (d :: ds) η = backL o l ds fun i => η (i + 1) := rfl
theorem back_n (o : Nat → Ob) (η : Nat → Heads) : backL o [] [] η = o := rfl
theorem backOb_box (b ty : Nat) (cs : List Cell) (c : Nat) (d : D) (η : Heads) : backOb (.box b ty cs) c d η = .box b ty (cs.set c (.own d η)) := rfl
theorem heads_h (g c : Nat) (p : List Nat) (x : Value) (l : List A0) (η : Nat → Heads) : HeadsOk (.h g c p x :: l) η = (η 0 [] = x ∧ HeadsOk l fun i => η (i + 1)) := rfl
theorem heads_v (x : Value) (l : List A0) (η : Nat → Heads) : HeadsOk (.v x :: l) η = HeadsOk l fun i => η (i + 1) := rfl
theorem heads_n (η : Nat → Heads) : HeadsOk [] η = True := rfl
attribute [go_sem] back_h back_v back_n backOb_box heads_h heads_v heads_n
end Go.Proofs.YtnhdcbhcocgjhaaGreat
set_option linter.unusedSimpArgs false
set_option linter.unusedVariables false
namespace Go.Proofs.YtnhdcbhcocgjhaaGreat
open Go.RowKit Go.Sort

def nilH : Heads
  | [] => .slice none 0 0
  | _ :: _ => undef
/-- The second says less: names of objects do not count. -/
def A0.sim : A0 → A0 → Prop
  | .v x, .v y => x = y
  | .v x, .h _ _ _ y => x = y ∧ x.oneCell' = true
  | .h _ _ _ x, .h _ _ _ y => x = y
  | .bp _ c b, .bp _ c' b' => c = c' ∧ b = b'
  | .ep _ _ _ i x, .ep _ _ _ i' x' => i = i' ∧ x = x'
  | .hs _ _ _ x s l n, .hs _ _ _ y s' l' n' => x = y ∧ s = s' ∧ l = l' ∧ n = n'
  | .ro d, .ro d' => d = d'
  | .rp ds, .rp ds' => ds = ds'
  | .un, .un => True
  | _, _ => False
def simL : List A0 → List A0 → Prop
  | [], [] => True
  | a :: l, b :: m => a.sim b ∧ simL l m
  | _, _ => False
def AV.sim : AV → AV → Prop
  | .c a, .c b => a.sim b
  | .agg l, .agg m => simL l m
  | .fn f l, .fn f' m => f = f' ∧ simL l m
  | .tup l, .tup m => l = m
  | _, .unk => True
  | _, _ => False
def Cell.sim : Cell → Cell → Prop
  | .a x, .a y => x.sim y
  | .own d η, .own d' η' => d = d' ∧ η = η'
  | .a (.v x), .own d η => x = .slice none 0 0 ∧ d.isSl = true ∧ d.cells = [] ∧ η = nilH
  | _, _ => False
def simC : List Cell → List Cell → Prop
  | [], [] => True
  | a :: l, b :: m => a.sim b ∧ simC l m
  | _, _ => False
def Ob.sim : Ob → Ob → Prop
  | .loose d η, .loose d' η' => d = d' ∧ η = η'
  | .box b ty cs, .box b' ty' cs' => b = b' ∧ ty = ty' ∧ simC cs cs'
  | .none, .none => True
  | _, _ => False
def nilOb : Ob → Prop
  | .loose d η => d.isSl = true ∧ d.cells = [] ∧ η = nilH
  | _ => False
def lkT : List (Nat × AV) → Nat → AV
  | [], _ => .unk
  | (k, v) :: T, n => if n = k then v else lkT T n
def lkO : List (Nat × Ob) → Nat → Ob
  | [], _ => .none
  | (k, v) :: T, n => if n = k then v else lkO T n
/-- The state in which these alone stand. -/
def St.of (T : List (Nat × AV)) (O : List (Nat × Ob)) : St := ⟨lkT T, lkO O⟩
def fitT (s : St) : List (Nat × AV) → Prop
  | [] => True
  | (n, v) :: T => (s.t n).sim v ∧ fitT s T
/-- The objects: each comes of one that was (some k), or is a nil slice (none). -/
def fitO (s : St) : List (Option Nat) → List (Nat × Ob) → Prop
  | [], [] => True
  | some k :: ks, (_, ob) :: O => (s.o k).sim ob ∧ fitO s ks O
  | none :: ks, (_, ob) :: O => nilOb ob ∧ fitO s ks O
  | _, _ => False
def fp (F : Nat → List Nat) : List (Option Nat) → List (Nat × Ob) → Nat → List Nat
  | k :: ks, (g', _) :: O, g => if g = g' then (match k with | some k => F k | none => []) else fp F ks O g
  | _, _, _ => []
def srcs : List (Option Nat) → List Nat
  | [] => []
  | some k :: ks => k :: srcs ks
  | none :: ks => srcs ks
def apartN : List Nat → Bool
  | [] => true
  | k :: ks => !ks.contains k && apartN ks

section
variable {B N : Nat} {w0 w : World} {s : St} {a : Act} {F : Nat → List Nat}
theorem A0.sim.rel : ∀ {a b : A0} {u : Value}, a.sim b → A0Rel B w a u → A0Rel B w b u
  | .v x, .v y, u, hh, hr => by rw [show x = y from hh] at hr; exact hr
  | .v x, .h _ _ _ y, u, hh, hr => by obtain ⟨h1, h2⟩ := hh; subst h1; exact ⟨hr, h2⟩
  | .h _ _ _ x, .h _ _ _ y, u, hh, hr => by rw [show x = y from hh] at hr; exact hr
  | .bp _ c b, .bp _ c' b', u, hh, hr => by obtain ⟨h1, h2⟩ := hh; subst h1 h2; exact hr
  | .ep _ _ _ i x, .ep _ _ _ i' x', u, hh, hr => by obtain ⟨h1, h2⟩ := hh; subst h1 h2; exact hr
  | .hs _ _ _ x s l n, .hs _ _ _ y s' l' n', u, hh, hr => by obtain ⟨h1, h2, h3, h4⟩ := hh; subst h1 h2 h3 h4; exact hr
  | .ro d, .ro d', u, hh, hr => by rw [show d = d' from hh] at hr; exact hr
  | .rp ds, .rp ds', u, hh, hr => by rw [show ds = ds' from hh] at hr; exact hr
  | .un, .un, _, _, hr => hr
theorem simL.rel : ∀ {l m : List A0} {us : List Value}, simL l m → A0RelL B w l us → A0RelL B w m us
  | [], [], _, _, hr => hr
  | _ :: _, _ :: _, _, ⟨h1, h2⟩, ⟨u, us', e, h3, h4⟩ => ⟨u, us', e, h1.rel h3, h2.rel h4⟩
theorem AV.sim.rel {v v' : AV} {u : Value} (h : v.sim v') (hr : VRel B w v u) : VRel B w v' u := by
  cases v' with
  | unk => trivial
  | c b => cases v <;> first | exact A0.sim.rel h hr | exact h.elim
  | agg m => cases v <;> first | (obtain ⟨us, e, h1⟩ := hr; exact ⟨us, e, simL.rel h h1⟩) | exact h.elim
  | fn f m => cases v <;> first | (obtain ⟨us, e, h1⟩ := hr; obtain ⟨rfl, h2⟩ := h; exact ⟨us, e, h2.rel h1⟩) | exact h.elim
  | tup m => cases v <;> first | (rw [show _ = m from h] at hr; exact hr) | exact h.elim
theorem nil_hdr {d : D} (hs : d.isSl = true) (hc : d.cells = []) : (∃ size ty, d = .sl size ty []) ∧ ∀ p, nilH p = hdr w p d (.slice none 0 0) := by
  cases d with
  | val u => cases hs
  | sl size ty cs =>
    obtain rfl : cs = [] := hc
    exact ⟨⟨_, _, rfl⟩, fun p => by cases p <;> rfl⟩
theorem simC.rel : ∀ {cs cs' : List Cell} {us : List Value} {S : List Nat}, simC cs cs' → CRel B w cs us S → CRel B w cs' us S
  | [], [], _, _, _, hr => hr
  | .a x :: l, .a y :: m, _, _, ⟨h1, h2⟩, ⟨u, us', e, h3, h4⟩ => ⟨u, us', e, A0.sim.rel h1 h3, h2.rel h4⟩
  | .own d η :: l, .own d' η' :: m, _, _, ⟨⟨h1, h1'⟩, h2⟩, ⟨u, us', S1, S2, e, e', h3, h4, h5, h6⟩ => by
    subst h1 h1'
    exact ⟨u, us', S1, S2, e, e', h3, h4, h5, h2.rel h6⟩
  | .a (.v x) :: l, .own d η :: m, _, S, ⟨⟨h1, h2, h3, h4⟩, h5⟩, ⟨u, us', e, h6, h7⟩ => by
    subst h1 h4
    obtain ⟨⟨size, ty, rfl⟩, k2⟩ := nil_hdr (w := w) h2 h3
    refine ⟨u, us', [], S, e, rfl, h2, ?_, fun p => ?_, h5.rel h7⟩
    · rw [show u = _ from h6]; exact Rep.nil_ w size ty
    · rw [show u = _ from h6]; exact k2 p
theorem Ob.sim.rel {ob ob' : Ob} {S : List Nat} (h : ob.sim ob') (hr : ORel B w ob S) : ORel B w ob' S := by
  cases ob <;> cases ob' <;> first | exact h.elim | skip
  · exact hr
  · obtain ⟨rfl, rfl⟩ := h; exact hr
  · obtain ⟨rfl, rfl, h⟩ := h; obtain ⟨us, S1, h1, h2, h3⟩ := hr; exact ⟨us, S1, h1, h.rel h2, h3⟩
theorem nilOb.rel {ob : Ob} (h : nilOb ob) : ORel B w ob [] := by
  cases ob with
  | loose d η =>
    obtain ⟨h1, h2, rfl⟩ := h
    obtain ⟨⟨size, ty, rfl⟩, k2⟩ := nil_hdr (w := w) h1 h2
    exact ⟨h1, _, Rep.nil_ w size ty, k2⟩
  | _ => exact h.elim
theorem fp_src : ∀ {ks : List (Option Nat)} {O : List (Nat × Ob)} {g b : Nat}, b ∈ fp F ks O g → ∃ k ∈ srcs ks, b ∈ F k
  | [], _, _, _, h => by simp [fp] at h
  | _ :: _, [], _, _, h => by simp [fp] at h
  | k :: ks, (g', ob) :: O, g, b, h => by
    simp only [fp] at h
    split at h
    · cases k with
      | some k => exact ⟨k, by simp [srcs], h⟩
      | none => simp at h
    · obtain ⟨k', h1, h2⟩ := fp_src h
      exact ⟨k', by cases k <;> simp [srcs, h1], h2⟩
theorem apartN_spec : ∀ {l : List Nat}, apartN l = true → l.Nodup
  | [], _ => List.nodup_nil
  | k :: l, h => by
    simp only [apartN, Bool.and_eq_true, Bool.not_eq_true', List.contains_eq_mem, decide_eq_false_iff_not] at h
    exact List.nodup_cons.2 ⟨h.1, apartN_spec h.2⟩
theorem fp_dj (hdj : ∀ g g', g ≠ g' → ∀ b ∈ F g, b ∉ F g') : ∀ {ks : List (Option Nat)} {O : List (Nat × Ob)}, (srcs ks).Nodup → ∀ g g', g ≠ g' → ∀ b ∈ fp F ks O g, b ∉ fp F ks O g'
  | [], _, _, _, _, _, b, h => by simp [fp] at h
  | _ :: _, [], _, _, _, _, b, h => by simp [fp] at h
  | k :: ks, (g0, ob) :: O, hn, g, g', hne, b, h => by
    have hn' : (srcs ks).Nodup := by cases k with
      | none => exact hn
      | some k => exact (List.nodup_cons.1 hn).2
    have key : ∀ {g g' : Nat}, g = g0 → g' ≠ g0 → b ∈ fp F (k :: ks) ((g0, ob) :: O) g → b ∉ fp F (k :: ks) ((g0, ob) :: O) g' := by
      intro g g' e hne' h h'
      simp only [fp, if_pos e] at h
      simp only [fp, if_neg hne'] at h'
      cases k with
      | none => simp at h
      | some k =>
        obtain ⟨k', h1, h2⟩ := fp_src h'
        have : k ≠ k' := fun e => (List.nodup_cons.1 hn).1 (by rw [e]; exact h1)
        exact hdj _ _ this b h h2
    by_cases e : g = g0
    · exact key e (fun e' => hne (e.trans e'.symm)) h
    · by_cases e' : g' = g0
      · exact fun h' => key e' e h' h
      · simp only [fp, if_neg e] at h
        simp only [fp, if_neg e']
        exact fp_dj hdj hn' g g' hne b h
theorem fp_ob (h : ∀ g, ORel B w (s.o g) (F g)) : ∀ {ks : List (Option Nat)} {O : List (Nat × Ob)}, fitO s ks O → ∀ g, ORel B w (lkO O g) (fp F ks O g)
  | [], [], _, _ => rfl
  | [], _ :: _, hf, _ => hf.elim
  | some _ :: _, [], hf, _ => hf.elim
  | none :: _, [], hf, _ => hf.elim
  | some k :: ks, (g', ob) :: O, ⟨h1, h2⟩, g => by
    simp only [lkO, fp]
    by_cases e : g = g'
    · rw [if_pos e, if_pos e]; exact h1.rel (h k)
    · rw [if_neg e, if_neg e]; exact fp_ob h h2 g
  | none :: ks, (g', ob) :: O, ⟨h1, h2⟩, g => by
    simp only [lkO, fp]
    by_cases e : g = g'
    · rw [if_pos e, if_pos e]; exact h1.rel
    · rw [if_neg e, if_neg e]; exact fp_ob h h2 g
theorem fp_fr (h : ∀ g, Fresh B (F g)) : ∀ (ks : List (Option Nat)) (O : List (Nat × Ob)) (g : Nat), Fresh B (fp F ks O g)
  | [], _, _ => Fresh.nil _
  | _ :: _, [], _ => Fresh.nil _
  | k :: ks, (g', ob) :: O, g => by
    simp only [fp]
    split
    · cases k with
      | some k => exact h k
      | none => exact Fresh.nil _
    · exact fp_fr h ks O g
theorem fit_t (h : ∀ n, VRel B w (s.t n) (a.tmps.getD n undef)) : ∀ {T : List (Nat × AV)}, fitT s T → ∀ n, VRel B w (lkT T n) (a.tmps.getD n undef)
  | [], _, _ => trivial
  | (k, v) :: T, ⟨h1, h2⟩, n => by
    simp only [lkT]
    by_cases e : n = k
    · rw [if_pos e]; subst e; exact h1.rel (h n)
    · rw [if_neg e]; exact fit_t h h2 n
theorem wk_of (ks : List (Option Nat)) {T : List (Nat × AV)} {O : List (Nat × Ob)} (h : fitT s T ∧ fitO s ks O) (hn : apartN (srcs ks) = true := by decide) : Wk s (St.of T O) :=
  fun B N w0 w a F hr => ⟨fp F ks O, ⟨hr.below, hr.hB, hr.df, hr.sz, fit_t hr.sl h.1, fp_ob hr.ob h.2, fp_fr hr.fr ks O, fp_dj hr.dj (apartN_spec hn)⟩,
    fun g b hb => by obtain ⟨k, _, h2⟩ := fp_src hb; exact ⟨k, h2⟩⟩
theorem Wk.trans {s1 s2 s3 : St} (h : Wk s1 s2) (h' : Wk s2 s3) : Wk s1 s3 := fun B N w0 w a F hr => by
  obtain ⟨F1, h1, h2⟩ := h _ _ _ _ _ _ hr
  obtain ⟨F2, h3, h4⟩ := h' _ _ _ _ _ _ h1
  refine ⟨F2, h3, fun g b hb => ?_⟩
  obtain ⟨g1, hb1⟩ := h4 g b hb
  exact h2 g1 b hb1
end
section
variable {P : Program} {β : Nat} {s : St} {Q : Ex → St → Prop}
theorem wp_loopW {ι : Type} {a : C} (mk : ι → St) (J : ι → Prop) (μ : ι → Nat) (i0 : ι) (h0 : J i0) (hw : Wk s (mk i0)) (hr : ∀ i, J i → wpC P β a (Ex.thn (fun s' => ∃ i', J i' ∧ Wk s' (mk i') ∧ μ i' < μ i) Q) (mk i)) : wpC P β (.loop a) Q s := ⟨ι, mk, J, μ, ⟨i0, h0, hw⟩, hr⟩
end
section
variable {s : St}
theorem of_t (T : List (Nat × AV)) (O : List (Nat × Ob)) (n : Nat) : (St.of T O).t n = lkT T n := rfl
theorem of_o (T : List (Nat × AV)) (O : List (Nat × Ob)) (n : Nat) : (St.of T O).o n = lkO O n := rfl
theorem lkT_cons (k n : Nat) (v : AV) (T : List (Nat × AV)) : lkT ((k, v) :: T) n = if n = k then v else lkT T n := rfl
theorem lkO_cons (k n : Nat) (v : Ob) (T : List (Nat × Ob)) : lkO ((k, v) :: T) n = if n = k then v else lkO T n := rfl
theorem fitT_nil : fitT s [] = True := rfl
theorem fitT_cons (n : Nat) (v : AV) (T : List (Nat × AV)) : fitT s ((n, v) :: T) = ((s.t n).sim v ∧ fitT s T) := rfl
theorem fitO_nil : fitO s [] [] = True := rfl
theorem fitO_s (k g : Nat) (ob : Ob) (ks : List (Option Nat)) (O : List (Nat × Ob)) : fitO s (some k :: ks) ((g, ob) :: O) = ((s.o k).sim ob ∧ fitO s ks O) := rfl
theorem fitO_n (g : Nat) (ob : Ob) (ks : List (Option Nat)) (O : List (Nat × Ob)) : fitO s (none :: ks) ((g, ob) :: O) = (nilOb ob ∧ fitO s ks O) := rfl
theorem nilOb_ (d : D) (η : Heads) : nilOb (.loose d η) = (d.isSl = true ∧ d.cells = [] ∧ η = nilH) := rfl
theorem nilH_ : nilH [] = .slice none 0 0 := rfl
theorem sim_c (a b : A0) : AV.sim (.c a) (.c b) = a.sim b := rfl
theorem sim_agg (l m : List A0) : AV.sim (.agg l) (.agg m) = simL l m := rfl
theorem sim_fn (f f' : Nat) (l m : List A0) : AV.sim (.fn f l) (.fn f' m) = (f = f' ∧ simL l m) := rfl
theorem simL_nil : simL [] [] = True := rfl
theorem simL_cons (a b : A0) (l m : List A0) : simL (a :: l) (b :: m) = (a.sim b ∧ simL l m) := rfl
theorem sim_v (x y : Value) : A0.sim (.v x) (.v y) = (x = y) := rfl
theorem sim_vh (x y : Value) (g c : Nat) (p : List Nat) : A0.sim (.v x) (.h g c p y) = (x = y ∧ x.oneCell' = true) := rfl
theorem sim_h (x y : Value) (g c g' c' : Nat) (p p' : List Nat) : A0.sim (.h g c p x) (.h g' c' p' y) = (x = y) := rfl
theorem sim_bp (g c b g' c' b' : Nat) : A0.sim (.bp g c b) (.bp g' c' b') = (c = c' ∧ b = b') := rfl
theorem sim_ep (g c i g' c' i' : Nat) (p p' : List Nat) (x x' : Value) : A0.sim (.ep g c p i x) (.ep g' c' p' i' x') = (i = i' ∧ x = x') := rfl
theorem sim_ro (d d' : D) : A0.sim (.ro d) (.ro d') = (d = d') := rfl
theorem sim_rp (d d' : List D) : A0.sim (.rp d) (.rp d') = (d = d') := rfl
theorem simc_a (x y : A0) : Cell.sim (.a x) (.a y) = x.sim y := by cases x <;> rfl
theorem simc_own (d d' : D) (η η' : Heads) : Cell.sim (.own d η) (.own d' η') = (d = d' ∧ η = η') := rfl
theorem simc_nil (x : Value) (d : D) (η : Heads) : Cell.sim (.a (.v x)) (.own d η) = (x = .slice none 0 0 ∧ d.isSl = true ∧ d.cells = [] ∧ η = nilH) := rfl
theorem simC_nil : simC [] [] = True := rfl
theorem simC_cons (a b : Cell) (l m : List Cell) : simC (a :: l) (b :: m) = (a.sim b ∧ simC l m) := rfl
theorem simO_l (d d' : D) (η η' : Heads) : Ob.sim (.loose d η) (.loose d' η') = (d = d' ∧ η = η') := rfl
theorem simO_b (b ty b' ty' : Nat) (cs cs' : List Cell) : Ob.sim (.box b ty cs) (.box b' ty' cs') = (b = b' ∧ ty = ty' ∧ simC cs cs') := rfl
end
attribute [go_sem] of_t of_o lkT_cons lkO_cons fitT_nil fitT_cons fitO_nil fitO_s fitO_n nilOb_ nilH_ sim_c sim_agg sim_fn simL_nil simL_cons sim_v sim_vh sim_h sim_bp sim_ep sim_ro sim_rp simc_a simc_own simc_nil simC_nil simC_cons simO_l simO_b
end Go.Proofs.YtnhdcbhcocgjhaaGreat
set_option linter.unusedVariables false
namespace Go.Proofs.YtnhdcbhcocgjhaaGreat
open Go.RowKit Go.Sort
section
variable {P : Program} {β : Nat} {s : St}

theorem len_encInts (l : List Int) : (encInts l).len = l.length := flat_len (enc := fun n => [iv n]) (fun _ => rfl) (by decide) _ _
theorem elem_encInts {l : List Int} {k : Nat} {x : Int} (h : l[k]? = some x) : (encInts l).elem k = [iv x] := flat_elem (enc := fun n => [iv n]) (fun _ => rfl) h
theorem sl_encInts (l : List Int) : (encInts l).isSl = true := rfl
theorem sz_encInts (l : List Int) : (encInts l).size = 1 := rfl
theorem ro_encInts (l : List Int) : (encInts l).toRo = .ro (encInts l) := rfl
theorem obj_encInts (l : List Int) (g : Nat) (η : Heads) : (encInts l).obj g η = [(g, .loose (encInts l) η)] := rfl
theorem own_encInts (l : List Int) (g c : Nat) (p : List Nat) (η : Heads) : (encInts l).toOwn g c p η = .h g c p (η p) := rfl
theorem cells_encInts (l : List Int) : (encInts l).cells = l.flatMap (fun n => [iv n]) := rfl
theorem len_encEds (l : List Ed) : (encEds l).len = l.length := flat_len (enc := encEd) (fun _ => rfl) (by decide) _ _
theorem elem_encEds {l : List Ed} {k : Nat} {x : Ed} (h : l[k]? = some x) : (encEds l).elem k = encEd x := flat_elem (enc := encEd) (fun _ => rfl) h
theorem sl_encEds (l : List Ed) : (encEds l).isSl = true := rfl
theorem sz_encEds (l : List Ed) : (encEds l).size = 2 := rfl
theorem obj_encEds (l : List Ed) (g : Nat) (η : Heads) : (encEds l).obj g η = [(g, .loose (encEds l) η)] := rfl
theorem own_encEds (l : List Ed) (g c : Nat) (p : List Nat) (η : Heads) : (encEds l).toOwn g c p η = .h g c p (η p) := rfl
theorem cells_encEds (l : List Ed) : (encEds l).cells = l.flatMap (encEd) := rfl
theorem obj_encEns (l : List En) (g : Nat) (η : Heads) : (encEns l).obj g η = [(g, .loose (encEns l) η)] := rfl
theorem own_encEns (l : List En) (g c : Nat) (p : List Nat) (η : Heads) : (encEns l).toOwn g c p η = .h g c p (η p) := rfl
theorem cells_encEns (l : List En) : (encEns l).cells = l.flatMap (encEn) := rfl
theorem obj_encTks (l : List Tk) (g : Nat) (η : Heads) : (encTks l).obj g η = [(g, .loose (encTks l) η)] := rfl
theorem own_encTks (l : List Tk) (g c : Nat) (p : List Nat) (η : Heads) : (encTks l).toOwn g c p η = .h g c p (η p) := rfl
theorem cells_encTks (l : List Tk) : (encTks l).cells = l.flatMap (encTk) := rfl
theorem obj_encRns (l : List Rn) (g : Nat) (η : Heads) : (encRns l).obj g η = [(g, .loose (encRns l) η)] := rfl
theorem own_encRns (l : List Rn) (g c : Nat) (p : List Nat) (η : Heads) : (encRns l).toOwn g c p η = .h g c p (η p) := rfl
theorem cells_encRns (l : List Rn) : (encRns l).cells = l.flatMap (encRn) := rfl
theorem obj_encSh (l : List (List En)) (g : Nat) (η : Heads) : (encSh l).obj g η = [(g, .loose (encSh l) η)] := rfl
theorem own_encSh (l : List (List En)) (g c : Nat) (p : List Nat) (η : Heads) : (encSh l).toOwn g c p η = .h g c p (η p) := rfl
theorem cells_encSh (l : List (List En)) : (encSh l).cells = l.flatMap (fun es => [encEns es]) := rfl
theorem slK_encInts (l : List Int) (e : Nat) (k : List D → Prop) : slK (encInts l) e 1 k = (tInt = e ∧ k (l.flatMap (fun n => [iv n]))) := by rw [show encInts l = .sl 1 tInt (l.flatMap (fun n => [iv n])) from rfl, slK_]; simp
theorem div_encInts (l : List Int) : (l.flatMap (fun n => [iv n])).length / 1 = l.length := by rw [len_flat (enc := fun n => [iv n]) (size := 1) (fun _ => rfl)]; exact Nat.mul_div_cancel _ (by decide)
theorem flatB_encInts (l : List Int) : flatB (l.flatMap (fun n => [iv n])) = true := by
  induction l with
  | nil => rfl
  | cons x l ih => rw [List.flatMap_cons, flatB_app, ih]; rfl
theorem fold_encEds (l : List Ed) : D.sl 2 tEd (l.flatMap (encEd)) = encEds l := rfl
theorem div_encEds (l : List Ed) : (l.flatMap (encEd)).length / 2 = l.length := by rw [len_flat (enc := encEd) (size := 2) (fun _ => rfl)]; exact Nat.mul_div_cancel _ (by decide)
theorem flatB_encEds (l : List Ed) : flatB (l.flatMap (encEd)) = true := by
  induction l with
  | nil => rfl
  | cons x l ih => rw [List.flatMap_cons, flatB_app, ih]; rfl
theorem flatBc_encEds (l : List Ed) (r : List D) : flatB (encEds l :: r) = false := rfl
theorem oneB_encEds (l : List Ed) (r : List D) : oneB (encEds l :: r) = oneB r := rfl
theorem slK_encEns (l : List En) (e : Nat) (k : List D → Prop) : slK (encEns l) e 4 k = (tEn = e ∧ k (l.flatMap (encEn))) := by rw [show encEns l = .sl 4 tEn (l.flatMap (encEn)) from rfl, slK_]; simp
theorem fold_encEns (l : List En) : D.sl 4 tEn (l.flatMap (encEn)) = encEns l := rfl
theorem div_encEns (l : List En) : (l.flatMap (encEn)).length / 4 = l.length := by rw [len_flat (enc := encEn) (size := 4) (fun _ => rfl)]; exact Nat.mul_div_cancel _ (by decide)
theorem flatB_encEns (l : List En) : flatB (l.flatMap (encEn)) = true := by
  induction l with
  | nil => rfl
  | cons x l ih => rw [List.flatMap_cons, flatB_app, ih]; rfl
theorem flatBc_encEns (l : List En) (r : List D) : flatB (encEns l :: r) = false := rfl
theorem oneB_encEns (l : List En) (r : List D) : oneB (encEns l :: r) = oneB r := rfl
theorem div_encTks (l : List Tk) : (l.flatMap (encTk)).length / 4 = l.length := by rw [len_flat (enc := encTk) (size := 4) (fun _ => rfl)]; exact Nat.mul_div_cancel _ (by decide)
theorem flatB_encTks (l : List Tk) : flatB (l.flatMap (encTk)) = true := by
  induction l with
  | nil => rfl
  | cons x l ih => rw [List.flatMap_cons, flatB_app, ih]; rfl
theorem oneB_encTks (l : List Tk) (r : List D) : oneB (encTks l :: r) = oneB r := rfl
theorem slK_encRns (l : List Rn) (e : Nat) (k : List D → Prop) : slK (encRns l) e 8 k = (tRn = e ∧ k (l.flatMap (encRn))) := by rw [show encRns l = .sl 8 tRn (l.flatMap (encRn)) from rfl, slK_]; simp
theorem div_encRns (l : List Rn) : (l.flatMap (encRn)).length / 8 = l.length := by rw [len_flat (enc := encRn) (size := 8) (fun _ => rfl)]; exact Nat.mul_div_cancel _ (by decide)
theorem slK_encSh (l : List (List En)) (e : Nat) (k : List D → Prop) : slK (encSh l) e 1 k = (tEnS = e ∧ k (l.flatMap (fun es => [encEns es]))) := by rw [show encSh l = .sl 1 tEnS (l.flatMap (fun es => [encEns es])) from rfl, slK_]; simp
theorem div_encSh (l : List (List En)) : (l.flatMap (fun es => [encEns es])).length / 1 = l.length := by rw [len_flat (enc := fun es => [encEns es]) (size := 1) (fun _ => rfl)]; exact Nat.mul_div_cancel _ (by decide)
theorem oneB_v (u : Value) (l : List D) : oneB (.val u :: l) = (u.oneCell' && oneB l) := rfl
theorem oneB_nil : oneB [] = true := rfl
theorem isDn_encEns (l : List Cell) (ds : List D) : IsD (.a (.v (.slice none 0 0)) :: l) (encEns [] :: ds) = IsD l ds := isD_none l _ _ ds
theorem at_encInts {l : List Int} {k : Nat} {x : Int} (h : l[k]? = some x) : ((l.flatMap (fun n => [iv n])).drop (k * 1)).take 1 = [iv x] := elem_encInts h
theorem in_encInts {l : List Int} {k : Nat} (h : k < l.length) : k * 1 + 1 ≤ (l.flatMap (fun n => [iv n])).length := by rw [len_flat (enc := fun n => [iv n]) (size := 1) (fun _ => rfl)]; omega
theorem at_encSh {l : List (List En)} {k : Nat} {x : List En} (h : l[k]? = some x) : ((l.flatMap (fun es => [encEns es])).drop (k * 1)).take 1 = [encEns x] := elem_encSh h
theorem in_encSh {l : List (List En)} {k : Nat} (h : k < l.length) : k * 1 + 1 ≤ (l.flatMap (fun es => [encEns es])).length := by rw [len_flat (enc := fun es => [encEns es]) (size := 1) (fun _ => rfl)]; omega
theorem loadE_v (g c : Nat) (p : List Nat) (η : Heads) (i : Nat) (v : Value) (l : List D) : loadE g c p η i (.val v :: l) = .v v :: loadE g c p η (i + 1) l := rfl
theorem loadE_n (g c : Nat) (p : List Nat) (η : Heads) (i : Nat) : loadE g c p η i [] = [] := rfl
end
attribute [go_sem] loadE_v loadE_n isDn_encEns flatB_encInts slK_encInts div_encInts cells_encInts flatB_encEds div_encEds cells_encEds flatBc_encEds oneB_encEds flatB_encEns slK_encEns div_encEns cells_encEns flatBc_encEns oneB_encEns flatB_encTks div_encTks cells_encTks oneB_encTks slK_encRns div_encRns cells_encRns slK_encSh div_encSh cells_encSh oneB_v oneB_nil Bool.and_false Bool.false_and Bool.and_true Bool.true_and len_encInts sl_encInts sz_encInts ro_encInts obj_encInts own_encInts len_encEds sl_encEds sz_encEds ro_encEds obj_encEds own_encEds len_encEns sl_encEns sz_encEns ro_encEns obj_encEns own_encEns len_encTks sl_encTks sz_encTks ro_encTks obj_encTks own_encTks len_encRns sl_encRns sz_encRns ro_encRns obj_encRns own_encRns len_encSh sl_encSh sz_encSh ro_encSh obj_encSh own_encSh
end Go.Proofs.YtnhdcbhcocgjhaaGreat
namespace Go.Proofs.YtnhdcbhcocgjhaaGreat
open Go.RowKit Go.Sort
abbrev Ni (n : Int) : AV := .c (.v (.int .i64 n))
abbrev Hd (g : Nat) (η : Heads) : AV := .c (.h g 0 [] (η []))
abbrev Bx (g b : Nat) : AV := .c (.bp g 0 b)
abbrev Ro (d : D) : AV := .c (.ro d)
/-- A box of what came in. -/
abbrev Bi (b ty : Nat) (ds : List D) : Ob := .box b ty (ds.map fun x => .a x.toRo)
theorem flatB_sl (s t : Nat) (cs l : List D) : flatB (.sl s t cs :: l) = false := rfl
theorem oneB_sl (s t : Nat) (cs l : List D) : oneB (.sl s t cs :: l) = oneB l := rfl
attribute [go_sem] flatB_sl oneB_sl
end Go.Proofs.YtnhdcbhcocgjhaaGreat
set_option linter.unusedSimpArgs false
set_option linter.unusedVariables false
namespace Go.Proofs.YtnhdcbhcocgjhaaGreat
open Go.RowKit Go.Sort
section
variable {P : Program} {B : Nat} {w w0 : World} {F : Nat → List Nat} {o : Nat → Ob}
theorem repL_split {own : Bool} : ∀ {k : Nat} {cs : List D} {vs : List Value} {S : List Nat} {d : D}, RepL w own cs vs S → cs[k]? = some d →
    ∃ v SA Sd SC, vs[k]? = some v ∧ S = SA ++ Sd ++ SC ∧ Rep w own d v Sd ∧ ∀ d' Sd', Rep w own d' v Sd' → RepL w own (cs.set k d') vs (SA ++ Sd' ++ SC)
  | _, [], _, _, _, _, h => by simp at h
  | 0, e :: cs, _, _, d, ⟨v, vs', S1, S2, rfl, rfl, h1, h2⟩, h => by
    simp at h; subst h
    exact ⟨v, [], S1, S2, rfl, by simp, h1, fun d' Sd' h3 => ⟨v, vs', Sd', S2, rfl, by simp, h3, h2⟩⟩
  | k + 1, e :: cs, _, _, d, ⟨v, vs', S1, S2, rfl, rfl, h1, h2⟩, h => by
    simp at h
    obtain ⟨v2, SA, Sd, SC, a1, rfl, a3, a4⟩ := repL_split h2 h
    exact ⟨v2, S1 ++ SA, Sd, SC, by simpa using a1, by simp, a3, fun d' Sd' h3 => ⟨v, vs', S1, SA ++ Sd' ++ SC, rfl, by simp, h1, a4 d' Sd' h3⟩⟩
theorem cRel_split : ∀ {c : Nat} {l : List Cell} {us : List Value} {S : List Nat} {d : D} {η : Heads}, CRel B w l us S → l[c]? = some (.own d η) →
    ∃ u SA Sd SC, S = SA ++ Sd ++ SC ∧ d.isSl = true ∧ Rep w true d u Sd ∧ (∀ p, η p = hdr w p d u) ∧ ∀ d' η' Sd', d'.isSl = true → Rep w true d' u Sd' → (∀ p, η' p = hdr w p d' u) → CRel B w (l.set c (.own d' η')) us (SA ++ Sd' ++ SC)
  | _, [], _, _, _, _, _, h => by simp at h
  | 0, .a _ :: l, _, _, d, η, _, h => by simp at h
  | 0, .own e ε :: l, _, _, d, η, ⟨u, us', S1, S2, rfl, rfl, h1, h2, h3, h4⟩, h => by
    simp at h; obtain ⟨rfl, rfl⟩ := h
    exact ⟨u, [], S1, S2, by simp, h1, h2, h3, fun d' η' Sd' a1 a2 a3 => ⟨u, us', Sd', S2, rfl, by simp, a1, a2, a3, h4⟩⟩
  | c + 1, .a x :: l, _, _, d, η, ⟨u, us', rfl, h1, h2⟩, h => by
    simp at h
    obtain ⟨v, SA, Sd, SC, a1, a2, a3, a4, a5⟩ := cRel_split h2 h
    exact ⟨v, SA, Sd, SC, a1, a2, a3, a4, fun d' η' Sd' b1 b2 b3 => ⟨u, us', rfl, h1, a5 d' η' Sd' b1 b2 b3⟩⟩
  | c + 1, .own e ε :: l, _, _, d, η, ⟨u, us', S1, S2, rfl, rfl, h1, h2, h3, h4⟩, h => by
    simp at h
    obtain ⟨v, SA, Sd, SC, rfl, a2, a3, a4, a5⟩ := cRel_split h4 h
    exact ⟨v, S1 ++ SA, Sd, SC, by simp, a2, a3, a4, fun d' η' Sd' b1 b2 b3 => ⟨u, us', S1, SA ++ Sd' ++ SC, rfl, by simp, h1, h2, h3, a5 d' η' Sd' b1 b2 b3⟩⟩
theorem oRel_split {ob : Ob} {c : Nat} {S : List Nat} {d : D} {η : Heads} (ho : ORel B w ob S) (h : ob.own c = some (d, η)) :
    ∃ u SA Sd SC, S = SA ++ Sd ++ SC ∧ d.isSl = true ∧ Rep w true d u Sd ∧ (∀ p, η p = hdr w p d u) ∧ ∀ d' η' Sd', d'.isSl = true → Rep w true d' u Sd' → (∀ p, η' p = hdr w p d' u) → ORel B w (ob.putOwn c d' η') (SA ++ Sd' ++ SC) := by
  cases ob with
  | none => cases h
  | loose e ε =>
    cases c with
    | succ c => cases h
    | zero =>
      simp only [Ob.own, Option.some.injEq, Prod.mk.injEq] at h
      obtain ⟨rfl, rfl⟩ := h
      obtain ⟨h1, u, h2, h3⟩ := ho
      exact ⟨u, [], S, [], by simp, h1, h2, h3, fun d' η' Sd' a1 a2 a3 => ⟨a1, u, by simpa using a2, a3⟩⟩
  | box b ty l =>
    simp only [Ob.own] at h
    split at h
    · rename_i e ε he
      simp only [Option.some.injEq, Prod.mk.injEq] at h
      obtain ⟨rfl, rfl⟩ := h
      obtain ⟨us, S1, h1, h2, rfl⟩ := ho
      obtain ⟨u, SA, Sd, SC, rfl, a2, a3, a4, a5⟩ := cRel_split h2 he
      exact ⟨u, b :: SA, Sd, SC, by simp, a2, a3, a4, fun d' η' Sd' b1 b2 b3 => ⟨us, SA ++ Sd' ++ SC, h1, a5 d' η' Sd' b1 b2 b3, by simp⟩⟩
    · cases h
variable {s : St} {K : St → Prop} {β : Nat} {gd : Option (Nat × Bool)} {d : Option Nat}
theorem is_hp (g c q : Nat) (p : List Nat) (x : Value) (dd : D) : Is s (.h g c (q :: p) x) dd = ownK ((s.o g).own c) fun d0 η => D.get (q :: p) d0 = some dd ∧ η (q :: p) = x ∧ dd.isSl = true := by
  apply propext
  simp only [Is]
  cases (s.o g).own c with
  | none => simp [ownK]
  | some z =>
    obtain ⟨d0, η⟩ := z
    simp only [ownK, Option.some.injEq, Prod.mk.injEq]
    constructor
    · rintro ⟨_, _, ⟨rfl, rfl⟩, h1, h2, h3⟩; exact ⟨h2, h1, h3⟩
    · rintro ⟨h1, h2, h3⟩; exact ⟨_, _, ⟨rfl, rfl⟩, h2, h1, h3⟩
theorem ptr_bp (g c b : Nat) (ds : List D) : Ptr s (.bp g c b) ds = obK (s.o g) b fun _ cs => Ptr.go s g b ((cs.drop c).take ds.length) c ds := by
  rw [← ob_ex]
  apply propext
  simp only [Ptr]
  constructor
  · rintro ⟨ty, cs, h1, _, rfl, h3⟩; exact ⟨ty, cs, h1, h3⟩
  · rintro ⟨ty, cs, h1, h3⟩; exact ⟨ty, cs, h1, _, rfl, h3⟩
theorem go_nil_ (g b c : Nat) : Ptr.go s g b [] c [] = True := by simp [Ptr.go]
theorem go_a_ (g b c : Nat) (x : A0) (l : List Cell) (e : D) (ds : List D) : Ptr.go s g b (.a x :: l) c (e :: ds) = (IsP x e ∧ Ptr.go s g b l (c + 1) ds) := rfl
theorem isP_v (x : Value) : IsP (.v x) (.val x) = True := eq_true (.inl rfl)
theorem loadE_cons (g c i : Nat) (p : List Nat) (η : Heads) (e : D) (l : List D) : loadE g c p η i (e :: l) = e.toOwn g c (p ++ [i]) η :: loadE g c p η (i + 1) l := rfl
def mkfK (s : St) (K : St → Prop) (d : Option Nat) (f : Nat) : AV → Prop
  | .c a => K (s.put d (.fn f [a]))
  | _ => False
theorem mkfK_c (f : Nat) (a : A0) : mkfK s K d f (.c a) = K (s.put d (.fn f [a])) := rfl
theorem run_mkf (f : Nat) (x : X) : runI P β ⟨d, gd, .mkf f [x]⟩ s K = mkfK s K d f (s.ev x) := by
  cases hx : s.ev x with
  | c a =>
    refine gen_eq (os := []) (av := .fn f [a]) rfl fun rt st av' os' => ?_
    simp [Gen, capsOf, hx]
  | _ =>
    apply propext
    refine ⟨fun h => ?_, fun h => h.elim⟩
    have h' : ∃ rt, ∀ st, ∃ av os, Gen P s (β + d.getD 0) rt st (.mkf f [x]) av os ∧ K ((s.addO os).put d av) := h
    obtain ⟨rt, h1⟩ := h'
    obtain ⟨av, os, ⟨l, h2, _⟩, _⟩ := h1 ⟨0, fun _ _ => undef⟩
    simp [capsOf, hx] at h2
theorem enc4 (x : En) : (encEn x).length = 4 := rfl
theorem get_sh {sh : List (List En)} {k : Nat} {l : List En} (h : sh[k]? = some l) : D.get [k] (encSh sh) = some (encEns l) := by
  have e : sh.flatMap (fun es => [encEns es]) = sh.map encEns := by clear h; induction sh <;> simp_all
  simp [encSh, D.get, e, h, get_nil]
end
attribute [go_sem] run_mkf mkfK_c loadE_cons is_hp ptr_bp go_nil_ go_a_ isP_v
end Go.Proofs.YtnhdcbhcocgjhaaGreat
set_option linter.unusedSimpArgs false
set_option linter.unusedVariables false
namespace Go.Proofs.YtnhdcbhcocgjhaaGreat

theorem nodup_len : ∀ (n : Nat) (l : List Int), l.Nodup → (∀ x ∈ l, 0 ≤ x ∧ x < n) → l.length ≤ n
  | 0, l, _, h => by
    cases l with
    | nil => exact Nat.le_refl _
    | cons x l => have := h x (by simp); omega
  | n + 1, l, hd, h => by
    by_cases hm : (n : Int) ∈ l
    · have h1 := nodup_len n (l.erase n) (hd.erase _) (fun x hx => by
        have h2 := (hd.mem_erase_iff).1 hx
        have := h x h2.2
        have := h2.1
        omega)
      rw [List.length_erase_of_mem hm] at h1
      omega
    · have h1 := nodup_len n l hd (fun x hx => by
        have := h x hx
        have : x ≠ n := fun e => hm (e ▸ hx)
        omega)
      omega

def isE (es : List Ed) (a b : Int) : Prop := ∃ e ∈ es, e.src = a ∧ e.dst = b
/-- b waits for a, by an edge or more. -/
inductive Rc (es : List Ed) : Int → Int → Prop
  | one {a b : Int} : isE es a b → Rc es a b
  | step {a b c : Int} : Rc es a b → isE es b c → Rc es a c
/-- By at most k edges. -/
def Rk (es : List Ed) : Nat → Int → Int → Prop
  | 0, _, _ => False
  | k + 1, a, b => isE es a b ∨ ∃ c, isE es a c ∧ Rk es k c b
section
variable {es : List Ed}
theorem Rk.mono {a b : Int} : ∀ {k : Nat}, Rk es k a b → Rk es (k + 1) a b := by
  intro k
  induction k generalizing a with
  | zero => intro h; exact h.elim
  | succ k ih =>
    rintro (h | ⟨c, h1, h2⟩)
    · exact .inl h
    · exact .inr ⟨c, h1, ih h2⟩
theorem Rk.le {a b : Int} {k m : Nat} (h : Rk es k a b) (hk : k ≤ m) : Rk es m a b := by
  induction m with
  | zero => obtain rfl : k = 0 := by omega
            exact h
  | succ m ih =>
    by_cases e : k = m + 1
    · subst e; exact h
    · exact (ih (by omega)).mono
theorem Rk.snoc {a b c : Int} (he : isE es b c) : ∀ {k : Nat}, Rk es k a b → Rk es (k + 1) a c := by
  intro k
  induction k generalizing a with
  | zero => intro h; exact h.elim
  | succ k ih =>
    rintro (h | ⟨d, h1, h2⟩)
    · exact .inr ⟨b, h, .inl he⟩
    · exact .inr ⟨d, h1, ih h2⟩
theorem Rc.rk {a b : Int} (h : Rc es a b) : ∃ k, Rk es k a b := by
  induction h with
  | one h => exact ⟨1, .inl h⟩
  | step _ h ih => obtain ⟨k, hk⟩ := ih; exact ⟨k + 1, hk.snoc h⟩
theorem Rc.cons {a b c : Int} (he : isE es a b) (h : Rc es b c) : Rc es a c := by
  induction h with
  | one h => exact .step (.one he) h
  | step _ h ih => exact .step ih h
theorem Rk.rc {a b : Int} : ∀ {k : Nat}, Rk es k a b → Rc es a b := by
  intro k
  induction k generalizing a with
  | zero => intro h; exact h.elim
  | succ k ih =>
    rintro (h | ⟨c, h1, h2⟩)
    · exact .one h
    · exact .cons h1 (ih h2)
theorem filter_lt {α : Type} {p q : α → Bool} {l : List α} (h : ∀ x ∈ l, p x = true → q x = true) {x : α} (hx : x ∈ l) (hq : q x = true) (hp : p x = false) : (l.filter p).length < (l.filter q).length := by
  induction l with
  | nil => simp at hx
  | cons a l ih =>
    have hle : (l.filter p).length ≤ (l.filter q).length := by
      clear ih hx
      induction l with
      | nil => simp
      | cons b l ih =>
        have := ih (fun x hx => h x (by simp only [List.mem_cons] at hx ⊢; rcases hx with rfl | hx <;> simp_all))
        by_cases hb : p b = true
        · have := h b (by simp) hb
          simp [List.filter_cons, hb, this]; omega
        · by_cases hb' : q b = true <;> simp [List.filter_cons, hb, hb'] <;> omega
    rcases List.mem_cons.1 hx with rfl | hx
    · simp [List.filter_cons, hq, hp]; omega
    · have := ih (fun x hx => h x (by simp [hx])) hx
      by_cases hb : p a = true
      · have := h a (by simp) hb
        simp [List.filter_cons, hb, this]; omega
      · by_cases hb' : q a = true <;> simp [List.filter_cons, hb, hb'] <;> omega
open Classical in
/-- n edges are enough among n tasks. -/
theorem Rc.enough {n : Nat} (hes : ∀ e ∈ es, 0 ≤ e.src ∧ e.src < n) {a b : Int} (h : Rc es a b) : Rk es n a b := by
  let f : Nat → List Nat := fun k => (List.range n).filter fun (i : Nat) => decide (Rk es k (i : Int) b)
  have hsrc : ∀ {k : Nat} {a : Int}, Rk es k a b → ∃ i : Nat, i < n ∧ a = i := by
    intro k a hk
    have : ∃ c, isE es a c := by
      cases k with
      | zero => exact hk.elim
      | succ k => rcases hk with h | ⟨c, h, _⟩ <;> exact ⟨_, h⟩
    obtain ⟨c, e, he, rfl, rfl⟩ := this
    have := hes e he
    exact ⟨e.src.toNat, by omega, by omega⟩
  have key : ∀ k, k ≤ n → (k ≤ (f k).length) ∨ ∃ m, m < k ∧ ∀ a, Rk es (m + 1) a b → Rk es m a b := by
    intro k
    induction k with
    | zero => intro _; exact .inl (Nat.zero_le _)
    | succ k ih =>
      intro hk
      rcases ih (by omega) with h1 | ⟨m, h1, h2⟩
      · by_cases hs : ∀ a, Rk es (k + 1) a b → Rk es k a b
        · exact .inr ⟨k, by omega, hs⟩
        · simp only [Classical.not_forall] at hs
          obtain ⟨a, h3, h4⟩ := hs
          obtain ⟨i, hi, rfl⟩ := hsrc h3
          refine .inl (Nat.lt_of_le_of_lt h1 ?_)
          exact filter_lt (x := i) (fun x _ hx => by simp at hx ⊢; exact hx.mono) (by simpa using hi) (by simpa using h3) (by simpa using h4)
      · exact .inr ⟨m, by omega, h2⟩
  obtain ⟨k, hk⟩ := h.rk
  rcases key n (Nat.le_refl _) with h1 | ⟨m, h1, h2⟩
  · obtain ⟨i, hi, rfl⟩ := hsrc hk
    have hall : ∀ x ∈ List.range n, (fun (i : Nat) => decide (Rk es n (i : Int) b)) x = true := by
      have hle := List.length_filter_le (fun (i : Nat) => decide (Rk es n (i : Int) b)) (List.range n)
      rw [List.length_range] at hle
      refine List.length_filter_eq_length_iff.1 ?_
      rw [List.length_range]
      exact Nat.le_antisymm hle h1
    simpa using hall i (by simpa using hi)
  · have : ∀ k a, Rk es k a b → Rk es m a b := by
      intro k
      induction k with
      | zero => intro a h; exact h.elim
      | succ k ih =>
        rintro a (h | ⟨c, h3, h4⟩)
        · exact h2 a (.inl h)
        · exact h2 a (.inr ⟨c, h3, ih c h4⟩)
    exact (this k a hk).le (by omega)
end
def stepE (S : List Nat) (e : Ed) : List Nat := S.set e.src.toNat (S.getD e.src.toNat 0 ||| (2 ^ e.dst.toNat ||| S.getD e.dst.toNat 0))
def rnd (es : List Ed) (S : List Nat) : List Nat := es.foldl stepE S
def rndN (es : List Ed) : Nat → List Nat → List Nat
  | 0, S => S
  | k + 1, S => rnd es (rndN es k S)
def waitsL (es : List Ed) (n : Nat) : List Nat := rndN es n (List.replicate n 0)
def okE (n : Nat) (e : Ed) : Prop := (0 ≤ e.src ∧ e.src < n) ∧ (0 ≤ e.dst ∧ e.dst < n)
section
variable {es : List Ed} {n : Nat}
theorem stepE_len (S : List Nat) (e : Ed) : (stepE S e).length = S.length := by simp [stepE]
theorem getD_set (S : List Nat) (i j v : Nat) : (S.set i v).getD j 0 = if i = j ∧ j < S.length then v else S.getD j 0 := by
  simp only [List.getD_eq_getElem?_getD, List.getElem?_set]
  by_cases h : i = j
  · subst h
    by_cases hl : i < S.length
    · simp [hl]
    · simp [hl]
  · simp [h]
theorem stepE_bit {S : List Nat} {e : Ed} (he : okE n e) (hS : S.length = n) (a b : Nat) : ((stepE S e).getD a 0).testBit b = if a = e.src.toNat then ((S.getD a 0).testBit b || (decide (b = e.dst.toNat) || (S.getD e.dst.toNat 0).testBit b)) else (S.getD a 0).testBit b := by
  obtain ⟨⟨h1, h2⟩, h3, h4⟩ := he
  unfold stepE
  rw [getD_set]
  by_cases h : a = e.src.toNat
  · subst h
    rw [if_pos ⟨rfl, by omega⟩, if_pos rfl]
    simp only [Nat.testBit_or, Nat.testBit_two_pow]
    congr 2
    by_cases e : e.dst.toNat = b <;> simp [e, eq_comm]
    intro h; exact absurd h.symm e
  · rw [if_neg (fun h' => h h'.1.symm), if_neg h]
/-- The bits are right: what they say is so. -/
def Snd (es : List Ed) (n : Nat) (S : List Nat) : Prop := S.length = n ∧ ∀ a b : Nat, (S.getD a 0).testBit b = true → Rc es a b
def Cpl (es : List Ed) (k : Nat) (S : List Nat) : Prop := ∀ a b : Nat, Rk es k a b → (S.getD a 0).testBit b = true
theorem snd_step {S : List Nat} {e : Ed} (he : okE n e) (hm : e ∈ es) (h : Snd es n S) : Snd es n (stepE S e) := by
  refine ⟨by rw [stepE_len]; exact h.1, fun a b hb => ?_⟩
  rw [stepE_bit he h.1] at hb
  obtain ⟨⟨h1, h2⟩, h3, h4⟩ := he
  split at hb
  · rename_i ha
    simp only [Bool.or_eq_true, decide_eq_true_eq] at hb
    have hE : isE es a e.dst := ⟨e, hm, by omega, rfl⟩
    rcases hb with hb | hb | hb
    · exact h.2 a b hb
    · rw [show (b : Int) = e.dst by omega]; exact .one hE
    · have := h.2 _ b hb
      rw [show ((e.dst.toNat : Nat) : Int) = e.dst by omega] at this
      exact .cons hE this
  · exact h.2 a b hb
theorem snd_fold : ∀ {l : List Ed} {S : List Nat}, (∀ e ∈ l, okE n e ∧ e ∈ es) → Snd es n S → Snd es n (l.foldl stepE S)
  | [], _, _, h => h
  | e :: l, S, hl, h => snd_fold (l := l) (S := stepE S e) (fun e he => hl e (by simp [he])) (snd_step (hl e (by simp)).1 (hl e (by simp)).2 h)
theorem step_keep {S : List Nat} {e : Ed} (he : okE n e) (hS : S.length = n) {a b : Nat} (h : (S.getD a 0).testBit b = true) : ((stepE S e).getD a 0).testBit b = true := by
  rw [stepE_bit he hS]; split <;> simp only [h, Bool.true_or]
theorem fold_keep : ∀ {l : List Ed} {S : List Nat}, (∀ e ∈ l, okE n e) → S.length = n → ∀ {a b : Nat}, (S.getD a 0).testBit b = true → ((l.foldl stepE S).getD a 0).testBit b = true
  | [], _, _, _, _, _, h => h
  | e :: l, S, hl, hS, a, b, h => fold_keep (l := l) (S := stepE S e) (fun e he => hl e (by simp [he])) (by rw [stepE_len]; exact hS) (step_keep (hl e (by simp)) hS h)
theorem fold_len : ∀ (l : List Ed) (S : List Nat), (l.foldl stepE S).length = S.length
  | [], _ => rfl
  | e :: l, S => by rw [List.foldl_cons, fold_len l, stepE_len]
theorem fold_new : ∀ {l : List Ed} {S : List Nat}, (∀ e ∈ l, okE n e) → S.length = n → ∀ {e : Ed} {b : Nat}, e ∈ l → (b = e.dst.toNat ∨ (S.getD e.dst.toNat 0).testBit b = true) → ((l.foldl stepE S).getD e.src.toNat 0).testBit b = true
  | [], _, _, _, _, _, h, _ => by simp at h
  | e' :: l, S, hl, hS, e, b, hm, hb => by
    rw [List.foldl_cons]
    by_cases heq : e = e'
    · subst heq
      refine fold_keep (l := l) (S := stepE S e) (fun e he => hl e (by simp [he])) (by rw [stepE_len]; exact hS) ?_
      rw [stepE_bit (hl e (by simp)) hS, if_pos rfl]
      rcases hb with hb | hb
      · simp only [hb, decide_true, Bool.true_or, Bool.or_true]
      · simp only [hb, Bool.or_true]
    · have hm' : e ∈ l := (List.mem_cons.1 hm).resolve_left heq
      refine fold_new (l := l) (S := stepE S e') (fun e he => hl e (by simp [he])) (by rw [stepE_len]; exact hS) hm' (hb.imp id fun hb => step_keep (hl e' (by simp)) hS hb)
theorem rnd_cpl {S : List Nat} {k : Nat} (hes : ∀ e ∈ es, okE n e) (hS : S.length = n) (h : Cpl es k S) : Cpl es (k + 1) (rnd es S) := by
  rintro a b (⟨e, he, h1, h2⟩ | ⟨c, ⟨e, he, h1, h2⟩, h3⟩)
  · have := fold_new hes hS (b := b) he (.inl (by omega))
    rwa [show e.src.toNat = a by omega] at this
  · have hc : (e.dst.toNat : Int) = c := by have := (hes e he).2.1; omega
    have := fold_new hes hS (b := b) he (.inr (h _ b (by rw [hc]; exact h3)))
    rwa [show e.src.toNat = a by omega] at this
theorem rndN_len (k : Nat) (S : List Nat) : (rndN es k S).length = S.length := by
  induction k with
  | zero => rfl
  | succ k ih => rw [rndN, rnd, fold_len, ih]
theorem waits_len : (waitsL es n).length = n := by rw [waitsL, rndN_len, List.length_replicate]
theorem rep_zero (a : Nat) : (List.replicate n 0).getD a 0 = 0 := by
  simp only [List.getD_eq_getElem?_getD, List.getElem?_replicate]
  split <;> rfl
theorem waits_bit (hes : ∀ e ∈ es, okE n e) (a b : Nat) : ((waitsL es n).getD a 0).testBit b = true ↔ Rc es a b := by
  have h1 : ∀ k, Snd es n (rndN es k (List.replicate n 0)) := by
    intro k
    induction k with
    | zero => exact ⟨by simp [rndN], fun a b hb => by rw [rndN, rep_zero] at hb; simp at hb⟩
    | succ k ih => exact snd_fold (fun e he => ⟨hes e he, he⟩) ih
  have h2 : ∀ k, Cpl es k (rndN es k (List.replicate n 0)) := by
    intro k
    induction k with
    | zero => exact fun a b h => h.elim
    | succ k ih => exact rnd_cpl hes (h1 k).1 ih
  constructor
  · exact (h1 n).2 a b
  · intro h; exact h2 n a b (h.enough fun e he => (hes e he).1)
theorem step_lt {S : List Nat} {e : Ed} (he : okE n e) (h : ∀ x ∈ S, x < 2 ^ n) : ∀ x ∈ stepE S e, x < 2 ^ n := by
  have hg : ∀ i, S.getD i 0 < 2 ^ n := by
    intro i
    rw [List.getD_eq_getElem?_getD]
    cases hi : S[i]? with
    | none => simp; exact Nat.two_pow_pos n
    | some v => exact h v (List.mem_of_getElem? hi)
  intro x hx
  rcases List.mem_or_eq_of_mem_set hx with hx | rfl
  · exact h x hx
  · refine Nat.or_lt_two_pow (hg _) (Nat.or_lt_two_pow ?_ (hg _))
    obtain ⟨_, h3, h4⟩ := he
    exact Nat.pow_lt_pow_right (by omega) (by omega)
end

def inB (n a b : Int) : Bool := decide (a ≤ n ∧ n ≤ b)
def manyB (p : Pl) : Bool := !inB p.tasks 1 12 || decide (30 < p.edges.length) || !inB p.prio 0 9 || !inB p.most 1 5 || !inB p.wait 1 20
def badE (n : Int) (e : Ed) : Bool := !inB e.src 0 (n - 1) || !inB e.dst 0 (n - 1)
open Classical in
noncomputable def cycB (p : Pl) : Bool := decide (∃ t : Nat, (t : Int) < p.tasks ∧ Rc p.edges t t)
noncomputable def planFault (p : Pl) : Int := if manyB p then 1 else if p.edges.any (badE p.tasks) then 2 else if decide (p.edges.Nodup) then (if cycB p then 4 else 0) else 3
theorem okE_of {n : Int} {es : List Ed} (h : es.any (badE n) = false) : ∀ e ∈ es, okE n.toNat e := by
  intro e he
  have := List.any_eq_false.1 h e he
  simp only [badE, inB, Bool.or_eq_true, Bool.not_eq_true', decide_eq_false_iff_not, not_or, Classical.not_not] at this
  obtain ⟨⟨h1, h2⟩, h3, h4⟩ := this
  exact ⟨⟨h1, by omega⟩, h3, by omega⟩
end Go.Proofs.YtnhdcbhcocgjhaaGreat
set_option linter.unusedSimpArgs false
set_option linter.unusedVariables false
namespace Go.Proofs.YtnhdcbhcocgjhaaGreat
def bOut (n : Nat) (r : List Int) : List Bool := (List.range n).map fun (k : Nat) => decide ((k : Int) ∈ r)
open Classical in
noncomputable def rcB (es : List Ed) (a b : Int) : Bool := decide (Rc es a b)
theorem rcB_iff {es : List Ed} {a b : Int} : rcB es a b = true ↔ Rc es a b := by simp [rcB]
noncomputable def fromL (es : List Ed) (n : Nat) (t : Int) : List Bool := (List.range n).map fun (k : Nat) => rcB es t k
/-- What is so while the queue t, r.. has been gone through up to h. -/
def BInv (es : List Ed) (n : Nat) (t : Int) (h : Nat) (r : List Int) : Prop :=
  r.Nodup ∧ (∀ x ∈ r, (0 ≤ x ∧ x < n) ∧ Rc es t x) ∧ h ≤ (t :: r).length ∧ ∀ j, j < h → ∀ x, (t :: r)[j]? = some x → ∀ e ∈ es, e.src = x → e.dst ∈ r
/-- And of x, at h, the first i edges. -/
def BIn (es : List Ed) (n : Nat) (t : Int) (h : Nat) (x : Int) (i : Nat) (r : List Int) : Prop :=
  BInv es n t h r ∧ (t :: r)[h]? = some x ∧ ∀ e ∈ es.take i, e.src = x → e.dst ∈ r
section
variable {es : List Ed} {n : Nat} {t x : Int} {h i : Nat} {r : List Int}
theorem bOut_len : (bOut n r).length = n := by simp [bOut]
theorem bOut_get {k : Nat} (hk : k < n) : (bOut n r)[k]? = some (decide ((k : Int) ∈ r)) := by simp [bOut, hk]
theorem bOut_set {k : Nat} (hk : k < n) : (bOut n r).set k true = bOut n (r ++ [(k : Int)]) := by
  apply List.ext_getElem?
  intro j
  rw [List.getElem?_set]
  by_cases hj : j < n
  · rw [bOut_get hj, bOut_get hj]
    by_cases e : k = j
    · subst e; simp [bOut_len, hk]
    · have e' : ¬ (j : Int) = k := by omega
      simp [e, e']
  · have h1 : (bOut n r)[j]? = none := List.getElem?_eq_none (by rw [bOut_len]; omega)
    have h2 : (bOut n (r ++ [(k : Int)]))[j]? = none := List.getElem?_eq_none (by rw [bOut_len]; omega)
    rw [h1, h2, if_neg (by omega)]
theorem bInv_0 : BInv es n t 0 [] := ⟨List.nodup_nil, by simp, by simp, fun j hj => by omega⟩
theorem bInv_len (h : BInv es n t h r) : r.length ≤ n := nodup_len n r h.1 fun x hx => (h.2.1 x hx).1
theorem bIn_0 (hb : BInv es n t h r) (hx : (t :: r)[h]? = some x) : BIn es n t h x 0 r := ⟨hb, hx, by simp⟩
theorem bIn_no {e : Ed} (hb : BIn es n t h x i r) (he : es[i]? = some e) (hq : e.src = x → e.dst ∈ r) : BIn es n t h x (i + 1) r := by
  refine ⟨hb.1, hb.2.1, fun e' he' => ?_⟩
  rw [List.take_add_one, he] at he'
  rcases List.mem_append.1 he' with h1 | h1
  · exact hb.2.2 e' h1
  · simp at h1; subst h1; exact hq
theorem bIn_new {e : Ed} (hb : BIn es n t h x i r) (he : es[i]? = some e) (hs : e.src = x) (hd : e.dst ∉ r) (hr : 0 ≤ e.dst ∧ e.dst < n) (ht : h = 0 → x = t) : BIn es n t h x (i + 1) (r ++ [e.dst]) := by
  obtain ⟨⟨h1, h2, h3, h4⟩, h5, h6⟩ := hb
  have hm : e ∈ es := List.mem_of_getElem? he
  have hR : Rc es t e.dst := by
    have hE : isE es x e.dst := ⟨e, hm, hs, rfl⟩
    cases h with
    | zero => simp at h5; subst h5; exact .one hE
    | succ h => exact .step (h2 x (List.mem_of_getElem? (by simpa using h5))).2 hE
  have hlt : h < (t :: r).length := (List.getElem?_eq_some_iff.1 h5).1
  refine ⟨⟨?_, fun y hy => ?_, by simp at hlt ⊢; omega, fun j hj y hy e' he' hse => ?_⟩, ?_, fun e' he' hse => ?_⟩
  · rw [List.nodup_append]; exact ⟨h1, by simp, fun a ha b hb => by simp at hb; subst hb; exact fun e => hd (e ▸ ha)⟩
  · rcases List.mem_append.1 hy with hy | hy
    · exact h2 y hy
    · simp at hy; subst hy; exact ⟨hr, hR⟩
  · rw [show t :: (r ++ [e.dst]) = (t :: r) ++ [e.dst] from rfl, List.getElem?_append_left (by omega)] at hy
    exact List.mem_append_left _ (h4 j hj y hy e' he' hse)
  · rw [show t :: (r ++ [e.dst]) = (t :: r) ++ [e.dst] from rfl, List.getElem?_append_left hlt]; exact h5
  · rw [List.take_add_one, he] at he'
    rcases List.mem_append.1 he' with h7 | h7
    · exact List.mem_append_left _ (h6 e' h7 hse)
    · simp at h7; subst h7; simp
theorem bInv_next (hb : BIn es n t h x i r) (hi : es.length ≤ i) : BInv es n t (h + 1) r := by
  obtain ⟨⟨h1, h2, h3, h4⟩, h5, h6⟩ := hb
  rw [List.take_of_length_le hi] at h6
  have hlt : h < (t :: r).length := (List.getElem?_eq_some_iff.1 h5).1
  refine ⟨h1, h2, by omega, fun j hj y hy => ?_⟩
  by_cases e : j = h
  · subst e; rw [h5] at hy; cases hy; exact h6
  · exact h4 j (by omega) y hy
theorem bInv_done (hb : BInv es n t h r) (hl : (t :: r).length ≤ h) : bOut n r = fromL es n t := by
  obtain ⟨h1, h2, h3, h4⟩ := hb
  have hcl : ∀ x ∈ t :: r, ∀ e ∈ es, e.src = x → e.dst ∈ r := fun x hx => by
    obtain ⟨j, hj, hxj⟩ := List.getElem_of_mem hx
    exact h4 j (by omega) x (by rw [List.getElem?_eq_getElem hj, hxj])
  have hR : ∀ y, Rc es t y → y ∈ r := by
    intro y hy
    induction hy with
    | one h => obtain ⟨e, he, h5, h6⟩ := h; exact h6 ▸ hcl _ (by simp) e he h5
    | step _ h ih => obtain ⟨e, he, h5, h6⟩ := h; exact h6 ▸ hcl _ (List.mem_cons_of_mem _ ih) e he h5
  unfold bOut fromL
  refine List.map_congr_left fun k _ => ?_
  by_cases hk : (k : Int) ∈ r
  · rw [decide_eq_true hk, rcB_iff.2 (h2 _ hk).2]
  · rw [decide_eq_false hk]
    cases hq : rcB es t k with
    | true => exact absurd (hR _ (rcB_iff.1 hq)) hk
    | false => rfl
theorem fromL_get {k : Nat} (hk : k < n) : (fromL es n t)[k]? = some (rcB es t k) := by simp [fromL, hk]
theorem fromL_len : (fromL es n t).length = n := by simp [fromL]
end
end Go.Proofs.YtnhdcbhcocgjhaaGreat
set_option linter.unusedSimpArgs false
set_option linter.unusedVariables false
namespace Go.Proofs.YtnhdcbhcocgjhaaGreat
/-- The numbers of A, in order. -/
def srtL (n : Nat) (A : List Int) : List Int := (List.range n).flatMap fun (t : Nat) => List.replicate (A.count (t : Int)) (t : Int)
theorem srtL_0 (A : List Int) : srtL 0 A = [] := rfl
theorem srtL_succ (n : Nat) (A : List Int) : srtL (n + 1) A = srtL n A ++ List.replicate (A.count (n : Int)) (n : Int) := by simp [srtL, List.range_succ]
theorem srtL_mem {A : List Int} : ∀ {n : Nat} {x : Int}, x ∈ srtL n A → (0 ≤ x ∧ x < n) ∧ x ∈ A
  | 0, x, h => by simp [srtL] at h
  | n + 1, x, h => by
    rw [srtL_succ] at h
    rcases List.mem_append.1 h with h | h
    · have := srtL_mem h; exact ⟨by omega, this.2⟩
    · obtain ⟨h1, h2⟩ := List.mem_replicate.1 h
      refine ⟨by omega, ?_⟩
      rw [h2]; exact List.count_pos_iff.1 (by omega)
theorem srtL_sorted (A : List Int) : ∀ (n : Nat), (srtL n A).Pairwise (· ≤ ·)
  | 0 => by simp [srtL]
  | n + 1 => by
    rw [srtL_succ, List.pairwise_append]
    refine ⟨srtL_sorted A n, ?_, fun a ha b hb => ?_⟩
    · rw [List.pairwise_replicate]; right; exact Int.le_refl _
    · have := srtL_mem ha
      have := (List.mem_replicate.1 hb).2
      omega
theorem srtL_count (A : List Int) (x : Int) : ∀ (n : Nat), (srtL n A).count x = if 0 ≤ x ∧ x < n then A.count x else 0
  | 0 => by rw [if_neg (by omega)]; simp [srtL]
  | n + 1 => by
    rw [srtL_succ, List.count_append, srtL_count A x n, List.count_replicate]
    by_cases h : x = n
    · subst h
      rw [if_neg (by omega), if_pos (by simp), if_pos (by omega)]; omega
    · have h2 : ((n : Int) == x) = false := by simpa using fun e => h e.symm
      simp only [h2, Bool.false_eq_true, if_false]
      by_cases h3 : 0 ≤ x ∧ x < n
      · rw [if_pos h3, if_pos (by omega)]; rfl
      · rw [if_neg h3, if_neg (by omega)]
theorem srtL_perm {n : Nat} {A : List Int} (h : ∀ x ∈ A, 0 ≤ x ∧ x < n) : (srtL n A).Perm A := by
  rw [List.perm_iff_count]
  intro x
  rw [srtL_count]
  split
  · rfl
  · rename_i hx
    exact (List.count_eq_zero.2 fun hm => hx (h x hm)).symm
theorem sorted_eq : ∀ {s t : List Int}, s.Perm t → s.Pairwise (· ≤ ·) → t.Pairwise (· ≤ ·) → s = t
  | [], t, h, _, _ => h.nil_eq
  | a :: s, [], h, _, _ => absurd h.length_eq (by simp)
  | a :: s, b :: t, h, h1, h2 => by
    rw [List.pairwise_cons] at h1 h2
    have hab : a = b := by
      have ha : a ∈ b :: t := h.mem_iff.1 (by simp)
      have hb : b ∈ a :: s := h.mem_iff.2 (by simp)
      rcases List.mem_cons.1 ha with ha | ha
      · exact ha
      rcases List.mem_cons.1 hb with hb | hb
      · exact hb.symm
      exact Int.le_antisymm (h1.1 b hb) (h2.1 a ha)
    subst hab
    rw [sorted_eq ((List.perm_cons a).1 h) h1.2 h2.2]
theorem srt_unique {n : Nat} {A s : List Int} (h : ∀ x ∈ A, 0 ≤ x ∧ x < n) (hp : s.Perm A) (hs : s.Pairwise (· ≤ ·)) : s = srtL n A := sorted_eq (hp.trans (srtL_perm h).symm) hs (srtL_sorted A n)
/-- j + 1 and j change places. -/
def swp (l : List Int) (j : Nat) : List Int := (l.set (j + 1) (l.getD j 0)).set j (l.getD (j + 1) 0)
theorem swp_perm {l : List Int} {j : Nat} (h : j + 1 < l.length) : (swp l j).Perm l := by
  have e : l = l.take j ++ l[j] :: l[j + 1] :: l.drop (j + 2) := by rw [← List.drop_eq_getElem_cons h, ← List.drop_eq_getElem_cons, List.take_append_drop]
  have e2 : swp l j = l.take j ++ l[j + 1] :: l[j] :: l.drop (j + 2) := by
    apply List.ext_getElem?
    intro k
    have h1 : l.getD j 0 = l[j] := by rw [List.getD_eq_getElem?_getD, List.getElem?_eq_getElem (by omega)]; rfl
    have h2 : l.getD (j + 1) 0 = l[j + 1] := by rw [List.getD_eq_getElem?_getD, List.getElem?_eq_getElem h]; rfl
    have ht : (l.take j).length = j := by rw [List.length_take]; omega
    simp only [swp, h1, h2, List.getElem?_set, List.length_set]
    by_cases k1 : j = k
    · subst k1; rw [if_pos rfl, if_pos (by omega), List.getElem?_append_right (by omega), ht]; simp
    · rw [if_neg k1]
      by_cases k2 : j + 1 = k
      · subst k2; rw [if_pos rfl, if_pos (by omega), List.getElem?_append_right (by omega), ht]; simp
      · rw [if_neg k2]
        by_cases k3 : k < j
        · rw [List.getElem?_append_left (by omega), List.getElem?_take_of_lt k3]
        · rw [List.getElem?_append_right (by omega), ht]
          obtain ⟨m, rfl⟩ : ∃ m, k = j + 2 + m := ⟨k - (j + 2), by omega⟩
          rw [show j + 2 + m - j = m + 2 by omega, List.getElem?_cons_succ, List.getElem?_cons_succ, List.getElem?_drop]
  rw [e2]
  conv => rhs; rw [e]
  exact List.Perm.append_left _ (List.Perm.swap _ _ _)
theorem swp_get {l : List Int} {j : Nat} (h : j + 1 < l.length) (p : Nat) : (swp l j).getD p 0 = if p = j then l.getD (j + 1) 0 else if p = j + 1 then l.getD j 0 else l.getD p 0 := by
  simp only [swp, List.getD_eq_getElem?_getD, List.getElem?_set, List.length_set]
  by_cases k1 : p = j
  · subst k1; simp [show p < l.length from by omega]
  by_cases k2 : p = j + 1
  · subst k2; simp [h]
  · have k3 : ¬ j = p := fun e => k1 e.symm
    have k4 : ¬ j + 1 = p := fun e => k2 e.symm
    simp [k1, k2, k3, k4]
/-- The first i are in order. -/
def SO (A l : List Int) (i : Nat) : Prop := l.Perm A ∧ ∀ p q : Nat, p < q → q < i → l.getD p 0 ≤ l.getD q 0
/-- The first i + 1 are in order, but for the one at j. -/
def SI (A l : List Int) (i j : Nat) : Prop := l.Perm A ∧ j ≤ i ∧ ∀ p q : Nat, p < q → q ≤ i → q ≠ j → l.getD p 0 ≤ l.getD q 0
theorem SO_1 (A : List Int) : SO A A 1 := ⟨.refl A, fun p q h h' => by omega⟩
theorem SI_0 {A l : List Int} {i : Nat} (h : SO A l i) : SI A l i i := ⟨h.1, Nat.le_refl _, fun p q h1 h2 h3 => h.2 p q h1 (by omega)⟩
theorem SI_swp {A l : List Int} {i j : Nat} (h : SI A l i (j + 1)) (hi : i < l.length) (hlt : l.getD (j + 1) 0 < l.getD j 0) : SI A (swp l j) i j := by
  obtain ⟨h1, h2, h3⟩ := h
  have hj : j + 1 < l.length := by omega
  refine ⟨(swp_perm hj).trans h1, by omega, fun p q hpq hq hne => ?_⟩
  rw [swp_get hj, swp_get hj, if_neg hne]
  by_cases q1 : q = j + 1
  · subst q1
    rw [if_pos rfl]
    by_cases p1 : p = j
    · rw [if_pos p1]; omega
    · rw [if_neg p1, if_neg (by omega)]; exact h3 p j (by omega) (by omega) (by omega)
  · rw [if_neg q1]
    by_cases p1 : p = j
    · rw [if_pos p1]; exact h3 (j + 1) q (by omega) hq q1
    · rw [if_neg p1]
      by_cases p2 : p = j + 1
      · rw [if_pos p2]; exact h3 j q (by omega) hq q1
      · rw [if_neg p2]; exact h3 p q hpq hq q1
theorem SI_end {A l : List Int} {i j : Nat} (h : SI A l i j) (he : j = 0 ∨ ∃ k, j = k + 1 ∧ l.getD k 0 ≤ l.getD j 0) : SO A l (i + 1) := by
  obtain ⟨h1, h2, h3⟩ := h
  refine ⟨h1, fun p q hpq hq => ?_⟩
  by_cases e : q = j
  · subst e
    rcases he with he | ⟨k, rfl, h4⟩
    · omega
    · by_cases e2 : p = k
      · subst e2; exact h4
      · exact Int.le_trans (h3 p k (by omega) (by omega) (by omega)) h4
  · exact h3 p q hpq (by omega) e
theorem SO_end {A l : List Int} {i : Nat} (h : SO A l i) (hi : l.length ≤ i) : l.Pairwise (· ≤ ·) := by
  rw [List.pairwise_iff_getElem]
  intro p q hp hq hpq
  have := h.2 p q hpq (by omega)
  rw [List.getD_eq_getElem?_getD, List.getD_eq_getElem?_getD, List.getElem?_eq_getElem hp, List.getElem?_eq_getElem hq] at this
  exact this
theorem srt_of {n : Nat} {A l : List Int} {i : Nat} (h : ∀ x ∈ A, 0 ≤ x ∧ x < n) (hs : SO A l i) (hi : l.length ≤ i) : l = srtL n A := srt_unique h hs.1 (SO_end hs hi)
end Go.Proofs.YtnhdcbhcocgjhaaGreat
set_option linter.unusedSimpArgs false
set_option linter.unusedVariables false
namespace Go.Proofs.YtnhdcbhcocgjhaaGreat
def befA (es : List Ed) (t : Int) : List Int := (es.filter fun e => e.dst == t).map (·.src)
def behA (es : List Ed) (t : Int) : List Int := (es.filter fun e => e.src == t).map (·.dst)
def befL (p : Pl) (t : Int) : List Int := srtL p.tasks.toNat (befA p.edges t)
def behL (p : Pl) (t : Int) : List Int := srtL p.tasks.toNat (behA p.edges t)
section
variable {es : List Ed} {k n : Nat} {e : Ed}
theorem befA_take (h : es[k]? = some e) (t : Int) : befA (es.take (k + 1)) t = befA (es.take k) t ++ (if e.dst = t then [e.src] else []) := by
  rw [List.take_add_one, h]
  by_cases ht : e.dst = t <;> simp [befA, ht]
theorem behA_take (h : es[k]? = some e) (t : Int) : behA (es.take (k + 1)) t = behA (es.take k) t ++ (if e.src = t then [e.dst] else []) := by
  rw [List.take_add_one, h]
  by_cases ht : e.src = t <;> simp [behA, ht]
theorem befA_count (h : es[k]? = some e) (x t : Int) : (befA (es.take (k + 1)) t).count x = (befA (es.take k) t).count x + (if e.src = x ∧ e.dst = t then 1 else 0) := by
  rw [befA_take h, List.count_append]
  by_cases ht : e.dst = t <;> by_cases hx : e.src = x <;> simp [ht, hx]
theorem behA_count (h : es[k]? = some e) (x t : Int) : (behA (es.take (k + 1)) t).count x = (behA (es.take k) t).count x + (if e.src = t ∧ e.dst = x then 1 else 0) := by
  rw [behA_take h, List.count_append]
  by_cases ht : e.src = t <;> by_cases hx : e.dst = x <;> simp [ht, hx]
theorem befA_in (hes : ∀ e ∈ es, okE n e) (t : Int) : ∀ x ∈ befA es t, 0 ≤ x ∧ x < n := by
  intro x hx
  simp only [befA, List.mem_map, List.mem_filter] at hx
  obtain ⟨e, ⟨h1, -⟩, rfl⟩ := hx
  exact (hes e h1).1
theorem befA_nodup (h : es.Nodup) (t : Int) : (befA es t).Nodup := by
  unfold befA List.Nodup
  rw [List.pairwise_map]
  refine List.Pairwise.imp_of_mem ?_ (List.Pairwise.filter _ h)
  intro a b ha hb hne hab
  simp only [List.mem_filter, beq_iff_eq] at ha hb
  exact hne (by cases a; cases b; simp_all)
theorem befA_len (h : es.Nodup) (hes : ∀ e ∈ es, okE n e) (t : Int) : (befA es t).length ≤ n := nodup_len n _ (befA_nodup h t) (befA_in hes t)
end
/-- What a plan without fault is. -/
theorem pf_0 {p : Pl} (h : planFault p = 0) : ∃ n : Nat, p.tasks = n ∧ 1 ≤ n ∧ n ≤ 12 ∧ p.edges.length ≤ 30 ∧ (∀ e ∈ p.edges, okE n e) ∧ p.edges.Nodup ∧ (0 ≤ p.prio ∧ p.prio ≤ 9) ∧ (1 ≤ p.most ∧ p.most ≤ 5) ∧ (1 ≤ p.wait ∧ p.wait ≤ 20) := by
  unfold planFault at h
  cases hm : manyB p
  · rw [hm] at h
    simp only [Bool.false_eq_true, if_false] at h
    cases hb : p.edges.any (badE p.tasks)
    · rw [hb] at h
      simp only [Bool.false_eq_true, if_false] at h
      by_cases hd : p.edges.Nodup
      · have hes := okE_of hb
        simp only [manyB, inB, Bool.or_eq_false_iff, Bool.not_eq_false', decide_eq_true_eq, decide_eq_false_iff_not] at hm
        obtain ⟨⟨⟨⟨h1, h2⟩, h3⟩, h4⟩, h5⟩ := hm
        exact ⟨p.tasks.toNat, by omega, by omega, by omega, by omega, hes, hd, h3, h4, h5⟩
      · rw [decide_eq_false hd] at h
        simp at h
    · rw [hb] at h; simp at h
  · rw [hm] at h; simp at h
def stT (ts : List Tk) (b : Int) : Int := ((ts[b.toNat]?).getD default).state
theorem stT_get {ts : List Tk} {b : Int} {x : Tk} (h : ts[b.toNat]? = some x) : stT ts b = x.state := by simp [stT, h]
theorem stT_nat {ts : List Tk} {k : Nat} {x : Tk} (h : ts[k]? = some x) : stT ts (k : Int) = x.state := by simp [stT, h]
def tinF (s : Int) (ts : List Tk) (k : Nat) : List Int := ((List.range k).filter fun (j : Nat) => stT ts (j : Int) == s).map fun (j : Nat) => (j : Int)
def tinL (s : Int) (ts : List Tk) : List Int := tinF s ts ts.length
def cS (s : Int) (ts : List Tk) : Nat := (tinL s ts).length
theorem tinF_0 (s : Int) (ts : List Tk) : tinF s ts 0 = [] := rfl
theorem tinF_succ {ts : List Tk} {k : Nat} {x : Tk} (h : ts[k]? = some x) (s : Int) : tinF s ts (k + 1) = tinF s ts k ++ (if x.state = s then [(k : Int)] else []) := by
  have hs := stT_nat h
  by_cases hx : x.state = s <;> simp [tinF, List.range_succ, hs, hx]
theorem tinF_len (s : Int) (ts : List Tk) (k : Nat) : (tinF s ts k).length ≤ k := by
  simp only [tinF, List.length_map]
  exact Nat.le_trans (List.length_filter_le _ _) (by simp)
theorem tin_sum {ts : List Tk} (h : ∀ x ∈ ts, 1 ≤ x.state ∧ x.state ≤ 6) : ∀ (k : Nat), k ≤ ts.length → (tinF 1 ts k).length + (tinF 2 ts k).length + (tinF 3 ts k).length + (tinF 4 ts k).length + (tinF 5 ts k).length + (tinF 6 ts k).length = k
  | 0, _ => rfl
  | k + 1, hk => by
    have ih := tin_sum h k (by omega)
    have hx : ts[k]? = some ts[k] := List.getElem?_eq_getElem (by omega)
    have := h ts[k] (List.getElem_mem _)
    have : ts[k].state = 1 ∨ ts[k].state = 2 ∨ ts[k].state = 3 ∨ ts[k].state = 4 ∨ ts[k].state = 5 ∨ ts[k].state = 6 := by omega
    simp only [tinF_succ hx, List.length_append]
    rcases this with h1 | h1 | h1 | h1 | h1 | h1 <;> simp [h1] <;> omega
theorem cS_0 {s : Int} {ts : List Tk} (h : cS s ts = 0) {k : Nat} {x : Tk} (hx : ts[k]? = some x) : x.state ≠ s := by
  intro e
  have hk := (List.getElem?_eq_some_iff.1 hx).1
  have : (k : Int) ∈ tinL s ts := by
    simp only [tinL, tinF, List.mem_map, List.mem_filter, List.mem_range]
    exact ⟨k, ⟨hk, by rw [stT_nat hx]; simpa using e⟩, rfl⟩
  rw [cS, List.length_eq_zero_iff] at h
  rw [h] at this
  simp at this
theorem cS_of {s : Int} {ts : List Tk} (h : ∀ x ∈ ts, x.state ≠ s) : cS s ts = 0 := by
  rw [cS, List.length_eq_zero_iff, tinL, tinF, List.map_eq_nil_iff, List.filter_eq_nil_iff]
  intro k hk
  rw [List.mem_range] at hk
  have hx : ts[k]? = some ts[k] := List.getElem?_eq_getElem hk
  rw [stT_nat hx]
  simpa using h _ (List.getElem_mem hk)
theorem cS_pos {s : Int} {ts : List Tk} {k : Nat} {x : Tk} (hx : ts[k]? = some x) (h : x.state = s) : 0 < cS s ts := by
  rcases Nat.eq_zero_or_pos (cS s ts) with h0 | h0
  · exact absurd h (cS_0 h0 hx)
  · exact h0
def needL (p : Pl) (ts : List Tk) (t : Int) : Int := ((((befL p t).filter fun b => stT ts b != 4).length : Nat) : Int)
def lastB (p : Pl) (x : Tk) : Bool := if x.state = 1 then decide (0 < x.need) else if x.state = 2 then (x.need == 0 && decide (x.tri < p.most)) else if x.state = 6 then true else (x.need == 0 && decide (1 ≤ x.tri))
def tilB (x : Tk) : Bool := if x.state = 3 then inB x.til 1 1000000000 else x.til == 0
def taskB (p : Pl) (ts : List Tk) (t : Nat) (x : Tk) : Bool := inB x.state 1 6 && x.need == needL p ts t && inB x.tri 0 p.most && tilB x && lastB p x
/-- What the state of a run has to be. -/
def stOf (ts : List Tk) : Int := if cS 4 ts = ts.length then 2 else if cS 5 ts = 1 ∧ cS 4 ts + cS 5 ts + cS 6 ts = ts.length then 3 else if cS 5 ts = 0 ∧ 0 < cS 6 ts ∧ cS 4 ts + cS 5 ts + cS 6 ts = ts.length then 4 else if cS 5 ts = 0 ∧ cS 6 ts = 0 then 1 else 0
structure RunOkP (r : Rn) : Prop where
  id : inB r.id 1 9999 = true
  plan : planFault r.plan = 0
  len : (r.tasks.length : Int) = r.plan.tasks
  tasks : ∀ (t : Nat) (x : Tk), r.tasks[t]? = some x → taskB r.plan r.tasks t x = true
  state : r.state = stOf r.tasks
  live : r.state ≠ 0
open Classical in
noncomputable def runOkB (r : Rn) : Bool := decide (RunOkP r)
theorem runOk_iff {r : Rn} : runOkB r = true ↔ RunOkP r := by simp [runOkB]
theorem runOk_no {r : Rn} (h : ¬ RunOkP r) : runOkB r = false := by simp [runOkB, h]
theorem RunOkP.st {r : Rn} (h : RunOkP r) : ∀ x ∈ r.tasks, 1 ≤ x.state ∧ x.state ≤ 6 := by
  intro x hx
  obtain ⟨k, hk, rfl⟩ := List.getElem_of_mem hx
  have := h.tasks k _ (List.getElem?_eq_getElem hk)
  simp only [taskB, inB, Bool.and_eq_true, decide_eq_true_eq] at this
  exact this.1.1.1.1
/-- A run of which a task runs is live. -/
theorem RunOkP.runs {r : Rn} (h : RunOkP r) {t : Nat} {x : Tk} (hx : r.tasks[t]? = some x) (hs : x.state = 3) : r.state = 1 ∧ cS 5 r.tasks = 0 ∧ cS 6 r.tasks = 0 ∧ cS 4 r.tasks < r.tasks.length := by
  have h3 := cS_pos hx hs
  have hsum := tin_sum h.st r.tasks.length (Nat.le_refl _)
  have e1 := h.state
  have e2 := h.live
  change cS 1 r.tasks + cS 2 r.tasks + cS 3 r.tasks + cS 4 r.tasks + cS 5 r.tasks + cS 6 r.tasks = _ at hsum
  unfold stOf at e1
  split at e1
  · omega
  · split at e1
    · omega
    · split at e1
      · omega
      · split at e1
        · exact ⟨e1, by omega, by omega, by omega⟩
        · exact absurd e1 e2
def stepD (ts : List Tk) (b : Int) : List Tk := match ts[b.toNat]? with
  | some x => ts.set b.toNat ⟨if IntKind.i64.wrap (x.need - 1) = 0 then 2 else x.state, IntKind.i64.wrap (x.need - 1), x.tri, x.til⟩
  | none => ts
theorem stepD_len (ts : List Tk) (b : Int) : (stepD ts b).length = ts.length := by unfold stepD; split <;> simp
theorem foldD_len : ∀ (l : List Int) (ts : List Tk), (l.foldl stepD ts).length = ts.length
  | [], _ => rfl
  | b :: l, ts => by rw [List.foldl_cons, foldD_len l, stepD_len]
theorem stepD_st {ts : List Tk} {b : Int} {q : Int → Prop} (h2 : q 2) (h : ∀ x ∈ ts, q x.state) : ∀ x ∈ stepD ts b, q x.state := by
  unfold stepD
  cases hx : ts[b.toNat]? with
  | none => exact h
  | some x =>
    intro y hy
    rcases List.mem_or_eq_of_mem_set hy with hy | rfl
    · exact h y hy
    · dsimp only; split
      · exact h2
      · exact h x (List.mem_of_getElem? hx)
theorem foldD_st {q : Int → Prop} (h2 : q 2) : ∀ {l : List Int} {ts : List Tk}, (∀ x ∈ ts, q x.state) → ∀ x ∈ l.foldl stepD ts, q x.state
  | [], _, h => h
  | b :: l, ts, h => foldD_st h2 (l := l) (ts := stepD ts b) (stepD_st h2 h)
def doneT (p : Pl) (ts : List Tk) (t : Nat) (x : Tk) : List Tk := (behL p t).foldl stepD (ts.set t ⟨4, x.need, x.tri, 0⟩)
def doneR (r : Rn) (t : Nat) (x : Tk) : Rn := ⟨r.id, r.plan, if cS 4 (doneT r.plan r.tasks t x) = r.tasks.length then 2 else r.state, doneT r.plan r.tasks t x⟩
theorem doneT_len (p : Pl) (ts : List Tk) (t : Nat) (x : Tk) : (doneT p ts t x).length = ts.length := by rw [doneT, foldD_len, List.length_set]
theorem set_st {ts : List Tk} {t : Nat} {y : Tk} {q : Int → Prop} (hy : q y.state) (h : ∀ x ∈ ts, q x.state) : ∀ x ∈ ts.set t y, q x.state := by
  intro z hz
  rcases List.mem_or_eq_of_mem_set hz with hz | rfl
  · exact h z hz
  · exact hy
theorem doneT_st {p : Pl} {ts : List Tk} {t : Nat} {x : Tk} {q : Int → Prop} (h2 : q 2) (h4 : q 4) (h : ∀ x ∈ ts, q x.state) : ∀ y ∈ doneT p ts t x, q y.state := foldD_st h2 (set_st h4 h)
theorem done_state {r : Rn} (h : RunOkP r) {t : Nat} {x : Tk} (hx : r.tasks[t]? = some x) (hs : x.state = 3) : stOf (doneT r.plan r.tasks t x) = (doneR r t x).state := by
  obtain ⟨e1, e2, e3, e4⟩ := h.runs hx hs
  have h5 : ∀ y ∈ r.tasks, y.state ≠ 5 := fun y hy => by obtain ⟨k, hk, rfl⟩ := List.getElem_of_mem hy; exact cS_0 e2 (List.getElem?_eq_getElem hk)
  have h6 : ∀ y ∈ r.tasks, y.state ≠ 6 := fun y hy => by obtain ⟨k, hk, rfl⟩ := List.getElem_of_mem hy; exact cS_0 e3 (List.getElem?_eq_getElem hk)
  have c5 := cS_of (doneT_st (p := r.plan) (t := t) (x := x) (q := fun s => s ≠ 5) (by decide) (by decide) h5)
  have c6 := cS_of (doneT_st (p := r.plan) (t := t) (x := x) (q := fun s => s ≠ 6) (by decide) (by decide) h6)
  simp only [stOf, c5, c6, doneT_len, doneR, e1]
  simp
/-- The first k elements turned. -/
def mapK (f : Nat → Tk → Tk) (ts : List Tk) (k : Nat) : List Tk := ts.mapIdx fun j x => if j < k then f j x else x
section
variable {f : Nat → Tk → Tk} {ts : List Tk} {k : Nat} {x : Tk}
theorem mapK_len : (mapK f ts k).length = ts.length := by simp [mapK]
theorem mapK_0 : mapK f ts 0 = ts := by
  apply List.ext_getElem?
  intro j
  simp [mapK, List.getElem?_mapIdx]
theorem mapK_get (h : ts[k]? = some x) : (mapK f ts k)[k]? = some x := by simp [mapK, List.getElem?_mapIdx, h]
theorem mapK_set (h : ts[k]? = some x) : (mapK f ts k).set k (f k x) = mapK f ts (k + 1) := by
  have hk := (List.getElem?_eq_some_iff.1 h).1
  apply List.ext_getElem?
  intro j
  rw [List.getElem?_set]
  by_cases e : k = j
  · subst e
    rw [if_pos rfl, mapK_len, if_pos hk]
    simp [mapK, List.getElem?_mapIdx, h]
  · rw [if_neg e]
    simp only [mapK, List.getElem?_mapIdx]
    have : (j < k + 1) = (j < k) := by apply propext; omega
    simp only [this]
theorem mapK_same (h : ts[k]? = some x) (hf : f k x = x) : mapK f ts (k + 1) = mapK f ts k := by
  rw [← mapK_set h, hf]
  apply List.ext_getElem?
  intro j
  rw [List.getElem?_set]
  by_cases e : k = j
  · subst e
    rw [if_pos rfl, mapK_get h, if_pos (by rw [mapK_len]; exact (List.getElem?_eq_some_iff.1 h).1)]
  · rw [if_neg e]
theorem mapK_congr {g : Nat → Tk → Tk} (h : ∀ (j : Nat) (x : Tk), ts[j]? = some x → f j x = g j x) (k : Nat) : mapK f ts k = mapK g ts k := by
  apply List.ext_getElem?
  intro j
  simp only [mapK, List.getElem?_mapIdx]
  cases hx : ts[j]? with
  | none => rfl
  | some x => simp [h j x hx]
end
/-- What is not done is left, but for one. -/
def leaveF (but : Int) (j : Nat) (x : Tk) : Tk := if (j : Int) ≠ but ∧ x.state ≠ 4 then ⟨6, x.need, x.tri, 0⟩ else x
/-- What is neither done nor failed is left. -/
def leaveG (j : Nat) (x : Tk) : Tk := if x.state ≠ 4 ∧ x.state ≠ 5 then ⟨6, x.need, x.tri, 0⟩ else x
def failsR (r : Rn) (t : Nat) (x : Tk) : Rn := if x.tri < r.plan.most then ⟨r.id, r.plan, r.state, r.tasks.set t ⟨2, x.need, x.tri, 0⟩⟩ else ⟨r.id, r.plan, 3, mapK leaveG (r.tasks.set t ⟨5, x.need, x.tri, 0⟩) r.tasks.length⟩
theorem fails_leave {r : Rn} (h : RunOkP r) {t : Nat} {x : Tk} (hx : r.tasks[t]? = some x) (hs : x.state = 3) (k : Nat) : mapK (leaveF t) (r.tasks.set t ⟨5, x.need, x.tri, 0⟩) k = mapK leaveG (r.tasks.set t ⟨5, x.need, x.tri, 0⟩) k := by
  obtain ⟨e1, e2, e3, e4⟩ := h.runs hx hs
  refine mapK_congr (fun j y hy => ?_) k
  have ht := (List.getElem?_eq_some_iff.1 hx).1
  rw [List.getElem?_set] at hy
  by_cases e : t = j
  · subst e
    rw [if_pos rfl, if_pos ht] at hy
    simp only [Option.some.injEq] at hy
    subst hy
    simp [leaveF, leaveG]
  · rw [if_neg e] at hy
    have h5 : y.state ≠ 5 := cS_0 e2 hy
    have hj : (j : Int) ≠ t := by omega
    simp [leaveF, leaveG, h5, hj]
noncomputable def runsB (r : Rn) (t : Int) : Bool := inB t 0 (r.tasks.length - 1) && stT r.tasks t == 3 && runOkB r
noncomputable def runDone (r : Rn) (t : Int) : Rn := if runsB r t then doneR r t.toNat ((r.tasks[t.toNat]?).getD default) else r
noncomputable def runFails (r : Rn) (t : Int) : Rn := if runsB r t then failsR r t.toNat ((r.tasks[t.toNat]?).getD default) else r
theorem runs_yes {r : Rn} {t : Int} (h : runsB r t = true) : ∃ k x, t = ((k : Nat) : Int) ∧ r.tasks[k]? = some x ∧ x.state = 3 ∧ RunOkP r := by
  simp only [runsB, inB, Bool.and_eq_true, decide_eq_true_eq, beq_iff_eq, runOk_iff] at h
  obtain ⟨⟨h1, h2⟩, h3⟩ := h
  have hk : t.toNat < r.tasks.length := by omega
  refine ⟨t.toNat, r.tasks[t.toNat], by omega, List.getElem?_eq_getElem hk, ?_, h3⟩
  rw [stT_get (List.getElem?_eq_getElem hk)] at h2
  exact h2
theorem runDone_yes {r : Rn} {k : Nat} {x : Tk} (hx : r.tasks[k]? = some x) (h : runsB r k = true) : runDone r k = doneR r k x := by simp [runDone, h, hx]
theorem runDone_no {r : Rn} {t : Int} (h : runsB r t = false) : runDone r t = r := by simp [runDone, h]
theorem runFails_yes {r : Rn} {k : Nat} {x : Tk} (hx : r.tasks[k]? = some x) (h : runsB r k = true) : runFails r k = failsR r k x := by simp [runFails, h, hx]
theorem runFails_no {r : Rn} {t : Int} (h : runsB r t = false) : runFails r t = r := by simp [runFails, h]
end Go.Proofs.YtnhdcbhcocgjhaaGreat
set_option linter.unusedSimpArgs false
set_option linter.unusedVariables false
namespace Go.Proofs.YtnhdcbhcocgjhaaGreat
theorem runFails_tot (r : Rn) (t : Int) : totRn (runFails r t) = totRn r := by
  unfold runFails
  split
  · unfold failsR
    split
    · simp only [totRn, List.length_set]
    · simp only [totRn, mapK_len, List.length_set]
  · rfl
end Go.Proofs.YtnhdcbhcocgjhaaGreat
set_option linter.unusedSimpArgs false
set_option linter.unusedVariables false
namespace Go.Proofs.YtnhdcbhcocgjhaaGreat
def aheadB (a b : En) : Bool := decide (a.prio > b.prio ∨ a.prio = b.prio ∧ a.seq < b.seq)
structure ShelfP (l : List En) : Prop where
  most : l.length ≤ 80
  ahead : ∀ (k : Nat) (a b : En), l[k]? = some a → l[k + 1]? = some b → aheadB a b = true
open Classical in
noncomputable def shelfB (l : List En) : Bool := decide (ShelfP l)
theorem shelf_yes {l : List En} (h : ShelfP l) : shelfB l = true := by simp [shelfB, h]
theorem shelf_no {l : List En} (h : ¬ ShelfP l) : shelfB l = false := by simp [shelfB, h]
theorem shelf_iff {l : List En} : shelfB l = true ↔ ShelfP l := by simp [shelfB]
structure SeqP (q : Int) (l : List En) : Prop where
  range : ∀ e ∈ l, 1 ≤ e.seq ∧ e.seq ≤ q - 1
  apart : (l.map (·.seq)).Nodup
/-- How often a task stands in a list. -/
def cntE (id t : Int) (l : List En) : Nat := (l.filter fun e => e.run == id && e.task == t).length
def taskIn (y : Yd) (r : Rn) (l : List En) (t : Nat) (x : Tk) : Prop :=
  (x.state = 2 → (∀ e ∈ l, e.run = r.id → e.task = t → e.prio = r.plan.prio) ∧ cntE r.id t l = 1) ∧ (x.state = 3 → y.now + 1 ≤ x.til ∧ x.til ≤ y.now + r.plan.wait)
def RunIn (y : Yd) (r : Rn) (l : List En) : Prop := ∀ (t : Nat) (x : Tk), r.tasks[t]? = some x → taskIn y r l t x
open Classical in
noncomputable def runInB (y : Yd) (r : Rn) (l : List En) : Bool := decide (RunIn y r l)
theorem runIn_yes {y : Yd} {r : Rn} {l : List En} (h : RunIn y r l) : runInB y r l = true := by simp [runInB, h]
theorem runIn_no {y : Yd} {r : Rn} {l : List En} (h : ¬ RunIn y r l) : runInB y r l = false := by simp [runInB, h]
theorem runIn_iff {y : Yd} {r : Rn} {l : List En} : runInB y r l = true ↔ RunIn y r l := by simp [runInB]
structure YardOkP (y : Yd) : Prop where
  now : 0 ≤ y.now ∧ y.now ≤ 999999980
  seq : 1 ≤ y.seq ∧ y.seq ≤ 1000000000
  four : y.shelf.length = 4
  eight : y.runs.length ≤ 8
  shelves : ∀ l ∈ y.shelf, ShelfP l
  seqs : SeqP y.seq y.shelf.flatten
  right : ∀ r ∈ y.runs, RunOkP r
  place : ∀ (k : Nat) (r : Rn), y.runs[k]? = some r → runAt y r.id = k
  runs : ∀ r ∈ y.runs, RunIn y r y.shelf.flatten
  slots : slotsOf y ≤ 40
open Classical in
noncomputable def yardOkB (y : Yd) : Bool := decide (YardOkP y)
theorem yard_yes {y : Yd} (h : YardOkP y) : yardOkB y = true := by simp [yardOkB, h]
theorem yard_no {y : Yd} (h : ¬ YardOkP y) : yardOkB y = false := by simp [yardOkB, h]
theorem yard_iff {y : Yd} : yardOkB y = true ↔ YardOkP y := by simp [yardOkB]
section
variable {l : List En} {k : Nat} {e : En} {id t : Int}
theorem cntE_yes (h : l[k]? = some e) (h1 : e.run = id) (h2 : e.task = t) : cntE id t (l.take (k + 1)) = cntE id t (l.take k) + 1 := by
  rw [List.take_add_one, h]; simp [cntE, List.filter_append, h1, h2]
theorem cntE_no (h : l[k]? = some e) (h1 : ¬ (e.run = id ∧ e.task = t)) : cntE id t (l.take (k + 1)) = cntE id t (l.take k) := by
  rw [List.take_add_one, h]
  by_cases h2 : e.run = id
  · have h3 : ¬ e.task = t := fun h3 => h1 ⟨h2, h3⟩
    simp [cntE, List.filter_append, h2, h3]
  · simp [cntE, List.filter_append, h2]
theorem cntE_le (l : List En) (id t : Int) : cntE id t l ≤ l.length := List.length_filter_le _ _
theorem seq_dup {j : Nat} {e2 : En} (h : l[k]? = some e) (hj : j < k) (h2 : l[j]? = some e2) (he : e2.seq = e.seq) : ¬ (l.map (·.seq)).Nodup := by
  intro hd
  obtain ⟨a1, b1⟩ := List.getElem?_eq_some_iff.1 h
  obtain ⟨a2, b2⟩ := List.getElem?_eq_some_iff.1 h2
  have := List.pairwise_iff_getElem.1 hd j k (by simpa using a2) (by simpa using a1) hj
  simp [b1, b2, he] at this
theorem seq_new (h : l[k]? = some e) (hn : ((l.take k).map (·.seq)).Nodup) (hx : ∀ e2 ∈ l.take k, e2.seq ≠ e.seq) : ((l.take (k + 1)).map (·.seq)).Nodup := by
  rw [List.take_add_one, h]
  simp only [Option.toList_some, List.map_append, List.map_cons, List.map_nil]
  rw [List.nodup_append]
  refine ⟨hn, by simp, fun a ha b hb e' => ?_⟩
  simp at hb; subst hb
  obtain ⟨e2, h1, h2⟩ := List.mem_map.1 ha
  exact hx e2 h1 (by rw [h2, e'])
end
end Go.Proofs.YtnhdcbhcocgjhaaGreat
set_option linter.unusedSimpArgs false
set_option linter.unusedVariables false
namespace Go.Proofs.YtnhdcbhcocgjhaaGreat
open Go.RowKit Go.Sort
theorem eqr_eq {P : Program} {ty : Nat} {xs ys : List Value} {b : Bool} (h : ∀ w, (Op.equalIn 10000 ty (.agg xs.toArray) (.agg ys.toArray)).run P w = .ok b w) (hg : P.eqGuardType P.depth ty = false) : EqR P .eql ty xs ys b := fun w => ⟨by rw [run_eql_struct, h w]; rfl, fun x y => run_eqGuard_agg _ _ _ _ _ _ _ hg⟩
theorem w_any : Nonempty World := ⟨default⟩
theorem binK_eqr {P : Program} {d : Option Nat} {s : St} {K : St → Prop} {op : BinOp} {ty : Nat} {l m : List A0} {xs ys : List Value} {b : Bool} (hx : valsOf l = some xs) (hy : valsOf m = some ys) (h : EqR P op ty xs ys b) : binK P d s K op ty (.agg l) (.agg m) = K (s.put d (.c (.v (.bool b)))) := by
  apply propext
  constructor
  · rintro ⟨av, (⟨_, _, _, h1, _⟩ | ⟨l', m', xs', ys', b', h1, h2, h3, h4, h5, rfl⟩), h6⟩
    · cases h1
    · cases h1; cases h2
      rw [hx] at h3; rw [hy] at h4; cases h3; cases h4
      obtain ⟨w⟩ := w_any
      have e1 := (h w).1
      rw [(h5 w).1] at e1
      simp at e1; subst e1; exact h6
  · intro hk
    exact ⟨_, .inr ⟨l, m, xs, ys, b, rfl, rfl, hx, hy, h, rfl⟩, hk⟩

theorem eqInEd (w : World) (x y : Ed) : (Op.equalIn 10000 182 (.agg #[.int .i64 x.src, .int .i64 x.dst]) (.agg #[.int .i64 y.src, .int .i64 y.dst])).run Tryz.prog w = .ok (decide (x = y)) w := by
  have u3 := Tryz.underlying3
  have a3 := Tryz.isAgg3
  have z3 := Tryz.sizeOf3
  rw [show (10000 : Nat) = 9999 + 1 from rfl, run_equalIn_agg w 9999 182 _ _ (by kernel_rfl) (by kernel_rfl)]
  simp only [Program.fieldsOf, Tryz.underlying182]
  obtain ⟨xsrc, xdst⟩ := x
  obtain ⟨ysrc, ydst⟩ := y
  go_simp
  by_cases h0 : xsrc = ysrc <;> by_cases h1 : xdst = ydst <;> simp [h0, h1]
theorem binK_eqEd {d : Option Nat} {s : St} {K : St → Prop} (x y : Ed) : binK Tryz.prog d s K .eql 182 (.agg [.v (.int .i64 x.src), .v (.int .i64 x.dst)]) (.agg [.v (.int .i64 y.src), .v (.int .i64 y.dst)]) = K (s.put d (.c (.v (.bool (decide (x = y)))))) := binK_eqr rfl rfl (eqr_eq (fun w => eqInEd w x y) (by kernel_rfl))
attribute [go_sem] binK_eqEd
end Go.Proofs.YtnhdcbhcocgjhaaGreat
set_option linter.unusedVariables false
set_option linter.unusedSimpArgs false
namespace Go.Proofs.YtnhdcbhcocgjhaaGreat
open Go.RowKit Go.Sort
theorem setAt_flat {α : Type} {enc : α → List D} {size : Nat} (hs : ∀ x, (enc x).length = size) (l : List α) (k : Nat) (v : α) : k < l.length → setAt (l.flatMap enc) (k * size) (enc v) = (l.set k v).flatMap enc := by
  intro hk
  have h1 : (l.flatMap enc).length = l.length * size := len_flat hs l
  have h2 : (k + 1) * size ≤ l.length * size := Nat.mul_le_mul_right _ hk
  rw [setAt_eq _ _ _ (by rw [hs, h1, ← Nat.succ_mul]; exact h2), hs]
  have e : l = l.take k ++ l[k] :: l.drop (k + 1) := by rw [← List.drop_eq_getElem_cons hk, List.take_append_drop]
  have e2 : l.set k v = l.take k ++ v :: l.drop (k + 1) := by rw [List.set_eq_take_append_cons_drop, if_pos hk]
  have h3 : ((l.take k).flatMap enc).length = k * size := by rw [len_flat hs, List.length_take, Nat.min_eq_left (by omega)]
  have h4 : l.flatMap enc = (l.take k ++ l[k] :: l.drop (k + 1)).flatMap enc := congrArg (List.flatMap enc) e
  rw [List.flatMap_append, List.flatMap_cons] at h4
  rw [e2, h4, List.take_left' h3]
  simp only [List.flatMap_append, List.flatMap_cons, List.append_assoc]
  congr 2
  rw [← List.append_assoc, List.drop_left' (by rw [List.length_append, h3, hs])]
theorem put_flat {α : Type} {enc : α → List D} {size ty : Nat} (hs : ∀ x, (enc x).length = size) {l : List α} {k : Nat} (v : α) (hk : k < l.length) : D.put [] (k * size) (enc v) (.sl size ty (l.flatMap enc)) = .sl size ty ((l.set k v).flatMap enc) := by
  simp only [D.put, setAt_flat hs l k v hk]
theorem put_encInts {l : List Int} {k : Nat} (v : Int) (hk : k < l.length) : D.put [] (k * 1) [.val (.int .i64 v)] (encInts l) = encInts (l.set k v) := put_flat (enc := fun n => [iv n]) (fun _ => rfl) v hk

abbrev tBool : TypeId := 4
def encBools (l : List Bool) : D := .sl 1 tBool (l.flatMap (fun b => [D.val (.bool b)]))
section
variable {P : Program} {β : Nat} {s : St}
theorem len_encBools (l : List Bool) : (encBools l).len = l.length := flat_len (enc := fun b => [D.val (.bool b)]) (fun _ => rfl) (by decide) _ _
theorem elem_encBools {l : List Bool} {k : Nat} {x : Bool} (h : l[k]? = some x) : (encBools l).elem k = [D.val (.bool x)] := flat_elem (enc := fun b => [D.val (.bool b)]) (fun _ => rfl) h
theorem sl_encBools (l : List Bool) : (encBools l).isSl = true := rfl
theorem sz_encBools (l : List Bool) : (encBools l).size = 1 := rfl
theorem obj_encBools (l : List Bool) (g : Nat) (η : Heads) : (encBools l).obj g η = [(g, .loose (encBools l) η)] := rfl
theorem own_encBools (l : List Bool) (g c : Nat) (p : List Nat) (η : Heads) : (encBools l).toOwn g c p η = .h g c p (η p) := rfl
theorem cells_encBools (l : List Bool) : (encBools l).cells = l.flatMap (fun b => [D.val (.bool b)]) := rfl
theorem at_encBools {l : List Bool} {k : Nat} {x : Bool} (h : l[k]? = some x) : ((l.flatMap (fun b => [D.val (.bool b)])).drop (k * 1)).take 1 = [D.val (.bool x)] := elem_encBools h
theorem in_encBools {l : List Bool} {k : Nat} (h : k < l.length) : k * 1 + 1 ≤ (l.flatMap (fun b => [D.val (.bool b)])).length := by rw [len_flat (enc := fun b => [D.val (.bool b)]) (size := 1) (fun _ => rfl)]; omega
theorem put_encBools {l : List Bool} {k : Nat} (v : Bool) (hk : k < l.length) : D.put [] (k * 1) [D.val (.bool v)] (encBools l) = encBools (l.set k v) := put_flat (enc := fun b => [D.val (.bool b)]) (fun _ => rfl) v hk
attribute [go_sem] len_encBools sl_encBools sz_encBools obj_encBools own_encBools cells_encBools
theorem flatB_encBools (l : List Bool) : flatB (l.flatMap (fun b => [D.val (.bool b)])) = true := by
  induction l with
  | nil => rfl
  | cons x l ih => rw [List.flatMap_cons, flatB_app, ih]; rfl
attribute [go_sem] flatB_encBools
end
theorem put_encTks {l : List (Tk)} {k : Nat} (v : Tk) (hk : k < l.length) : D.put [] (k * 4) (encTk v) (encTks l) = encTks (l.set k v) := put_flat (enc := encTk) (fun _ => rfl) v hk
theorem put_tk4 {l : List Tk} {k : Nat} (a b c d : Int) (hk : k < l.length) : D.put [] (k * 4) [.val (.int .i64 a), .val (.int .i64 b), .val (.int .i64 c), .val (.int .i64 d)] (encTks l) = encTks (l.set k ⟨a, b, c, d⟩) := put_encTks ⟨a, b, c, d⟩ hk
theorem flatB_dt : ∀ {l : List D} (a b : Nat), flatB l = true → flatB ((l.drop a).take b) = true
  | [], a, b, _ => by simp [flatB]
  | .sl _ _ _ :: l, a, b, h => by simp [flatB] at h
  | .val u :: l, 0, 0, _ => rfl
  | .val u :: l, 0, b + 1, h => by
    simp only [flatB, Bool.and_eq_true] at h
    simp only [List.drop_zero, List.take_succ_cons, flatB, h.1, Bool.true_and]
    exact flatB_dt (l := l) 0 b h.2
  | .val u :: l, a + 1, b, h => by
    simp only [flatB, Bool.and_eq_true] at h
    exact flatB_dt (l := l) a b h.2
theorem fdt_encInts (l : List Int) (a b : Nat) : flatB (((l.flatMap (fun n => [iv n])).drop a).take b) = true := flatB_dt a b (flatB_encInts l)
attribute [go_sem] fdt_encInts
theorem fdt_encTks (l : List Tk) (a b : Nat) : flatB (((l.flatMap (encTk)).drop a).take b) = true := flatB_dt a b (flatB_encTks l)
attribute [go_sem] fdt_encTks
theorem fdt_encBools (l : List Bool) (a b : Nat) : flatB (((l.flatMap (fun b => [D.val (.bool b)])).drop a).take b) = true := flatB_dt a b (flatB_encBools l)
attribute [go_sem] fdt_encBools
theorem mk_ints (n : Nat) : D.sl 1 tInt (List.replicate n [D.val (.int .i64 0)]).flatten = encInts (List.replicate n 0) := by simp [encInts, List.flatMap, iv]
theorem mk_bools (n : Nat) : D.sl 1 tBool (List.replicate n [D.val (.bool false)]).flatten = encBools (List.replicate n false) := by simp [encBools, List.flatMap]
theorem drop_flat {α : Type} {enc : α → List D} {size : Nat} (hs : ∀ x, (enc x).length = size) : ∀ (l : List α) (k : Nat), (l.flatMap enc).drop (k * size) = (l.drop k).flatMap enc
  | [], k => by simp
  | x :: l, 0 => by simp
  | x :: l, k + 1 => by
    rw [List.flatMap_cons, List.drop_succ_cons, ← drop_flat hs l k, Nat.succ_mul, Nat.add_comm, ← List.drop_drop, List.drop_left' (hs x)]
theorem take_flat {α : Type} {enc : α → List D} {size : Nat} (hs : ∀ x, (enc x).length = size) : ∀ (l : List α) (k : Nat), (l.flatMap enc).take (k * size) = (l.take k).flatMap enc
  | [], k => by simp
  | x :: l, 0 => by simp
  | x :: l, k + 1 => by
    rw [List.flatMap_cons, List.take_succ_cons, List.flatMap_cons, ← take_flat hs l k, Nat.succ_mul, Nat.add_comm, List.take_append, hs, Nat.add_sub_cancel_left, List.take_of_length_le (by rw [hs]; omega)]
theorem sub_flat {α : Type} {enc : α → List D} {size ty : Nat} (hs : ∀ x, (enc x).length = size) (l : List α) (a b : Nat) : (D.sl size ty (l.flatMap enc)).sub a b = .sl size ty (((l.drop a).take (b - a)).flatMap enc) := by
  simp only [D.sub, drop_flat hs, take_flat hs]
theorem sub_encEds (l : List Ed) (a b : Nat) : (encEds l).sub a b = encEds ((l.drop a).take (b - a)) := sub_flat (enc := encEd) (fun _ => rfl) l a b
theorem sub_encEns (l : List En) (a b : Nat) : (encEns l).sub a b = encEns ((l.drop a).take (b - a)) := sub_flat (enc := encEn) (fun _ => rfl) l a b
attribute [go_sem] Nat.zero_le sub_encEds sub_encEns Nat.sub_zero List.drop_zero
def findI {α : Type} (f : α → Bool) : List α → Int
  | [] => -1
  | x :: l => if f x then 0 else match findI f l with
    | .ofNat k => .ofNat (k + 1)
    | .negSucc k => .negSucc k
theorem findI_none {α : Type} {f : α → Bool} : ∀ {l : List α}, (∀ y ∈ l, f y = false) → findI f l = -1
  | [], _ => rfl
  | x :: l, h => by rw [findI, h x (by simp), findI_none fun y hy => h y (by simp [hy])]; rfl
theorem findI_hit {α : Type} {f : α → Bool} : ∀ {l : List α} {k : Nat} {x : α}, l[k]? = some x → f x = true → (∀ y ∈ l.take k, f y = false) → findI f l = k
  | [], _, _, h, _, _ => by simp at h
  | a :: l, 0, x, h, hx, _ => by simp at h; subst h; rw [findI, hx]; rfl
  | a :: l, k + 1, x, h, hx, hn => by
    rw [findI, hn a (by simp), findI_hit (k := k) (by simpa using h) hx fun y hy => hn y (by simp [hy])]; rfl
theorem findI_cases {α : Type} (f : α → Bool) (l : List α) : (findI f l = -1 ∧ ∀ y ∈ l, f y = false) ∨ ∃ k x, findI f l = ((k : Nat) : Int) ∧ l[k]? = some x ∧ f x = true ∧ ∀ y ∈ l.take k, f y = false := by
  induction l with
  | nil => exact .inl ⟨rfl, by simp⟩
  | cons a l ih =>
    cases ha : f a with
    | true => exact .inr ⟨0, a, by rw [findI, ha]; rfl, rfl, ha, by simp⟩
    | false =>
      rcases ih with ⟨h1, h2⟩ | ⟨k, x, h1, h2, h3, h4⟩
      · exact .inl ⟨findI_none (fun y hy => by rcases List.mem_cons.1 hy with rfl | hy <;> simp_all), fun y hy => by rcases List.mem_cons.1 hy with rfl | hy <;> simp_all⟩
      · have h5 : (a :: l)[k + 1]? = some x := by simpa using h2
        have h6 : ∀ y ∈ (a :: l).take (k + 1), f y = false := fun y hy => by
          rw [List.take_succ_cons] at hy
          rcases List.mem_cons.1 hy with rfl | hy
          · exact ha
          · exact h4 y hy
        exact .inr ⟨k + 1, x, findI_hit h5 h3 h6, h5, h3, h6⟩
theorem take_no {α : Type} {f : α → Bool} {l : List α} {k : Nat} {x : α} (h : l[k]? = some x) (hx : f x = false) (hn : ∀ y ∈ l.take k, f y = false) : ∀ y ∈ l.take (k + 1), f y = false := by
  intro y hy
  rw [List.take_add_one, h] at hy
  rcases List.mem_append.1 hy with hy | hy
  · exact hn y hy
  · simp at hy; subst hy; exact hx
theorem ints_snoc1 (l : List Int) (a : Int) : D.sl 1 tInt (l.flatMap (fun n => [iv n]) ++ [.val (.int .i64 a)]) = encInts (l ++ [a]) := by simp [encInts]
theorem ints_one (a : Int) : D.sl 1 tInt [.val (.int .i64 a)] = encInts [a] := by simp [encInts]
theorem stH_t (p : List Nat) (k n : Nat) (η : Heads) (K : Heads → Prop) : stH true p k n η K = K η := rfl
attribute [go_sem] stH_t stA_ep
end Go.Proofs.YtnhdcbhcocgjhaaGreat
set_option linter.unusedSimpArgs false
set_option linter.unusedVariables false
set_option maxRecDepth 100000
namespace Go.Proofs.YtnhdcbhcocgjhaaGreat
open Go.RowKit Go.Sort
def c_spec_ShelfOf : C := .seq (.reg [⟨some 2, none, .mov (.c (.int .i64 0))⟩]) (.seq (.reg [⟨some 4, none, .mov (.t 0)⟩, ⟨some 5, none, .call 194 [.t 4]⟩, ⟨some 3, none, .mov (.t 5)⟩]) (.seq (.seq (.reg [⟨some 6, none, .mov (.t 3)⟩, ⟨some 7, none, .bin .eql 9 (.t 6) (.c (.string ⟨⟨[]⟩⟩))⟩]) (.cond (.t 7) (.seq (.reg [⟨some 2, none, .mov (.c (.int .i64 0))⟩]) .ret) .skip)) (.seq (.reg [⟨some 8, none, .mov (.t 3)⟩, ⟨some 9, none, .call 195 [.t 8]⟩, ⟨some 10, none, .bin .rem 3 (.t 9) (.c (.int .i64 4))⟩, ⟨some 2, none, .mov (.t 10)⟩]) .ret)))
theorem code_spec_ShelfOf : fnC Tryz.prog Tryz.f164 = some (c_spec_ShelfOf, [.t 2], 11) := by kernel_rfl
def c_impl_ShelfOf : C := .seq (.reg [⟨some 2, none, .mov (.c (.int .i64 0))⟩]) (.seq (.reg [⟨some 4, none, .mov (.t 0)⟩, ⟨some 5, none, .call 198 [.t 4]⟩, ⟨some 3, none, .mov (.t 5)⟩]) (.seq (.seq (.reg [⟨some 6, none, .mov (.t 3)⟩, ⟨some 7, none, .bin .eql 9 (.t 6) (.c (.string ⟨⟨[]⟩⟩))⟩]) (.cond (.t 7) (.seq (.reg [⟨some 2, none, .mov (.c (.int .i64 0))⟩]) .ret) .skip)) (.seq (.reg [⟨some 8, none, .mov (.t 3)⟩, ⟨some 9, none, .call 199 [.t 8]⟩, ⟨some 10, none, .bin .rem 3 (.t 9) (.c (.int .i64 4))⟩, ⟨some 2, none, .mov (.t 10)⟩]) .ret)))
theorem code_impl_ShelfOf : fnC Tryz.prog Tryz.f170 = some (c_impl_ShelfOf, [.t 2], 11) := by kernel_rfl
def c_spec_VarText : C := .seq (.reg [⟨some 2, none, .mov (.c (.string ⟨⟨[]⟩⟩))⟩]) (.seq (.seq (.reg [⟨some 4, none, .mov (.t 0)⟩, ⟨some 5, none, .call 72 [.t 4, .c (.int .i64 0), .c (.int .i64 1000000000)]⟩, ⟨some 6, none, .un .not (.t 5)⟩]) (.cond (.t 6) (.seq (.reg [⟨some 2, none, .mov (.c (.string ⟨⟨[]⟩⟩))⟩]) .ret) .skip)) (.seq (.reg [⟨some 7, none, .bsl 5 1 0 [] []⟩, ⟨some 3, none, .mov (.t 7)⟩]) (.seq (.blk 0 (.loop (.seq (.seq (.reg [⟨some 8, none, .mov (.t 0)⟩, ⟨some 9, none, .bin .gtr 3 (.t 8) (.c (.int .i64 127))⟩]) (.cond (.t 9) .skip (.exit 0))) (.blk 1 (.seq (.reg [⟨some 10, none, .mov (.t 3)⟩, ⟨some 11, none, .mov (.t 0)⟩, ⟨some 12, none, .bin .rem 3 (.t 11) (.c (.int .i64 128))⟩, ⟨some 13, none, .bin .add 3 (.c (.int .i64 128)) (.t 12)⟩, ⟨some 14, none, .cv (.num .u8) 0 (.t 13)⟩, ⟨some 15, none, .bsl 5 1 1 [none] [(0, 1, .t 14)]⟩, ⟨some 16, none, .app 5 1 1 (.t 10) (.t 15)⟩, ⟨some 3, none, .mov (.t 16)⟩]) (.reg [⟨some 17, none, .mov (.t 0)⟩, ⟨some 18, none, .bin .quo 3 (.t 17) (.c (.int .i64 128))⟩, ⟨some 0, none, .mov (.t 18)⟩])))))) (.seq (.reg [⟨some 19, none, .mov (.t 3)⟩, ⟨some 20, none, .mov (.t 0)⟩, ⟨some 21, none, .cv (.num .u8) 0 (.t 20)⟩, ⟨some 22, none, .bsl 5 1 1 [none] [(0, 1, .t 21)]⟩, ⟨some 23, none, .app 5 1 1 (.t 19) (.t 22)⟩, ⟨some 24, none, .cv .text 5 (.t 23)⟩, ⟨some 2, none, .mov (.t 24)⟩]) .ret))))
theorem code_spec_VarText : fnC Tryz.prog Tryz.f194 = some (c_spec_VarText, [.t 2], 25) := by kernel_rfl
def c_impl_VarText : C := .seq (.reg [⟨some 2, none, .mov (.c (.string ⟨⟨[]⟩⟩))⟩]) (.seq (.seq (.reg [⟨some 4, none, .mov (.t 0)⟩, ⟨some 5, none, .call 79 [.t 4, .c (.int .i64 0), .c (.int .i64 1000000000)]⟩, ⟨some 6, none, .un .not (.t 5)⟩]) (.cond (.t 6) (.seq (.reg [⟨some 2, none, .mov (.c (.string ⟨⟨[]⟩⟩))⟩]) .ret) .skip)) (.seq (.reg [⟨some 3, none, .mov (.c (.slice none 0 0))⟩]) (.seq (.blk 0 (.loop (.seq (.seq (.reg [⟨some 7, none, .mov (.t 0)⟩, ⟨some 8, none, .bin .geq 3 (.t 7) (.c (.int .i64 128))⟩]) (.cond (.t 8) .skip (.exit 0))) (.blk 1 (.seq (.reg [⟨some 9, none, .mov (.t 3)⟩, ⟨some 10, none, .mov (.t 0)⟩, ⟨some 11, none, .bin .rem 3 (.t 10) (.c (.int .i64 128))⟩, ⟨some 12, none, .bin .add 3 (.t 11) (.c (.int .i64 128))⟩, ⟨some 13, none, .cv (.num .u8) 0 (.t 12)⟩, ⟨some 14, none, .bsl 5 1 1 [none] [(0, 1, .t 13)]⟩, ⟨some 15, none, .app 5 1 1 (.t 9) (.t 14)⟩, ⟨some 3, none, .mov (.t 15)⟩]) (.reg [⟨some 16, none, .mov (.t 0)⟩, ⟨some 17, none, .bin .quo 3 (.t 16) (.c (.int .i64 128))⟩, ⟨some 0, none, .mov (.t 17)⟩])))))) (.seq (.reg [⟨some 18, none, .mov (.t 3)⟩, ⟨some 19, none, .mov (.t 0)⟩, ⟨some 20, none, .cv (.num .u8) 0 (.t 19)⟩, ⟨some 21, none, .bsl 5 1 1 [none] [(0, 1, .t 20)]⟩, ⟨some 22, none, .app 5 1 1 (.t 18) (.t 21)⟩, ⟨some 23, none, .cv .text 5 (.t 22)⟩, ⟨some 2, none, .mov (.t 23)⟩]) .ret))))
theorem code_impl_VarText : fnC Tryz.prog Tryz.f198 = some (c_impl_VarText, [.t 2], 24) := by kernel_rfl
def c_spec_SumOf : C := .seq (.reg [⟨some 2, none, .mov (.c (.int .i64 0))⟩]) (.seq (.reg [⟨some 3, none, .mov (.c (.int .i64 4294967295))⟩]) (.seq (.seq (.reg [⟨some 4, none, .mov (.c (.int .i64 0))⟩]) (.blk 0 (.loop (.seq (.seq (.reg [⟨some 7, none, .mov (.t 4)⟩, ⟨some 8, none, .mov (.t 0)⟩, ⟨some 9, none, .len true (.t 8)⟩, ⟨some 10, none, .bin .lss 3 (.t 7) (.t 9)⟩]) (.cond (.t 10) .skip (.exit 0))) (.seq (.blk 1 (.seq (.reg [⟨some 13, none, .mov (.t 3)⟩, ⟨some 14, none, .mov (.t 0)⟩, ⟨some 15, none, .mov (.t 4)⟩, ⟨some 16, none, .sidx (.t 14) (.t 15)⟩, ⟨some 17, none, .cv (.num .i64) 0 (.t 16)⟩, ⟨some 18, none, .bin .xor 3 (.t 13) (.t 17)⟩, ⟨some 3, none, .mov (.t 18)⟩]) (.seq (.reg [⟨some 5, none, .mov (.c (.int .i64 0))⟩]) (.blk 2 (.loop (.seq (.seq (.reg [⟨some 19, none, .mov (.t 5)⟩, ⟨some 20, none, .bin .lss 3 (.t 19) (.c (.int .i64 8))⟩]) (.cond (.t 20) .skip (.exit 2))) (.seq (.blk 3 (.seq (.reg [⟨some 23, none, .mov (.t 3)⟩, ⟨some 24, none, .bin .rem 3 (.t 23) (.c (.int .i64 2))⟩, ⟨some 25, none, .bin .eql 3 (.t 24) (.c (.int .i64 1))⟩, ⟨some 6, none, .mov (.t 25)⟩]) (.seq (.reg [⟨some 26, none, .mov (.t 3)⟩, ⟨some 27, none, .bin .quo 3 (.t 26) (.c (.int .i64 2))⟩, ⟨some 3, none, .mov (.t 27)⟩]) (.seq (.reg [⟨some 28, none, .mov (.t 6)⟩]) (.cond (.t 28) (.reg [⟨some 29, none, .mov (.t 3)⟩, ⟨some 30, none, .bin .xor 3 (.t 29) (.c (.int .i64 3988292384))⟩, ⟨some 3, none, .mov (.t 30)⟩]) .skip))))) (.reg [⟨some 21, none, .mov (.t 5)⟩, ⟨some 22, none, .bin .add 3 (.t 21) (.c (.int .i64 1))⟩, ⟨some 5, none, .mov (.t 22)⟩])))))))) (.reg [⟨some 11, none, .mov (.t 4)⟩, ⟨some 12, none, .bin .add 3 (.t 11) (.c (.int .i64 1))⟩, ⟨some 4, none, .mov (.t 12)⟩])))))) (.seq (.reg [⟨some 31, none, .mov (.t 3)⟩, ⟨some 32, none, .bin .xor 3 (.t 31) (.c (.int .i64 4294967295))⟩, ⟨some 2, none, .mov (.t 32)⟩]) .ret)))
theorem code_spec_SumOf : fnC Tryz.prog Tryz.f195 = some (c_spec_SumOf, [.t 2], 33) := by kernel_rfl
def c_impl_SumOf : C := .seq (.reg [⟨some 2, none, .mov (.c (.int .i64 0))⟩]) (.seq (.reg [⟨some 3, none, .mov (.c (.int .i64 4294967295))⟩]) (.seq (.seq (.reg [⟨some 4, none, .mov (.c (.int .i64 0))⟩]) (.blk 0 (.loop (.seq (.seq (.reg [⟨some 7, none, .mov (.t 4)⟩, ⟨some 8, none, .mov (.t 0)⟩, ⟨some 9, none, .len true (.t 8)⟩, ⟨some 10, none, .bin .lss 3 (.t 7) (.t 9)⟩]) (.cond (.t 10) .skip (.exit 0))) (.seq (.blk 1 (.seq (.reg [⟨some 13, none, .mov (.t 3)⟩, ⟨some 14, none, .mov (.t 0)⟩, ⟨some 15, none, .mov (.t 4)⟩, ⟨some 16, none, .sidx (.t 14) (.t 15)⟩, ⟨some 17, none, .cv (.num .i64) 0 (.t 16)⟩, ⟨some 18, none, .bin .xor 3 (.t 13) (.t 17)⟩, ⟨some 3, none, .mov (.t 18)⟩]) (.seq (.reg [⟨some 5, none, .mov (.c (.int .i64 0))⟩]) (.blk 2 (.loop (.seq (.seq (.reg [⟨some 19, none, .mov (.t 5)⟩, ⟨some 20, none, .bin .lss 3 (.t 19) (.c (.int .i64 8))⟩]) (.cond (.t 20) .skip (.exit 2))) (.seq (.blk 3 (.seq (.reg [⟨some 23, none, .mov (.t 3)⟩, ⟨some 24, none, .bin .rem 3 (.t 23) (.c (.int .i64 2))⟩, ⟨some 25, none, .bin .eql 3 (.t 24) (.c (.int .i64 1))⟩, ⟨some 6, none, .mov (.t 25)⟩]) (.seq (.reg [⟨some 26, none, .mov (.t 3)⟩, ⟨some 27, none, .bin .quo 3 (.t 26) (.c (.int .i64 2))⟩, ⟨some 3, none, .mov (.t 27)⟩]) (.seq (.reg [⟨some 28, none, .mov (.t 6)⟩]) (.cond (.t 28) (.reg [⟨some 29, none, .mov (.t 3)⟩, ⟨some 30, none, .bin .xor 3 (.t 29) (.c (.int .i64 3988292384))⟩, ⟨some 3, none, .mov (.t 30)⟩]) .skip))))) (.reg [⟨some 21, none, .mov (.t 5)⟩, ⟨some 22, none, .bin .add 3 (.t 21) (.c (.int .i64 1))⟩, ⟨some 5, none, .mov (.t 22)⟩])))))))) (.reg [⟨some 11, none, .mov (.t 4)⟩, ⟨some 12, none, .bin .add 3 (.t 11) (.c (.int .i64 1))⟩, ⟨some 4, none, .mov (.t 12)⟩])))))) (.seq (.reg [⟨some 31, none, .mov (.t 3)⟩, ⟨some 32, none, .bin .xor 3 (.t 31) (.c (.int .i64 4294967295))⟩, ⟨some 2, none, .mov (.t 32)⟩]) .ret)))
theorem code_impl_SumOf : fnC Tryz.prog Tryz.f199 = some (c_impl_SumOf, [.t 2], 33) := by kernel_rfl
def c_spec_l01In : C := .seq (.reg [⟨some 6, none, .mov (.c (.bool false))⟩]) (.seq (.reg [⟨some 7, none, .mov (.t 0)⟩, ⟨some 8, none, .mov (.t 1)⟩, ⟨some 9, none, .bin .geq 3 (.t 7) (.t 8)⟩, ⟨some 10, none, .mov (.t 9)⟩, ⟨some 11, some (10, true), .mov (.t 0)⟩, ⟨some 12, some (10, true), .mov (.t 2)⟩, ⟨some 13, some (10, true), .bin .leq 3 (.t 11) (.t 12)⟩, ⟨some 14, none, .pick (.t 10) (.t 13) (.c (.bool false))⟩, ⟨some 6, none, .mov (.t 14)⟩]) .ret)
theorem code_spec_l01In : fnC Tryz.prog Tryz.f72 = some (c_spec_l01In, [.t 6], 15) := by kernel_rfl
def c_impl_within : C := .seq (.reg [⟨some 6, none, .mov (.c (.bool false))⟩]) (.seq (.reg [⟨some 7, none, .mov (.t 0)⟩, ⟨some 8, none, .mov (.t 1)⟩, ⟨some 9, none, .bin .geq 3 (.t 7) (.t 8)⟩, ⟨some 10, none, .mov (.t 9)⟩, ⟨some 11, some (10, true), .mov (.t 0)⟩, ⟨some 12, some (10, true), .mov (.t 2)⟩, ⟨some 13, some (10, true), .bin .leq 3 (.t 11) (.t 12)⟩, ⟨some 14, none, .pick (.t 10) (.t 13) (.c (.bool false))⟩, ⟨some 6, none, .mov (.t 14)⟩]) .ret)
theorem code_impl_within : fnC Tryz.prog Tryz.f79 = some (c_impl_within, [.t 6], 15) := by kernel_rfl
theorem p_spec_l01In (a b c : Int) : Pure Tryz.prog 72 [.c (.val (.int .i64 a)), .c (.val (.int .i64 b)), .c (.val (.int .i64 c))] (.c (.val (.bool (decide (b ≤ a ∧ a ≤ c))))) := by
  refine pure_fn Tryz.func72 code_spec_l01In (by simp) ?_
  unfold c_spec_l01In
  by_cases h : b ≤ a
  · simp -implicitDefEqProofs only [go_sem, h]
  · simp -implicitDefEqProofs only [go_sem, h]
theorem p_impl_within (a b c : Int) : Pure Tryz.prog 79 [.c (.val (.int .i64 a)), .c (.val (.int .i64 b)), .c (.val (.int .i64 c))] (.c (.val (.bool (decide (b ≤ a ∧ a ≤ c))))) := by
  refine pure_fn Tryz.func79 code_impl_within (by simp) ?_
  unfold c_impl_within
  by_cases h : b ≤ a
  · simp -implicitDefEqProofs only [go_sem, h]
  · simp -implicitDefEqProofs only [go_sem, h]
/-- The bytes of a number. -/
def varL (v : Nat) : List UInt8 := if v < 128 then [UInt8.ofNat v] else UInt8.ofNat (128 + v % 128) :: varL (v / 128)
termination_by v
decreasing_by omega
theorem varL_len (v : Nat) : (varL v).length ≤ v + 1 := by
  induction v using Nat.strongRecOn with
  | _ v ih =>
    unfold varL
    split
    · simp
    · have := ih (v / 128) (by omega)
      simp only [List.length_cons]; omega
def varS (n : Int) : ByteArray := if 0 ≤ n ∧ n ≤ 1000000000 then ⟨(varL n.toNat).toArray⟩ else ⟨#[]⟩
theorem byte_ {v : Nat} (h : v < 256) : D.val (.int .u8 (IntKind.u8.wrap (v : Int))) = byteVal (UInt8.ofNat v) := by
  have : IntKind.u8.wrap (v : Int) = v := IntWalk.u8_in _ (by omega)
  rw [this]
  simp [byteVal, Nat.mod_eq_of_lt h]
theorem tdiv128 (v : Nat) : Int.tdiv (v : Int) 128 = ((v / 128 : Nat) : Int) := rfl
theorem tmod128 (v : Nat) : Int.tmod (v : Int) 128 = ((v % 128 : Nat) : Int) := rfl
theorem varS_in {n : Nat} (h : n ≤ 1000000000) : varS (n : Int) = ⟨(varL n).toArray⟩ := by simp [varS]; omega
theorem p_spec_VarText (n : Int) : Pure Tryz.prog 194 [.c (.val (.int .i64 n))] (.c (.val (.string (varS n)))) := by
  refine pure_fn Tryz.func194 code_spec_VarText (by simp) ?_
  unfold c_spec_VarText
  simp -implicitDefEqProofs only [go_sem]
  refine run_call (p_spec_l01In n 0 1000000000) (by simp -implicitDefEqProofs only [go_sem]) fun η => ?_
  by_cases h : 0 ≤ n ∧ n ≤ 1000000000
  · obtain ⟨n, rfl⟩ := Int.eq_ofNat_of_zero_le h.1
    have hn : n ≤ 1000000000 := by omega
    rw [varS_in hn]
    simp -implicitDefEqProofs only [go_sem, h]
    intro η1
    have hl0 := varL_len n
    refine wp_loop_ (fun s => ∃ (l : List UInt8) (v : Nat) (g : Nat) (η : Heads), l ++ varL v = varL n ∧ v ≤ n ∧ (g = 700 ∨ g = 1600) ∧ s.t 0 = .c (.v (.int .i64 v)) ∧ s.t 3 = .c (.h g 0 [] (η [])) ∧ s.o g = .loose (.sl 1 5 (l.map byteVal)) η) (fun s => s.n 0) ?_ ?_
    · exact ⟨[], n, 700, η1, rfl, Nat.le_refl _, .inl rfl, by simp -implicitDefEqProofs only [go_sem], by simp -implicitDefEqProofs only [go_sem], by simp -implicitDefEqProofs only [go_sem]⟩
    · rintro s ⟨l, v, g, η, hl, hv, hg, h0, h3, ho⟩
      have hll : l.length ≤ 1000000001 := by have := congrArg List.length hl; simp only [List.length_append] at this; omega
      by_cases hlt : 128 ≤ v
      · have hlt' : (127 : Int) < v := by omega
        have hw : IntKind.i64.wrap (128 + ((v % 128 : Nat) : Int)) = ((128 + v % 128 : Nat) : Int) := by rw [wrap64 (by omega) (by omega)]; omega
        have hw2 : IntKind.i64.wrap ((v / 128 : Nat) : Int) = ((v / 128 : Nat) : Int) := wrap64 (by omega) (by omega)
        have hb := byte_ (v := 128 + v % 128) (by omega)
        have e' : l ++ varL v = (l ++ [UInt8.ofNat (128 + v % 128)]) ++ varL (v / 128) := by rw [varL, if_neg (by omega)]; simp
        rcases hg with rfl | rfl
        · simp -implicitDefEqProofs only [go_sem, h0, h3, ho, hlt', tdiv128, tmod128, hw, hw2]
          intro η2
          refine ⟨by simp [maxLen]; try omega, by simp; try omega, fun η3 => ⟨⟨_, v / 128, 1600, η3, e'.symm.trans hl, by omega, .inr rfl, rfl, rfl, by simp -implicitDefEqProofs only [go_sem, hb, List.map_append]⟩, ?_⟩⟩
          rw [st_n (k := .i64) (n := ((v / 128 : Nat) : Int)) (by simp -implicitDefEqProofs only [go_sem]), st_n h0]; omega
        · simp -implicitDefEqProofs only [go_sem, h0, h3, ho, hlt', tdiv128, tmod128, hw, hw2]
          intro η2
          refine ⟨by simp [maxLen]; try omega, by simp; try omega, fun η3 => ⟨⟨_, v / 128, 1600, η3, e'.symm.trans hl, by omega, .inr rfl, rfl, rfl, by simp -implicitDefEqProofs only [go_sem, hb, List.map_append]⟩, ?_⟩⟩
          rw [st_n (k := .i64) (n := ((v / 128 : Nat) : Int)) (by simp -implicitDefEqProofs only [go_sem]), st_n h0]; omega
      · have hlt' : ¬ (127 : Int) < v := by omega
        have hb := byte_ (v := v) (by omega)
        have e' : l ++ varL v = l ++ [UInt8.ofNat v] := by rw [varL, if_pos (by omega)]
        have hvl : varL n = l ++ [UInt8.ofNat v] := by rw [← hl, e']
        rcases hg with rfl | rfl
        · simp -implicitDefEqProofs only [go_sem, h0, h3, ho, hlt']
          intro η2
          refine ⟨by simp [maxLen]; try omega, by simp; try omega, fun η3 => cvK_text (bs := varL n) rfl rfl (by rw [hvl]; simp -implicitDefEqProofs only [go_sem, hb, List.map_append]) ?_⟩
          simp -implicitDefEqProofs only [go_sem]
        · simp -implicitDefEqProofs only [go_sem, h0, h3, ho, hlt']
          intro η2
          refine ⟨by simp [maxLen]; try omega, by simp; try omega, fun η3 => cvK_text (bs := varL n) rfl rfl (by rw [hvl]; simp -implicitDefEqProofs only [go_sem, hb, List.map_append]) ?_⟩
          simp -implicitDefEqProofs only [go_sem]
  · simp -implicitDefEqProofs only [go_sem, h]
    simp [varS, h]
theorem p_impl_VarText (n : Int) : Pure Tryz.prog 198 [.c (.val (.int .i64 n))] (.c (.val (.string (varS n)))) := by
  refine pure_fn Tryz.func198 code_impl_VarText (by simp) ?_
  unfold c_impl_VarText
  simp -implicitDefEqProofs only [go_sem]
  refine run_call (p_impl_within n 0 1000000000) (by simp -implicitDefEqProofs only [go_sem]) fun η => ?_
  by_cases h : 0 ≤ n ∧ n ≤ 1000000000
  · obtain ⟨n, rfl⟩ := Int.eq_ofNat_of_zero_le h.1
    have hn : n ≤ 1000000000 := by omega
    rw [varS_in hn]
    simp -implicitDefEqProofs only [go_sem, h]
    
    have hl0 := varL_len n
    refine wp_loop_ (fun s => ∃ (l : List UInt8) (v : Nat), l ++ varL v = varL n ∧ v ≤ n ∧ s.t 0 = .c (.v (.int .i64 v)) ∧ ((l = [] ∧ s.t 3 = .c (.v (.slice none 0 0))) ∨ ∃ η, s.t 3 = .c (.h 1500 0 [] (η [])) ∧ s.o 1500 = .loose (.sl 1 5 (l.map byteVal)) η)) (fun s => s.n 0) ?_ ?_
    · exact ⟨[], n, rfl, Nat.le_refl _, by simp -implicitDefEqProofs only [go_sem], .inl ⟨rfl, by simp -implicitDefEqProofs only [go_sem]⟩⟩
    · rintro s ⟨l, v, hl, hv, h0, hg⟩
      have hll : l.length ≤ 1000000001 := by have := congrArg List.length hl; simp only [List.length_append] at this; omega
      by_cases hlt : 128 ≤ v
      · have hlt' : (128 : Int) ≤ v := by omega
        have hw : IntKind.i64.wrap (((v % 128 : Nat) : Int) + 128) = ((128 + v % 128 : Nat) : Int) := by rw [wrap64 (by omega) (by omega)]; omega
        have hw2 : IntKind.i64.wrap ((v / 128 : Nat) : Int) = ((v / 128 : Nat) : Int) := wrap64 (by omega) (by omega)
        have hb := byte_ (v := 128 + v % 128) (by omega)
        have e' : l ++ varL v = (l ++ [UInt8.ofNat (128 + v % 128)]) ++ varL (v / 128) := by rw [varL, if_neg (by omega)]; simp
        rcases hg with ⟨rfl, h3⟩ | ⟨η, h3, ho⟩
        · simp -implicitDefEqProofs only [go_sem, h0, h3, List.length_nil, hlt', maxLen, tdiv128, tmod128, hw, hw2]
          intro η2
          intro η3
          refine ⟨⟨_, v / 128, e'.symm.trans hl, by omega, rfl, .inr ⟨η3, rfl, by simp -implicitDefEqProofs only [go_sem, hb, List.map_append]⟩⟩, ?_⟩
          rw [st_n (k := .i64) (n := ((v / 128 : Nat) : Int)) (by simp -implicitDefEqProofs only [go_sem]), st_n h0]; omega
        · simp -implicitDefEqProofs only [go_sem, h0, h3, ho, hlt', tdiv128, tmod128, hw, hw2]
          intro η2
          refine ⟨by simp [maxLen]; try omega, by simp; try omega, fun η3 => ⟨⟨_, v / 128, e'.symm.trans hl, by omega, rfl, .inr ⟨η3, rfl, by simp -implicitDefEqProofs only [go_sem, hb, List.map_append]⟩⟩, ?_⟩⟩
          rw [st_n (k := .i64) (n := ((v / 128 : Nat) : Int)) (by simp -implicitDefEqProofs only [go_sem]), st_n h0]; omega
      · have hlt' : ¬ (128 : Int) ≤ v := by omega
        have hb := byte_ (v := v) (by omega)
        have e' : l ++ varL v = l ++ [UInt8.ofNat v] := by rw [varL, if_pos (by omega)]
        have hvl : varL n = l ++ [UInt8.ofNat v] := by rw [← hl, e']
        rcases hg with ⟨rfl, h3⟩ | ⟨η, h3, ho⟩
        · simp -implicitDefEqProofs only [go_sem, h0, h3, List.length_nil, hlt', maxLen]
          intro η2 η3
          refine cvK_text (bs := varL n) rfl rfl (by rw [hvl]; simp -implicitDefEqProofs only [go_sem, hb, List.map_append]) ?_
          simp -implicitDefEqProofs only [go_sem]
        · simp -implicitDefEqProofs only [go_sem, h0, h3, ho, hlt']
          intro η2
          refine ⟨by simp [maxLen]; try omega, by simp; try omega, fun η3 => cvK_text (bs := varL n) rfl rfl (by rw [hvl]; simp -implicitDefEqProofs only [go_sem, hb, List.map_append]) ?_⟩
          simp -implicitDefEqProofs only [go_sem]
  · simp -implicitDefEqProofs only [go_sem, h]
    simp [varS, h]
def xorI (a b : Int) : Int := IntKind.i64.wrap ((BitVec.ofInt 64 a ^^^ BitVec.ofInt 64 b).toNat)
theorem xor_f (a b : Int) : IntKind.i64.wrap ((BitVec.ofInt 64 a ^^^ BitVec.ofInt 64 b).toNat) = xorI a b := rfl
def sumBit (c : Int) : Int := if (c.tmod 2 == 1) = true then xorI (IntKind.i64.wrap (c.tdiv 2)) 3988292384 else IntKind.i64.wrap (c.tdiv 2)
def iterB : Nat → Int → Int
  | 0, c => c
  | n + 1, c => sumBit (iterB n c)
def sumB (c : Int) (b : UInt8) : Int := iterB 8 (xorI c (IntKind.i64.wrap b.toNat))
def sumS (b : ByteArray) : Int := xorI (b.data.toList.foldl sumB 4294967295) 4294967295
theorem foldl_take {α β : Type} (f : β → α → β) (c : β) {l : List α} {k : Nat} {x : α} (h : l[k]? = some x) : (l.take (k + 1)).foldl f c = f ((l.take k).foldl f c) x := by
  rw [List.take_add_one, h]; simp
theorem w_SumOf {P : Program} (b : ByteArray) (hb : b.size < 9223372036854775807) : wpC P 0 c_spec_SumOf (retE [.t 2] (.c (.val (.int .i64 (sumS b))))) (St.init [.c (.val (.string b))]) := by
  unfold c_spec_SumOf
  simp -implicitDefEqProofs only [go_sem]
  refine wp_loop_ (fun s => ∃ k : Nat, k ≤ b.size ∧ s.t 0 = .c (.v (.string b)) ∧ s.t 4 = .c (.v (.int .i64 k)) ∧ s.t 3 = .c (.v (.int .i64 ((b.data.toList.take k).foldl sumB 4294967295)))) (fun s => b.size - s.n 4) ?_ ?_
  · exact ⟨0, Nat.zero_le _, by simp -implicitDefEqProofs only [go_sem], by simp -implicitDefEqProofs only [go_sem] <;> rfl, by simp -implicitDefEqProofs only [go_sem] <;> rfl⟩
  · rintro s ⟨k, hk, h0, h4, h3⟩
    by_cases hlt : k < b.size
    · have hlt' : (k : Int) < b.size := by omega
      obtain ⟨u, hu⟩ : ∃ u, b[k]? = some u := ⟨b[k], by simp [hlt]⟩
      have hu' : b.data.toList[k]? = some u := by
        rw [← hu, getElem?_pos b k hlt]
        simp only [Array.getElem?_toList]
        exact getElem?_pos b.data k hlt
      have hw4 : IntKind.i64.wrap ((k : Int) + 1) = ((k + 1 : Nat) : Int) := wrap64 (by omega) (by omega)
      simp -implicitDefEqProofs only [go_sem, h0, h3, h4, hlt', xor_f]
      refine ⟨u, hu, ?_⟩
      refine wp_loop_ (fun s => ∃ j : Nat, j ≤ 8 ∧ s.t 0 = .c (.v (.string b)) ∧ s.t 4 = .c (.v (.int .i64 k)) ∧ s.t 5 = .c (.v (.int .i64 j)) ∧ s.t 3 = .c (.v (.int .i64 (iterB j (xorI ((b.data.toList.take k).foldl sumB 4294967295) (IntKind.i64.wrap u.toNat)))))) (fun s => 8 - s.n 5) ?_ ?_
      · exact ⟨0, Nat.zero_le _, by simp -implicitDefEqProofs only [go_sem, h0], by simp -implicitDefEqProofs only [go_sem, h4], by simp -implicitDefEqProofs only [go_sem] <;> rfl, by simp -implicitDefEqProofs only [go_sem] <;> rfl⟩
      · rintro s' ⟨j, hj, h0', h4', h5', h3'⟩
        by_cases hj' : j < 8
        · have hj2 : (j : Int) < 8 := by omega
          have hw : IntKind.i64.wrap ((j : Int) + 1) = ((j + 1 : Nat) : Int) := wrap64 (by omega) (by omega)
          cases hodd : (iterB j (xorI ((b.data.toList.take k).foldl sumB 4294967295) (IntKind.i64.wrap u.toNat))).tmod 2 == 1 with
          | true =>
            simp -implicitDefEqProofs only [go_sem, h0', h4', h5', h3', hj2, hodd, hw, xor_f]
            exact ⟨⟨j + 1, by omega, rfl, by simp only [iterB, sumBit, hodd, ↓reduceIte]; rfl⟩, by rw [st_n (k := .i64) (n := ((j + 1 : Nat) : Int)) (by simp -implicitDefEqProofs only [go_sem]), st_n h5']; omega⟩
          | false =>
            simp -implicitDefEqProofs only [go_sem, h0', h4', h5', h3', hj2, hodd, hw, xor_f]
            exact ⟨⟨j + 1, by omega, rfl, by simp only [iterB, sumBit, hodd, Bool.false_eq_true, ↓reduceIte]⟩, by rw [st_n (k := .i64) (n := ((j + 1 : Nat) : Int)) (by simp -implicitDefEqProofs only [go_sem]), st_n h5']; omega⟩
        · have hj2 : ¬ (j : Int) < 8 := by omega
          have hj8 : j = 8 := by omega
          subst hj8
          simp -implicitDefEqProofs only [go_sem, h0', h4', h5', h3', hj2, hw4]
          exact ⟨⟨k + 1, by omega, rfl, by rw [foldl_take _ _ hu']; rfl⟩, by rw [st_n (k := .i64) (n := ((k + 1 : Nat) : Int)) (by simp -implicitDefEqProofs only [go_sem]), st_n h4]; omega⟩
    · have hlt' : ¬ (k : Int) < b.size := by omega
      have hkk : b.data.toList.take k = b.data.toList := List.take_of_length_le (by simp only [Array.length_toList]; exact Nat.le_of_not_lt hlt)
      simp -implicitDefEqProofs only [go_sem, h0, h3, h4, hlt', xor_f, hkk]
      rfl
theorem p_spec_SumOf (b : ByteArray) (hb : b.size < 9223372036854775807) : Pure Tryz.prog 195 [.c (.val (.string b))] (.c (.val (.int .i64 (sumS b)))) :=
  pure_fn Tryz.func195 code_spec_SumOf (by simp) (w_SumOf b hb)
theorem p_impl_SumOf (b : ByteArray) (hb : b.size < 9223372036854775807) : Pure Tryz.prog 199 [.c (.val (.string b))] (.c (.val (.int .i64 (sumS b)))) :=
  pure_fn Tryz.func199 code_impl_SumOf (by simp) (w_SumOf b hb)
def shelfI (n : Int) : Int := if ((varS n).toList == ByteArray.toList ⟨⟨[]⟩⟩) = true then 0 else (sumS (varS n)).tmod 4
theorem varS_small (n : Int) : (varS n).size < 9223372036854775807 := by
  unfold varS
  split
  · have := varL_len n.toNat
    show (varL n.toNat).toArray.size < _
    simp only [List.size_toArray]; omega
  · decide
theorem p_spec_ShelfOf (n : Int) : Pure Tryz.prog 164 [.c (.val (.int .i64 n))] (.c (.val (.int .i64 (shelfI n)))) := by
  refine pure_fn Tryz.func164 code_spec_ShelfOf (by simp) ?_
  unfold c_spec_ShelfOf
  simp -implicitDefEqProofs only [go_sem]
  refine run_call (p_spec_VarText n) (by simp -implicitDefEqProofs only [go_sem]) fun η => ?_
  cases he : (varS n).toList == ByteArray.toList ⟨⟨[]⟩⟩ with
  | true =>
    simp -implicitDefEqProofs only [go_sem, he]
    simp only [shelfI, he, if_true]
  | false =>
    simp -implicitDefEqProofs only [go_sem, he]
    refine run_call (p_spec_SumOf _ (varS_small n)) (by simp -implicitDefEqProofs only [go_sem]) fun η => ?_
    simp -implicitDefEqProofs only [go_sem]
    simp only [shelfI, he, Bool.false_eq_true, if_false]
theorem p_impl_ShelfOf (n : Int) : Pure Tryz.prog 170 [.c (.val (.int .i64 n))] (.c (.val (.int .i64 (shelfI n)))) := by
  refine pure_fn Tryz.func170 code_impl_ShelfOf (by simp) ?_
  unfold c_impl_ShelfOf
  simp -implicitDefEqProofs only [go_sem]
  refine run_call (p_impl_VarText n) (by simp -implicitDefEqProofs only [go_sem]) fun η => ?_
  cases he : (varS n).toList == ByteArray.toList ⟨⟨[]⟩⟩ with
  | true =>
    simp -implicitDefEqProofs only [go_sem, he]
    simp only [shelfI, he, if_true]
  | false =>
    simp -implicitDefEqProofs only [go_sem, he]
    refine run_call (p_impl_SumOf _ (varS_small n)) (by simp -implicitDefEqProofs only [go_sem]) fun η => ?_
    simp -implicitDefEqProofs only [go_sem]
    simp only [shelfI, he, Bool.false_eq_true, if_false]
end Go.Proofs.YtnhdcbhcocgjhaaGreat
