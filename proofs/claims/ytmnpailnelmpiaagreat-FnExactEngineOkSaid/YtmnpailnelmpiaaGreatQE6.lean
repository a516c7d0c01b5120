/- Texts for laws: E6. -/
import Derived.Test.YtmnpailnelmpiaaGreatQE4h
import Derived.Test.YtmnpailnelmpiaaGreatQE5
set_option linter.unusedSimpArgs false
set_option linter.unusedVariables false
namespace Go.Proofs.YtmnpailnelmpiaaGreat
open Go.RowKit Go.Sort
section
variable {P : Program} {β : Nat} {s : St} {d : Option Nat} {g : Option (Nat × Bool)} {K : St → Prop} {Q : Ex → St → Prop}

def ownK (o : Option (D × Heads)) (k : D → Heads → Prop) : Prop := match o with
  | some (d, η) => k d η
  | none => False
def getK (o : Option D) (k : D → Prop) : Prop := match o with
  | some d => k d
  | none => False
theorem ownK_ (d : D) (η : Heads) (k : D → Heads → Prop) : ownK (some (d, η)) k = k d η := rfl
theorem getK_ (d : D) (k : D → Prop) : getK (some d) k = k d := rfl
theorem own_ex (o : Option (D × Heads)) (k : D → Heads → Prop) : (∃ d η, o = some (d, η) ∧ k d η) = ownK o k := by
  cases o with
  | none => simp [ownK]
  | some p =>
    obtain ⟨d, η⟩ := p
    apply propext
    constructor
    · rintro ⟨_, _, h, h2⟩; cases h; exact h2
    · intro h; exact ⟨d, η, rfl, h⟩
theorem get_nil (d : D) : D.get [] d = some d := by cases d <;> rfl
theorem is_ex (k c : Nat) (p : List Nat) (x : Value) (R : D → Prop) : (∃ d, Is s (.h k c p x) d ∧ R d) = ownK ((s.o k).own c) fun d0 η => η p = x ∧ getK (D.get p d0) fun d => d.isSl = true ∧ R d := by
  apply propext
  rw [← own_ex]
  constructor
  · rintro ⟨d, ⟨d0, η, h1, h2, h3, h4⟩, h5⟩; exact ⟨d0, η, h1, h2, by rw [h3]; exact ⟨h4, h5⟩⟩
  · rintro ⟨d0, η, h1, h2, h3⟩
    cases h : D.get p d0 with
    | none => rw [h] at h3; exact h3.elim
    | some d => rw [h] at h3; exact ⟨d, ⟨d0, η, h1, h2, h, h3.1⟩, h3.2⟩
theorem own_loose (d : D) (η : Heads) : (Ob.loose d η).own 0 = some (d, η) := rfl
def ownC : Option Cell → Option (D × Heads)
  | some (.own d η) => some (d, η)
  | _ => none
theorem own_box (b ty : Nat) (cs : List Cell) (c : Nat) : (Ob.box b ty cs).own c = ownC cs[c]? := by
  simp only [Ob.own, ownC]; split <;> simp_all
theorem ownC_ (d : D) (η : Heads) : ownC (some (.own d η)) = some (d, η) := rfl
theorem rm_o (k c n : Nat) : (s.rm k c).o n = if n = k then (s.o k).rm c else s.o n := rfl
theorem rm_t (k c n : Nat) : (s.rm k c).t n = s.t n := rfl
theorem obrm_loose (d : D) (η : Heads) : (Ob.loose d η).rm 0 = .none := rfl
theorem obrm_box (b ty : Nat) (cs : List Cell) (c : Nat) : (Ob.box b ty cs).rm c = .box b ty (rmC cs c cs[c]?) := rfl
theorem rmC_own (cs : List Cell) (c : Nat) (d : D) (η : Heads) : rmC cs c (some (.own d η)) = cs.set c (.a (.v (η []))) := rfl
theorem lenK_own (k c : Nat) (p : List Nat) (x : Value) : lenK d s K false (.c (.h k c p x)) = ownK ((s.o k).own c) fun d0 η => η p = x ∧ getK (D.get p d0) fun dd => dd.isSl = true ∧ 0 < dd.size ∧ K (s.put d (.c (.v (.int .i64 dd.len)))) := by
  rw [lenK_h, is_ex]
theorem iaK_own (size k c : Nat) (p : List Nat) (hx : Value) (kk : IntKind) (n : Int) : iaK d s K size (.c (.h k c p hx)) (.c (.v (.int kk n))) = ((0 ≤ n ∧ ownK ((s.o k).own c) fun d0 η => η p = hx ∧ getK (D.get p d0) fun dd => dd.isSl = true ∧ dd.size = size ∧ n.toNat < dd.len) ∧ K (s.put d (.c (.ep k c p (n.toNat * size) hx)))) := by
  rw [iaK_h, is_ex]
theorem ldK_own (agg : Bool) (n k c : Nat) (p : List Nat) (i : Nat) (x : Value) : ldK d s K agg n (.c (.ep k c p i x)) = ownK ((s.o k).own c) fun d0 η => η p = x ∧ getK (D.get p d0) fun dd => dd.isSl = true ∧ i + n ≤ dd.cells.length ∧ ldV agg (loadE k c p η i ((dd.cells.drop i).take n)) fun v => K (s.put d v) := by
  apply propext
  rw [← own_ex]
  simp only [ldK]
  constructor
  · rintro ⟨d0, η, dd, h1, h2, h3, h4⟩; exact ⟨d0, η, h1, h2, by rw [h3]; exact h4⟩
  · rintro ⟨d0, η, h1, h2, h3⟩
    cases h : D.get p d0 with
    | none => rw [h] at h3; exact h3.elim
    | some dd => rw [h] at h3; exact ⟨d0, η, dd, h1, h2, h, h3⟩
theorem take_own (k c : Nat) (x : Value) (l : List A0) (R : List Cell → St → Prop) : TakeK s (.h k c [] x :: l) R = ownK ((s.o k).own c) fun d η => η [] = x ∧ TakeK (s.rm k c) l (fun cs s' => R (.own d η :: cs) s') := by
  rw [take_h, own_ex]

def cellsK (a : AV) (n : Nat) (k : List A0 → Prop) : Prop := ∃ l, a.cells = some l ∧ l.length = n ∧ k l
theorem cells_agg (l : List A0) (n : Nat) (k : List A0 → Prop) : cellsK (.agg l) n k = (l.length = n ∧ k l) := by simp [cellsK, AV.cells]
theorem cells_c (a : A0) (n : Nat) (k : List A0 → Prop) : cellsK (.c a) n k = (a.c1 = true ∧ 1 = n ∧ k [a]) := by
  simp only [cellsK, AV.cells]
  cases h : a.c1 <;> simp
def catK (s : St) : List (Nat × Nat × X) → (List A0 → Prop) → Prop
  | [], k => k []
  | (_, size, x) :: ps, k => cellsK (s.ev x) size fun l => catK s ps fun r => k (l ++ r)
theorem cat_ex : ∀ (ps : List (Nat × Nat × X)) (k : List A0 → Prop), (∃ l, catA s ps = some l ∧ k l) = catK s ps k
  | [], k => by simp [catA, catK]
  | (o, size, x) :: ps, k => by
    apply propext
    simp only [catK, cellsK, catA]
    constructor
    · rintro ⟨l, h1, h2⟩
      split at h1
      · rename_i l1 r h3 h4
        split at h1
        · rename_i h5
          simp at h1; subst h1
          refine ⟨l1, h3, h5, ?_⟩
          rw [← cat_ex ps]; exact ⟨r, h4, h2⟩
        · simp at h1
      · simp at h1
    · rintro ⟨l1, h3, h5, h6⟩
      rw [← cat_ex ps] at h6
      obtain ⟨r, h7, h8⟩ := h6
      exact ⟨l1 ++ r, by rw [h3, h7]; simp [h5], h8⟩
theorem cat_nil (k : List A0 → Prop) : catK s [] k = k [] := rfl
theorem cat_cons (o size : Nat) (x : X) (ps : List (Nat × Nat × X)) (k : List A0 → Prop) : catK s ((o, size, x) :: ps) k = cellsK (s.ev x) size fun l => catK s ps fun r => k (l ++ r) := rfl
def datK (ks : List (Option (Nat × Nat))) (cs : List Cell) (k : List D → Prop) : Prop := ∃ ds, datumL ks cs = some ds ∧ k ds
theorem dat_nil (ks : List (Option (Nat × Nat))) (k : List D → Prop) : datK ks [] k = k [] := by simp [datK, datumL]
theorem dat_v (ks : List (Option (Nat × Nat))) (x : Value) (l : List Cell) (k : List D → Prop) : datK ks (.a (.v x) :: l) k = datK ks.tail l fun r => k (nilD (ks.head?.getD none) x :: r) := by
  simp only [datK, datumL]
  cases datumL ks.tail l <;> simp
theorem nilD_0 (x : Value) : nilD none x = .val x := rfl
theorem run_bsl (e size n : Nat) (ks : List (Option (Nat × Nat))) (ps : List (Nat × Nat × X)) : runI P β ⟨d, g, .bsl e size n ks ps⟩ s K = catK s ps fun l => TakeK s l fun cs s' => datK ks cs fun ds => ∀ η, K ((s'.addO [(100 * (β + d.getD 0), .loose (.sl size e ds) η)]).put d (.c (.h (100 * (β + d.getD 0)) 0 [] (η [])))) := by
  rw [← cat_ex]; rfl
theorem run_alloc (ty : Nat) (zs : List Value) : runI P β ⟨d, g, .alloc ty zs⟩ s K = ∀ b, K ((s.addO [(100 * (β + d.getD 0), .box b ty (zs.map fun z => .a (.v z)))]).put d (.c (.bp (100 * (β + d.getD 0)) 0 b))) := by
  apply propext
  constructor
  · rintro ⟨_, h⟩ b
    obtain ⟨_, _, ⟨rfl, rfl⟩, h2⟩ := h ⟨b, fun _ _ => undef⟩
    exact h2
  · intro h
    exact ⟨.c (.val undef), fun st => ⟨_, _, ⟨rfl, rfl⟩, h st.blk⟩⟩
def obK (o : Ob) (b : Nat) (k : Nat → List Cell → Prop) : Prop := match o with
  | .box b' ty ds => b' = b ∧ k ty ds
  | _ => False
theorem obK_ (b b' ty : Nat) (ds : List Cell) (k : Nat → List Cell → Prop) : obK (.box b' ty ds) b k = (b' = b ∧ k ty ds) := rfl
theorem ob_ex (o : Ob) (b : Nat) (k : Nat → List Cell → Prop) : (∃ ty ds, o = .box b ty ds ∧ k ty ds) = obK o b k := by
  cases o with
  | box b' ty ds =>
    simp only [obK]
    apply propext
    constructor
    · rintro ⟨_, _, h, h2⟩; cases h; exact ⟨by trivial, h2⟩
    · rintro ⟨rfl, h2⟩; exact ⟨_, _, rfl, h2⟩
  | _ => simp [obK]
def stA (s' : St) (K : St → Prop) (n : Nat) (ks : List (Option (Nat × Nat))) (cs : List Cell) : AV → Prop
  | .c (.bp g c b) => obK (s'.o g) b fun ty ds => c + n ≤ ds.length ∧ K (s'.setO g (.box b ty (setAt ds c cs)))
  | .c (.ep g c p k hx) => 0 < n ∧ datK ks cs fun ds => ownK ((s'.o g).own c) fun d0 η => η p = hx ∧ getK (D.get p d0) fun dd => dd.isSl = true ∧ k + n ≤ dd.cells.length ∧
      stH (flatB ds && flatB ((dd.cells.drop k).take n)) p k n η fun η' => K (s'.setO g ((s'.o g).putOwn c (D.put p k ds d0) η'))
  | _ => False
theorem stA_bp (s' : St) (n k c b : Nat) (ks : List (Option (Nat × Nat))) (cs : List Cell) : stA s' K n ks cs (.c (.bp k c b)) = obK (s'.o k) b fun ty ds => c + n ≤ ds.length ∧ K (s'.setO k (.box b ty (setAt ds c cs))) := rfl
theorem stA_ep (s' : St) (n k c i : Nat) (p : List Nat) (hx : Value) (ks : List (Option (Nat × Nat))) (cs : List Cell) : stA s' K n ks cs (.c (.ep k c p i hx)) = (0 < n ∧ datK ks cs fun ds => ownK ((s'.o k).own c) fun d0 η => η p = hx ∧ getK (D.get p d0) fun dd => dd.isSl = true ∧ i + n ≤ dd.cells.length ∧
      stH (flatB ds && flatB ((dd.cells.drop i).take n)) p i n η fun η' => K (s'.setO k ((s'.o k).putOwn c (D.put p i ds d0) η'))) := rfl
theorem run_st (n : Nat) (ks : List (Option (Nat × Nat))) (a x : X) : runI P β ⟨none, g, .st n ks a x⟩ s K = cellsK (s.ev x) n fun l => TakeK s l fun cs s' => stA s' K n ks cs (s.ev a) := by
  have e : runI P β ⟨none, g, .st n ks a x⟩ s K = ((none : Option Nat) = none ∧ ∃ l, (s.ev x).cells = some l ∧ l.length = n ∧ TakeK s l fun cs s' => match s.ev a with
    | .c (.bp g c b) => ∃ ty ds, s'.o g = .box b ty ds ∧ c + n ≤ ds.length ∧ K (s'.setO g (.box b ty (setAt ds c cs)))
    | .c (.ep g c p k hx) => 0 < n ∧ ∃ ds, datumL ks cs = some ds ∧ ∃ d0 η dd, (s'.o g).own c = some (d0, η) ∧ η p = hx ∧ D.get p d0 = some dd ∧ dd.isSl = true ∧ k + n ≤ dd.cells.length ∧
        stH (flatB ds && flatB ((dd.cells.drop k).take n)) p k n η fun η' => K (s'.setO g ((s'.o g).putOwn c (D.put p k ds d0) η'))
    | _ => False) := rfl
  rw [e]
  simp only [true_and, cellsK]
  congr 1
  funext l
  congr 2
  congr 1
  funext cs s'
  cases hv : s.ev a with
  | c y =>
    cases y with
    | bp g c b => simp only [stA, ← ob_ex]
    | ep g c p k hx =>
      simp only [stA, datK]
      apply propext
      constructor
      · rintro ⟨h0, ds, h1, d0, η, dd, h2, h3, h4, h5, h6, h7⟩
        exact ⟨h0, ds, h1, by rw [← own_ex]; exact ⟨d0, η, h2, h3, by rw [h4]; exact ⟨h5, h6, h7⟩⟩⟩
      · rintro ⟨h0, ds, h1, h2⟩
        rw [← own_ex] at h2
        obtain ⟨d0, η, h3, h4, h5⟩ := h2
        cases hg : D.get p d0 with
        | none => rw [hg] at h5; exact h5.elim
        | some dd => rw [hg] at h5; exact ⟨h0, ds, h1, d0, η, dd, h3, h4, hg, h5⟩
    | _ => simp [stA]
  | _ => simp [stA]
theorem putOwn_loose (d0 d1 : D) (η η' : Heads) : (Ob.loose d0 η).putOwn 0 d1 η' = .loose d1 η' := rfl
theorem setAt_nil {α : Type} (l : List α) (c : Nat) : setAt l c [] = l := rfl
theorem setAt_cons {α : Type} (l : List α) (c : Nat) (x : α) (r : List α) : setAt l c (x :: r) = setAt (l.set c x) (c + 1) r := rfl

theorem run_app (e size bytes : Nat) (x y : X) : runI P β ⟨d, g, .app e size bytes x y⟩ s K = SrcK s size (s.ev y) fun ys s1 => DestK s1 e size (s.ev x) fun xs s2 => xs.length / size + ys.length / size ≤ maxLen ∧ (xs.length / size + ys.length / size) * bytes ≤ 140737488355328 ∧
      ∀ η, K ((s2.addO [(100 * (β + d.getD 0), .loose (.sl size e (xs ++ ys)) η)]).put d (.c (.h (100 * (β + d.getD 0)) 0 [] (η [])))) := rfl
theorem src_ro (size : Nat) (dd : D) (R : List D → St → Prop) : SrcK s size (.c (.ro dd)) R = (dd.isSl = true ∧ dd.size = size ∧ flatB dd.cells = true ∧ R dd.cells s) := rfl
theorem src_h (size k c : Nat) (p : List Nat) (x : Value) (R : List D → St → Prop) : SrcK s size (.c (.h k c p x)) R = ownK ((s.o k).own c) fun d0 η => η p = x ∧ getK (D.get p d0) fun dd => dd.isSl = true ∧ dd.size = size ∧ (if flatB dd.cells = true then R dd.cells s else p = [] ∧ oneB dd.cells = true ∧ R dd.cells (s.rm k c)) := by
  rw [← is_ex]; rfl
theorem dest_nil (e size : Nat) (R : List D → St → Prop) : DestK s e size (.c (.v (.slice none 0 0))) R = R [] s := rfl
def slK (dd : D) (e size : Nat) (k : List D → Prop) : Prop := ∃ cs, dd = .sl size e cs ∧ k cs
theorem slK_ (e size e' size' : Nat) (cs : List D) (k : List D → Prop) : slK (.sl size' e' cs) e size k = ((size' = size ∧ e' = e) ∧ k cs) := by
  simp only [slK]
  apply propext
  constructor
  · rintro ⟨_, h, h2⟩; cases h; exact ⟨⟨by trivial, by trivial⟩, h2⟩
  · rintro ⟨⟨rfl, rfl⟩, h⟩; exact ⟨_, rfl, h⟩
theorem dest_h (e size k c : Nat) (x : Value) (R : List D → St → Prop) : DestK s e size (.c (.h k c [] x)) R = ownK ((s.o k).own c) fun d0 η => slK d0 e size fun cs => η [] = x ∧ R cs (s.rm k c) := by
  apply propext
  rw [← own_ex]
  simp only [DestK, slK]
  constructor
  · rintro ⟨_, cs, η, h1, h2, h3⟩; exact ⟨_, η, h1, cs, rfl, h2, h3⟩
  · rintro ⟨_, η, h1, cs, rfl, h2, h3⟩; exact ⟨trivial, cs, η, h1, h2, h3⟩
theorem flatB_nil : flatB [] = true := rfl
theorem flatB_cons (u : Value) (l : List D) : flatB (.val u :: l) = (u.oneCell' && flatB l) := rfl
theorem flatB_app : ∀ (l m : List D), flatB (l ++ m) = (flatB l && flatB m)
  | [], _ => by simp [flatB]
  | .val u :: l, m => by simp [flatB, flatB_app l m, Bool.and_assoc]
  | .sl _ _ _ :: l, m => by simp [flatB]
theorem run_mks {e size bytes : Nat} {zs : List D} {l c : X} : runI P β ⟨d, g, .mks e size bytes zs l c⟩ s K = ∃ (k k' : IntKind) (n : Nat), s.ev l = .c (.v (.int k (n : Int))) ∧ s.ev c = .c (.v (.int k' (n : Int))) ∧ bytes * n ≤ 281474976710656 ∧ n ≤ maxLen ∧
    ∀ η, K ((s.addO [(100 * (β + d.getD 0), .loose (.sl size e ((List.replicate n zs).flatten)) η)]).put d (.c (.h (100 * (β + d.getD 0)) 0 [] (η [])))) := by
  apply propext
  constructor
  · rintro ⟨_, h⟩
    obtain ⟨_, _, ⟨k, k', n, h1, h2, h3, h4, rfl, rfl⟩, _⟩ := h ⟨0, fun _ _ => undef⟩
    refine ⟨k, k', n, h1, h2, h3, h4, fun η => ?_⟩
    obtain ⟨_, _, ⟨k1, k1', n1, h1', h2', _, _, rfl, rfl⟩, h6⟩ := h ⟨0, fun _ => η⟩
    rw [h1] at h1'
    cases h1'
    exact h6
  · rintro ⟨k, k', n, h1, h2, h3, h4, h5⟩
    exact ⟨.c (.val undef), fun st => ⟨_, _, ⟨k, k', n, h1, h2, h3, h4, rfl, rfl⟩, h5 (st.η 0)⟩⟩

def bnd (s : St) (x : Option X) (dflt : Nat) (k : Nat → Prop) : Prop := match x with
  | none => k dflt
  | some x => ∃ kk n, s.ev x = .c (.v (.int kk n)) ∧ 0 ≤ n ∧ k n.toNat
def bndA (a : AV) (k : Nat → Prop) : Prop := match a with
  | .c (.v (.int _ n)) => 0 ≤ n ∧ k n.toNat
  | _ => False
theorem bndA_ (kk : IntKind) (n : Int) (k : Nat → Prop) : bndA (.c (.v (.int kk n))) k = (0 ≤ n ∧ k n.toNat) := rfl
theorem bnd_n (dflt : Nat) (k : Nat → Prop) : bnd s none dflt k = k dflt := rfl
theorem bnd_s (x : X) (dflt : Nat) (k : Nat → Prop) : bnd s (some x) dflt k = bndA (s.ev x) k := by
  simp only [bnd]
  apply propext
  constructor
  · rintro ⟨kk, n, h1, h2⟩; rw [h1]; exact h2
  · intro h
    unfold bndA at h
    split at h
    · rename_i kk n he; exact ⟨kk, n, he, h⟩
    · exact h.elim
theorem bnd_ex (x : Option X) (dflt : Nat) (R : Nat → Prop) : (∃ l, bound s x dflt l ∧ R l) = bnd s x dflt R := by
  apply propext
  cases x with
  | none => constructor
            · rintro ⟨l, rfl, h⟩; exact h
            · intro h; exact ⟨_, rfl, h⟩
  | some x =>
    constructor
    · rintro ⟨l, ⟨k, h1⟩, h2⟩; exact ⟨k, l, h1, Int.natCast_nonneg _, by simpa using h2⟩
    · rintro ⟨k, n, h1, h2, h3⟩; exact ⟨n.toNat, ⟨k, by rw [h1, Int.toNat_of_nonneg h2]⟩, h3⟩
def slA (d : Option Nat) (s : St) (K : St → Prop) (size : Nat) (lo hi : Option X) : AV → Prop
  | .c (.v (.string b)) => size = 0 ∧ bnd s lo 0 fun l => bnd s hi b.size fun h => (l ≤ h ∧ h ≤ b.size) ∧ K (s.put d (.c (.v (.string (b.extract l h)))))
  | .c (.ro dd) => (0 < size ∧ dd.isSl = true ∧ dd.size = size) ∧ bnd s lo 0 fun l => bnd s hi dd.len fun h => (l ≤ h ∧ h ≤ dd.len) ∧ K (s.put d (.c (.ro (dd.sub l h))))
  | .c (.h k c p x) => 0 < size ∧ ownK ((s.o k).own c) fun d0 η => η p = x ∧ getK (D.get p d0) fun dd => (dd.isSl = true ∧ dd.size = size) ∧ bnd s lo 0 fun l => bnd s hi dd.len fun h => (l ≤ h ∧ h ≤ dd.len) ∧ K (s.put d (.c (.hs k c p x size l (h - l))))
  | .c (.hs k c p x sz lo0 m) => ((∃ dd, Is s (.hs k c p x sz lo0 m) dd) ∧ sz = size) ∧ bnd s lo 0 fun l => bnd s hi m fun h => (l ≤ h ∧ h ≤ m) ∧ K (s.put d (.c (.hs k c p x size (lo0 + l) (h - l))))
  | _ => False
theorem run_sl (size : Nat) (x : X) (lo hi : Option X) : runI P β ⟨d, g, .sl size x lo hi⟩ s K = slA d s K size lo hi (s.ev x) := by
  have e := gen_k (P := P) (β := β) (s := s) (d := d) (g := g) (K := K) (i := .sl size x lo hi) (G := fun av => ∃ l h, bound s lo 0 l ∧ l ≤ h ∧ (match s.ev x with
      | .c (.v (.string b)) => size = 0 ∧ bound s hi b.size h ∧ h ≤ b.size ∧ av = .c (.v (.string (b.extract l h)))
      | .c (.ro d) => 0 < size ∧ d.isSl = true ∧ d.size = size ∧ bound s hi d.len h ∧ h ≤ d.len ∧ av = .c (.ro (d.sub l h))
      | .c (.h g c p hx) => 0 < size ∧ (∃ d, Is s (.h g c p hx) d ∧ d.size = size ∧ bound s hi d.len h ∧ h ≤ d.len) ∧ av = .c (.hs g c p hx size l (h - l))
      | .c (.hs g c p hx sz lo m) => (∃ d, Is s (.hs g c p hx sz lo m) d) ∧ sz = size ∧ bound s hi m h ∧ h ≤ m ∧ av = .c (.hs g c p hx size (lo + l) (h - l))
      | _ => False)) rfl (by
    intro _ _ av os
    simp only [Gen]
    constructor
    · rintro ⟨l, h, h1, h2, h3, h4⟩; exact ⟨⟨l, h, h1, h2, h3⟩, h4⟩
    · rintro ⟨⟨l, h, h1, h2, h3⟩, h4⟩; exact ⟨l, h, h1, h2, h3, h4⟩)
  rw [e]
  apply propext
  cases hv : s.ev x with
  | c y =>
    cases y with
    | v u =>
      cases u with
      | string b =>
        simp only [slA, ← bnd_ex]
        constructor
        · rintro ⟨_, ⟨l, h, h1, h2, h3, h4, h5, rfl⟩, h6⟩; exact ⟨h3, l, h1, h, h4, ⟨h2, h5⟩, h6⟩
        · rintro ⟨h3, l, h1, h, h4, ⟨h2, h5⟩, h6⟩; exact ⟨_, ⟨l, h, h1, h2, h3, h4, h5, rfl⟩, h6⟩
      | _ => simp [slA]
    | ro dd =>
      simp only [slA, ← bnd_ex]
      constructor
      · rintro ⟨_, ⟨l, h, h1, h2, h3, h4, h5, h6, h7, rfl⟩, h8⟩; exact ⟨⟨h3, h4, h5⟩, l, h1, h, h6, ⟨h2, h7⟩, h8⟩
      · rintro ⟨⟨h3, h4, h5⟩, l, h1, h, h6, ⟨h2, h7⟩, h8⟩; exact ⟨_, ⟨l, h, h1, h2, h3, h4, h5, h6, h7, rfl⟩, h8⟩
    | h k c p hx =>
      simp only [slA]
      constructor
      · rintro ⟨_, ⟨l, h, h1, h2, h3, ⟨dd, ⟨d0, η, k1, k2, k3, k4⟩, k5, k6, k7⟩, rfl⟩, h8⟩
        refine ⟨h3, ?_⟩
        rw [← own_ex]
        refine ⟨d0, η, k1, k2, ?_⟩
        rw [k3]
        refine ⟨⟨k4, k5⟩, ?_⟩
        rw [← bnd_ex]
        refine ⟨l, h1, ?_⟩
        rw [← bnd_ex]
        exact ⟨h, k6, ⟨h2, k7⟩, h8⟩
      · rintro ⟨h3, h4⟩
        rw [← own_ex] at h4
        obtain ⟨d0, η, k1, k2, k3⟩ := h4
        cases hg : D.get p d0 with
        | none => rw [hg] at k3; exact k3.elim
        | some dd =>
          rw [hg] at k3
          obtain ⟨⟨k4, k5⟩, k6⟩ := k3
          rw [← bnd_ex] at k6
          obtain ⟨l, h1, k7⟩ := k6
          rw [← bnd_ex] at k7
          obtain ⟨h, k8, ⟨h2, k9⟩, h8⟩ := k7
          exact ⟨_, ⟨l, h, h1, h2, h3, ⟨dd, ⟨d0, η, k1, k2, hg, k4⟩, k5, k8, k9⟩, rfl⟩, h8⟩
    | hs k c p hx sz lo0 m =>
      simp only [slA, ← bnd_ex]
      constructor
      · rintro ⟨_, ⟨l, h, h1, h2, h3, h4, h5, h6, rfl⟩, h7⟩; exact ⟨⟨h3, h4⟩, l, h1, h, h5, ⟨h2, h6⟩, h7⟩
      · rintro ⟨⟨h3, h4⟩, l, h1, h, h5, ⟨h2, h6⟩, h7⟩; exact ⟨_, ⟨l, h, h1, h2, h3, h4, h5, h6, rfl⟩, h7⟩
    | _ => simp [slA]
  | _ => simp [slA]
theorem slA_ro (size : Nat) (lo hi : Option X) (dd : D) : slA d s K size lo hi (.c (.ro dd)) = ((0 < size ∧ dd.isSl = true ∧ dd.size = size) ∧ bnd s lo 0 fun l => bnd s hi dd.len fun h => (l ≤ h ∧ h ≤ dd.len) ∧ K (s.put d (.c (.ro (dd.sub l h))))) := rfl
theorem ret_r (rs : List R) (rt : RT) : retE rs rt .ret s = RetQ rs rt s := rfl
def St.n (s : St) (i : Nat) : Nat := match s.t i with | .c (.v (.int _ n)) => n.toNat | _ => 0
theorem st_n {i : Nat} {k : IntKind} {n : Int} (h : s.t i = .c (.v (.int k n))) : s.n i = n.toNat := by simp [St.n, h]
theorem wrap64 {x : Int} (h : -9223372036854775808 ≤ x) (h' : x < 9223372036854775808) : IntKind.i64.wrap x = x := IntWalk.i64_in _ (by omega)
theorem is_v (x : Value) : Is s (.v x) (.val x) = True := by simp [Is]
theorem is_ro (d : D) : Is s (.ro d) d = True := by simp [Is]
theorem isL_nil : IsL s [] [] = True := rfl
theorem isL_cons (a : A0) (l : List A0) (d : D) (ds : List D) : IsL s (a :: l) (d :: ds) = (Is s a d ∧ IsL s l ds) := rfl
theorem args_nil : ArgsAre s [] [] = True := rfl
theorem args_cons (a : AV) (l : List AV) (v : View) (vs : List View) : ArgsAre s (a :: l) (v :: vs) = (ArgIs s a v ∧ ArgsAre s l vs) := rfl
theorem arg_c (a : A0) (d : D) : ArgIs s (.c a) (.c d) = Is s a d := rfl
theorem arg_agg (l : List A0) (ds : List D) : ArgIs s (.agg l) (.agg ds) = IsL s l ds := rfl
theorem arg_ptr (a : A0) (ds : List D) : ArgIs s (.c a) (.ptr ds) = Ptr s a ds := rfl
theorem arg_fn (f : Nat) (caps : List A0) (caps' : List (List D)) : ArgIs s (.fn f caps) (.fn f caps') = PtrL s caps caps' := by simp [ArgIs]
theorem ptrL_nil : PtrL s [] [] = True := rfl
theorem ptrL_cons (a : A0) (l : List A0) (d : List D) (ds : List (List D)) : PtrL s (a :: l) (d :: ds) = (Ptr s a d ∧ PtrL s l ds) := rfl
theorem ptr_rp (ds : List D) : Ptr s (.rp ds) ds = True := by simp [Ptr]
theorem is_h0 (k c : Nat) (x : Value) (d : D) : Is s (.h k c [] x) d = ownK ((s.o k).own c) fun d0 η => d0 = d ∧ η [] = x ∧ d.isSl = true := by
  apply propext
  rw [← own_ex]
  simp only [Is, get_nil]
  constructor
  · rintro ⟨d0, η, h1, h2, h3, h4⟩; cases h3; exact ⟨_, η, h1, rfl, h2, h4⟩
  · rintro ⟨_, η, h1, rfl, h2, h3⟩; exact ⟨_, η, h1, h2, rfl, h3⟩
end
theorem dsize_sl (s : Nat) (t : TypeId) (cs : List D) : (D.sl s t cs).size = s := rfl
theorem dcells_sl (s : Nat) (t : TypeId) (cs : List D) : (D.sl s t cs).cells = cs := rfl
theorem dsl_sl (s : Nat) (t : TypeId) (cs : List D) : (D.sl s t cs).isSl = true := rfl
theorem dobj_v (v : Value) (g : Nat) (η : Heads) : (D.val v).obj g η = [] := rfl
theorem down_v (v : Value) (g c : Nat) (p : List Nat) (η : Heads) : (D.val v).toOwn g c p η = .v v := rfl
attribute [go_sem] dsize_sl dcells_sl dsl_sl dobj_v down_v wp_dreg rt_done rt_stop rt_pure rt_gtt rt_gtf rt_gft rt_gff rt_alt ra_gtt ra_gtf ra_gft ra_gff keepL_nil keepL_cons keep1_nil keep1_cons kept_ob kept_cs sameB_t I.looks AV.looks A0.looks AV.ids A0.ids List.flatMap_cons List.flatMap_nil List.append_nil List.contains_cons List.contains_nil Bool.or_false Bool.or_true Bool.or_self Bool.false_or Bool.true_or ite_true ite_false run_sl slA_ro bnd_n bnd_s bndA_ nilD_0 putOwn_loose List.tail_cons List.head?_cons Nat.zero_add wp_skip_ wp_reg wp_seq_ wp_blk wp_exit_ wp_ret_ wp_cond_t wp_cond_f thn_n thn_e thn_r blk_n blk_r blk_e run_nil_ run_cons_ run_gtt run_gtf run_gft run_gff run_mov run_pick pickK_ run_fa faK_rp faK_bp faK_ep run_ld ldK_rp ldK_bp ldK_own ldB_ ldV_t ldV_f run_ia iaK_ro iaK_own run_len lenK_ro lenK_str lenK_own run_bin binK_i binK_seq binK_sne run_beq beqK_ run_un unK_not run_cv cvK_num run_sidx sidxK_ run_box boxK_agg boxK_c run_bsl run_alloc run_st stA_bp run_app src_ro src_h dest_nil dest_h slK_ ownK_ getK_ get_nil own_loose own_box ownC_ rm_o rm_t obrm_loose obrm_box rmC_own obK_ cells_agg cells_c cat_nil cat_cons dat_nil dat_v setAt_nil setAt_cons flatB_nil flatB_cons flatB_app take_nil take_v take_ro take_own one_i one_b one_s one_n A0.c1 ev_t ev_i ev_b ev_s ev_n put_t put_o setO_t setO_o addO_nil addO_cons init_t View.av ro_val intOk intBin loadC ret_r is_v is_ro isL_nil isL_cons args_nil args_cons arg_c arg_agg arg_ptr arg_fn ptrL_nil ptrL_cons ptr_rp is_h0 RT.flat objL RT.av ownL ownT List.map_cons List.map_nil List.length_cons List.length_nil List.take_succ_cons List.take_zero List.drop_succ_cons List.drop_zero List.getElem?_cons_zero List.getElem?_cons_succ List.set_cons_zero List.set_cons_succ List.cons_append List.nil_append Option.getD_some Nat.lt_add_one and_true true_and and_self forall_const imp_self implies_true ge_iff_le gt_iff_lt decide_true decide_false Bool.not_true Bool.not_false Bool.and_self Bool.false_eq_true Int.toNat_natCast Int.natCast_nonneg not_false_eq_true ne_eq
attribute [go_sem_proc] Nat.reduceEqDiff Nat.reduceMul Nat.reduceAdd Nat.reduceLeDiff Nat.reduceLT Nat.reduceBEq Nat.reduceSub reduceCtorEq Int.reduceEq
attribute [go_sem_proc ↓] reduceIte
end Go.Proofs.YtmnpailnelmpiaaGreat
