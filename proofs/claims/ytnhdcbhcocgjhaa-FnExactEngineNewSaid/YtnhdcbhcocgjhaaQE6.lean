/- Texts for laws: E6. -/
import Derived.Test.YtnhdcbhcocgjhaaQE4h
import Derived.Test.YtnhdcbhcocgjhaaQE5
set_option linter.unusedSimpArgs false
set_option linter.unusedVariables false
namespace Go.Proofs.Ytnhdcbhcocgjhaa
open Go.RowKit Go.Sort
section
variable {P : Program} {β : Nat} {s : St} {d : Option Nat} {g : Option (Nat × Bool)} {K : St → Prop} {Q : Ex → St → Prop}

def ownK (o : Option (D × Heads)) (k : D → Heads → Prop) : Prop := match o with
  | some (d, η) => k d η
  | none => False
def getK (o : Option D) (k : D → Prop) : Prop := match o with
  | some d => k d
  | none => False
theorem ownK_ (d : D) (η : Heads) (k : D → Heads → Prop) : ownK (some (d, η)) k = k d η := rfl
theorem own_ex (o : Option (D × Heads)) (k : D → Heads → Prop) : (∃ d η, o = some (d, η) ∧ k d η) = ownK o k := by
  cases o with
  | none => simp [ownK]
  | some p =>
    obtain ⟨d, η⟩ := p
    apply propext
    constructor
    · rintro ⟨_, _, h, h2⟩; cases h; exact h2
    · intro h; exact ⟨d, η, rfl, h⟩
theorem get_nil (d : D) : D.get [] d = some d := by cases d <;> rfl
theorem own_loose (d : D) (η : Heads) : (Ob.loose d η).own 0 = some (d, η) := rfl
def ownC : Option Cell → Option (D × Heads)
  | some (.own d η) => some (d, η)
  | _ => none
theorem own_box (b ty : Nat) (cs : List Cell) (c : Nat) : (Ob.box b ty cs).own c = ownC cs[c]? := by
  simp only [Ob.own, ownC]; split <;> simp_all
theorem ownC_ (d : D) (η : Heads) : ownC (some (.own d η)) = some (d, η) := rfl
theorem rm_o (k c n : Nat) : (s.rm k c).o n = if n = k then (s.o k).rm c else s.o n := rfl
theorem rm_t (k c n : Nat) : (s.rm k c).t n = s.t n := rfl
theorem obrm_box (b ty : Nat) (cs : List Cell) (c : Nat) : (Ob.box b ty cs).rm c = .box b ty (rmC cs c cs[c]?) := rfl
theorem rmC_own (cs : List Cell) (c : Nat) (d : D) (η : Heads) : rmC cs c (some (.own d η)) = cs.set c (.a (.v (η []))) := rfl
theorem take_own (k c : Nat) (x : Value) (l : List A0) (R : List Cell → St → Prop) : TakeK s (.h k c [] x :: l) R = ownK ((s.o k).own c) fun d η => η [] = x ∧ TakeK (s.rm k c) l (fun cs s' => R (.own d η :: cs) s') := by
  rw [take_h, own_ex]

def cellsK (a : AV) (n : Nat) (k : List A0 → Prop) : Prop := ∃ l, a.cells = some l ∧ l.length = n ∧ k l
theorem cells_agg (l : List A0) (n : Nat) (k : List A0 → Prop) : cellsK (.agg l) n k = (l.length = n ∧ k l) := by simp [cellsK, AV.cells]
theorem cells_c (a : A0) (n : Nat) (k : List A0 → Prop) : cellsK (.c a) n k = (a.c1 = true ∧ 1 = n ∧ k [a]) := by
  simp only [cellsK, AV.cells]
  cases h : a.c1 <;> simp
def fillK (s : St) : List A0 → List (Nat × Nat × X) → (List A0 → Prop) → Prop
  | cs, [], k => k cs
  | cs, (off, size, x) :: ps, k => cellsK (s.ev x) size fun l => off + size ≤ cs.length ∧ fillK s (setAt cs off l) ps k
theorem fill_ex : ∀ (ps : List (Nat × Nat × X)) (cs : List A0) (k : List A0 → Prop), (∃ l, fillA s cs ps = some l ∧ k l) = fillK s cs ps k
  | [], cs, k => by simp [fillA, fillK]
  | (o, size, x) :: ps, cs, k => by
    apply propext
    simp only [fillK, cellsK, fillA]
    constructor
    · rintro ⟨l, h1, h2⟩
      split at h1
      · rename_i l1 h3
        split at h1
        · rename_i h5
          exact ⟨l1, h3, h5.1, h5.2, by rw [← fill_ex ps]; exact ⟨l, h1, h2⟩⟩
        · simp at h1
      · simp at h1
    · rintro ⟨l1, h3, h5, h6, h7⟩
      rw [← fill_ex ps] at h7
      obtain ⟨r, h8, h9⟩ := h7
      exact ⟨r, by rw [h3]; simp [h5, h6, h8], h9⟩
theorem fill_nil (cs : List A0) (k : List A0 → Prop) : fillK s cs [] k = k cs := rfl
theorem fill_cons (cs : List A0) (off size : Nat) (x : X) (ps : List (Nat × Nat × X)) (k : List A0 → Prop) : fillK s cs ((off, size, x) :: ps) k = cellsK (s.ev x) size fun l => off + size ≤ cs.length ∧ fillK s (setAt cs off l) ps k := rfl
theorem run_bld (zs : List Value) (ps : List (Nat × Nat × X)) : runI P β ⟨d, g, .bld zs ps⟩ s K = fillK s (zs.map .v) ps fun l => K (s.put d (.agg l)) := by
  have e := gen_k (P := P) (β := β) (s := s) (d := d) (g := g) (K := K) (i := .bld zs ps) (G := fun av => ∃ l, fillA s (zs.map .v) ps = some l ∧ av = .agg l) rfl (by
    intro _ _ av os
    simp only [Gen]
    constructor
    · rintro ⟨l, h1, h2, h3⟩; exact ⟨⟨l, h1, h2⟩, h3⟩
    · rintro ⟨⟨l, h1, h2⟩, h3⟩; exact ⟨l, h1, h2, h3⟩)
  rw [e, ← fill_ex]
  apply propext
  constructor
  · rintro ⟨_, ⟨l, h1, rfl⟩, h2⟩; exact ⟨l, h1, h2⟩
  · rintro ⟨l, h1, h2⟩; exact ⟨_, ⟨l, h1, rfl⟩, h2⟩
def datK (ks : List (Option (Nat × Nat))) (cs : List Cell) (k : List D → Prop) : Prop := ∃ ds, datumL ks cs = some ds ∧ k ds
theorem run_alloc (ty : Nat) (zs : List Value) : runI P β ⟨d, g, .alloc ty zs⟩ s K = ∀ b, K ((s.addO [(100 * (β + d.getD 0), .box b ty (zs.map fun z => .a (.v z)))]).put d (.c (.bp (100 * (β + d.getD 0)) 0 b))) := by
  apply propext
  constructor
  · rintro ⟨_, h⟩ b
    obtain ⟨_, _, ⟨rfl, rfl⟩, h2⟩ := h ⟨b, fun _ _ => undef⟩
    exact h2
  · intro h
    exact ⟨.c (.val undef), fun st => ⟨_, _, ⟨rfl, rfl⟩, h st.blk⟩⟩
def obK (o : Ob) (b : Nat) (k : Nat → List Cell → Prop) : Prop := match o with
  | .box b' ty ds => b' = b ∧ k ty ds
  | _ => False
theorem obK_ (b b' ty : Nat) (ds : List Cell) (k : Nat → List Cell → Prop) : obK (.box b' ty ds) b k = (b' = b ∧ k ty ds) := rfl
theorem ob_ex (o : Ob) (b : Nat) (k : Nat → List Cell → Prop) : (∃ ty ds, o = .box b ty ds ∧ k ty ds) = obK o b k := by
  cases o with
  | box b' ty ds =>
    simp only [obK]
    apply propext
    constructor
    · rintro ⟨_, _, h, h2⟩; cases h; exact ⟨by trivial, h2⟩
    · rintro ⟨rfl, h2⟩; exact ⟨_, _, rfl, h2⟩
  | _ => simp [obK]
def stA (s' : St) (K : St → Prop) (n : Nat) (ks : List (Option (Nat × Nat))) (cs : List Cell) : AV → Prop
  | .c (.bp g c b) => obK (s'.o g) b fun ty ds => c + n ≤ ds.length ∧ K (s'.setO g (.box b ty (setAt ds c cs)))
  | .c (.ep g c p k hx) => 0 < n ∧ datK ks cs fun ds => ownK ((s'.o g).own c) fun d0 η => η p = hx ∧ getK (D.get p d0) fun dd => dd.isSl = true ∧ k + n ≤ dd.cells.length ∧
      stH (flatB ds && flatB ((dd.cells.drop k).take n)) p k n η fun η' => K (s'.setO g ((s'.o g).putOwn c (D.put p k ds d0) η'))
  | _ => False
theorem stA_bp (s' : St) (n k c b : Nat) (ks : List (Option (Nat × Nat))) (cs : List Cell) : stA s' K n ks cs (.c (.bp k c b)) = obK (s'.o k) b fun ty ds => c + n ≤ ds.length ∧ K (s'.setO k (.box b ty (setAt ds c cs))) := rfl
theorem run_st (n : Nat) (ks : List (Option (Nat × Nat))) (a x : X) : runI P β ⟨none, g, .st n ks a x⟩ s K = cellsK (s.ev x) n fun l => TakeK s l fun cs s' => stA s' K n ks cs (s.ev a) := by
  have e : runI P β ⟨none, g, .st n ks a x⟩ s K = ((none : Option Nat) = none ∧ ∃ l, (s.ev x).cells = some l ∧ l.length = n ∧ TakeK s l fun cs s' => match s.ev a with
    | .c (.bp g c b) => ∃ ty ds, s'.o g = .box b ty ds ∧ c + n ≤ ds.length ∧ K (s'.setO g (.box b ty (setAt ds c cs)))
    | .c (.ep g c p k hx) => 0 < n ∧ ∃ ds, datumL ks cs = some ds ∧ ∃ d0 η dd, (s'.o g).own c = some (d0, η) ∧ η p = hx ∧ D.get p d0 = some dd ∧ dd.isSl = true ∧ k + n ≤ dd.cells.length ∧
        stH (flatB ds && flatB ((dd.cells.drop k).take n)) p k n η fun η' => K (s'.setO g ((s'.o g).putOwn c (D.put p k ds d0) η'))
    | _ => False) := rfl
  rw [e]
  simp only [true_and, cellsK]
  congr 1
  funext l
  congr 2
  congr 1
  funext cs s'
  cases hv : s.ev a with
  | c y =>
    cases y with
    | bp g c b => simp only [stA, ← ob_ex]
    | ep g c p k hx =>
      simp only [stA, datK]
      apply propext
      constructor
      · rintro ⟨h0, ds, h1, d0, η, dd, h2, h3, h4, h5, h6, h7⟩
        exact ⟨h0, ds, h1, by rw [← own_ex]; exact ⟨d0, η, h2, h3, by rw [h4]; exact ⟨h5, h6, h7⟩⟩⟩
      · rintro ⟨h0, ds, h1, h2⟩
        rw [← own_ex] at h2
        obtain ⟨d0, η, h3, h4, h5⟩ := h2
        cases hg : D.get p d0 with
        | none => rw [hg] at h5; exact h5.elim
        | some dd => rw [hg] at h5; exact ⟨h0, ds, h1, d0, η, dd, h3, h4, hg, h5⟩
    | _ => simp [stA]
  | _ => simp [stA]
theorem setAt_nil {α : Type} (l : List α) (c : Nat) : setAt l c [] = l := rfl
theorem setAt_cons {α : Type} (l : List α) (c : Nat) (x : α) (r : List α) : setAt l c (x :: r) = setAt (l.set c x) (c + 1) r := rfl

def bndA (a : AV) (k : Nat → Prop) : Prop := match a with
  | .c (.v (.int _ n)) => 0 ≤ n ∧ k n.toNat
  | _ => False
theorem ret_r (rs : List R) (rt : RT) : retE rs rt .ret s = RetQ rs rt s := rfl
def St.n (s : St) (i : Nat) : Nat := match s.t i with | .c (.v (.int _ n)) => n.toNat | _ => 0
theorem is_v (x : Value) : Is s (.v x) (.val x) = True := by simp [Is]
theorem is_ro (d : D) : Is s (.ro d) d = True := by simp [Is]
theorem isL_nil : IsL s [] [] = True := rfl
theorem isL_cons (a : A0) (l : List A0) (d : D) (ds : List D) : IsL s (a :: l) (d :: ds) = (Is s a d ∧ IsL s l ds) := rfl
theorem args_nil : ArgsAre s [] [] = True := rfl
theorem args_cons (a : AV) (l : List AV) (v : View) (vs : List View) : ArgsAre s (a :: l) (v :: vs) = (ArgIs s a v ∧ ArgsAre s l vs) := rfl
theorem arg_c (a : A0) (d : D) : ArgIs s (.c a) (.c d) = Is s a d := rfl
theorem arg_agg (l : List A0) (ds : List D) : ArgIs s (.agg l) (.agg ds) = IsL s l ds := rfl
theorem is_h0 (k c : Nat) (x : Value) (d : D) : Is s (.h k c [] x) d = ownK ((s.o k).own c) fun d0 η => d0 = d ∧ η [] = x ∧ d.isSl = true := by
  apply propext
  rw [← own_ex]
  simp only [Is, get_nil]
  constructor
  · rintro ⟨d0, η, h1, h2, h3, h4⟩; cases h3; exact ⟨_, η, h1, rfl, h2, h4⟩
  · rintro ⟨_, η, h1, rfl, h2, h3⟩; exact ⟨_, η, h1, h2, rfl, h3⟩
end
theorem dsize_sl (s : Nat) (t : TypeId) (cs : List D) : (D.sl s t cs).size = s := rfl
theorem dsl_sl (s : Nat) (t : TypeId) (cs : List D) : (D.sl s t cs).isSl = true := rfl
theorem dobj_sl (s : Nat) (t : TypeId) (cs : List D) (g : Nat) (η : Heads) : (D.sl s t cs).obj g η = [(g, .loose (.sl s t cs) η)] := rfl
theorem dobj_v (v : Value) (g : Nat) (η : Heads) : (D.val v).obj g η = [] := rfl
theorem down_sl (s : Nat) (t : TypeId) (cs : List D) (g c : Nat) (p : List Nat) (η : Heads) : (D.sl s t cs).toOwn g c p η = .h g c p (η p) := rfl
theorem down_v (v : Value) (g c : Nat) (p : List Nat) (η : Heads) : (D.val v).toOwn g c p η = .v v := rfl
attribute [go_sem] dsize_sl dsl_sl dobj_sl dobj_v down_sl down_v I.looks AV.looks A0.looks AV.ids A0.ids List.flatMap_cons List.flatMap_nil List.append_nil List.contains_cons List.contains_nil Bool.or_false Bool.or_true Bool.or_self Bool.false_or Bool.true_or ite_true ite_false List.tail_cons List.head?_cons Nat.zero_add wp_skip_ wp_reg wp_seq_ wp_blk wp_exit_ wp_ret_ wp_cond_f thn_n thn_e blk_e run_nil_ run_cons_ run_mov run_fa faK_bp run_ld ldK_bp ldB_ ldV_t ldV_f run_len lenK_ro run_bin binK_i run_beq beqK_ run_un unK_not run_box boxK_agg run_bld run_alloc run_st stA_bp ownK_ get_nil own_loose own_box ownC_ rm_o rm_t obrm_box rmC_own obK_ cells_agg cells_c fill_nil fill_cons setAt_nil setAt_cons take_nil take_v take_ro take_own one_i one_b one_n A0.c1 ev_t ev_i ev_b put_t put_o setO_t setO_o addO_nil addO_cons init_t View.av ro_val intOk intBin loadC ret_r is_v is_ro isL_nil isL_cons args_nil args_cons arg_c arg_agg is_h0 RT.flat objL RT.av ownL ownT List.map_cons List.map_nil List.length_cons List.length_nil List.take_succ_cons List.take_zero List.drop_succ_cons List.drop_zero List.getElem?_cons_zero List.getElem?_cons_succ List.set_cons_zero List.set_cons_succ List.cons_append List.nil_append Option.getD_some Nat.lt_add_one and_true true_and and_self forall_const imp_self implies_true ge_iff_le gt_iff_lt decide_true decide_false Bool.not_true Bool.not_false Bool.and_self Bool.false_eq_true Int.toNat_natCast Int.natCast_nonneg not_false_eq_true ne_eq
attribute [go_sem_proc] Nat.reduceEqDiff Nat.reduceMul Nat.reduceAdd Nat.reduceLeDiff Nat.reduceLT Nat.reduceBEq Nat.reduceSub reduceCtorEq Int.reduceEq
attribute [go_sem_proc ↓] reduceIte
end Go.Proofs.Ytnhdcbhcocgjhaa
