/- Texts for laws: E5. -/
import Derived.Test.YtmnpailnelmpiaaGreatQData
import Derived.Test.YtmnpailnelmpiaaGreatQE3b
set_option linter.unusedSimpArgs false
set_option linter.unusedVariables false
namespace Go.Proofs.YtmnpailnelmpiaaGreat
open Go.RowKit Go.Sort

section
variable {P : Program} {β : Nat} {s : St} {K : St → Prop} {Q : Ex → St → Prop} {d : Option Nat} {g : Option (Nat × Bool)}
theorem ev_t (n : Nat) : s.ev (.t n) = s.t n := rfl
theorem ev_i (k : IntKind) (n : Int) : s.ev (.c (.int k n)) = .c (.v (.int k n)) := rfl
theorem ev_b (b : Bool) : s.ev (.c (.bool b)) = .c (.v (.bool b)) := rfl
theorem ev_s (b : ByteArray) : s.ev (.c (.string b)) = .c (.v (.string b)) := rfl
theorem ev_n : s.ev (.c (.slice none 0 0)) = .c (.v (.slice none 0 0)) := rfl
theorem put_t (k n : Nat) (v : AV) : (s.put (some k) v).t n = if n = k then v else s.t n := rfl
theorem put_o (v : AV) (n : Nat) : (s.put d v).o n = s.o n := by cases d <;> rfl
theorem setO_t (k : Nat) (ob : Ob) (n : Nat) : (s.setO k ob).t n = s.t n := rfl
theorem setO_o (k : Nat) (ob : Ob) (n : Nat) : (s.setO k ob).o n = if n = k then ob else s.o n := rfl
theorem addO_nil : s.addO [] = s := rfl
theorem addO_cons (k : Nat) (ob : Ob) (l : List (Nat × Ob)) : s.addO ((k, ob) :: l) = (s.setO k ob).addO l := rfl
theorem wp_skip_ : wpC P β .skip Q s = Q .normal s := rfl
theorem wp_reg (is : List Ins) : wpC P β (.reg is) Q s = runL P β is s (Q .normal) := rfl
theorem wp_seq_ (a b : C) : wpC P β (.seq a b) Q s = wpC P β a (Ex.thn (wpC P β b Q) Q) s := rfl
theorem wp_blk (id : Nat) (a : C) : wpC P β (.blk id a) Q s = wpC P β a (Ex.inBlk id Q) s := rfl
theorem wp_exit_ (id : Nat) : wpC P β (.exit id) Q s = Q (.exit id) s := rfl
theorem wp_ret_ : wpC P β .ret Q s = Q .ret s := rfl
theorem wp_cond_t {x : X} (a b : C) (h : s.ev x = .c (.v (.bool true))) : wpC P β (.cond x a b) Q s = wpC P β a Q s := by simp [wpC, h]
theorem wp_cond_f {x : X} (a b : C) (h : s.ev x = .c (.v (.bool false))) : wpC P β (.cond x a b) Q s = wpC P β b Q s := by simp [wpC, h]
theorem thn_n (next : St → Prop) : Ex.thn next Q .normal s = next s := rfl
theorem thn_e (next : St → Prop) (id : Nat) : Ex.thn next Q (.exit id) s = Q (.exit id) s := rfl
theorem thn_r (next : St → Prop) : Ex.thn next Q .ret s = Q .ret s := rfl
theorem blk_n (id : Nat) : Ex.inBlk id Q .normal s = Q .normal s := rfl
theorem blk_r (id : Nat) : Ex.inBlk id Q .ret s = Q .ret s := rfl
theorem blk_e (id id' : Nat) : Ex.inBlk id Q (.exit id') s = if id' = id then Q .normal s else Q (.exit id') s := rfl
theorem run_nil_ : runL P β [] s K = K s := rfl
theorem run_cons_ (i : I) (l : List Ins) : runL P β (⟨d, none, i⟩ :: l) s K = runI P β ⟨d, none, i⟩ s (fun s' => runL P β l s' K) := rfl
theorem run_gtt {t : Nat} (i : I) (l : List Ins) (h : s.t t = .c (.v (.bool true))) : runL P β (⟨d, some (t, true), i⟩ :: l) s K = runI P β ⟨d, some (t, true), i⟩ s (fun s' => runL P β l s' K) := by simp [runL, wantA, h]
theorem run_gtf {t : Nat} (i : I) (l : List Ins) (h : s.t t = .c (.v (.bool false))) : runL P β (⟨d, some (t, true), i⟩ :: l) s K = runL P β l (s.put d (.c (.v undef))) K := by simp [runL, wantA, h]
theorem run_gft {t : Nat} (i : I) (l : List Ins) (h : s.t t = .c (.v (.bool true))) : runL P β (⟨d, some (t, false), i⟩ :: l) s K = runL P β l (s.put d (.c (.v undef))) K := by simp [runL, wantA, h]
theorem run_gff {t : Nat} (i : I) (l : List Ins) (h : s.t t = .c (.v (.bool false))) : runL P β (⟨d, some (t, false), i⟩ :: l) s K = runI P β ⟨d, some (t, false), i⟩ s (fun s' => runL P β l s' K) := by simp [runL, wantA, h]
def I.writes : I → Bool
  | .box .. | .bsl .. | .st .. | .app .. | .apps .. | .clr .. | .call .. | .callv .. => true
  | _ => false
theorem gen_eq {i : I} {av : AV} {os : List (Nat × Ob)} (hw : i.writes = false) (h : ∀ rt st av' os', Gen P s (β + d.getD 0) rt st i av' os' ↔ av' = av ∧ os' = os) :
    runI P β ⟨d, g, i⟩ s K = K ((s.addO os).put d av) := by
  have e : runI P β ⟨d, g, i⟩ s K = (∃ rt, ∀ st, ∃ av os, Gen P s (β + d.getD 0) rt st i av os ∧ K ((s.addO os).put d av)) := by
    cases i <;> first | rfl | cases hw
  rw [e]
  apply propext
  constructor
  · rintro ⟨rt, h1⟩
    obtain ⟨av', os', h2, h3⟩ := h1 ⟨0, fun _ _ => undef⟩
    obtain ⟨rfl, rfl⟩ := (h _ _ _ _).1 h2
    exact h3
  · intro h1
    exact ⟨.c (.val undef), fun st => ⟨_, _, (h _ _ _ _).2 ⟨rfl, rfl⟩, h1⟩⟩
theorem gen_v {i : I} {av : AV} (hw : i.writes = false) (h : ∀ rt st av' os', Gen P s (β + d.getD 0) rt st i av' os' ↔ av' = av ∧ os' = []) : runI P β ⟨d, g, i⟩ s K = K (s.put d av) := gen_eq hw h
theorem run_mov (x : X) : runI P β ⟨d, g, .mov x⟩ s K = K (s.put d (s.ev x)) := gen_v rfl fun _ _ _ _ => Iff.rfl
/-- Where no object is made, and the value is told. -/
theorem gen_f {i : I} {p : Prop} {av : AV} (hw : i.writes = false) (h : ∀ rt st av' os', Gen P s (β + d.getD 0) rt st i av' os' ↔ p ∧ av' = av ∧ os' = []) : runI P β ⟨d, g, i⟩ s K = (p ∧ K (s.put d av)) := by
  by_cases hp : p
  · rw [gen_v hw (av := av) fun rt st av' os' => by rw [h]; simp [hp]]; simp [hp]
  · have e : runI P β ⟨d, g, i⟩ s K = (∃ rt, ∀ st, ∃ av os, Gen P s (β + d.getD 0) rt st i av os ∧ K ((s.addO os).put d av)) := by
      cases i <;> first | rfl | cases hw
    rw [e]
    apply propext
    constructor
    · rintro ⟨rt, h1⟩
      obtain ⟨av', os', h2, _⟩ := h1 ⟨0, fun _ _ => undef⟩
      exact absurd ((h _ _ _ _).1 h2).1 hp
    · exact fun h => absurd h.1 hp
theorem gen_no {i : I} (hw : i.writes = false) (h : ∀ rt st av' os', ¬ Gen P s (β + d.getD 0) rt st i av' os') : runI P β ⟨d, g, i⟩ s K = False := by
  have e : runI P β ⟨d, g, i⟩ s K = (∃ rt, ∀ st, ∃ av os, Gen P s (β + d.getD 0) rt st i av os ∧ K ((s.addO os).put d av)) := by
    cases i <;> first | rfl | cases hw
  rw [e]
  apply propext
  constructor
  · rintro ⟨rt, h1⟩
    obtain ⟨av', os', h2, _⟩ := h1 ⟨0, fun _ _ => undef⟩
    exact absurd h2 (h _ _ _ _)
  · exact False.elim
def pickK (d : Option Nat) (s : St) (K : St → Prop) (c a b : AV) : Prop := match c with
  | .c (.v (.bool t)) => K (s.put d (if t then a else b))
  | _ => False
theorem run_pick (c a b : X) : runI P β ⟨d, g, .pick c a b⟩ s K = pickK d s K (s.ev c) (s.ev a) (s.ev b) := by
  unfold pickK
  split
  · exact gen_v rfl fun _ _ _ _ => by simp [Gen, *]
  · rename_i h
    exact gen_no rfl fun _ _ _ _ ⟨t, h1, _⟩ => h t h1
theorem pickK_ (t : Bool) (a b : AV) : pickK d s K (.c (.v (.bool t))) a b = K (s.put d (if t then a else b)) := rfl
def faK (d : Option Nat) (s : St) (K : St → Prop) (off : Nat) : AV → Prop
  | .c (.rp ds) => K (s.put d (.c (.rp (ds.drop off))))
  | .c (.bp g c b) => K (s.put d (.c (.bp g (c + off) b)))
  | .c (.ep g c p i x) => K (s.put d (.c (.ep g c p (i + off) x)))
  | _ => False
theorem run_fa (off : Nat) (x : X) : runI P β ⟨d, g, .fa off x⟩ s K = faK d s K off (s.ev x) := by
  cases h : s.ev x with
  | c a => cases a <;> first | exact gen_v rfl (fun _ _ _ _ => by simp [Gen, h]) | exact gen_no rfl (fun _ _ _ _ => by simp [Gen, h])
  | _ => exact gen_no rfl (fun _ _ _ _ => by simp [Gen, h])
theorem faK_rp (off : Nat) (ds : List D) : faK d s K off (.c (.rp ds)) = K (s.put d (.c (.rp (ds.drop off)))) := rfl
theorem faK_bp (off k c b : Nat) : faK d s K off (.c (.bp k c b)) = K (s.put d (.c (.bp k (c + off) b))) := rfl
theorem faK_ep (off k c : Nat) (p : List Nat) (i : Nat) (x : Value) : faK d s K off (.c (.ep k c p i x)) = K (s.put d (.c (.ep k c p (i + off) x))) := rfl
/-- What is loaded, as a value. -/
def ldV : Bool → List A0 → (AV → Prop) → Prop
  | true, l, k => k (.agg l)
  | false, [a], k => k (.c a)
  | false, _, _ => False
theorem ldV_t (l : List A0) (k : AV → Prop) : ldV true l k = k (.agg l) := rfl
theorem ldV_f (a : A0) (k : AV → Prop) : ldV false [a] k = k (.c a) := rfl
def ldB (ob : Ob) (g c b n : Nat) (k : List A0 → Prop) : Prop := match ob with
  | .box b' _ cs => b' = b ∧ c + n ≤ cs.length ∧ k (loadC g c ((cs.drop c).take n))
  | _ => False
theorem ldB_ (b' ty : Nat) (cs : List Cell) (k c b n : Nat) (K : List A0 → Prop) : ldB (.box b' ty cs) k c b n K = (b' = b ∧ c + n ≤ cs.length ∧ K (loadC k c ((cs.drop c).take n))) := rfl
def ldK (d : Option Nat) (s : St) (K : St → Prop) (agg : Bool) (n : Nat) : AV → Prop
  | .c (.rp ds) => n ≤ ds.length ∧ ldV agg ((ds.take n).map D.toRo) fun v => K (s.put d v)
  | .c (.bp g c b) => ldB (s.o g) g c b n fun l => ldV agg l fun v => K (s.put d v)
  | .c (.ep g c p i x) => ∃ d0 η dd, (s.o g).own c = some (d0, η) ∧ η p = x ∧ D.get p d0 = some dd ∧ dd.isSl = true ∧ i + n ≤ dd.cells.length ∧ ldV agg (loadE g c p η i ((dd.cells.drop i).take n)) fun v => K (s.put d v)
  | _ => False
theorem run_ld (agg : Bool) (n : Nat) (x : X) : runI P β ⟨d, g, .ld agg n x⟩ s K = ldK d s K agg n (s.ev x) := by
  have e : runI P β ⟨d, g, .ld agg n x⟩ s K = (∃ rt : RT, ∀ st : Stamp, ∃ av os, (∃ l, LoadIs s n l (s.ev x) ∧ (if agg then av = .agg l else ∃ a, l = [a] ∧ av = .c a) ∧ os = []) ∧ K ((s.addO os).put d av)) := rfl
  have h1 : ∀ l, (∃ av os, ((if agg then av = .agg l else ∃ a, l = [a] ∧ av = .c a) ∧ os = []) ∧ K ((s.addO os).put d av)) ↔ ldV agg l fun v => K (s.put d v) := fun l => by
    cases agg
    · rcases l with _ | ⟨a, _ | ⟨b, l⟩⟩
      · simp [ldV]
      · simp only [ldV]
        constructor
        · rintro ⟨_, _, ⟨h, rfl⟩, h3⟩; simp at h; subst h; exact h3
        · intro h3; exact ⟨_, _, ⟨by simp, rfl⟩, h3⟩
      · simp [ldV]
    · simp only [ldV]
      constructor
      · rintro ⟨_, _, ⟨h, rfl⟩, h3⟩; simp at h; subst h; exact h3
      · intro h3; exact ⟨_, _, ⟨by simp, rfl⟩, h3⟩
  have e2 : runI P β ⟨d, g, .ld agg n x⟩ s K ↔ ∃ l, LoadIs s n l (s.ev x) ∧ ldV agg l fun v => K (s.put d v) := by
    rw [e]
    constructor
    · rintro ⟨_, h⟩
      obtain ⟨av, os, ⟨l, h2, h3⟩, h4⟩ := h ⟨0, fun _ _ => undef⟩
      exact ⟨l, h2, (h1 l).1 ⟨av, os, h3, h4⟩⟩
    · rintro ⟨l, h2, h3⟩
      refine ⟨.c (.val undef), fun _ => ?_⟩
      obtain ⟨av, os, h4, h5⟩ := (h1 l).2 h3
      exact ⟨av, os, ⟨l, h2, h4⟩, h5⟩
  apply propext
  rw [e2]
  cases h : s.ev x with
  | c a =>
    cases a with
    | bp k c b =>
      simp only [LoadIs, ldK, ldB]
      cases ho : s.o k <;> simp
      constructor
      · rintro ⟨l, ⟨_, _, ⟨rfl, _, rfl⟩, h2, rfl⟩, h3⟩; exact ⟨rfl, h2, h3⟩
      · rintro ⟨rfl, h2, h3⟩; exact ⟨_, ⟨_, _, ⟨rfl, rfl, rfl⟩, h2, rfl⟩, h3⟩
    | rp ds =>
      simp only [LoadIs, ldK]
      constructor
      · rintro ⟨l, ⟨h2, rfl⟩, h3⟩; exact ⟨h2, h3⟩
      · rintro ⟨h2, h3⟩; exact ⟨_, ⟨h2, rfl⟩, h3⟩
    | ep k c p i x =>
      simp only [LoadIs, ldK]
      constructor
      · rintro ⟨l, ⟨d0, η, dd, h2, h3, h4, h7, h5, rfl⟩, h6⟩; exact ⟨d0, η, dd, h2, h3, h4, h7, h5, h6⟩
      · rintro ⟨d0, η, dd, h2, h3, h4, h7, h5, h6⟩; exact ⟨_, ⟨d0, η, dd, h2, h3, h4, h7, h5, rfl⟩, h6⟩
    | _ => simp [LoadIs, ldK]
  | _ => simp [LoadIs, ldK]
theorem ldK_rp (agg : Bool) (n : Nat) (ds : List D) : ldK d s K agg n (.c (.rp ds)) = (n ≤ ds.length ∧ ldV agg ((ds.take n).map D.toRo) fun v => K (s.put d v)) := rfl
theorem ldK_bp (agg : Bool) (n k c b : Nat) : ldK d s K agg n (.c (.bp k c b)) = ldB (s.o k) k c b n fun l => ldV agg l fun v => K (s.put d v) := rfl
def iaK (d : Option Nat) (s : St) (K : St → Prop) (size : Nat) : AV → AV → Prop
  | .c (.ro dd), .c (.v (.int _ n)) => (0 ≤ n ∧ n.toNat < dd.len ∧ dd.isSl = true ∧ dd.size = size) ∧ K (s.put d (.c (.rp (dd.elem n.toNat))))
  | .c (.hs g c p hx sz lo m), .c (.v (.int _ n)) => (0 ≤ n ∧ (∃ dd, Is s (.hs g c p hx sz lo m) dd) ∧ sz = size ∧ n.toNat < m) ∧ K (s.put d (.c (.ep g c p ((lo + n.toNat) * size) hx)))
  | .c (.h g c p hx), .c (.v (.int _ n)) => (0 ≤ n ∧ ∃ dd, Is s (.h g c p hx) dd ∧ dd.size = size ∧ n.toNat < dd.len) ∧ K (s.put d (.c (.ep g c p (n.toNat * size) hx)))
  | _, _ => False
theorem run_ia (size : Nat) (x i : X) : runI P β ⟨d, g, .ia size x i⟩ s K = iaK d s K size (s.ev x) (s.ev i) := by
  unfold iaK
  split
  · rename_i dd k n h1 h2
    refine gen_f rfl fun _ _ _ _ => ?_
    simp only [Gen, h1, h2]
    constructor
    · rintro ⟨_, _, he, h3, ⟨h4, h5, h6, h7⟩, h8⟩; cases he; exact ⟨⟨h3, h6, h4, h5⟩, h7, h8⟩
    · rintro ⟨⟨h3, h6, h4, h5⟩, h7, h8⟩; exact ⟨_, _, rfl, h3, ⟨h4, h5, h6, h7⟩, h8⟩
  · rename_i k c p hx sz lo m kk n h1 h2
    refine gen_f rfl fun _ _ _ _ => ?_
    simp only [Gen, h1, h2]
    constructor
    · rintro ⟨_, _, he, h3, ⟨h4, h5, h6, h7⟩, h8⟩; cases he; exact ⟨⟨h3, h4, h5, h6⟩, h7, h8⟩
    · rintro ⟨⟨h3, h4, h5, h6⟩, h7, h8⟩; exact ⟨_, _, rfl, h3, ⟨h4, h5, h6, h7⟩, h8⟩
  · rename_i k c p hx kk n h1 h2
    refine gen_f rfl fun _ _ _ _ => ?_
    simp only [Gen, h1, h2]
    constructor
    · rintro ⟨_, _, he, h3, ⟨h4, h7⟩, h8⟩; cases he; exact ⟨⟨h3, h4⟩, h7, h8⟩
    · rintro ⟨⟨h3, h4⟩, h7, h8⟩; exact ⟨_, _, rfl, h3, ⟨h4, h7⟩, h8⟩
  · rename_i h1 h2 h3'
    refine gen_no rfl fun _ _ _ _ => ?_
    simp only [Gen]
    rintro ⟨k, n, he, h3, h4, _⟩
    split at h4
    · exact h1 _ _ _ (by assumption) he
    · exact h3' _ _ _ _ _ _ (by assumption) he
    · exact h2 _ _ _ _ _ _ _ _ _ (by assumption) he
    · exact h4
theorem iaK_ro (size : Nat) (dd : D) (k : IntKind) (n : Int) : iaK d s K size (.c (.ro dd)) (.c (.v (.int k n))) = ((0 ≤ n ∧ n.toNat < dd.len ∧ dd.isSl = true ∧ dd.size = size) ∧ K (s.put d (.c (.rp (dd.elem n.toNat))))) := rfl
theorem iaK_h (size k c : Nat) (p : List Nat) (hx : Value) (kk : IntKind) (n : Int) : iaK d s K size (.c (.h k c p hx)) (.c (.v (.int kk n))) = ((0 ≤ n ∧ ∃ dd, Is s (.h k c p hx) dd ∧ dd.size = size ∧ n.toNat < dd.len) ∧ K (s.put d (.c (.ep k c p (n.toNat * size) hx)))) := rfl
/-- Where no object is made. -/
theorem gen_k {i : I} {G : AV → Prop} (hw : i.writes = false) (h : ∀ rt st av' os', Gen P s (β + d.getD 0) rt st i av' os' ↔ G av' ∧ os' = []) : runI P β ⟨d, g, i⟩ s K = ∃ av, G av ∧ K (s.put d av) := by
  have e : runI P β ⟨d, g, i⟩ s K = (∃ rt, ∀ st, ∃ av os, Gen P s (β + d.getD 0) rt st i av os ∧ K ((s.addO os).put d av)) := by
    cases i <;> first | rfl | cases hw
  rw [e]
  apply propext
  constructor
  · rintro ⟨_, h1⟩
    obtain ⟨av', os', h2, h3⟩ := h1 ⟨0, fun _ _ => undef⟩
    obtain ⟨h4, rfl⟩ := (h _ _ _ _).1 h2
    exact ⟨av', h4, h3⟩
  · rintro ⟨av, h1, h2⟩
    exact ⟨.c (.val undef), fun _ => ⟨av, [], (h _ _ _ _).2 ⟨h1, rfl⟩, h2⟩⟩
def lenK (d : Option Nat) (s : St) (K : St → Prop) (str : Bool) (a : AV) : Prop := ∃ av, (∃ n, LenIs s str a n ∧ av = .c (.v (.int .i64 (n : Int)))) ∧ K (s.put d av)
theorem run_len (str : Bool) (x : X) : runI P β ⟨d, g, .len str x⟩ s K = lenK d s K str (s.ev x) := gen_k rfl fun _ _ av os => by
  simp only [Gen]
  constructor
  · rintro ⟨n, h1, h2, h3⟩; exact ⟨⟨n, h1, h2⟩, h3⟩
  · rintro ⟨⟨n, h1, h2⟩, h3⟩; exact ⟨n, h1, h2, h3⟩
theorem lenK_ (str : Bool) (a : AV) : lenK d s K str a = ∃ n, LenIs s str a n ∧ K (s.put d (.c (.v (.int .i64 (n : Int))))) := by
  apply propext
  constructor
  · rintro ⟨_, ⟨n, h1, rfl⟩, h2⟩; exact ⟨n, h1, h2⟩
  · rintro ⟨n, h1, h2⟩; exact ⟨_, ⟨n, h1, rfl⟩, h2⟩
theorem lenK_ro (dd : D) : lenK d s K false (.c (.ro dd)) = ((dd.isSl = true ∧ 0 < dd.size) ∧ K (s.put d (.c (.v (.int .i64 dd.len))))) := by
  rw [lenK_]
  apply propext
  constructor
  · rintro ⟨_, ⟨h1, h2, rfl⟩, h3⟩; exact ⟨⟨h1, h2⟩, h3⟩
  · rintro ⟨⟨h1, h2⟩, h3⟩; exact ⟨_, ⟨h1, h2, rfl⟩, h3⟩
theorem lenK_str (b : ByteArray) : lenK d s K true (.c (.v (.string b))) = K (s.put d (.c (.v (.int .i64 b.size)))) := by
  rw [lenK_]; simp [LenIs]
theorem lenK_h (k c : Nat) (p : List Nat) (x : Value) : lenK d s K false (.c (.h k c p x)) = ∃ dd, Is s (.h k c p x) dd ∧ 0 < dd.size ∧ K (s.put d (.c (.v (.int .i64 dd.len)))) := by
  rw [lenK_]
  apply propext
  constructor
  · rintro ⟨_, ⟨dd, h1, h2, rfl⟩, h3⟩; exact ⟨dd, h1, h2, h3⟩
  · rintro ⟨dd, h1, h2, h3⟩; exact ⟨_, ⟨dd, h1, h2, rfl⟩, h3⟩
def binK (P : Program) (d : Option Nat) (s : St) (K : St → Prop) (op : BinOp) (ty : Nat) (x y : AV) : Prop := ∃ av, ((∃ a b v, x = .c (.v a) ∧ y = .c (.v b) ∧ BinR op a b v ∧ av = .c (.v v)) ∨
      (∃ l m xs ys b, x = .agg l ∧ y = .agg m ∧ valsOf l = some xs ∧ valsOf m = some ys ∧ EqR P op ty xs ys b ∧ av = .c (.v (.bool b)))) ∧ K (s.put d av)
theorem run_bin (op : BinOp) (ty : Nat) (x y : X) : runI P β ⟨d, g, .bin op ty x y⟩ s K = binK P d s K op ty (s.ev x) (s.ev y) := gen_k rfl fun _ _ _ _ => Iff.rfl
theorem binK_v (op : BinOp) (ty : Nat) (a b : Value) : binK P d s K op ty (.c (.v a)) (.c (.v b)) = ∃ v, BinR op a b v ∧ K (s.put d (.c (.v v))) := by
  apply propext
  constructor
  · rintro ⟨_, (⟨_, _, v, h1, h2, h3, rfl⟩ | ⟨_, _, _, _, _, h1, _⟩), h4⟩
    · cases h1; cases h2; exact ⟨v, h3, h4⟩
    · cases h1
  · rintro ⟨v, h1, h2⟩; exact ⟨_, .inl ⟨_, _, v, rfl, rfl, h1, rfl⟩, h2⟩
theorem binK_i (op : BinOp) (ty : Nat) (k k' : IntKind) (a b : Int) : binK P d s K op ty (.c (.v (.int k a))) (.c (.v (.int k' b))) = (intOk op k k' b ∧ K (s.put d (.c (.v (intBin op k a b))))) := by
  rw [binK_v]
  apply propext
  constructor
  · rintro ⟨_, ⟨h1, rfl⟩, h2⟩; exact ⟨h1, h2⟩
  · rintro ⟨h1, h2⟩; exact ⟨_, ⟨h1, rfl⟩, h2⟩
theorem binK_seq (ty : Nat) (a b : ByteArray) : binK P d s K .eql ty (.c (.v (.string a))) (.c (.v (.string b))) = K (s.put d (.c (.v (.bool (a.toList == b.toList))))) := by rw [binK_v]; simp [BinR]
theorem binK_sne (ty : Nat) (a b : ByteArray) : binK P d s K .neq ty (.c (.v (.string a))) (.c (.v (.string b))) = K (s.put d (.c (.v (.bool (!(a.toList == b.toList)))))) := by rw [binK_v]; simp [BinR]
def beqK (d : Option Nat) (s : St) (K : St → Prop) (neg : Bool) (x y : AV) : Prop := ∃ av, (∃ a b, x = .c (.v (.bool a)) ∧ y = .c (.v (.bool b)) ∧ av = .c (.v (.bool (if neg then !(a == b) else a == b)))) ∧ K (s.put d av)
theorem run_beq (neg : Bool) (x y : X) : runI P β ⟨d, g, .beq neg x y⟩ s K = beqK d s K neg (s.ev x) (s.ev y) := gen_k rfl fun _ _ av os => by
  simp only [Gen]
  constructor
  · rintro ⟨a, b, h1, h2, h3, h4⟩; exact ⟨⟨a, b, h1, h2, h3⟩, h4⟩
  · rintro ⟨⟨a, b, h1, h2, h3⟩, h4⟩; exact ⟨a, b, h1, h2, h3, h4⟩
theorem beqK_ (neg a b : Bool) : beqK d s K neg (.c (.v (.bool a))) (.c (.v (.bool b))) = K (s.put d (.c (.v (.bool (if neg then !(a == b) else a == b))))) := by
  apply propext
  constructor
  · rintro ⟨_, ⟨_, _, h1, h2, rfl⟩, h⟩; cases h1; cases h2; exact h
  · intro h; exact ⟨_, ⟨_, _, rfl, rfl, rfl⟩, h⟩
def unK (d : Option Nat) (s : St) (K : St → Prop) (op : UnOp) (x : AV) : Prop := ∃ av, (match op with
      | .not => ∃ b, x = .c (.v (.bool b)) ∧ av = .c (.v (.bool (!b)))
      | .neg => ∃ k n, x = .c (.v (.int k n)) ∧ av = .c (.v (.int k (k.wrap (0 - n))))
      | _ => False) ∧ K (s.put d av)
theorem run_un (op : UnOp) (x : X) : runI P β ⟨d, g, .un op x⟩ s K = unK d s K op (s.ev x) := gen_k rfl fun _ _ _ _ => Iff.rfl
theorem unK_not (b : Bool) : unK d s K .not (.c (.v (.bool b))) = K (s.put d (.c (.v (.bool (!b))))) := by simp [unK]
def cvK (d : Option Nat) (s : St) (K : St → Prop) (c : Cv) (x : AV) : Prop := ∃ av, (match c with
      | .num k => ∃ k' n, x = .c (.v (.int k' n)) ∧ av = .c (.v (.int k (k.wrap n)))
      | .text => ∃ (a : A0) (ty : Nat) (bs : List UInt8), x = .c a ∧ Is s a (.sl 1 ty (bs.map byteVal)) ∧ av = .c (.v (.string ⟨bs.toArray⟩))
      | .bytes => False) ∧ K (s.put d av)
theorem run_cv (c : Cv) (e : Nat) (x : X) : runI P β ⟨d, g, .cv c e x⟩ s K = cvK d s K c (s.ev x) := gen_k rfl fun _ _ _ _ => Iff.rfl
theorem cvK_num (k k' : IntKind) (n : Int) : cvK d s K (.num k) (.c (.v (.int k' n))) = K (s.put d (.c (.v (.int k (k.wrap n))))) := by
  apply propext
  constructor
  · rintro ⟨_, ⟨_, _, h1, rfl⟩, h⟩; cases h1; exact h
  · intro h; exact ⟨_, ⟨_, _, rfl, rfl⟩, h⟩
def sidxK (d : Option Nat) (s : St) (K : St → Prop) (x i : AV) : Prop := ∃ av, (∃ b k n u, x = .c (.v (.string b)) ∧ i = .c (.v (.int k n)) ∧ 0 ≤ n ∧ b[n.toNat]? = some u ∧ av = .c (.v (.int .u8 u.toNat))) ∧ K (s.put d av)
theorem run_sidx (x i : X) : runI P β ⟨d, g, .sidx x i⟩ s K = sidxK d s K (s.ev x) (s.ev i) := gen_k rfl fun _ _ av os => by
  simp only [Gen]
  constructor
  · rintro ⟨b, k, n, u, h1, h2, h3, h4, h5, h6⟩; exact ⟨⟨b, k, n, u, h1, h2, h3, h4, h5⟩, h6⟩
  · rintro ⟨⟨b, k, n, u, h1, h2, h3, h4, h5⟩, h6⟩; exact ⟨b, k, n, u, h1, h2, h3, h4, h5, h6⟩
theorem sidxK_ (b : ByteArray) (k : IntKind) (n : Int) : sidxK d s K (.c (.v (.string b))) (.c (.v (.int k n))) = (0 ≤ n ∧ ∃ u, b[n.toNat]? = some u ∧ K (s.put d (.c (.v (.int .u8 u.toNat))))) := by
  apply propext
  constructor
  · rintro ⟨_, ⟨_, _, _, u, h1, h2, h3, h4, rfl⟩, h5⟩; cases h1; cases h2; exact ⟨h3, u, h4, h5⟩
  · rintro ⟨h3, u, h4, h5⟩; exact ⟨_, ⟨_, _, _, u, rfl, rfl, h3, h4, rfl⟩, h5⟩
theorem run_call {f : Nat} {args : List X} {vs : List View} {rt : RT} (hp : Pure P f vs rt) (ha : ArgsAre s (args.map s.ev) vs) (hk : ∀ η : Nat → Heads, K ((s.addO (objL (100 * (β + d.getD 0)) η 0 rt.flat)).put d (rt.av (100 * (β + d.getD 0)) η))) :
    runI P β ⟨d, g, .call f args⟩ s K := Or.inl ⟨rt, fun st => ⟨_, _, ⟨vs, ha, hp, rfl, rfl⟩, hk st.η⟩⟩
/-- A call whose code stands in the caller. -/
theorem run_inl {f : Nat} {args : List X} (h : Inl P f (args.map s.ev) s.o fun av o' => K (St.put ⟨s.t, o'⟩ d av)) : runI P β ⟨d, g, .call f args⟩ s K := Or.inr (Or.inr h)
theorem run_callv {f : Nat} {x : X} {caps : List A0} {args : List X} {vs : List View} {rt : RT} (h0 : s.ev x = .fn f caps) (hp : Pure P f vs rt) (ha : ArgsAre s (args.map s.ev ++ caps.map .c) vs) (hk : ∀ η : Nat → Heads, K ((s.addO (objL (100 * (β + d.getD 0)) η 0 rt.flat)).put d (rt.av (100 * (β + d.getD 0)) η))) :
    runI P β ⟨d, g, .callv x args⟩ s K := Or.inl ⟨rt, fun st => ⟨_, _, ⟨f, caps, vs, h0, ha, hp, rfl, rfl⟩, hk st.η⟩⟩
def boxK (β : Nat) (d : Option Nat) (s : St) (K : St → Prop) (ty n : Nat) (x : AV) : Prop := ∃ l, x.cells = some l ∧ l.length = n ∧ TakeK s l fun cs s' => ∀ b, K ((s'.addO [(100 * (β + d.getD 0), .box b ty cs)]).put d (.c (.bp (100 * (β + d.getD 0)) 0 b)))
theorem run_box (ty n : Nat) (x : X) : runI P β ⟨d, g, .box ty n x⟩ s K = boxK β d s K ty n (s.ev x) := rfl
theorem boxK_agg (ty n : Nat) (l : List A0) : boxK β d s K ty n (.agg l) = (l.length = n ∧ TakeK s l fun cs s' => ∀ b, K ((s'.addO [(100 * (β + d.getD 0), .box b ty cs)]).put d (.c (.bp (100 * (β + d.getD 0)) 0 b)))) := by simp [boxK, AV.cells]
theorem boxK_c (ty n : Nat) (a : A0) : boxK β d s K ty n (.c a) = (a.c1 = true ∧ 1 = n ∧ TakeK s [a] fun cs s' => ∀ b, K ((s'.addO [(100 * (β + d.getD 0), .box b ty cs)]).put d (.c (.bp (100 * (β + d.getD 0)) 0 b)))) := by
  unfold boxK AV.cells
  by_cases h : a.c1 = true <;> simp [h]
theorem take_nil (K : List Cell → St → Prop) : TakeK s [] K = K [] s := rfl
theorem take_v (x : Value) (l : List A0) (K : List Cell → St → Prop) : TakeK s (.v x :: l) K = (x.oneCell' = true ∧ TakeK s l (fun cs s' => K (.a (.v x) :: cs) s')) := rfl
theorem take_ro (x : D) (l : List A0) (K : List Cell → St → Prop) : TakeK s (.ro x :: l) K = TakeK s l (fun cs s' => K (.a (.ro x) :: cs) s') := by simp [TakeK, A0.one]
theorem one_i (k : IntKind) (n : Int) : (Value.int k n).oneCell' = true := rfl
theorem one_b (b : Bool) : (Value.bool b).oneCell' = true := rfl
theorem one_s (b : ByteArray) : (Value.string b).oneCell' = true := rfl
theorem one_n (a : Option Addr) (n c : Nat) : (Value.slice a n c).oneCell' = true := rfl
theorem take_h (k c : Nat) (x : Value) (l : List A0) (K : List Cell → St → Prop) : TakeK s (.h k c [] x :: l) K = ∃ d η, (s.o k).own c = some (d, η) ∧ η [] = x ∧ TakeK (s.rm k c) l (fun cs s' => K (.own d η :: cs) s') := by simp [TakeK]
end

section
variable {P : Program} {β : Nat} {s : St} {K : St → Prop} {d : Option Nat} {l : List (Nat × List Lk)}
theorem rt_done : runT P β .done l s K = K s := rfl
theorem rt_stop : runT P β .stop l s K = True := rfl
theorem rt_pure (p : Nat) (i : I) (t : T) : runT P β (.pure p ⟨d, none, i⟩ t) l s K = runI P β ⟨d, none, i⟩ s fun s' => runT P β t ((p, i.looks s) :: l) s' K := rfl
theorem rt_gtt {n : Nat} (p : Nat) (i : I) (t : T) (h : s.t n = .c (.v (.bool true))) : runT P β (.pure p ⟨d, some (n, true), i⟩ t) l s K = runI P β ⟨d, some (n, true), i⟩ s fun s' => runT P β t ((p, i.looks s) :: l) s' K := by simp [runT, wantA, h]
theorem rt_gtf {n : Nat} (p : Nat) (i : I) (t : T) (h : s.t n = .c (.v (.bool false))) : runT P β (.pure p ⟨d, some (n, true), i⟩ t) l s K = runT P β t l (s.put d (.c (.v undef))) K := by simp [runT, wantA, h]
theorem rt_gft {n : Nat} (p : Nat) (i : I) (t : T) (h : s.t n = .c (.v (.bool true))) : runT P β (.pure p ⟨d, some (n, false), i⟩ t) l s K = runT P β t l (s.put d (.c (.v undef))) K := by simp [runT, wantA, h]
theorem rt_gff {n : Nat} (p : Nat) (i : I) (t : T) (h : s.t n = .c (.v (.bool false))) : runT P β (.pure p ⟨d, some (n, false), i⟩ t) l s K = runI P β ⟨d, some (n, false), i⟩ s fun s' => runT P β t ((p, i.looks s) :: l) s' K := by simp [runT, wantA, h]
theorem rt_alt (i : I) (chk : List Nat) (t r : T) : runT P β (.alt ⟨d, none, i⟩ chk t r) l s K = (runI P β ⟨d, none, i⟩ s (fun s' => keepL s s' chk l ∧ runT P β t l s' K) ∧ runT P β r l s K) := rfl
theorem ra_gtt {n : Nat} (i : I) (chk : List Nat) (t r : T) (h : s.t n = .c (.v (.bool true))) : runT P β (.alt ⟨d, some (n, true), i⟩ chk t r) l s K = (runI P β ⟨d, some (n, true), i⟩ s (fun s' => keepL s s' chk l ∧ runT P β t l s' K) ∧ runT P β r l s K) := by simp [runT, wantA, h]
theorem ra_gtf {n : Nat} (i : I) (chk : List Nat) (t r : T) (h : s.t n = .c (.v (.bool false))) : runT P β (.alt ⟨d, some (n, true), i⟩ chk t r) l s K = (runT P β t l (s.put d (.c (.v undef))) K ∧ runT P β r l s K) := by simp [runT, wantA, h]
theorem ra_gft {n : Nat} (i : I) (chk : List Nat) (t r : T) (h : s.t n = .c (.v (.bool true))) : runT P β (.alt ⟨d, some (n, false), i⟩ chk t r) l s K = (runT P β t l (s.put d (.c (.v undef))) K ∧ runT P β r l s K) := by simp [runT, wantA, h]
theorem ra_gff {n : Nat} (i : I) (chk : List Nat) (t r : T) (h : s.t n = .c (.v (.bool false))) : runT P β (.alt ⟨d, some (n, false), i⟩ chk t r) l s K = (runI P β ⟨d, some (n, false), i⟩ s (fun s' => keepL s s' chk l ∧ runT P β t l s' K) ∧ runT P β r l s K) := by simp [runT, wantA, h]
theorem wp_dreg (t : T) (Q : Ex → St → Prop) : wpC P β (.dreg t) Q s = runT P β t [] s (Q .normal) := rfl
theorem keepL_nil (s' : St) (chk : List Nat) : keepL s s' chk [] = True := rfl
theorem keepL_cons (s' : St) (chk : List Nat) (p : Nat) (ids : List Lk) (l : List (Nat × List Lk)) : keepL s s' chk ((p, ids) :: l) = ((if chk.contains p then keep1 s s' ids else True) ∧ keepL s s' chk l) := rfl
theorem keep1_nil (s' : St) : keep1 s s' [] = True := rfl
theorem keep1_cons (s' : St) (k : Lk) (l : List Lk) : keep1 s s' (k :: l) = (kept s s' k ∧ keep1 s s' l) := rfl
theorem kept_ob (s' : St) (g : Nat) : kept s s' (.ob g) = (s'.o g = s.o g) := rfl
theorem kept_cs (s' : St) (g c n : Nat) : kept s s' (.cs g c n) = sameB g c n (s'.o g) (s.o g) := rfl
theorem sameB_t (g c n : Nat) (ob : Ob) : sameB g c n ob ob = True := eq_true (sameB_rfl g c n ob)
end
section
variable {α : Type} {enc : α → List D} {size : Nat}
theorem flat_len (hl : ∀ x, (enc x).length = size) (hs : 0 < size) (ty : TypeId) (xs : List α) : D.len (.sl size ty (xs.flatMap enc)) = xs.length := by
  simp only [D.len, D.cells, D.size]
  rw [len_flat hl, Nat.mul_div_cancel _ hs]
theorem flat_elem (hl : ∀ x, (enc x).length = size) {ty : TypeId} {xs : List α} {k : Nat} {x : α} (hx : xs[k]? = some x) : D.elem (.sl size ty (xs.flatMap enc)) k = enc x := by
  have hk : k < xs.length := (List.getElem?_eq_some_iff.1 hx).1
  have hx' : xs[k] = x := by rw [List.getElem?_eq_getElem hk] at hx; exact Option.some.inj hx
  simp only [D.elem, D.cells, D.size]
  have e : xs = xs.take k ++ (x :: xs.drop (k + 1)) := by rw [← hx']; simp
  have e2 : xs.flatMap enc = (xs.take k).flatMap enc ++ (enc x ++ (xs.drop (k + 1)).flatMap enc) := by
    conv => lhs; rw [e]
    simp
  have e3 : ((xs.take k).flatMap enc).length = k * size := by rw [len_flat hl, List.length_take, Nat.min_eq_left (by omega)]
  rw [e2, ← e3, List.drop_left, ← hl x, List.take_left]
end
theorem len_encRns (l : List Rn) : (encRns l).len = l.length := flat_len (enc := encRn) (fun _ => rfl) (by decide) _ _
theorem elem_encRns {l : List Rn} {k : Nat} {x : Rn} (h : l[k]? = some x) : (encRns l).elem k = encRn x := flat_elem (enc := encRn) (fun _ => rfl) h
theorem len_encSh (l : List (List En)) : (encSh l).len = l.length := flat_len (enc := fun es => [encEns es]) (fun _ => rfl) (by decide) _ _
theorem elem_encSh {l : List (List En)} {k : Nat} {x : List En} (h : l[k]? = some x) : (encSh l).elem k = [encEns x] := flat_elem (enc := fun es => [encEns es]) (fun _ => rfl) h
theorem len_encEns (l : List En) : (encEns l).len = l.length := flat_len (enc := encEn) (fun _ => rfl) (by decide) _ _
theorem elem_encEns {l : List En} {k : Nat} {x : En} (h : l[k]? = some x) : (encEns l).elem k = encEn x := flat_elem (enc := encEn) (fun _ => rfl) h
theorem len_encTks (l : List Tk) : (encTks l).len = l.length := flat_len (enc := encTk) (fun _ => rfl) (by decide) _ _
theorem elem_encTks {l : List Tk} {k : Nat} {x : Tk} (h : l[k]? = some x) : (encTks l).elem k = encTk x := flat_elem (enc := encTk) (fun _ => rfl) h
theorem sl_encRns (l : List Rn) : (encRns l).isSl = true := rfl
theorem sl_encSh (l : List (List En)) : (encSh l).isSl = true := rfl
theorem sl_encEns (l : List En) : (encEns l).isSl = true := rfl
theorem sl_encTks (l : List Tk) : (encTks l).isSl = true := rfl
theorem sz_encRns (l : List Rn) : (encRns l).size = 8 := rfl
theorem sz_encSh (l : List (List En)) : (encSh l).size = 1 := rfl
theorem sz_encEns (l : List En) : (encEns l).size = 4 := rfl
theorem sz_encTks (l : List Tk) : (encTks l).size = 4 := rfl
theorem ro_encRns (l : List Rn) : (encRns l).toRo = .ro (encRns l) := rfl
theorem ro_encSh (l : List (List En)) : (encSh l).toRo = .ro (encSh l) := rfl
theorem ro_encEns (l : List En) : (encEns l).toRo = .ro (encEns l) := rfl
theorem ro_encTks (l : List Tk) : (encTks l).toRo = .ro (encTks l) := rfl
theorem ro_encEds (l : List Ed) : (encEds l).toRo = .ro (encEds l) := rfl
theorem ro_val (v : Value) : (D.val v).toRo = .v v := rfl
theorem init_t (vs : List View) (n : Nat) : (St.init vs).t n = ((vs.map View.av)[n]?).getD .unk := rfl
end Go.Proofs.YtmnpailnelmpiaaGreat
