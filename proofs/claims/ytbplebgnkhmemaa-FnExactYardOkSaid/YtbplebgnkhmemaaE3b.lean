/- The engine: what an instruction does, a region, code; calls that turn what they are given. No program. -/
import Derived.Test.YtbplebgnkhmemaaE3
set_option linter.unusedSimpArgs false
set_option linter.unusedVariables false
namespace Go.Proofs.Ytbplebgnkhmemaa
open Go.RowKit Go.Sort

/-! ### Calls that turn what they are given -/
def VRelL (B : Nat) (w : World) : List AV → List Value → Prop
  | [], xs => xs = []
  | a :: l, xs => ∃ x xs', xs = x :: xs' ∧ VRel B w a x ∧ VRelL B w l xs'
abbrev St.only (o : Nat → Ob) : St := ⟨fun _ => .unk, o⟩
def Act.bare : Act := { tmps := #[], defers := [] }
/-- f, given these, with these objects: it returns data of its own and leaves objects, R. -/
def Turns (P : Program) (f : FuncId) (args : List AV) (o : Nat → Ob) (R : RT → (Nat → Ob) → Prop) : Prop :=
  Named P f ∧ ∀ (B : Nat) (w : World) (F : Nat → List Nat) (xs : List Value), RelF B w 0 (.only o) Act.bare w F → VRelL B w args xs →
    Calls P f xs.toArray w fun e w' => ∃ v rt o' S F', e = .returned v ∧ RelF B w 0 (.only o') Act.bare w' F' ∧ RetRel w' rt v S ∧ Fresh B S ∧ (∀ g, ∀ b ∈ S, b ∉ F' g) ∧ R rt o'

/-- f, given these, with these objects: it returns this value and leaves objects, R: as if its code stood in the caller. -/
def Inl (P : Program) (f : FuncId) (args : List AV) (o : Nat → Ob) (R : AV → (Nat → Ob) → Prop) : Prop :=
  Named P f ∧ ∀ (B : Nat) (w : World) (F : Nat → List Nat) (xs : List Value), RelF B w 0 (.only o) Act.bare w F → VRelL B w args xs →
    Calls P f xs.toArray w fun e w' => ∃ v av o', ∃ F' : Nat → List Nat, e = .returned v ∧ RelF B w 0 (.only o') Act.bare w' F' ∧ VRel B w' av v ∧ R av o'

/-! ### Instructions -/
def D.put : List Nat → Nat → List D → D → D
  | [], i, ds, .sl size ty cs => .sl size ty (setAt cs i ds)
  | k :: p, i, ds, .sl size ty cs => .sl size ty (match cs[k]? with
    | some d => cs.set k (D.put p i ds d)
    | none => cs)
  | _, _, _, .val u => .val u
def Ob.putOwn : Ob → Nat → D → Heads → Ob
  | .loose _ _, _, d, η => .loose d η
  | .box b ty cs, c, d, η => .box b ty (cs.set c (.own d η))
  | .none, _, _, _ => .none
/-- A path that leads through the cells i .. i + n behind p. -/
def Under (p : List Nat) (i n : Nat) (q : List Nat) : Prop := ∃ j r, q = p ++ j :: r ∧ i ≤ j ∧ j < i + n
/-- New heads behind a store: the old ones where only flat cells are stored over flat ones. -/
def stH (flat : Bool) (p : List Nat) (k n : Nat) (η : Heads) (K : Heads → Prop) : Prop := match flat with
  | true => K η
  | false => ∀ η', (∀ q, ¬ Under p k n q → η' q = η q) → K η'
theorem stH_mono {flat : Bool} {p : List Nat} {k n : Nat} {η : Heads} {K K' : Heads → Prop} (h : ∀ η', K η' → K' η') (hk : stH flat p k n η K) : stH flat p k n η K' := by
  cases flat with
  | true => exact h _ hk
  | false => exact fun η' hη => h _ (hk η' hη)
theorem stH_at {flat : Bool} {p : List Nat} {k n : Nat} {η η' : Heads} {K : Heads → Prop} (hk : stH flat p k n η K) (h : ∀ q, ¬ Under p k n q → η' q = η q) (hf : flat = true → η' = η) : K η' := by
  cases flat with
  | true => rw [hf rfl]; exact hk
  | false => exact hk η' h
def runI (P : Program) (β : Nat) (i : Ins) (s : St) (K : St → Prop) : Prop := match i.i with
  | .box ty n x => ∃ l, (s.ev x).cells = some l ∧ l.length = n ∧ TakeK s l fun cs s' => ∀ b, K ((s'.addO [(100 * (β + i.d.getD 0), .box b ty cs)]).put i.d (.c (.bp (100 * (β + i.d.getD 0)) 0 b)))
  | .bsl e size _ ks ps => ∃ l, catA s ps = some l ∧ TakeK s l fun cs s' => ∃ ds, datumL ks cs = some ds ∧ ∀ η, K ((s'.addO [(100 * (β + i.d.getD 0), .loose (.sl size e ds) η)]).put i.d (.c (.h (100 * (β + i.d.getD 0)) 0 [] (η []))))
  | .st n ks a x => i.d = none ∧ ∃ l, (s.ev x).cells = some l ∧ l.length = n ∧ TakeK s l fun cs s' => match s.ev a with
    | .c (.bp g c b) => ∃ ty ds, s'.o g = .box b ty ds ∧ c + n ≤ ds.length ∧ K (s'.setO g (.box b ty (setAt ds c cs)))
    | .c (.ep g c p k hx) => 0 < n ∧ ∃ ds, datumL ks cs = some ds ∧ ∃ d0 η dd, (s'.o g).own c = some (d0, η) ∧ η p = hx ∧ D.get p d0 = some dd ∧ dd.isSl = true ∧ k + n ≤ dd.cells.length ∧
        stH (flatB ds && flatB ((dd.cells.drop k).take n)) p k n η fun η' => K (s'.setO g ((s'.o g).putOwn c (D.put p k ds d0) η'))
    | _ => False
  | .app e size bytes x y => SrcK s size (s.ev y) fun ys s1 => DestK s1 e size (s.ev x) fun xs s2 => xs.length / size + ys.length / size ≤ maxLen ∧ (xs.length / size + ys.length / size) * bytes ≤ 140737488355328 ∧
      ∀ η, K ((s2.addO [(100 * (β + i.d.getD 0), .loose (.sl size e (xs ++ ys)) η)]).put i.d (.c (.h (100 * (β + i.d.getD 0)) 0 [] (η []))))
  | .apps e x y => ∃ b, s.ev y = .c (.v (.string b)) ∧ DestK s e 1 (s.ev x) fun xs s2 => xs.length + b.size ≤ 140737488355328 ∧
      ∀ η, K ((s2.addO [(100 * (β + i.d.getD 0), .loose (.sl 1 e (xs ++ strCells b)) η)]).put i.d (.c (.h (100 * (β + i.d.getD 0)) 0 [] (η []))))
  | .call f args => (∃ rt, ∀ st, ∃ av os, Gen P s (β + i.d.getD 0) rt st (.call f args) av os ∧ K ((s.addO os).put i.d av)) ∨
      (Turns P f (args.map s.ev) s.o fun rt o' => ∀ η : Nat → Heads, K (((⟨s.t, o'⟩ : St).addO (objL (100 * (β + i.d.getD 0)) η 0 rt.flat)).put i.d (rt.av (100 * (β + i.d.getD 0)) η))) ∨
      Inl P f (args.map s.ev) s.o fun av o' => K (St.put ⟨s.t, o'⟩ i.d av)
  | .callv x args => (∃ rt, ∀ st, ∃ av os, Gen P s (β + i.d.getD 0) rt st (.callv x args) av os ∧ K ((s.addO os).put i.d av)) ∨
      ∃ f caps, s.ev x = .fn f caps ∧ Turns P f (args.map s.ev ++ caps.map .c) s.o fun rt o' => ∀ η : Nat → Heads, K (((⟨s.t, o'⟩ : St).addO (objL (100 * (β + i.d.getD 0)) η 0 rt.flat)).put i.d (rt.av (100 * (β + i.d.getD 0)) η))
  | j => ∃ rt, ∀ st, ∃ av os, Gen P s (β + i.d.getD 0) rt st j av os ∧ K ((s.addO os).put i.d av)
def wantA (s : St) : Option (Nat × Bool) → Option Bool
  | none => some true
  | some (t, want) => match s.t t with
    | .c (.v (.bool b)) => some (b == want)
    | .c (.v _) => some false
    | _ => none
/-- A region, in the order of the text. -/
def runL (P : Program) (β : Nat) : List Ins → St → (St → Prop) → Prop
  | [], s, K => K s
  | i :: l, s, K => match wantA s i.g with
    | some true => runI P β i s fun s' => runL P β l s' K
    | some false => runL P β l (s.put i.d (.c (.v undef))) K
    | none => False

/-! ### Regions that draw their order -/
def A0.ids : A0 → List Nat
  | .h g _ _ _ => [g]
  | .hs g _ _ _ _ _ _ => [g]
  | .bp g _ _ => [g]
  | .ep g _ _ _ _ => [g]
  | _ => []
def AV.ids : AV → List Nat
  | .c a => a.ids
  | .agg l => l.flatMap A0.ids
  | .fn _ l => l.flatMap A0.ids
  | _ => []
/-- The objects that a quiet instruction looks at. -/
def I.looks (s : St) : I → List Nat
  | .ld _ _ x => (s.ev x).ids
  | .ia _ x _ => (s.ev x).ids
  | .cv _ _ x => (s.ev x).ids
  | .len _ x => (s.ev x).ids
  | .sl _ x _ _ => (s.ev x).ids
  | _ => []
def keep1 (s s' : St) : List Nat → Prop
  | [] => True
  | g :: l => s'.o g = s.o g ∧ keep1 s s' l
/-- What those have looked at that need not have come before stays. -/
def keepL (s s' : St) (chk : List Nat) : List (Nat × List Nat) → Prop
  | [] => True
  | (p, ids) :: l => (if chk.contains p then keep1 s s' ids else True) ∧ keepL s s' chk l
def runT (P : Program) (β : Nat) : T → List (Nat × List Nat) → St → (St → Prop) → Prop
  | .done, _, s, K => K s
  | .stop, _, _, _ => True
  | .pure p i t, l, s, K => match wantA s i.g with
    | some true => runI P β i s fun s' => runT P β t ((p, i.i.looks s) :: l) s' K
    | some false => runT P β t l (s.put i.d (.c (.v undef))) K
    | none => False
  | .alt i chk t rest, l, s, K => (match wantA s i.g with
    | some true => runI P β i s fun s' => keepL s s' chk l ∧ runT P β t l s' K
    | some false => runT P β t l (s.put i.d (.c (.v undef))) K
    | none => False) ∧ runT P β rest l s K

/-! ### Code -/
/-- The second state says less (or names objects otherwise). -/
def Wk (s s' : St) : Prop := ∀ (B N : Nat) (w0 w : World) (a : Act) (F : Nat → List Nat), RelF B w0 N s a w F → ∃ F' : Nat → List Nat, RelF B w0 N s' a w F' ∧ ∀ g, ∀ b ∈ F' g, ∃ g', b ∈ F g'
inductive Ex where
  | normal
  | exit (id : Nat)
  | ret
def Ex.thn (next : St → Prop) (Q : Ex → St → Prop) : Ex → St → Prop
  | .normal, s => next s
  | .exit id, s => Q (.exit id) s
  | .ret, s => Q .ret s
def Ex.inBlk (id : Nat) (Q : Ex → St → Prop) : Ex → St → Prop
  | .exit id', s => if id' = id then Q .normal s else Q (.exit id') s
  | .normal, s => Q .normal s
  | .ret, s => Q .ret s
def wpC (P : Program) (β : Nat) : C → (Ex → St → Prop) → St → Prop
  | .skip, Q, s => Q .normal s
  | .reg is, Q, s => runL P β is s (Q .normal)
  | .dreg t, Q, s => runT P β t [] s (Q .normal)
  | .seq a b, Q, s => wpC P β a (Ex.thn (wpC P β b Q) Q) s
  | .cond x a b, Q, s => ∃ t, s.ev x = .c (.v (.bool t)) ∧ (t = true → wpC P β a Q s) ∧ (t = false → wpC P β b Q s)
  | .blk id a, Q, s => wpC P β a (Ex.inBlk id Q) s
  | .loop a, Q, s => ∃ (ι : Type) (mk : ι → St) (J : ι → Prop) (μ : ι → Nat), (∃ i, J i ∧ Wk s (mk i)) ∧ ∀ i, J i → wpC P β a (Ex.thn (fun s' => ∃ i', J i' ∧ Wk s' (mk i') ∧ μ i' < μ i) Q) (mk i)
  | .gh a, Q, s => ∃ s', Wk s s' ∧ wpC P β a Q s'
  | .exit id, Q, s => Q (.exit id) s
  | .ret, Q, s => Q .ret s

/-! ### How a function ends -/
def retE (rs : List R) (rt : RT) : Ex → St → Prop
  | .exit _, _ => False
  | _, s => RetQ rs rt s
/-- The end of a function that turns what it is given. -/
def RetT (rs : List R) (K : RT → (Nat → Ob) → Prop) (s : St) : Prop := resK s rs fun ps => ∃ rt, ShapeIs rt ps ∧ TakeK s (ps.flatMap (·.2)) fun cs s' => IsD cs rt.flat ∧ K rt s'.o
def turnE (rs : List R) (K : RT → (Nat → Ob) → Prop) : Ex → St → Prop
  | .exit _, _ => False
  | _, s => RetT rs K s
def St.start (args : List AV) (o : Nat → Ob) : St := ⟨fun n => (args[n]?).getD .unk, o⟩
/-- The end of a function whose code stands in the caller. -/
def RetI (rs : List R) (K : AV → (Nat → Ob) → Prop) (s : St) : Prop := resK s rs fun ps => match ps with
  | [(true, l)] => K (.agg l) s.o
  | [(false, [a])] => K (.c a) s.o
  | [] => K (.tup []) s.o
  | p :: q :: r => K (.tup (p :: q :: r)) s.o
  | _ => False
def inlE (rs : List R) (K : AV → (Nat → Ob) → Prop) : Ex → St → Prop
  | .exit _, _ => False
  | _, s => RetI rs K s
end Go.Proofs.Ytbplebgnkhmemaa
