/- Texts for laws: E1. -/
import Derived.Test.YtmnpailnelmpiaaGreatQBase2
namespace Go.Proofs.YtmnpailnelmpiaaGreat
open Go.RowKit Go.Sort

inductive X where
  | t (n : Nat)
  | c (v : Value)
  | f (n : Nat)
inductive Cv where
  | num (k : IntKind)
  | bytes
  | text
inductive I where
  | mov (x : X)
  | pick (c a b : X)
  | box (ty n : Nat) (x : X)
  | alloc (ty : Nat) (zs : List Value)
  | bld (zs : List Value) (ps : List (Nat × Nat × X))
  | bsl (e size len : Nat) (ks : List (Option (Nat × Nat))) (ps : List (Nat × Nat × X))
  | ld (agg : Bool) (n : Nat) (x : X)
  | st (n : Nat) (ks : List (Option (Nat × Nat))) (a x : X)
  | fa (off : Nat) (x : X)
  | ia (size : Nat) (x i : X)
  | sidx (x i : X)
  | bin (op : BinOp) (ty : Nat) (x y : X)
  | beq (neg : Bool) (x y : X)
  | un (op : UnOp) (x : X)
  | cv (c : Cv) (e : Nat) (x : X)
  | len (str : Bool) (x : X)
  | app (e size bytes : Nat) (x y : X)
  | apps (e : Nat) (x y : X)
  | clr (size : Nat) (zs : List D) (x : X)
  | mm (mx : Bool) (x y : X)
  | mks (e size bytes : Nat) (zs : List D) (l c : X)
  | sl (size : Nat) (x : X) (lo hi : Option X)
  | ext (x : X) (i : Nat)
  | mkf (f : Nat) (caps : List X)
  | call (f : Nat) (args : List X)
  | callv (x : X) (args : List X)
structure Ins where
  d : Option Nat
  g : Option (Nat × Bool)
  i : I
/-- A region that draws its order: what is done first, where that is all the same; else all that may come first. -/
inductive T where
  | done
  | stop
  | pure (pid : Nat) (i : Ins) (t : T)
  | alt (i : Ins) (chk : List Nat) (t rest : T)
/-- Code, as far as the engine goes. -/
inductive C where
  | skip
  | reg (is : List Ins)
  | dreg (t : T)
  | seq (a b : C)
  | cond (x : X) (a b : C)
  | blk (id : Nat) (a : C)
  | loop (a : C)
  | exit (id : Nat)
  | ret
  | gh (a : C)
/-- Without the ghosts (places where the state may be said anew). -/
def C.er : C → C
  | .seq a b => .seq a.er b.er
  | .cond x a b => .cond x a.er b.er
  | .blk id a => .blk id a.er
  | .loop a => .loop a.er
  | .gh a => a.er
  | c => c
/-- A ghost at this place: 0, 1: the first or second part (of cond too), else the only part. -/
def C.ghAt : List Nat → C → C
  | [], c => .gh c
  | 0 :: p, .seq a b => .seq (a.ghAt p) b
  | _ :: p, .seq a b => .seq a (b.ghAt p)
  | 0 :: p, .cond x a b => .cond x (a.ghAt p) b
  | _ :: p, .cond x a b => .cond x a (b.ghAt p)
  | _ :: p, .blk id a => .blk id (a.ghAt p)
  | _ :: p, .loop a => .loop (a.ghAt p)
  | _, c => c

/-- What one cell holds. -/
inductive A0 where
  | v (x : Value)
  | ro (d : D)
  | rp (ds : List D)
  | h (g c : Nat) (p : List Nat) (x : Value)
  | bp (g c b : Nat)
  | ep (g c : Nat) (p : List Nat) (i : Nat) (x : Value)
  | un
  | hs (g c : Nat) (p : List Nat) (x : Value) (size lo n : Nat)
inductive AV where
  | c (a : A0)
  | agg (l : List A0)
  | fn (f : Nat) (caps : List A0)
  | tup (l : List (Bool × List A0))
  | unk
abbrev Heads := List Nat → Value
inductive Cell where
  | a (x : A0)
  | own (d : D) (η : Heads)
inductive Ob where
  | none
  | loose (d : D) (η : Heads)
  | box (b ty : Nat) (cs : List Cell)
structure St where
  t : Nat → AV
  o : Nat → Ob
structure Stamp where
  blk : Nat
  η : Nat → Heads
/-- What a call returns. -/
inductive RT where
  | c (d : D)
  | agg (ds : List D)
  | tup (l : List (Bool × List D))
/-- What a call is given. -/
inductive View where
  | c (d : D)
  | agg (ds : List D)
  | ptr (ds : List D)
  | fn (f : Nat) (caps : List (List D))

def D.get : List Nat → D → Option D
  | [], d => some d
  | i :: p, .sl _ _ cs => match cs[i]? with
    | some d => D.get p d
    | none => none
  | _ :: _, .val _ => none
def D.cells : D → List D
  | .sl _ _ cs => cs
  | .val _ => []
def D.size : D → Nat
  | .sl s _ _ => s
  | .val _ => 1
def D.isSl : D → Bool
  | .sl _ _ _ => true
  | .val _ => false
def D.len (d : D) : Nat := d.cells.length / d.size
/-- A part. -/
def D.sub (d : D) (l h : Nat) : D := match d with
  | .sl size ty cs => .sl size ty ((cs.drop (l * size)).take ((h - l) * size))
  | .val u => .val u
def D.elem (d : D) (k : Nat) : List D := (d.cells.drop (k * d.size)).take d.size
def D.toRo : D → A0
  | .val u => .v u
  | .sl s t cs => .ro (.sl s t cs)
/-- A cell of own memory, as a handle. -/
def D.toOwn (d : D) (g c : Nat) (p : List Nat) (η : Heads) : A0 := match d with
  | .val u => .v u
  | .sl _ _ _ => .h g c p (η p)
def D.obj (d : D) (g : Nat) (η : Heads) : List (Nat × Ob) := match d with
  | .val _ => []
  | .sl s t cs => [(g, .loose (.sl s t cs) η)]
def ownL (g : Nat) (η : Nat → Heads) : Nat → List D → List A0
  | _, [] => []
  | j, d :: ds => d.toOwn (g + j) 0 [] (η j) :: ownL g η (j + 1) ds
def objL (g : Nat) (η : Nat → Heads) : Nat → List D → List (Nat × Ob)
  | _, [] => []
  | j, d :: ds => d.obj (g + j) (η j) ++ objL g η (j + 1) ds
def ownT (g : Nat) (η : Nat → Heads) : Nat → List (Bool × List D) → List (Bool × List A0)
  | _, [] => []
  | j, (b, ds) :: l => (b, ownL g η j ds) :: ownT g η (j + ds.length) l
def RT.flat : RT → List D
  | .c d => [d]
  | .agg ds => ds
  | .tup l => l.flatMap (·.2)
def RT.av (g : Nat) (η : Nat → Heads) : RT → AV
  | .c d => .c (d.toOwn g 0 [] (η 0))
  | .agg ds => .agg (ownL g η 0 ds)
  | .tup l => .tup (ownT g η 0 l)

def Ob.own : Ob → Nat → Option (D × Heads)
  | .loose d η, 0 => some (d, η)
  | .box _ _ cs, c => match cs[c]? with
    | some (.own d η) => some (d, η)
    | _ => Option.none
  | _, _ => Option.none
/-- What is left when the own slice at c is taken away. -/
def rmC (cs : List Cell) (c : Nat) : Option Cell → List Cell
  | some (.own _ η) => cs.set c (.a (.v (η [])))
  | _ => cs
def Ob.rm : Ob → Nat → Ob
  | .box b ty cs, c => .box b ty (rmC cs c cs[c]?)
  | .loose d η, c => if c = 0 then .none else .loose d η
  | .none, _ => .none

namespace St
def ev (s : St) : X → AV
  | .t n => s.t n
  | .c v => match v with
    | .agg cs => .agg (cs.toList.map .v)
    | v => .c (.v v)
  | .f n => .fn n []
def put (s : St) (d : Option Nat) (v : AV) : St := match d with
  | some d => ⟨fun n => if n = d then v else s.t n, s.o⟩
  | none => s
def setO (s : St) (g : Nat) (ob : Ob) : St := ⟨s.t, fun k => if k = g then ob else s.o k⟩
def addO (s : St) : List (Nat × Ob) → St
  | [] => s
  | (g, ob) :: l => (s.setO g ob).addO l
def rm (s : St) (g c : Nat) : St := s.setO g ((s.o g).rm c)
end St

/-- This cell holds that datum. -/
def Is (s : St) : A0 → D → Prop
  | .v x, d => d = .val x ∨ (x = .slice none 0 0 ∧ ∃ size ty, d = .sl size ty [])
  | .ro d', d => d = d'
  | .h g c p x, d => ∃ d0 η, (s.o g).own c = some (d0, η) ∧ η p = x ∧ D.get p d0 = some d ∧ d.isSl = true
  | .hs g c p x size lo n, d => ∃ d0 η dd, (s.o g).own c = some (d0, η) ∧ η p = x ∧ D.get p d0 = some dd ∧ dd.isSl = true ∧ dd.size = size ∧ 0 < size ∧ lo + n ≤ dd.len ∧ d = dd.sub lo (lo + n)
  | _, _ => False
/-- The same, for a cell that leads nowhere. -/
def IsP : A0 → D → Prop
  | .v x, d => d = .val x ∨ (x = .slice none 0 0 ∧ ∃ size ty, d = .sl size ty [])
  | .ro d', d => d = d'
  | _, _ => False
def IsL (s : St) : List A0 → List D → Prop
  | [], [] => True
  | a :: l, d :: ds => Is s a d ∧ IsL s l ds
  | _, _ => False
/-- A pointer behind which these data stand. -/
def Ptr (s : St) : A0 → List D → Prop
  | .rp ds', ds => ds' = ds
  | .bp g c b, ds => ∃ ty cs, s.o g = .box b ty cs ∧ ∃ l, (cs.drop c).take ds.length = l ∧ go s g b l c ds
  | _, _ => False
where go (s : St) (g b : Nat) : List Cell → Nat → List D → Prop
  | [], _, [] => True
  | .a x :: l, c, d :: ds => IsP x d ∧ go s g b l (c + 1) ds
  | .own d' _ :: l, c, d :: ds => d' = d ∧ go s g b l (c + 1) ds
  | _, _, _ => False
def PtrL (s : St) : List A0 → List (List D) → Prop
  | [], [] => True
  | a :: l, d :: ds => Ptr s a d ∧ PtrL s l ds
  | _, _ => False
def ArgIs (s : St) : AV → View → Prop
  | .c a, .c d => Is s a d
  | .agg l, .agg ds => IsL s l ds
  | .c a, .ptr ds => Ptr s a ds
  | .fn f caps, .fn f' caps' => f = f' ∧ PtrL s caps caps'
  | _, _ => False
def ArgsAre (s : St) : List AV → List View → Prop
  | [], [] => True
  | a :: l, v :: vs => ArgIs s a v ∧ ArgsAre s l vs
  | _, _ => False

/-- What may be stored as it is. -/
def A0.one : A0 → Bool
  | .v x => x.oneCell'
  | .h _ _ _ _ => false
  | _ => true
/-- Own slices that are moved away. -/
def TakeK (s : St) : List A0 → (List Cell → St → Prop) → Prop
  | [], K => K [] s
  | .h g c p x :: l, K => p = [] ∧ ∃ d η, (s.o g).own c = some (d, η) ∧ η [] = x ∧ TakeK (s.rm g c) l (fun cs s' => K (.own d η :: cs) s')
  | a :: l, K => a.one = true ∧ TakeK s l (fun cs s' => K (.a a :: cs) s')
/-- One cell. -/
def A0.c1 : A0 → Bool
  | .v x => x.oneCell'
  | _ => true
def AV.cells : AV → Option (List A0)
  | .c a => if a.c1 then some [a] else none
  | .agg l => some l
  | _ => none
def setAt {α : Type} : List α → Nat → List α → List α
  | xs, _, [] => xs
  | xs, o, v :: r => setAt (xs.set o v) (o + 1) r

def intBin (op : BinOp) (k : IntKind) (a b : Int) : Value := match op with
  | .add => .int k (k.wrap (a + b))
  | .sub => .int k (k.wrap (a - b))
  | .mul => .int k (k.wrap (a * b))
  | .quo => .int k (k.wrap (a.tdiv b))
  | .rem => .int k (a.tmod b)
  | .and => .int k (k.wrap ((BitVec.ofInt k.bits a &&& BitVec.ofInt k.bits b).toNat))
  | .or => .int k (k.wrap ((BitVec.ofInt k.bits a ||| BitVec.ofInt k.bits b).toNat))
  | .xor => .int k (k.wrap ((BitVec.ofInt k.bits a ^^^ BitVec.ofInt k.bits b).toNat))
  | .andNot => .int k (k.wrap ((BitVec.ofInt k.bits a &&& ~~~ BitVec.ofInt k.bits b).toNat))
  | .shl => .int k (k.wrap (a * 2 ^ (min b.toNat k.bits)))
  | .shr => .int k (a.fdiv (2 ^ (min b.toNat k.bits)))
  | .eql => .bool (a == b)
  | .neq => .bool (a != b)
  | .lss => .bool (decide (a < b))
  | .leq => .bool (decide (a ≤ b))
  | .gtr => .bool (decide (a > b))
  | .geq => .bool (decide (a ≥ b))
/-- The conditions: kinds alike (but for shifts), no division by 0, no shift below 0. -/
def intOk (op : BinOp) (k k' : IntKind) (b : Int) : Prop := match op with
  | .shl | .shr => 0 ≤ b
  | .quo | .rem => k = k' ∧ b ≠ 0
  | _ => k = k'
def BinR (op : BinOp) : Value → Value → Value → Prop
  | .int k a, .int k' b, v => intOk op k k' b ∧ v = intBin op k a b
  | .string a, .string b, v => match op with
    | .add => a.size + b.size ≤ maxLen ∧ v = .string (a ++ b)
    | .eql => v = .bool (a.toList == b.toList)
    | .neq => v = .bool (!(a.toList == b.toList))
    | _ => False
  | _, _, _ => False
/-- Structs of one type, compared: as the model's run says. -/
def EqR (P : Program) (op : BinOp) (ty : Nat) (xs ys : List Value) (b : Bool) : Prop :=
  ∀ w, (binOp op ty (.agg xs.toArray) (.agg ys.toArray)).run P w = .ok (.bool b) w ∧ ∀ x y, (eqGuard op ty x y (.agg xs.toArray) (.agg ys.toArray)).run P w = .ok () w
def valsOf : List A0 → Option (List Value)
  | [] => some []
  | .v x :: l => match valsOf l with
    | some r => some (x :: r)
    | none => none
  | _ :: _ => none

def byteVal (b : UInt8) : D := .val (.int .u8 b.toNat)
end Go.Proofs.YtmnpailnelmpiaaGreat
