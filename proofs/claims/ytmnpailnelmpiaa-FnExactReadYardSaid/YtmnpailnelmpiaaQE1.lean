/- Parts. -/
import Derived.Test.YtmnpailnelmpiaaQBase2
set_option linter.unusedSimpArgs false
set_option linter.unusedVariables false
namespace Go.Proofs.Ytmnpailnelmpiaa
open Go.RowKit Go.Sort
inductive X where
 |t (n:Nat)
 |c (v:Value)
 |f (n:Nat)
inductive Cv where
 |num (k:IntKind)
 |bytes
 |text
inductive I where
 |mov (x:X)
 |pick (c a b:X)
 |box (ty n:Nat) (x:X)
 |alloc (ty:Nat) (zs:List Value)
 |bld (zs:List Value) (ps:List (Nat×Nat×X))
 |bsl (e size len:Nat) (ks:List (Option (Nat×Nat))) (ps:List (Nat×Nat×X))
 |ld (agg:Bool) (n:Nat) (x:X)
 |st (n:Nat) (ks:List (Option (Nat×Nat))) (a x:X)
 |fa (off:Nat) (x:X)
 |ia (size:Nat) (x i:X)
 |sidx (x i:X)
 |bin (op:BinOp) (ty:Nat) (x y:X)
 |beq (neg:Bool) (x y:X)
 |un (op:UnOp) (x:X)
 |cv (c:Cv) (e:Nat) (x:X)
 |len (str:Bool) (x:X)
 |app (e size bytes:Nat) (x y:X)
 |apps (e:Nat) (x y:X)
 |clr (size:Nat) (zs:List D) (x:X)
 |mm (mx:Bool) (x y:X)
 |mks (e size bytes:Nat) (zs:List D) (l c:X)
 |sl (size:Nat) (x:X) (lo hi:Option X)
 |ext (x:X) (i:Nat)
 |mkf (f:Nat) (caps:List X)
 |call (f:Nat) (args:List X)
 |callv (x:X) (args:List X)
structure Ins where
 d:Option Nat
 g:Option (Nat×Bool)
 i:I
abbrev iA (d:Nat) (i:I):Ins:=⟨some d,none,i⟩
abbrev iB (d g:Nat) (w:Bool) (i:I):Ins:=⟨some d,some (g,w),i⟩
abbrev iC (i:I):Ins:=⟨none,none,i⟩
abbrev iM (n:Nat):I:=.mov (.t n)
abbrev iN (n:Int):I:=.mov (.c (.int .i64 n))
abbrev iO (b:Bool):I:=.mov (.c (.bool b))
abbrev iL (n:Nat):I:=.ld false 1 (.t n)
abbrev iT (k n:Nat):I:=.ld true k (.t n)
abbrev iF (k n:Nat):I:=.fa k (.t n)
abbrev iI (k a b:Nat):I:=.ia k (.t a) (.t b)
abbrev iP (o:BinOp) (k a b:Nat):I:=.bin o k (.t a) (.t b)
abbrev iQ (o:BinOp) (k a:Nat) (v:Int):I:=.bin o k (.t a) (.c (.int .i64 v))
abbrev iE (a k:Nat):I:=.ext (.t a) k
abbrev iG (a:Nat):I:=.len false (.t a)
abbrev iU (a:Nat):I:=.un .not (.t a)
inductive T where
 |done
 |stop
 |pure (pid:Nat) (i:Ins) (t:T)
 |alt (i:Ins) (chk:List Nat) (t rest:T)
inductive C where
 |skip
 |reg (is:List Ins)
 |dreg (t:T)
 |seq (a b:C)
 |cond (x:X) (a b:C)
 |blk (id:Nat) (a:C)
 |loop (a:C)
 |exit (id:Nat)
 |ret
 |gh (a:C)
abbrev iS (l:List Ins) (c:C):C:=.seq (.reg l) c
abbrev iD (a:Nat) (x y:C):C:=.cond (.t a) x y
def C.er:C→C
 |.seq a b=>.seq a.er b.er
 |.cond x a b=>.cond x a.er b.er
 |.blk id a=>.blk id a.er
 |.loop a=>.loop a.er
 |.gh a=>a.er
 |c=>c
def C.ghAt:List Nat→C→C
 |[],c=>.gh c
 |0::p,.seq a b=>.seq (a.ghAt p) b
 |_::p,.seq a b=>.seq a (b.ghAt p)
 |0::p,.cond x a b=>.cond x (a.ghAt p) b
 |_::p,.cond x a b=>.cond x a (b.ghAt p)
 |_::p,.blk id a=>.blk id (a.ghAt p)
 |_::p,.loop a=>.loop (a.ghAt p)
 |_,c=>c
inductive A0 where
 |v (x:Value)
 |ro (d:D)
 |rp (ds:List D)
 |h (g c:Nat) (p:List Nat) (x:Value)
 |bp (g c b:Nat)
 |ep (g c:Nat) (p:List Nat) (i:Nat) (x:Value)
 |un
 |hs (g c:Nat) (p:List Nat) (x:Value) (size lo n:Nat)
inductive AV where
 |c (a:A0)
 |agg (l:List A0)
 |fn (f:Nat) (caps:List A0)
 |tup (l:List (Bool×List A0))
 |unk
abbrev jm:=List Nat→Value
inductive Cell where
 |a (x:A0)
 |own (d:D) (η:jm)
inductive Ob where
 |none
 |loose (d:D) (η:jm)
 |box (b ty:Nat) (cs:List Cell)
structure St where
 t:Nat→AV
 o:Nat→Ob
structure joM where
 blk:Nat
 η:Nat→jm
inductive RT where
 |c (d:D)
 |agg (ds:List D)
 |tup (l:List (Bool×List D))
inductive View where
 |c (d:D)
 |agg (ds:List D)
 |ptr (ds:List D)
 |fn (f:Nat) (caps:List (List D))
def D.get:List Nat→D→Option D
 |[],d=>some d
 |i::p,.sl _ _ cs=>match cs[i]? with
  |some d=>D.get p d
  |none=>none
 |_::_,.val _=>none
def D.cells:D→List D
 |.sl _ _ cs=>cs
 |.val _=>[]
def D.size:D→Nat
 |.sl s _ _=>s
 |.val _=>1
def D.isSl:D→Bool
 |.sl _ _ _=>true
 |.val _=>false
def D.len (d:D):Nat:=d.cells.length/d.size
def D.sub (d:D) (l h:Nat):D:=match d with
 |.sl size ty cs=>.sl size ty ((cs.drop (l*size)).take ((h-l)*size))
 |.val u=>.val u
def D.elem (d:D) (k:Nat):List D:=(d.cells.drop (k*d.size)).take d.size
def D.toRo:D→A0
 |.val u=>.v u
 |.sl s t cs=>.ro (.sl s t cs)
def D.toOwn (d:D) (g c:Nat) (p:List Nat) (η:jm):A0:=match d with
 |.val u=>.v u
 |.sl _ _ _=>.h g c p (η p)
def D.obj (d:D) (g:Nat) (η:jm):List (Nat×Ob):=match d with
 |.val _=>[]
 |.sl s t cs=>[(g,.loose (.sl s t cs) η)]
def juq (g:Nat) (η:Nat→jm):Nat→List D→List A0
 |_,[]=>[]
 |j,d::ds=>d.toOwn (g+j) 0 [] (η j)::juq g η (j+1) ds
def jg1 (g:Nat) (η:Nat→jm):Nat→List D→List (Nat×Ob)
 |_,[]=>[]
 |j,d::ds=>d.obj (g+j) (η j)++jg1 g η (j+1) ds
def jvo (g:Nat) (η:Nat→jm):Nat→List (Bool×List D)→List (Bool×List A0)
 |_,[]=>[]
 |j,(b,ds)::l=>(b,juq g η j ds)::jvo g η (j+ds.length) l
def RT.flat:RT→List D
 |.c d=>[d]
 |.agg ds=>ds
 |.tup l=>l.flatMap (·.2)
def RT.av (g:Nat) (η:Nat→jm):RT→AV
 |.c d=>.c (d.toOwn g 0 [] (η 0))
 |.agg ds=>.agg (juq g η 0 ds)
 |.tup l=>.tup (jvo g η 0 l)
def Ob.own:Ob→Nat→Option (D×jm)
 |.loose d η,0=>some (d,η)
 |.box _ _ cs,c=>match cs[c]? with
  |some (.own d η)=>some (d,η)
  |_=>Option.none
 |_,_=>Option.none
def rmC (cs:List Cell) (c:Nat):Option Cell→List Cell
 |some (.own _ η)=>cs.set c (.a (.v (η [])))
 |_=>cs
def Ob.rm:Ob→Nat→Ob
 |.box b ty cs,c=>.box b ty (rmC cs c cs[c]?)
 |.loose d η,c=>if c=0 then .none else .loose d η
 |.none,_=>.none
namespace St
def ev (s:St):X→AV
 |.t n=>s.t n
 |.c v=>match v with
  |.agg cs=>.agg (cs.toList.map .v)
  |v=>.c (.v v)
 |.f n=>.fn n []
def put (s:St) (d:Option Nat) (v:AV):St:=match d with
 |some d=>⟨fun n=>if n=d then v else s.t n,s.o⟩
 |none=>s
def setO (s:St) (g:Nat) (ob:Ob):St:=⟨s.t,fun k=>if k=g then ob else s.o k⟩
def addO (s:St):List (Nat×Ob)→St
 |[]=>s
 |(g,ob)::l=>(s.setO g ob).addO l
def rm (s:St) (g c:Nat):St:=s.setO g ((s.o g).rm c)
end St
def Is (s:St):A0→D→Prop
 |.v x,d=>d=.val x∨(x=.slice none 0 0∧∃size ty,d=.sl size ty [])
 |.ro d',d=>d=d'
 |.h g c p x,d=>∃d0 η,(s.o g).own c=some (d0,η)∧η p=x∧D.get p d0=some d∧d.isSl=true
 |.hs g c p x size lo n,d=>∃d0 η dd,(s.o g).own c=some (d0,η)∧η p=x∧D.get p d0=some dd∧dd.isSl=true∧dd.size=size∧0<size∧lo+n≤dd.len∧d=dd.sub lo (lo+n)
 |_,_=>False
def IsP:A0→D→Prop
 |.v x,d=>d=.val x∨(x=.slice none 0 0∧∃size ty,d=.sl size ty [])
 |.ro d',d=>d=d'
 |_,_=>False
def IsL (s:St):List A0→List D→Prop
 |[],[]=>True
 |a::l,d::ds=>Is s a d∧IsL s l ds
 |_,_=>False
def Ptr (s:St):A0→List D→Prop
 |.rp ds',ds=>ds'=ds
 |.bp g c b,ds=>∃ty cs,s.o g=.box b ty cs∧∃l,(cs.drop c).take ds.length=l∧go s g b l c ds
 |_,_=>False
where go (s:St) (g b:Nat):List Cell→Nat→List D→Prop
 |[],_,[]=>True
 |.a x::l,c,d::ds=>IsP x d∧go s g b l (c+1) ds
 |.own d' _::l,c,d::ds=>d'=d∧go s g b l (c+1) ds
 |_,_,_=>False
def jvk (s:St):List A0→List (List D)→Prop
 |[],[]=>True
 |a::l,d::ds=>Ptr s a d∧jvk s l ds
 |_,_=>False
def jj5 (s:St):AV→View→Prop
 |.c a,.c d=>Is s a d
 |.agg l,.agg ds=>IsL s l ds
 |.c a,.ptr ds=>Ptr s a ds
 |.fn f caps,.fn f' caps'=>f=f'∧jvk s caps caps'
 |_,_=>False
def vG (s:St):List AV→List View→Prop
 |[],[]=>True
 |a::l,v::vs=>jj5 s a v∧vG s l vs
 |_,_=>False
def A0.one:A0→Bool
 |.v x=>x.oneCell'
 |.h _ _ _ _=>false
 |_=>true
def ka (s:St):List A0→(List Cell→St→Prop)→Prop
 |[],K=>K [] s
 |.h g c p x::l,K=>p=[]∧∃d η,(s.o g).own c=some (d,η)∧η []=x∧ka (s.rm g c) l (fun cs s'=>K (.own d η::cs) s')
 |a::l,K=>a.one=true∧ka s l (fun cs s'=>K (.a a::cs) s')
def A0.c1:A0→Bool
 |.v x=>x.oneCell'
 |_=>true
def AV.cells:AV→Option (List A0)
 |.c a=>if a.c1 then some [a] else none
 |.agg l=>some l
 |_=>none
def kD {α:Type}:List α→Nat→List α→List α
 |xs,_,[]=>xs
 |xs,o,v::r=>kD (xs.set o v) (o+1) r
def zU (op:BinOp) (k:IntKind) (a b:Int):Value:=match op with
 |.add=>.int k (k.wrap (a+b))
 |.sub=>.int k (k.wrap (a-b))
 |.mul=>.int k (k.wrap (a*b))
 |.quo=>.int k (k.wrap (a.tdiv b))
 |.rem=>.int k (a.tmod b)
 |.and=>.int k (k.wrap ((BitVec.ofInt k.bits a&&&BitVec.ofInt k.bits b).toNat))
 |.or=>.int k (k.wrap ((BitVec.ofInt k.bits a|||BitVec.ofInt k.bits b).toNat))
 |.xor=>.int k (k.wrap ((BitVec.ofInt k.bits a^^^BitVec.ofInt k.bits b).toNat))
 |.andNot=>.int k (k.wrap ((BitVec.ofInt k.bits a&&&~~~BitVec.ofInt k.bits b).toNat))
 |.shl=>.int k (k.wrap (a*2^(min b.toNat k.bits)))
 |.shr=>.int k (a.fdiv (2^(min b.toNat k.bits)))
 |.eql=>.bool (a==b)
 |.neq=>.bool (a !=b)
 |.lss=>.bool (decide (a<b))
 |.leq=>.bool (decide (a≤b))
 |.gtr=>.bool (decide (a>b))
 |.geq=>.bool (decide (a≥b))
def jp8 (op:BinOp) (k k':IntKind) (b:Int):Prop:=match op with
 |.shl|.shr=>0≤b
 |.quo|.rem=>k=k'∧b≠0
 |_=>k=k'
def js7 (op:BinOp):Value→Value→Value→Prop
 |.int k a,.int k' b,v=>jp8 op k k' b∧v=zU op k a b
 |.string a,.string b,v=>match op with
  |.add=>a.size+b.size≤maxLen∧v=.string (a++b)
  |.eql=>v=.bool (a.toList==b.toList)
  |.neq=>v=.bool (!(a.toList==b.toList))
  |_=>False
 |_,_,_=>False
def EqR (P:Program) (op:BinOp) (ty:Nat) (xs ys:List Value) (b:Bool):Prop:=
 ∀w,(binOp op ty (.agg xs.toArray) (.agg ys.toArray)).run P w=.ok (.bool b) w∧∀x y,(eqGuard op ty x y (.agg xs.toArray) (.agg ys.toArray)).run P w=.ok () w
def jaj:List A0→Option (List Value)
 |[]=>some []
 |.v x::l=>match jaj l with
  |some r=>some (x::r)
  |none=>none
 |_::_=>none
def kR (b:UInt8):D:=.val (.int .u8 b.toNat)
end Go.Proofs.Ytmnpailnelmpiaa
