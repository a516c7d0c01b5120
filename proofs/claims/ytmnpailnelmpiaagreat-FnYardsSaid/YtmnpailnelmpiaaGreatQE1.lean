/- Parts. -/
import Derived.Test.YtmnpailnelmpiaaGreatQBase2
set_option linter.unusedSimpArgs false
set_option linter.unusedVariables false
namespace Go.Proofs.YtmnpailnelmpiaaGreat
open Go.RowKit Go.Sort
inductive X where
 |t (n:Nat)
 |c (v:Value)
 |f (n:Nat)
inductive Cv where
 |num (k:IntKind)
 |bytes
 |text
inductive I where
 |mov (x:X)
 |pick (c a b:X)
 |box (ty n:Nat) (x:X)
 |alloc (ty:Nat) (zs:List Value)
 |bld (zs:List Value) (ps:List (Nat×Nat×X))
 |bsl (e size len:Nat) (ks:List (Option (Nat×Nat))) (ps:List (Nat×Nat×X))
 |ld (agg:Bool) (n:Nat) (x:X)
 |st (n:Nat) (ks:List (Option (Nat×Nat))) (a x:X)
 |fa (off:Nat) (x:X)
 |ia (size:Nat) (x i:X)
 |sidx (x i:X)
 |bin (op:BinOp) (ty:Nat) (x y:X)
 |beq (neg:Bool) (x y:X)
 |un (op:UnOp) (x:X)
 |cv (c:Cv) (e:Nat) (x:X)
 |len (str:Bool) (x:X)
 |app (e size bytes:Nat) (x y:X)
 |apps (e:Nat) (x y:X)
 |clr (size:Nat) (zs:List D) (x:X)
 |mm (mx:Bool) (x y:X)
 |mks (e size bytes:Nat) (zs:List D) (l c:X)
 |sl (size:Nat) (x:X) (lo hi:Option X)
 |ext (x:X) (i:Nat)
 |mkf (f:Nat) (caps:List X)
 |call (f:Nat) (args:List X)
 |callv (x:X) (args:List X)
structure Ins where
 d:Option Nat
 g:Option (Nat×Bool)
 i:I
abbrev iA (d:Nat) (i:I):Ins:=⟨some d,none,i⟩
abbrev iB (d g:Nat) (w:Bool) (i:I):Ins:=⟨some d,some (g,w),i⟩
abbrev iC (i:I):Ins:=⟨none,none,i⟩
abbrev iM (n:Nat):I:=.mov (.t n)
abbrev iN (n:Int):I:=.mov (.c (.int .i64 n))
abbrev iO (b:Bool):I:=.mov (.c (.bool b))
abbrev iL (n:Nat):I:=.ld false 1 (.t n)
abbrev iT (k n:Nat):I:=.ld true k (.t n)
abbrev iF (k n:Nat):I:=.fa k (.t n)
abbrev iI (k a b:Nat):I:=.ia k (.t a) (.t b)
abbrev iP (o:BinOp) (k a b:Nat):I:=.bin o k (.t a) (.t b)
abbrev iQ (o:BinOp) (k a:Nat) (v:Int):I:=.bin o k (.t a) (.c (.int .i64 v))
abbrev iE (a k:Nat):I:=.ext (.t a) k
abbrev iG (a:Nat):I:=.len false (.t a)
abbrev iU (a:Nat):I:=.un .not (.t a)
inductive T where
 |done
 |stop
 |pure (pid:Nat) (i:Ins) (t:T)
 |alt (i:Ins) (chk:List Nat) (t rest:T)
inductive C where
 |skip
 |reg (is:List Ins)
 |dreg (t:T)
 |seq (a b:C)
 |cond (x:X) (a b:C)
 |blk (id:Nat) (a:C)
 |loop (a:C)
 |exit (id:Nat)
 |ret
 |gh (a:C)
abbrev iS (l:List Ins) (c:C):C:=.seq (.reg l) c
abbrev iD (a:Nat) (x y:C):C:=.cond (.t a) x y
def C.er:C→C
 |.seq a b=>.seq a.er b.er
 |.cond x a b=>.cond x a.er b.er
 |.blk id a=>.blk id a.er
 |.loop a=>.loop a.er
 |.gh a=>a.er
 |c=>c
def C.ghAt:List Nat→C→C
 |[],c=>.gh c
 |0::p,.seq a b=>.seq (a.ghAt p) b
 |_::p,.seq a b=>.seq a (b.ghAt p)
 |0::p,.cond x a b=>.cond x (a.ghAt p) b
 |_::p,.cond x a b=>.cond x a (b.ghAt p)
 |_::p,.blk id a=>.blk id (a.ghAt p)
 |_::p,.loop a=>.loop (a.ghAt p)
 |_,c=>c
inductive A0 where
 |v (x:Value)
 |ro (d:D)
 |rp (ds:List D)
 |h (g c:Nat) (p:List Nat) (x:Value)
 |bp (g c b:Nat)
 |ep (g c:Nat) (p:List Nat) (i:Nat) (x:Value)
 |un
 |hs (g c:Nat) (p:List Nat) (x:Value) (size lo n:Nat)
inductive AV where
 |c (a:A0)
 |agg (l:List A0)
 |fn (f:Nat) (caps:List A0)
 |tup (l:List (Bool×List A0))
 |unk
abbrev jq:=List Nat→Value
inductive Cell where
 |a (x:A0)
 |own (d:D) (η:jq)
inductive Ob where
 |none
 |loose (d:D) (η:jq)
 |box (b ty:Nat) (cs:List Cell)
structure St where
 t:Nat→AV
 o:Nat→Ob
structure juU where
 blk:Nat
 η:Nat→jq
inductive RT where
 |c (d:D)
 |agg (ds:List D)
 |tup (l:List (Bool×List D))
inductive View where
 |c (d:D)
 |agg (ds:List D)
 |ptr (ds:List D)
 |fn (f:Nat) (caps:List (List D))
def D.get:List Nat→D→Option D
 |[],d=>some d
 |i::p,.sl _ _ cs=>match cs[i]? with
  |some d=>D.get p d
  |none=>none
 |_::_,.val _=>none
def D.cells:D→List D
 |.sl _ _ cs=>cs
 |.val _=>[]
def D.size:D→Nat
 |.sl s _ _=>s
 |.val _=>1
def D.isSl:D→Bool
 |.sl _ _ _=>true
 |.val _=>false
def D.len (d:D):Nat:=d.cells.length/d.size
def D.sub (d:D) (l h:Nat):D:=match d with
 |.sl size ty cs=>.sl size ty ((cs.drop (l*size)).take ((h-l)*size))
 |.val u=>.val u
def D.elem (d:D) (k:Nat):List D:=(d.cells.drop (k*d.size)).take d.size
def D.toRo:D→A0
 |.val u=>.v u
 |.sl s t cs=>.ro (.sl s t cs)
def D.toOwn (d:D) (g c:Nat) (p:List Nat) (η:jq):A0:=match d with
 |.val u=>.v u
 |.sl _ _ _=>.h g c p (η p)
def D.obj (d:D) (g:Nat) (η:jq):List (Nat×Ob):=match d with
 |.val _=>[]
 |.sl s t cs=>[(g,.loose (.sl s t cs) η)]
def jAg (g:Nat) (η:Nat→jq):Nat→List D→List A0
 |_,[]=>[]
 |j,d::ds=>d.toOwn (g+j) 0 [] (η j)::jAg g η (j+1) ds
def jj6 (g:Nat) (η:Nat→jq):Nat→List D→List (Nat×Ob)
 |_,[]=>[]
 |j,d::ds=>d.obj (g+j) (η j)++jj6 g η (j+1) ds
def jBp (g:Nat) (η:Nat→jq):Nat→List (Bool×List D)→List (Bool×List A0)
 |_,[]=>[]
 |j,(b,ds)::l=>(b,jAg g η j ds)::jBp g η (j+ds.length) l
def RT.flat:RT→List D
 |.c d=>[d]
 |.agg ds=>ds
 |.tup l=>l.flatMap (·.2)
def RT.av (g:Nat) (η:Nat→jq):RT→AV
 |.c d=>.c (d.toOwn g 0 [] (η 0))
 |.agg ds=>.agg (jAg g η 0 ds)
 |.tup l=>.tup (jBp g η 0 l)
def Ob.own:Ob→Nat→Option (D×jq)
 |.loose d η,0=>some (d,η)
 |.box _ _ cs,c=>match cs[c]? with
  |some (.own d η)=>some (d,η)
  |_=>Option.none
 |_,_=>Option.none
def rmC (cs:List Cell) (c:Nat):Option Cell→List Cell
 |some (.own _ η)=>cs.set c (.a (.v (η [])))
 |_=>cs
def Ob.rm:Ob→Nat→Ob
 |.box b ty cs,c=>.box b ty (rmC cs c cs[c]?)
 |.loose d η,c=>if c=0 then .none else .loose d η
 |.none,_=>.none
namespace St
def ev (s:St):X→AV
 |.t n=>s.t n
 |.c v=>match v with
  |.agg cs=>.agg (cs.toList.map .v)
  |v=>.c (.v v)
 |.f n=>.fn n []
def put (s:St) (d:Option Nat) (v:AV):St:=match d with
 |some d=>⟨fun n=>if n=d then v else s.t n,s.o⟩
 |none=>s
def setO (s:St) (g:Nat) (ob:Ob):St:=⟨s.t,fun k=>if k=g then ob else s.o k⟩
def addO (s:St):List (Nat×Ob)→St
 |[]=>s
 |(g,ob)::l=>(s.setO g ob).addO l
def rm (s:St) (g c:Nat):St:=s.setO g ((s.o g).rm c)
end St
def Is (s:St):A0→D→Prop
 |.v x,d=>d=.val x∨(x=.slice none 0 0∧∃size ty,d=.sl size ty [])
 |.ro d',d=>d=d'
 |.h g c p x,d=>∃d0 η,(s.o g).own c=some (d0,η)∧η p=x∧D.get p d0=some d∧d.isSl=true
 |.hs g c p x size lo n,d=>∃d0 η dd,(s.o g).own c=some (d0,η)∧η p=x∧D.get p d0=some dd∧dd.isSl=true∧dd.size=size∧0<size∧lo+n≤dd.len∧d=dd.sub lo (lo+n)
 |_,_=>False
def IsP:A0→D→Prop
 |.v x,d=>d=.val x∨(x=.slice none 0 0∧∃size ty,d=.sl size ty [])
 |.ro d',d=>d=d'
 |_,_=>False
def IsL (s:St):List A0→List D→Prop
 |[],[]=>True
 |a::l,d::ds=>Is s a d∧IsL s l ds
 |_,_=>False
def Ptr (s:St):A0→List D→Prop
 |.rp ds',ds=>ds'=ds
 |.bp g c b,ds=>∃ty cs,s.o g=.box b ty cs∧∃l,(cs.drop c).take ds.length=l∧go s g b l c ds
 |_,_=>False
where go (s:St) (g b:Nat):List Cell→Nat→List D→Prop
 |[],_,[]=>True
 |.a x::l,c,d::ds=>IsP x d∧go s g b l (c+1) ds
 |.own d' _::l,c,d::ds=>d'=d∧go s g b l (c+1) ds
 |_,_,_=>False
def jwE (s:St):List A0→List (List D)→Prop
 |[],[]=>True
 |a::l,d::ds=>Ptr s a d∧jwE s l ds
 |_,_=>False
def jkk (s:St):AV→View→Prop
 |.c a,.c d=>Is s a d
 |.agg l,.agg ds=>IsL s l ds
 |.c a,.ptr ds=>Ptr s a ds
 |.fn f caps,.fn f' caps'=>f=f'∧jwE s caps caps'
 |_,_=>False
def zJ (s:St):List AV→List View→Prop
 |[],[]=>True
 |a::l,v::vs=>jkk s a v∧zJ s l vs
 |_,_=>False
def A0.one:A0→Bool
 |.v x=>x.oneCell'
 |.h _ _ _ _=>false
 |_=>true
def qA (s:St):List A0→(List Cell→St→Prop)→Prop
 |[],K=>K [] s
 |.h g c p x::l,K=>p=[]∧∃d η,(s.o g).own c=some (d,η)∧η []=x∧qA (s.rm g c) l (fun cs s'=>K (.own d η::cs) s')
 |a::l,K=>a.one=true∧qA s l (fun cs s'=>K (.a a::cs) s')
def A0.c1:A0→Bool
 |.v x=>x.oneCell'
 |_=>true
def AV.cells:AV→Option (List A0)
 |.c a=>if a.c1 then some [a] else none
 |.agg l=>some l
 |_=>none
def kC {α:Type}:List α→Nat→List α→List α
 |xs,_,[]=>xs
 |xs,o,v::r=>kC (xs.set o v) (o+1) r
def je7 (op:BinOp) (k:IntKind) (a b:Int):Value:=match op with
 |.add=>.int k (k.wrap (a+b))
 |.sub=>.int k (k.wrap (a-b))
 |.mul=>.int k (k.wrap (a*b))
 |.quo=>.int k (k.wrap (a.tdiv b))
 |.rem=>.int k (a.tmod b)
 |.and=>.int k (k.wrap ((BitVec.ofInt k.bits a&&&BitVec.ofInt k.bits b).toNat))
 |.or=>.int k (k.wrap ((BitVec.ofInt k.bits a|||BitVec.ofInt k.bits b).toNat))
 |.xor=>.int k (k.wrap ((BitVec.ofInt k.bits a^^^BitVec.ofInt k.bits b).toNat))
 |.andNot=>.int k (k.wrap ((BitVec.ofInt k.bits a&&&~~~BitVec.ofInt k.bits b).toNat))
 |.shl=>.int k (k.wrap (a*2^(min b.toNat k.bits)))
 |.shr=>.int k (a.fdiv (2^(min b.toNat k.bits)))
 |.eql=>.bool (a==b)
 |.neq=>.bool (a !=b)
 |.lss=>.bool (decide (a<b))
 |.leq=>.bool (decide (a≤b))
 |.gtr=>.bool (decide (a>b))
 |.geq=>.bool (decide (a≥b))
def jvV (op:BinOp) (k k':IntKind) (b:Int):Prop:=match op with
 |.shl|.shr=>0≤b
 |.quo|.rem=>k=k'∧b≠0
 |_=>k=k'
def jBn (op:BinOp):Value→Value→Value→Prop
 |.int k a,.int k' b,v=>jvV op k k' b∧v=je7 op k a b
 |.string a,.string b,v=>match op with
  |.add=>a.size+b.size≤maxLen∧v=.string (a++b)
  |.eql=>v=.bool (a.toList==b.toList)
  |.neq=>v=.bool (!(a.toList==b.toList))
  |_=>False
 |_,_,_=>False
def EqR (P:Program) (op:BinOp) (ty:Nat) (xs ys:List Value) (b:Bool):Prop:=
 ∀w,(binOp op ty (.agg xs.toArray) (.agg ys.toArray)).run P w=.ok (.bool b) w∧∀x y,(eqGuard op ty x y (.agg xs.toArray) (.agg ys.toArray)).run P w=.ok () w
def jb7:List A0→Option (List Value)
 |[]=>some []
 |.v x::l=>match jb7 l with
  |some r=>some (x::r)
  |none=>none
 |_::_=>none
def qY (b:UInt8):D:=.val (.int .u8 b.toNat)
def ViewRel (w:World):View→Value→Prop
 |.c d,x=>∃S,Rep w false d x S
 |.agg ds,x=>∃S,AggRep w false ds x S
 |.ptr ds,x=>CellsAt w ds x
 |.fn f caps,x=>∃xs:List Value,x=.func (.func f) #[] xs.toArray∧All2 caps xs
where
 CellsAt (w:World) (ds:List D) (x:Value):Prop:=∃b o us S,x=.pointer (some ⟨b,o,none⟩)∧RepL w false ds us S∧∀j u,us[j]?=some u→w.cell? ⟨b,o+j,none⟩=some u
 All2:List (List D)→List Value→Prop
  |[],xs=>xs=[]
  |ds::l,xs=>∃x xs',xs=x::xs'∧CellsAt w ds x∧All2 l xs'
def zx (w:World):List View→List Value→Prop
 |[],xs=>xs=[]
 |v::l,xs=>∃x xs',xs=x::xs'∧ViewRel w v x∧zx w l xs'
def jqK (w:World):List (Bool×List D)→List Value→List Nat→Prop
 |[],xs,S=>xs=[]∧S=[]
 |(b,ds)::l,xs,S=>∃x xs' us S1 S2,xs=x::xs'∧S=S1++S2∧RepL w true ds us S1∧(if b then x=.agg us.toArray else us=[x])∧jqK w l xs' S2
def jjL (w:World):RT→Value→List Nat→Prop
 |.c d,x,S=>Rep w true d x S
 |.agg ds,x,S=>AggRep w true ds x S
 |.tup l,x,S=>∃xs,x=.tuple xs.toArray∧jqK w l xs S
def joa (P:Program) (f:FuncId):Prop:=∃fn,P.funcs[f]?=some fn∧fn.body.isSome=true∧(fn.name != "runtime.NumGoroutine")=true
def kp (P:Program) (f:FuncId) (vs:List View) (rt:RT):Prop:=
 joa P f∧∀w xs,zx w vs xs→Calls P f xs.toArray w fun e w'=>∃v S,e=.returned v∧jjL w' rt v S∧Fresh w.heap.size S∧Below w.heap.size w w'
def jdl (g:Nat):Nat→List Cell→List A0
 |_,[]=>[]
 |c,.a x::l=>x::jdl g (c+1) l
 |c,.own _ η::l=>.h g c [] (η [])::jdl g (c+1) l
def jgo (g c:Nat) (p:List Nat) (η:jq):Nat→List D→List A0
 |_,[]=>[]
 |i,d::l=>d.toOwn g c (p++[i]) η::jgo g c p η (i+1) l
def zR (s:St) (n:Nat) (l:List A0):AV→Prop
 |.c (.rp ds)=>n≤ds.length∧l=(ds.take n).map D.toRo
 |.c (.bp g c b)=>∃ty cs,s.o g=.box b ty cs∧c+n≤cs.length∧l=jdl g c ((cs.drop c).take n)
 |.c (.ep g c p i x)=>∃d0 η d,(s.o g).own c=some (d0,η)∧η p=x∧D.get p d0=some d∧d.isSl=true∧i+n≤d.cells.length∧l=jgo g c p η i ((d.cells.drop i).take n)
 |_=>False
def jhA (s:St):List A0→List (Nat×Nat×X)→Option (List A0)
 |cs,[]=>some cs
 |cs,(off,size,x)::ps=>match (s.ev x).cells with
  |some l=>if l.length=size∧off+size≤cs.length then jhA s (kC cs off l) ps else none
  |none=>none
def jr3 (s:St):List (Nat×Nat×X)→Option (List A0)
 |[]=>some []
 |(_,size,x)::ps=>match (s.ev x).cells,jr3 s ps with
  |some l,some r=>if l.length=size then some (l++r) else none
  |_,_=>none
def jsc (s:St) (str:Bool) (a:AV) (n:Nat):Prop:=match str,a with
 |true,.c (.v (.string b))=>n=b.size
 |false,.c (.v (.slice none 0 0))=>n=0
 |false,.c (.ro d)=>d.isSl=true∧0<d.size∧n=d.len
 |false,.c (.h g c p x)=>∃d,Is s (.h g c p x) d∧0<d.size∧n=d.len
 |false,.c (.hs g c p x size lo m)=>(∃d,Is s (.hs g c p x size lo m) d)∧n=m
 |_,_=>False
def jf3 (s:St) (x:Option X) (dflt:Nat) (n:Nat):Prop:=match x with
 |none=>n=dflt
 |some x=>∃k,s.ev x=.c (.v (.int k (n:Int)))
def jbO (s:St):List X→Option (List A0)
 |[]=>some []
 |x::l=>match s.ev x,jbO s l with
  |.c a,some r=>some (a::r)
  |_,_=>none
def Gen (P:Program) (s:St) (d:Nat) (rt:RT) (st:juU):I→AV→List (Nat×Ob)→Prop
 |.mov x,av,os=>av=s.ev x∧os=[]
 |.pick c a b,av,os=>∃t,s.ev c=.c (.v (.bool t))∧av=(if t then s.ev a else s.ev b)∧os=[]
 |.alloc ty zs,av,os=>av=.c (.bp (100*d) 0 st.blk)∧os=[(100*d,.box st.blk ty (zs.map fun z=>.a (.v z)))]
 |.bld zs ps,av,os=>∃l,jhA s (zs.map .v) ps=some l∧av=.agg l∧os=[]
 |.ld agg n x,av,os=>∃l,zR s n l (s.ev x)∧(if agg then av=.agg l else∃a,l=[a]∧av=.c a)∧os=[]
 |.fa off x,av,os=>(match s.ev x with
  |.c (.rp ds)=>av=.c (.rp (ds.drop off))
  |.c (.bp g c b)=>av=.c (.bp g (c+off) b)
  |.c (.ep g c p i x)=>av=.c (.ep g c p (i+off) x)
  |_=>False)∧os=[]
 |.ia size x i,av,os=>∃k n,s.ev i=.c (.v (.int k n))∧0≤n∧(match s.ev x with
  |.c (.ro d)=>d.isSl=true∧d.size=size∧n.toNat<d.len∧av=.c (.rp (d.elem n.toNat))
  |.c (.h g c p hx)=>(∃d,Is s (.h g c p hx) d∧d.size=size∧n.toNat<d.len)∧av=.c (.ep g c p (n.toNat*size) hx)
  |.c (.hs g c p hx sz lo m)=>(∃d,Is s (.hs g c p hx sz lo m) d)∧sz=size∧n.toNat<m∧av=.c (.ep g c p ((lo+n.toNat)*size) hx)
  |_=>False)∧os=[]
 |.sidx x i,av,os=>∃b k n u,s.ev x=.c (.v (.string b))∧s.ev i=.c (.v (.int k n))∧0≤n∧b[n.toNat]?=some u∧av=.c (.v (.int .u8 u.toNat))∧os=[]
 |.bin op ty x y,av,os=>((∃a b v,s.ev x=.c (.v a)∧s.ev y=.c (.v b)∧jBn op a b v∧av=.c (.v v))∨
  (∃l m xs ys b,s.ev x=.agg l∧s.ev y=.agg m∧jb7 l=some xs∧jb7 m=some ys∧EqR P op ty xs ys b∧av=.c (.v (.bool b))))∧os=[]
 |.beq neg x y,av,os=>∃a b,s.ev x=.c (.v (.bool a))∧s.ev y=.c (.v (.bool b))∧av=.c (.v (.bool (if neg then !(a==b) else a==b)))∧os=[]
 |.un op x,av,os=>(match op with
  |.not=>∃b,s.ev x=.c (.v (.bool b))∧av=.c (.v (.bool (!b)))
  |.neg=>∃k n,s.ev x=.c (.v (.int k n))∧av=.c (.v (.int k (k.wrap (0-n))))
  |_=>False)∧os=[]
 |.cv c _ x,av,os=>(match c with
  |.num k=>∃k' n,s.ev x=.c (.v (.int k' n))∧av=.c (.v (.int k (k.wrap n)))
  |.text=>∃(a:A0) (ty:Nat) (bs:List UInt8),s.ev x=.c a∧Is s a (.sl 1 ty (bs.map qY))∧av=.c (.v (.string ⟨bs.toArray⟩))
  |.bytes=>False)∧os=[]
 |.len str x,av,os=>∃n,jsc s str (s.ev x) n∧av=.c (.v (.int .i64 n))∧os=[]
 |.mm mx x y,av,os=>∃k k' a b,s.ev x=.c (.v (.int k a))∧s.ev y=.c (.v (.int k' b))∧av=.c (.v (.int k (if mx then (if b>a then b else a) else (if b<a then b else a))))∧os=[]
 |.mks e size bytes zs l c,av,os=>∃(k k':IntKind) (n:Nat),s.ev l=.c (.v (.int k (n:Int)))∧s.ev c=.c (.v (.int k' (n:Int)))∧bytes*n≤281474976710656∧n≤maxLen∧
  av=.c (.h (100*d) 0 [] (st.η 0 []))∧os=[(100*d,.loose (.sl size e ((List.replicate n zs).flatten)) (st.η 0))]
 |.sl size x lo hi,av,os=>∃l h,jf3 s lo 0 l∧l≤h∧(match s.ev x with
  |.c (.v (.string b))=>size=0∧jf3 s hi b.size h∧h≤b.size∧av=.c (.v (.string (b.extract l h)))
  |.c (.ro d)=>0<size∧d.isSl=true∧d.size=size∧jf3 s hi d.len h∧h≤d.len∧av=.c (.ro (d.sub l h))
  |.c (.h g c p hx)=>0<size∧(∃d,Is s (.h g c p hx) d∧d.size=size∧jf3 s hi d.len h∧h≤d.len)∧av=.c (.hs g c p hx size l (h-l))
  |.c (.hs g c p hx sz lo m)=>(∃d,Is s (.hs g c p hx sz lo m) d)∧sz=size∧jf3 s hi m h∧h≤m∧av=.c (.hs g c p hx size (lo+l) (h-l))
  |_=>False)∧os=[]
 |.ext x i,av,os=>∃l b az,s.ev x=.tup l∧l[i]?=some (b,az)∧(if b then av=.agg az else∃a,az=[a]∧av=.c a)∧os=[]
 |.mkf f caps,av,os=>∃l,jbO s caps=some l∧av=.fn f l∧os=[]
 |.call f args,av,os=>∃vs,zJ s (args.map s.ev) vs∧kp P f vs rt∧av=rt.av (100*d) st.η∧os=jj6 (100*d) st.η 0 rt.flat
 |.callv x args,av,os=>∃f caps vs,s.ev x=.fn f caps∧zJ s (args.map s.ev++caps.map .c) vs∧kp P f vs rt∧av=rt.av (100*d) st.η∧os=jj6 (100*d) st.η 0 rt.flat
 |_,_,_=>False
def jpV (k:Option (Nat×Nat)) (x:Value):D:=match k,x with
 |some (size,ty),.slice none 0 0=>.sl size ty []
 |_,x=>.val x
def jrw:List (Option (Nat×Nat))→List Value→List D
 |_,[]=>[]
 |ks,x::l=>jpV (ks.head?.getD none) x::jrw ks.tail l
def zO:List (Option (Nat×Nat))→List Cell→Option (List D)
 |_,[]=>some []
 |ks,.a (.v x)::l=>match zO ks.tail l with
  |some r=>some (jpV (ks.head?.getD none) x::r)
  |none=>none
 |ks,.own d _::l=>match zO ks.tail l with
  |some r=>some (d::r)
  |none=>none
 |_,_::_=>none
def ka:List D→Bool
 |[]=>true
 |.val u::l=>u.oneCell'&&ka l
 |_::_=>false
def jiZ:List D→Bool
 |[]=>true
 |.val u::l=>u.oneCell'&&jiZ l
 |.sl _ _ _::l=>jiZ l
def strCells (b:ByteArray):List D:=b.data.toList.map qY
def Ob.putOwn:Ob→Nat→D→jq→Ob
 |.loose _ _,_,d,η=>.loose d η
 |.box b ty cs,c,d,η=>.box b ty (cs.set c (.own d η))
 |.none,_,_,_=>.none
def jh7 (s:St) (e size:Nat) (a:AV) (K:List D→St→Prop):Prop:=match a with
 |.c (.v (.slice none 0 0))=>K [] s
 |.c (.h g c p x)=>(p=[]∧∃cs η,(s.o g).own c=some (.sl size e cs,η)∧η []=x∧K cs (s.rm g c))∨
  ∃k,p=[k]∧∃sz tyo ds0 cs η,(s.o g).own c=some (.sl sz tyo ds0,η)∧ds0[k]?=some (.sl size e cs)∧η [k]=x∧∀η',η' []=η []→K cs (s.setO g ((s.o g).putOwn c (.sl sz tyo (ds0.set k (.val x))) η'))
 |_=>False
def juV (s:St) (size:Nat) (a:AV) (K:List D→St→Prop):Prop:=match a with
 |.c (.v (.slice none 0 0))=>K [] s
 |.c (.ro d)=>d.isSl=true∧d.size=size∧ka d.cells=true∧K d.cells s
 |.c (.hs g c p x sz lo m)=>∃d,Is s (.hs g c p x sz lo m) d∧d.size=size∧ka d.cells=true∧K d.cells s
 |.c (.h g c p x)=>∃d,Is s (.h g c p x) d∧d.size=size∧(if ka d.cells=true then K d.cells s else p=[]∧jiZ d.cells=true∧K d.cells (s.rm g c))
 |_=>False
def View.av:View→AV
 |.c d=>.c d.toRo
 |.agg ds=>.agg (ds.map D.toRo)
 |.ptr ds=>.c (.rp ds)
 |.fn f caps=>.fn f (caps.map .rp)
def St.init (vs:List View):St:=⟨fun n=>((vs.map View.av)[n]?).getD .unk,fun _=>.none⟩
inductive R where
 |t (n:Nat)
 |cell (n:Nat) (agg:Bool) (size:Nat)
def jhv (s:St):List R→(List (Bool×List A0)→Prop)→Prop
 |[],K=>K []
 |.t n::rs,K=>match s.t n with
  |.agg l=>jhv s rs fun ps=>K ((true,l)::ps)
  |.c a=>jhv s rs fun ps=>K ((false,[a])::ps)
  |_=>False
 |.cell n agg size::rs,K=>∃l,zR s size l (s.t n)∧(agg=true∨l.length=1)∧jhv s rs fun ps=>K ((agg,l)::ps)
def jao:RT→List (Bool×List A0)→Prop
 |.c _,ps=>∃a,ps=[(false,[a])]
 |.agg _,ps=>∃l,ps=[(true,l)]
 |.tup l,ps=>ps.length≠1∧ps.map (fun p=>(p.1,p.2.length))=l.map (fun p=>(p.1,p.2.length))
def IsD:List Cell→List D→Prop
 |[],ds=>ds=[]
 |.a (.v x)::l,d::ds=>(d=.val x∨x=.slice none 0 0∧∃size ty,d=.sl size ty [])∧IsD l ds
 |.own d' _::l,d::ds=>d'=d∧IsD l ds
 |_,_=>False
def jwD (rs:List R) (rt:RT) (s:St):Prop:=jhv s rs fun ps=>jao rt ps∧qA s (ps.flatMap (·.2)) fun cs _=>IsD cs rt.flat
def jgk:Value→Bool
 |.agg cs=>cs.toList.all (·.oneCell')
 |.tuple _=>false
 |_=>true
def jQ:Operand→Option X
 |.tmp t=>some (.t t)
 |.const v=>if jgk v then some (.c v) else none
 |.func f=>some (.f f)
 |.global _=>none
def zd:List Operand→Option (List X)
 |[]=>some []
 |x::l=>match jQ x,zd l with
  |some x,some l=>some (x::l)
  |_,_=>none
def jcD (off:Nat→Option (Nat×Nat)):List (Nat×Operand)→Option (List (Nat×Nat×X))
 |[]=>some []
 |(i,x)::l=>match off i,jQ x,jcD off l with
  |some (o,n),some x,some l=>some ((o,n,x)::l)
  |_,_,_=>none
def vt (P:Program) (t:TypeId):Option (List Value):=match P.info? t with
 |some i=>match i.zero with
  |some z=>if z.cells.size=i.size&&z.cells.toList.all (·.oneCell') then some z.cells.toList else none
  |none=>none
 |none=>none
def qf (P:Program) (t:TypeId):Option Nat:=(P.info? t).map (·.size)
def ji5 (P:Program):Nat→TypeId→List (Option (Nat×Nat))
 |0,_=>[]
 |n+1,t=>match P.underlying t with
  |some (.slice e)=>[(qf P e).map fun k=>(k,e)]
  |some (.struct fs)=>fs.toList.flatMap fun f=>ji5 P n f.type
  |_=>List.replicate ((qf P t).getD 1) none
def jmg (P:Program) (c:Call):Option I:=match c.callee,c.args.toList with
 |.builtin .len,[x]=>match (c.argTypes[0]?).bind P.underlying,jQ x with
  |some .string,some x=>some (.len true x)
  |some (.slice _),some x=>some (.len false x)
  |_,_=>none
 |.builtin .append,[x,y]=>match c.argTypes.toList with
  |[t,t']=>match P.underlying t,P.underlying t' with
   |some (.slice e),some (.slice _)=>match P.info? e,vt P e,jQ x,jQ y with
    |some i,some _,some x,some y=>if 0<i.size&&t==t' then some (.app e i.size i.bytes x y) else none
    |_,_,_,_=>none
   |some (.slice e),some .string=>match P.underlying e,P.info? e,jQ x,jQ y with
    |some (.int .u8),some i,some x,some y=>match i.zero with
     |some (.int .u8 0)=>if i.size==1&&i.bytes==1 then some (.apps e x y) else none
     |_=>none
    |_,_,_,_=>none
   |_,_=>none
  |_=>none
 |.builtin .clear,[x]=>match c.argTypes.toList with
  |[t]=>match P.underlying t with
   |some (.slice e)=>match P.info? e,vt P e,jQ x with
    |some i,some z,some x=>if 0<i.size then some (.clr i.size (jrw (ji5 P 6 e) z) x) else none
    |_,_,_=>none
   |_=>none
  |_=>none
 |.builtin .max,[x,y]=>match jQ x,jQ y with
  |some x,some y=>some (.mm true x y)
  |_,_=>none
 |.builtin .min,[x,y]=>match jQ x,jQ y with
  |some x,some y=>some (.mm false x y)
  |_,_=>none
 |.value (.func f),l=>match P.funcs[f]?,zd l with
  |some fn,some l=>if fn.body.isSome&&fn.name != "runtime.NumGoroutine" then some (.call f l) else none
  |_,_=>none
 |.value (.tmp t),l=>(zd l).map (.callv (.t t))
 |_,_=>none
def zm (P:Program) (op:Op):Option I:=match op with
 |.move x|.assign x=>(jQ x).map .mov
 |.pick c a b=>match jQ c,jQ a,jQ b with
  |some c,some a,some b=>some (.pick c a b)
  |_,_,_=>none
 |.alloc e=>(vt P e).map (.alloc e)
 |.box e x=>match qf P e,jQ x with
  |some n,some x=>some (.box e n x)
  |_,_=>none
 |.build t ps=>match P.underlying t,vt P t with
  |some (.struct fs),some z=>if !(fs.toList.all fun f=>(P.info? f.type).isSome) then none else (jcD (fun i=>match fs[i]? with
   |some f=>(qf P f.type).map fun n=>(f.offset,n)
   |none=>none) ps.toList).map (.bld z)
  |_,_=>none
 |.buildSlice t n ps=>match P.underlying t with
  |some (.slice e)=>match qf P e with
   |some size=>if 0<size&&(vt P e).isSome&&(ps.toList.map (·.1)==List.range n)&&n*size<1000 then (jcD (fun i=>some (i*size,size)) ps.toList).map (.bsl e size n ((List.replicate n (ji5 P 6 e)).flatten)) else none
   |none=>none
  |_=>none
 |.load t x=>match P.underlying t,qf P t,jQ x with
  |some (.struct _),some n,some x=>some (.ld true n x)
  |some (.array _ _),_,_=>none
  |some _,some 1,some x=>some (.ld false 1 x)
  |_,_,_=>none
 |.store t a x=>match qf P t,jQ a,jQ x with
  |some n,some a,some x=>some (.st n (ji5 P 6 t) a x)
  |_,_,_=>none
 |.fieldAddr t x f=>match P.underlying t,jQ x with
  |some (.struct fs),some x=>match fs[f]? with
   |some f=>match qf P f.type with
    |some (_+1)=>some (.fa f.offset x)
    |_=>none
   |none=>none
  |_,_=>none
 |.nilCheck x=>(jQ x).map (.fa 0)
 |.indexAddr t x i=>match P.underlying t,jQ x,jQ i with
  |some (.slice e),some x,some i=>match qf P e with
   |some (n+1)=>some (.ia (n+1) x i)
   |_=>none
  |_,_,_=>none
 |.index t x i=>match P.underlying t,jQ x,jQ i with
  |some .string,some x,some i=>some (.sidx x i)
  |_,_,_=>none
 |.binOp op t x y _=>match jQ x,jQ y with
  |some x,some y=>match P.underlying t with
   |some .bool=>match op with
    |.eql=>some (.beq false x y)
    |.neq=>some (.beq true x y)
    |_=>none
   |some _=>some (.bin op t x y)
   |none=>none
  |_,_=>none
 |.unOp op _ x=>(jQ x).map (.un op)
 |.convert t t' x=>match P.underlying t,P.underlying t',jQ x with
  |some (.int _),some (.int k),some x=>some (.cv (.num k) 0 x)
  |some (.slice e),some .string,some x=>match P.underlying e with
   |some (.int .u8)=>some (.cv .text e x)
   |_=>none
  |_,_,_=>none
 |.makeSlice t l c=>match P.underlying t,jQ l,jQ c with
  |some (.slice e),some l,some c=>match P.info? e,vt P e with
   |some i,some z=>if 0<i.size then some (.mks e i.size i.bytes (jrw (ji5 P 6 e) z) l c) else none
   |_,_=>none
  |_,_,_=>none
 |.slice t x lo hi none=>match P.underlying t,jQ x with
  |some (.slice e),some x=>match qf P e with
   |some (n+1)=>match lo.map jQ,hi.map jQ with
    |none,none=>some (.sl (n+1) x none none)
    |some (some a),none=>some (.sl (n+1) x (some a) none)
    |none,some (some b)=>some (.sl (n+1) x none (some b))
    |some (some a),some (some b)=>some (.sl (n+1) x (some a) (some b))
    |_,_=>none
   |_=>none
  |some .string,some x=>match lo.map jQ,hi.map jQ with
   |none,none=>some (.sl 0 x none none)
   |some (some a),none=>some (.sl 0 x (some a) none)
   |none,some (some b)=>some (.sl 0 x none (some b))
   |some (some a),some (some b)=>some (.sl 0 x (some a) (some b))
   |_,_=>none
  |_,_=>none
 |.extract x i=>(jQ x).map (.ext · i)
 |.makeFunc (.func f) first caps=>if first.isEmpty then (zd caps.toList).map (.mkf f) else none
 |.call c=>jmg P c
 |_=>none
def jwr (P:Program) (N:Nat) (ops:Array Oper) (o:Oper):Option Ins:=
 match zm P o.op,(match o.dst with|some d=>decide (d<N)|none=>true) with
 |some i,true=>match o.guard with
  |none=>some ⟨o.dst,none,i⟩
  |some (j,want)=>match (ops[j]?).bind (·.dst) with
   |some t=>if t<N then some ⟨o.dst,some (t,want),i⟩ else none
   |none=>none
 |_,_=>none
def jjl (P:Program) (N:Nat) (ops:Array Oper):List Oper→Option (List Ins)
 |[]=>some []
 |o::l=>match jwr P N ops o,jjl P N ops l with
  |some i,some r=>some (i::r)
  |_,_=>none
def I.pureB:I→Bool
 |.mov _|.pick _ _ _|.bld _ _|.ld _ _ _|.fa _ _|.ia _ _ _|.sidx _ _|.bin _ _ _ _|.beq _ _ _|.un _ _|.cv _ _ _|.len _ _|.mm _ _ _|.sl _ _ _ _|.ext _ _|.mkf _ _=>true
 |_=>false
def jy4 (ops:Array Oper):Nat→List Nat→List Nat→List Nat
 |0,seen,_=>seen
 |_+1,seen,[]=>seen
 |n+1,seen,j::todo=>match ops[j]? with
  |some o=>jy4 ops n (((o.after.toList.filter fun e=>Region.binds .any e&&!seen.contains e.on).map (·.on))++seen) (((o.after.toList.filter fun e=>Region.binds .any e&&!seen.contains e.on).map (·.on))++todo)
  |none=>jy4 ops n seen todo
def jmw (ops:Array Oper) (n j i:Nat):Bool:=(jy4 ops (8*n+8) [] [j]).contains i
def I.xs:I→List X
 |.mov x|.box _ _ x|.ld _ _ x|.fa _ x|.un _ x|.cv _ _ x|.len _ x|.ext x _=>[x]
 |.pick c a b=>[c,a,b]
 |.alloc _ _=>[]
 |.bld _ ps|.bsl _ _ _ _ ps=>ps.map (·.2.2)
 |.st _ _ a x|.ia _ a x|.sidx a x|.bin _ _ a x|.beq _ a x|.app _ _ _ a x|.apps _ a x|.mm _ a x|.mks _ _ _ _ a x=>[a,x]
 |.sl _ x lo hi=>x::(lo.toList++hi.toList)
 |.mkf _ l|.call _ l=>l
 |.clr _ _ x=>[x]
 |.callv x l=>x::l
def X.tmp?:X→Option Nat
 |.t n=>some n
 |_=>none
def Ins.uses (i:Ins):List Nat:=i.i.xs.filterMap X.tmp?++(i.g.map (·.1)).toList
def jk9 (i j:Ins):Bool:=
 (match i.d with
  |some d=>!(j.uses.contains d)&&j.d !=some d
  |none=>true)&&
 (match j.d with
  |some d=>!(i.uses.contains d)
  |none=>true)
def jyG (ops:Array Oper) (is:List Ins) (listed:Array Bool) (i:Nat):Bool:=match is[i]? with
 |none=>false
 |some x=>x.i.pureB&&(List.range ops.size).all fun j=>j==i||listed.getD j true||(match ops[j]?,is[j]? with
  |some oj,some y=>oj.after.any (fun e=>Region.binds .any e&&e.on==i)||jk9 x y
  |_,_=>true)
def mkT (ops:Array Oper) (is:List Ins):Nat→List Nat→Array Bool→Option T
 |0,_,listed=>if (Region.ready .any ops listed).isEmpty then some .done else none
 |f+1,pures,listed=>
  if (Region.ready .any ops listed).isEmpty then some .done
  else match (Region.ready .any ops listed).find? (jyG ops is listed) with
   |some i=>match is[i]?,mkT ops is f (i::pures) (listed.setIfInBounds i true) with
    |some x,some t=>some (.pure i x t)
    |_,_=>none
   |none=>(Region.ready .any ops listed).foldr (fun j acc=>match is[j]?,mkT ops is f pures (listed.setIfInBounds j true),acc with
    |some x,some t,some rest=>some (.alt x (pures.filter fun p=>!jmw ops ops.size j p) t rest)
    |_,_,_=>none) (some .stop)
def jwq (P:Program) (N:Nat) (ops:Array Oper):Option T:=
 if P.follows .mixedOrders then match jjl P N ops ops.toList with
  |some is=>mkT ops is ops.size [] (Array.replicate ops.size false)
  |none=>none
 else none
def comp (P:Program) (N:Nat):Code→Option C
 |.skip=>some .skip
 |.region _ ops false=>(jjl P N ops ops.toList).map .reg
 |.region _ ops true=>(jwq P N ops).map .dreg
 |.seq a b=>match comp P N a,comp P N b with
  |some a,some b=>some (.seq a b)
  |_,_=>none
 |.cond c a b=>match jQ c,comp P N a,comp P N b with
  |some c,some a,some b=>some (.cond c a b)
  |_,_,_=>none
 |.block id a=>(comp P N a).map (.blk id)
 |.loop a=>(comp P N a).map .loop
 |.exit id=>some (.exit id)
 |.ret=>some .ret
 |_=>none
def jjj (P:Program) (N:Nat):List ResultVar→Option (List R)
 |[]=>some []
 |.tmp n::rs=>if n<N then (jjj P N rs).map (.t n:: ·) else none
 |.cell n t::rs=>if n<N then match P.underlying t,qf P t,jjj P N rs with
  |some (.struct _),some k,some r=>some (.cell n true k::r)
  |some (.array _ _),_,_=>none
  |some _,some k,some r=>some (.cell n false k::r)
  |_,_,_=>none
  else none
def fnC (P:Program) (fn:Func):Option (C×List R×Nat):=match fn.body with
 |some b=>if fn.name != "runtime.NumGoroutine" then match comp P fn.ntmps b,jjj P fn.ntmps fn.results.toList with
  |some c,some rs=>some (c,rs,fn.ntmps)
  |_,_=>none
  else none
 |none=>none
def jbB:Value→Nat→Addr
 |.slice (some a) _ _,k=>⟨a.block,a.off+k,none⟩
 |_,k=>⟨0,k,none⟩
def jie (x:Value) (size lo n:Nat):Value:=match x with
 |.slice A _ c=>.slice (if c=lo then A else A.map (·.add (lo*size))) n (c-lo)
 |_=>undef
def A0Rel (B:Nat) (w:World):A0→Value→Prop
 |.v x,u=>u=x
 |.ro d,u=>d.isSl=true∧∃S,Rep w false d u S∧∀b∈S,b<B
 |.rp ds,u=>∃b o us S,u=.pointer (some ⟨b,o,none⟩)∧RepL w false ds us S∧(∀x∈S,x<B)∧(ds≠ []→b<B)∧∀j x,us[j]?=some x→w.cell? ⟨b,o+j,none⟩=some x
 |.h _ _ _ x,u=>u=x∧x.oneCell'=true
 |.bp _ c b,u=>u=.pointer (some ⟨b,c,none⟩)
 |.ep _ _ _ i x,u=>u=.pointer (some (jbB x i))
 |.un,u=>u.oneCell'=true
 |.hs _ _ _ x size lo n,u=>(u=jie x size lo n∨0<lo∧n=0∧∃A,u=.slice A 0 0)∧u.oneCell'=true
def A0RelL (B:Nat) (w:World):List A0→List Value→Prop
 |[],us=>us=[]
 |a::l,us=>∃u us',us=u::us'∧A0Rel B w a u∧A0RelL B w l us'
def TRelL (B:Nat) (w:World):List (Bool×List A0)→List Value→Prop
 |[],us=>us=[]
 |(b,az)::l,us=>∃u us' xs,us=u::us'∧A0RelL B w az xs∧(if b then u=.agg xs.toArray else xs=[u])∧TRelL B w l us'
def VRel (B:Nat) (w:World):AV→Value→Prop
 |.c a,u=>A0Rel B w a u
 |.agg l,u=>∃us:List Value,u=.agg us.toArray∧A0RelL B w l us
 |.fn f caps,u=>∃us:List Value,u=.func (.func f) #[] us.toArray∧A0RelL B w caps us
 |.tup l,u=>∃us:List Value,u=.tuple us.toArray∧TRelL B w l us
 |.unk,_=>True
def hdr (w:World):List Nat→D→Value→Value
 |[],.sl _ _ _,u=>u
 |i::p,.sl _ _ cs,.slice (some a) _ _=>match cs[i]? with
  |some d=>hdr w p d ((w.cell? ⟨a.block,a.off+i,none⟩).getD undef)
  |none=>undef
 |_,_,_=>undef
def CRel (B:Nat) (w:World):List Cell→List Value→List Nat→Prop
 |[],us,S=>us=[]∧S=[]
 |.a x::l,us,S=>∃u us',us=u::us'∧A0Rel B w x u∧CRel B w l us' S
 |.own d η::l,us,S=>∃u us' S1 S2,us=u::us'∧S=S1++S2∧d.isSl=true∧Rep w true d u S1∧(∀p,η p=hdr w p d u)∧CRel B w l us' S2
def ORel (B:Nat) (w:World):Ob→List Nat→Prop
 |.none,S=>S=[]
 |.loose d η,S=>d.isSl=true∧∃u,Rep w true d u S∧∀p,η p=hdr w p d u
 |.box b ty cs,S=>∃us S1,w.heap[b]?=some (.cells us.toArray ty (0,0))∧CRel B w cs us S1∧S=b::S1
structure RelF (B:Nat) (w0:World) (N:Nat) (s:St) (a:Act) (w:World) (F:Nat→List Nat):Prop where
 below:Below B w0 w
 hB:B≤w0.heap.size
 df:a.defers=[]
 sz:a.tmps.size=N
 sl:∀n,VRel B w (s.t n) (a.tmps.getD n undef)
 ob:∀g,ORel B w (s.o g) (F g)
 fr:∀g,Fresh B (F g)
 dj:∀g g',g≠g'→∀b∈F g,b∉F g'
section
variable {B:Nat} {w w' w0:World}
theorem vT {own:Bool} {size:Nat} {ty:TypeId} {cs:List D} {v:Value} {S:List Nat} (h:Rep w own (.sl size ty cs) v S):∃A n c,v=.slice A n c:=by
 obtain ⟨vs,T,S',hr,_,_⟩:=h;obtain ⟨_,A,n,c,rfl,_⟩:=hr.ro;exact ⟨A,n,c,rfl⟩
theorem A0Rel.mono (hb:Below B w w'):∀{a:A0} {u:Value},A0Rel B w a u→A0Rel B w' a u
 |.v _,_,h=>h
 |.ro _,_,⟨h1,S,h2,h3⟩=>⟨h1,S,Rep.keep _ h2 fun b hs=>hb.block b (h3 b hs),h3⟩
 |.rp ds,_,⟨b,o,us,S,h1,h2,h3,h4,h5⟩=>⟨b,o,us,S,h1,RepL.keep _ h2 fun b hs=>hb.block b (h3 b hs),h3,h4,fun j x hx=>by
  have hne:ds≠ []:=fun e=>by subst e;obtain ⟨rfl,_⟩:=h2;simp at hx
  rw [hb.cell (p:=⟨b,o+j,none⟩) (h4 hne)];exact h5 j x hx⟩
 |.h _ _ _ _,_,h=>h
 |.bp _ _ _,_,h=>h
 |.ep _ _ _ _ _,_,h=>h
 |.un,_,h=>h
 |.hs _ _ _ _ _ _ _,_,h=>h
theorem A0RelL.mono (hb:Below B w w'):∀{l:List A0} {us:List Value},A0RelL B w l us→A0RelL B w' l us
 |[],_,h=>h
 |_::_,_,⟨u,us',h1,h2,h3⟩=>⟨u,us',h1,h2.mono hb,A0RelL.mono hb h3⟩
theorem TRelL.mono (hb:Below B w w'):∀{l:List (Bool×List A0)} {us:List Value},TRelL B w l us→TRelL B w' l us
 |[],_,h=>h
 |(_,_)::_,_,⟨u,us',xs,h1,h2,h3,h4⟩=>⟨u,us',xs,h1,h2.mono hb,h3,TRelL.mono hb h4⟩
theorem VRel.mono (hb:Below B w w'):∀{v:AV} {u:Value},VRel B w v u→VRel B w' v u
 |.c _,_,h=>A0Rel.mono hb h
 |.agg _,_,⟨us,h1,h2⟩=>⟨us,h1,h2.mono hb⟩
 |.fn _ _,_,⟨us,h1,h2⟩=>⟨us,h1,h2.mono hb⟩
 |.tup _,_,⟨us,h1,h2⟩=>⟨us,h1,h2.mono hb⟩
 |.unk,_,h=>h
theorem A0Rel.one:∀{a:A0} {u:Value},A0Rel B w a u→a.one=true→u.oneCell'=true
 |.v _,_,h,h'=>by rw [show _=_ from h];exact h'
 |.ro d,u,⟨h1,S,h2,_⟩,_=>by
  cases d with
  |val _=>cases h1
  |sl size ty cs=>obtain ⟨A,n,c,rfl⟩:=vT h2;rfl
 |.rp _,_,⟨_,_,_,_,h,_⟩,_=>by rw [h];rfl
 |.h _ _ _ _,_,⟨h,h'⟩,_=>by rw [h];exact h'
 |.bp _ _ _,_,h,_=>by rw [show _=_ from h];rfl
 |.ep _ _ _ _ _,_,h,_=>by rw [show _=_ from h];rfl
 |.un,_,h,_=>h
 |.hs _ _ _ _ _ _ _,_,⟨_,h⟩,_=>h
theorem A0Rel.c1:∀{a:A0} {u:Value},A0Rel B w a u→a.c1=true→u.oneCell'=true
 |.v _,_,h,h'=>by rw [show _=_ from h];exact h'
 |.ro _,_,h,_=>h.one rfl
 |.rp _,_,h,_=>h.one rfl
 |.h _ _ _ _,_,⟨h,h'⟩,_=>by rw [h];exact h'
 |.bp _ _ _,_,h,_=>h.one rfl
 |.ep _ _ _ _ _,_,h,_=>h.one rfl
 |.un,_,h,_=>h
 |.hs _ _ _ _ _ _ _,_,⟨_,h⟩,_=>h
theorem jts {u:Value} (h:u.oneCell'=true):u.cells=#[u]:=by cases u<;>first|rfl|cases h
theorem VRel.cells:∀{v:AV} {u:Value} {l:List A0},VRel B w v u→v.cells=some l→∃us:List Value,u.cells=us.toArray∧A0RelL B w l us
 |.c a,u,l,h,hl=>by
  simp only [AV.cells] at hl;split at hl
  ·simp at hl;subst hl
   exact ⟨[u],jts (A0Rel.c1 h (by assumption)),u,[],rfl,h,rfl⟩
  ·simp at hl
 |.agg l',_,l,⟨us,h1,h2⟩,hl=>by
  simp [AV.cells] at hl;subst hl;exact ⟨us,by rw [h1];rfl,h2⟩
 |.fn _ _,_,_,_,hl=>by simp [AV.cells] at hl
 |.tup _,_,_,_,hl=>by simp [AV.cells] at hl
 |.unk,_,_,_,hl=>by simp [AV.cells] at hl
theorem A0RelL.len:∀{l:List A0} {us:List Value},A0RelL B w l us→us.length=l.length
 |[],_,h=>by rw [show _=_ from h];rfl
 |_::_,_,⟨_,_,h1,_,h3⟩=>by subst h1;simp [A0RelL.len h3]
theorem RepL.nth {own:Bool}:∀{cs:List D} {vs:List Value} {S:List Nat} {i:Nat} {d:D},RepL w own cs vs S→cs[i]?=some d→∃v S1,vs[i]?=some v∧Rep w own d v S1∧∀s∈S1,s∈S
 |[],_,_,_,_,_,h=>by simp at h
 |_::_,_,_,0,_,⟨v,vs',S1,S2,h1,h2,h3,h4⟩,h=>by
  simp at h;subst h;exact ⟨v,S1,by rw [h1];rfl,h3,fun s hs=>by rw [h2];simp [hs]⟩
 |_::cs,_,_,i+1,_,⟨v,vs',S1,S2,h1,h2,h3,h4⟩,h=>by
  simp at h;obtain ⟨v',S',h5,h6,h7⟩:=RepL.nth h4 h;exact ⟨v',S',by rw [h1];simpa using h5,h6,fun s hs=>by rw [h2];simp [h7 s hs]⟩
theorem qx {size:Nat} {ty:TypeId} {vs:List Value} {u:Value} {T:List Nat} (h:RowAt w true size ty vs u T):(u=.slice none 0 0∧vs=[])∨∃g n c,u=.slice (some ⟨g,0,none⟩) n c∧T=[g]∧vs.length=n*size∧(∀j v,vs[j]?=some v→w.cell? ⟨g,j,none⟩=some v)∧∀j,w.frozen? ⟨g,j,none⟩=false:=by
 obtain ⟨n,h,rfl⟩:=h;have h1:=h.1;rcases h.2 with ⟨rfl,h0⟩|⟨g,cap,cur,rfl,hb,hg,hr⟩
 ·subst h0;exact .inl ⟨rfl,List.eq_nil_of_length_eq_zero (by simpa using h1)⟩
 ·refine .inr ⟨g,n,cap,rfl,rfl,h1,fun j v hv=>?_,h.frozenAt⟩
  have:=h.cells (g:=g) rfl j v hv;have e:(⟨g,0,none⟩:Addr).add j=⟨g,j,none⟩:=by unfold Addr.add;split<;>simp_all
  rwa [e] at this
theorem jdg:∀(p:List Nat) {d:D} {u:Value} {S:List Nat},Rep w true d u S→(∀b∈S,w'.heap[b]?=w.heap[b]?)→hdr w' p d u=hdr w p d u
 |[],.sl _ _ _,_,_,_,_=>rfl
 |[],.val _,_,_,_,_=>rfl
 |i::p,.val _,_,_,_,_=>rfl
 |i::p,.sl size ty cs,u,S,⟨vs,T,S',h1,h2,h3⟩,hk=>by
  rcases qx h1 with ⟨rfl,_⟩|⟨g,n,c,rfl,rfl,h4,h5,_⟩
  ·rfl
  ·simp only [hdr]
   cases hc:cs[i]? with
   |none=>rfl
   |some d=>
    obtain ⟨v,S1,h6,h7,h8⟩:=RepL.nth h2 hc;have e1:w.cell? ⟨g,0+i,none⟩=some v:=by rw [Nat.zero_add];exact h5 i v h6
    have e2:w'.cell? ⟨g,0+i,none⟩=some v:=by
     rw [World.cell?_of_block (w:=w) (a:=⟨g,0+i,none⟩) (hk g (by rw [h3];simp))];exact e1
    simp only [e1,e2,Option.getD_some];exact jdg p h7 fun b hb=>hk b (by rw [h3];simp [h8 b hb])
theorem jta:∀(p:List Nat) {d d':D} {u:Value} {S:List Nat},Rep w true d u S→D.get p d=some d'→d'.isSl=true→∃S',Rep w true d' (hdr w p d u) S'∧∀s∈S',s∈S
 |[],.sl _ _ _,_,_,S,h,hg,_=>by simp [D.get] at hg;subst hg;exact ⟨S,h,fun _ h=>h⟩
 |[],.val _,_,_,_,_,hg,hs=>by simp [D.get] at hg;subst hg;cases hs
 |i::p,.val _,_,_,_,_,hg,_=>by simp [D.get] at hg
 |i::p,.sl size ty cs,d',u,S,⟨vs,T,S',h1,h2,h3⟩,hg,hs=>by
  simp only [D.get] at hg;cases hc:cs[i]? with
  |none=>rw [hc] at hg;simp at hg
  |some d=>
   rw [hc] at hg;obtain ⟨v,S1,h6,h7,h8⟩:=RepL.nth h2 hc;rcases qx h1 with ⟨rfl,rfl⟩|⟨g,n,c,rfl,rfl,h4,h5,_⟩
   ·simp at h6
   ·simp only [hdr,hc,Nat.zero_add,h5 i v h6,Option.getD_some]
    obtain ⟨S2,h9,h10⟩:=jta p h7 hg hs;exact ⟨S2,h9,fun s hs=>by rw [h3];simp [h8 s (h10 s hs)]⟩
theorem zG {d:D} {u:Value} (h:d.isSl=true):hdr w [] d u=u:=by cases d<;>first|rfl|cases h
theorem CRel.keep (hb:Below B w w'):∀{cs:List Cell} {us:List Value} {S:List Nat},CRel B w cs us S→(∀b∈S,w'.heap[b]?=w.heap[b]?)→CRel B w' cs us S
 |[],_,_,h,_=>h
 |.a _::_,_,_,⟨u,us',h1,h2,h3⟩,hk=>⟨u,us',h1,h2.mono hb,CRel.keep hb h3 hk⟩
 |.own _ _::_,_,_,⟨u,us',S1,S2,h1,h2,h3,h4,h5,h6⟩,hk=>⟨u,us',S1,S2,h1,h2,h3,Rep.keep _ h4 fun b hs=>hk b (by rw [h2];simp [hs]),
  fun p=>by rw [jdg p h4 fun b hs=>hk b (by rw [h2];simp [hs])];exact h5 p,CRel.keep hb h6 fun b hs=>hk b (by rw [h2];simp [hs])⟩
theorem CRel.lt:∀{cs:List Cell} {us:List Value} {S:List Nat},CRel B w cs us S→∀b∈S,b<w.heap.size
 |[],_,_,⟨_,h⟩,b,hb=>by rw [h] at hb;simp at hb
 |.a _::_,_,_,⟨_,_,_,_,h⟩,b,hb=>CRel.lt h b hb
 |.own _ _::_,_,_,⟨u,us',S1,S2,_,h2,_,h4,_,h6⟩,b,hb=>by
  rw [h2] at hb;rcases List.mem_append.1 hb with hb|hb
  ·exact Rep.lt _ h4 b hb
  ·exact CRel.lt h6 b hb
theorem CRel.len:∀{cs:List Cell} {us:List Value} {S:List Nat},CRel B w cs us S→us.length=cs.length
 |[],_,_,⟨h,_⟩=>by rw [h];rfl
 |.a _::_,_,_,⟨_,_,h1,_,h3⟩=>by subst h1;simp [CRel.len h3]
 |.own _ _::_,_,_,⟨_,_,_,_,h1,_,_,_,_,h6⟩=>by subst h1;simp [CRel.len h6]
theorem ORel.keep (hb:Below B w w'):∀{ob:Ob} {S:List Nat},ORel B w ob S→(∀b∈S,w'.heap[b]?=w.heap[b]?)→ORel B w' ob S
 |.none,_,h,_=>h
 |.loose _ _,_,⟨h0,u,h1,h2⟩,hk=>⟨h0,u,Rep.keep _ h1 hk,fun p=>by rw [jdg p h1 hk];exact h2 p⟩
 |.box b _ _,_,⟨us,S1,h1,h2,h3⟩,hk=>⟨us,S1,(hk b (by rw [h3];simp)).trans h1,h2.keep hb fun x hx=>hk x (by rw [h3];simp [hx]),h3⟩
theorem ORel.lt:∀{ob:Ob} {S:List Nat},ORel B w ob S→∀b∈S,b<w.heap.size
 |.none,_,h,b,hb=>by rw [show _=_ from h] at hb;simp at hb
 |.loose _ _,_,⟨_,u,h1,_⟩,b,hb=>Rep.lt _ h1 b hb
 |.box b' _ _,_,⟨us,S1,h1,h2,h3⟩,b,hb=>by
  rw [h3] at hb;rcases List.mem_cons.1 hb with rfl|hb
  ·exact jbc h1
  ·exact h2.lt b hb
theorem ORel.own:∀{ob:Ob} {S:List Nat} {c:Nat} {d:D} {η:jq},ORel B w ob S→ob.own c=some (d,η)→∃u S',d.isSl=true∧Rep w true d u S'∧(∀p,η p=hdr w p d u)∧∀s∈S',s∈S
 |.none,_,_,_,_,_,h=>by simp [Ob.own] at h
 |.loose d' η',S,0,d,η,⟨h0,u,h1,h2⟩,h=>by simp [Ob.own] at h;obtain ⟨rfl,rfl⟩:=h;exact ⟨u,S,h0,h1,h2,fun _ h=>h⟩
 |.loose _ _,_,c+1,_,_,_,h=>by simp [Ob.own] at h
 |.box b ty cs,S,c,d,η,⟨us,S1,h1,h2,h3⟩,h=>by
  have:∀{cs:List Cell} {us:List Value} {S1:List Nat} {c:Nat},CRel B w cs us S1→cs[c]?=some (.own d η)→∃u S',d.isSl=true∧Rep w true d u S'∧(∀p,η p=hdr w p d u)∧∀s∈S',s∈S1:=by
   intro cs
   induction cs with
   |nil=>intro _ _ _ _ h;simp at h
   |cons x l ih=>
    intro us S1 c hr hc;cases x with
    |a x=>
     obtain ⟨u,us',rfl,_,h5⟩:=hr;cases c with
     |zero=>simp at hc
     |succ c=>exact ih h5 (by simpa using hc)
    |own d' η'=>
     obtain ⟨u,us',S2,S3,rfl,rfl,k0,k1,k2,k3⟩:=hr;cases c with
     |zero=>simp at hc;obtain ⟨rfl,rfl⟩:=hc;exact ⟨u,S2,k0,k1,k2,fun s hs=>by simp [hs]⟩
     |succ c=>
      obtain ⟨u',S',k4,k5,k6,k7⟩:=ih k3 (by simpa using hc)
      exact ⟨u',S',k4,k5,k6,fun s hs=>by simp [k7 s hs]⟩
  simp only [Ob.own] at h;split at h
  ·rename_i d' η' hc
   simp at h;obtain ⟨rfl,rfl⟩:=h;obtain ⟨u,S',k1,k2,k3,k4⟩:=this h2 hc;exact ⟨u,S',k1,k2,k3,fun s hs=>by rw [h3];simp [k4 s hs]⟩
  ·simp at h
variable {N:Nat} {s:St} {a:Act} {F:Nat→List Nat}
theorem RelF.world (h:RelF B w0 N s a w F) (hb:Below w.heap.size w w'):RelF B w0 N s a w' F:=by
 have hB:B≤w.heap.size:=Nat.le_trans h.hB h.below.size;have hb':=hb.mono hB;exact ⟨h.below.trans hb',h.hB,h.df,h.sz,fun n=>(h.sl n).mono hb',fun g=>(h.ob g).keep hb' fun b hs=>hb.block b ((h.ob g).lt b hs),h.fr,h.dj⟩
theorem RelF.put (h:RelF B w0 N s a w F) {v:AV} {u:Value} (hv:VRel B w v u) {d:Option Nat} (hd:∀k,d=some k→k<N):RelF B w0 N (s.put d v) (a.put d u) w F:=by
 cases d with
 |none=>exact h
 |some k=>
  have hk:=hd k rfl;refine ⟨h.below,h.hB,h.df,by simp [Act.put,h.sz],fun n=>?_,h.ob,h.fr,h.dj⟩
  simp only [St.put,Act.put];by_cases hn:n=k
  ·subst hn
   rw [if_pos rfl];simp [Array.getD_eq_getD_getElem?,h.sz,hk];exact hv
  ·rw [if_neg hn]
   simp [Array.getD_eq_getD_getElem?,Array.getElem?_setIfInBounds_ne (Ne.symm hn)];simpa [Array.getD_eq_getD_getElem?] using h.sl n
theorem RelF.setO (h:RelF B w0 N s a w F) {g:Nat} {ob:Ob} {S:List Nat} (ho:ORel B w ob S) (hf:Fresh B S) (hd:∀g',g'≠g→∀b∈S,b∉F g'):
 RelF B w0 N (s.setO g ob) a w (fun k=>if k=g then S else F k):=by
 refine ⟨h.below,h.hB,h.df,h.sz,h.sl,fun k=>?_,fun k=>?_,fun k k' hne b hb hb'=>?_⟩
 ·simp only [St.setO];split
  ·exact ho
  ·exact h.ob k
 ·split
  ·exact hf
  ·exact h.fr k
 ·have hb1:b∈(if k=g then S else F k):=hb
  have hb2:b∈(if k'=g then S else F k'):=hb'
  split at hb1<;>split at hb2
  ·omega
  ·exact hd k' (by omega) b hb1 hb2
  ·exact hd k (by omega) b hb2 hb1
  ·exact h.dj k k' hne b hb1 hb2
def jb0 (B:Nat) (w:World):List (Nat×Ob)→List Nat→Prop
 |[],S=>S=[]
 |(_,ob)::l,S=>∃S1 S2,S=S1++S2∧ORel B w ob S1∧jb0 B w l S2
theorem RelF.addO:∀{os:List (Nat×Ob)} {s:St} {S:List Nat} {F:Nat→List Nat},RelF B w0 N s a w F→jb0 B w os S→Fresh B S→(∀g,∀b∈S,b∉F g)→∃F',RelF B w0 N (s.addO os) a w F'
 |[],s,S,F,h,_,_,_=>⟨F,h⟩
 |(g,ob)::os,s,S,F,h,⟨S1,S2,hS,ho,hn⟩,hf,hd=>by
  subst hS;have h1:=h.setO (g:=g) ho hf.left fun g' _ b hb=>hd g' b (by simp [hb])
  have h2:=RelF.addO h1 hn hf.right (fun k b hb=>by
   by_cases hk:k=g
   ·rw [if_pos hk];exact fun hb'=>hf.apart b hb' hb
   ·rw [if_neg hk];exact hd k b (by simp [hb]))
  exact h2
theorem RelF.rm (h:RelF B w0 N s a w F) {g c:Nat} {d:D} {η:jq} (ho:(s.o g).own c=some (d,η)):
 ∃u S F',d.isSl=true∧Rep w true d u S∧(∀p,η p=hdr w p d u)∧Fresh B S∧RelF B w0 N (s.rm g c) a w F'∧(∀g',∀b∈S,b∉F' g')∧(∀b∈S,b∈F g)∧∀g' b,b∈F' g'→b∈F g':=by
 have hog:=h.ob g;have hfg:=h.fr g;unfold St.rm;cases hob:s.o g with
 |none=>rw [hob] at ho;simp [Ob.own] at ho
 |loose d' η'=>
  rw [hob] at ho hog;cases c with
  |succ c=>simp [Ob.own] at ho
  |zero=>
   simp [Ob.own] at ho;obtain ⟨rfl,rfl⟩:=ho;obtain ⟨h0,u,h1,h2⟩:=hog;refine ⟨u,F g,_,h0,h1,h2,hfg,h.setO (S:=[]) (ob:=(Ob.loose d' η').rm 0) (by simp [Ob.rm,ORel]) (Fresh.nil _) (by simp),fun g' b hb hb'=>?_,fun _ h=>h,fun g' b hb=>?_⟩
   ·split at hb'
    ·simp at hb'
    ·exact h.dj g g' (by omega) b hb hb'
   ·split at hb
    ·simp at hb
    ·exact hb
 |box b ty cs=>
  rw [hob] at ho hog;obtain ⟨us,S1,h1,h2,h3⟩:=hog
  have key:∀{cs:List Cell} {us:List Value} {S1:List Nat} {c:Nat},CRel B w cs us S1→S1.Nodup→cs[c]?=some (.own d η)→
   ∃u S S',d.isSl=true∧Rep w true d u S∧(∀p,η p=hdr w p d u)∧CRel B w (cs.set c (.a (.v (η [])))) us S'∧(∀x,x∈S1↔x∈S∨x∈S')∧S'.Nodup∧S.Nodup∧∀x∈S,x∉S':=by
   intro cs
   induction cs with
   |nil=>intro _ _ _ _ _ h;simp at h
   |cons x l ih=>
    intro us S1 c hr hnd hc;cases x with
    |a x=>
     obtain ⟨u,us',rfl,k1,k2⟩:=hr;cases c with
     |zero=>simp at hc
     |succ c=>
      obtain ⟨u',S,S',j1,j2,j3,j4,j5,j6,j7,j8⟩:=ih k2 hnd (by simpa using hc)
      exact ⟨u',S,S',j1,j2,j3,⟨u,us',rfl,k1,j4⟩,j5,j6,j7,j8⟩
    |own d' η'=>
     obtain ⟨u,us',S2,S3,rfl,rfl,k0,k1,k2,k3⟩:=hr;have hnd':=List.nodup_append.1 hnd;cases c with
     |zero=>
      simp at hc;obtain ⟨rfl,rfl⟩:=hc;refine ⟨u,S2,S3,k0,k1,k2,⟨u,us',rfl,?_,k3⟩,fun x=>List.mem_append,hnd'.2.1,hnd'.1,fun x hx hx'=>hnd'.2.2 x hx x hx' rfl⟩
      show u=η' [];rw [k2,zG k0]
     |succ c=>
      obtain ⟨u',S,S',j1,j2,j3,j4,j5,j6,j7,j8⟩:=ih k3 hnd'.2.1 (by simpa using hc)
      refine ⟨u',S,S2++S',j1,j2,j3,⟨u,us',S2,S',rfl,rfl,k0,k1,k2,j4⟩,fun x=>?_,List.nodup_append.2 ⟨hnd'.1,j6,fun a ha b hb e=>hnd'.2.2 a ha b ((j5 b).2 (.inr hb)) e⟩,j7,fun x hx hx'=>?_⟩
      ·rw [List.mem_append,List.mem_append,j5];grind
      ·rcases List.mem_append.1 hx' with hx'|hx'
       ·exact hnd'.2.2 x hx' x ((j5 x).2 (.inl hx)) rfl
       ·exact j8 x hx hx'
  have hc:cs[c]?=some (.own d η):=by
   simp only [Ob.own] at ho;split at ho
   ·simp at ho;obtain ⟨rfl,rfl⟩:=ho;assumption
   ·simp at ho
  have hnd:(b::S1).Nodup:=by rw [←h3];exact hfg.1
  obtain ⟨u,S,S',j1,j2,j3,j4,j5,j6,j7,j8⟩:=key h2 (List.nodup_cons.1 hnd).2 hc;have hS:∀x∈S,x∈F g:=fun x hx=>by rw [h3];simp [(j5 x).2 (.inl hx)]
  have hS':∀x∈b::S',x∈F g:=fun x hx=>by
   rw [h3];rcases List.mem_cons.1 hx with rfl|hx
   ·simp
   ·simp [(j5 x).2 (.inr hx)]
  have hbS':b∉S':=fun hb=>(List.nodup_cons.1 hnd).1 ((j5 b).2 (.inr hb))
  have hrm:(Ob.box b ty cs).rm c=.box b ty (cs.set c (.a (.v (η [])))):=by simp only [Ob.rm,hc,rmC]
  refine ⟨u,S,_,j1,j2,j3,⟨j7,fun x hx=>hfg.2 x (hS x hx)⟩,h.setO (S:=b::S') (ob:=(Ob.box b ty cs).rm c) (by rw [hrm];exact ⟨us,S',h1,j4,rfl⟩) ⟨List.nodup_cons.2 ⟨hbS',j6⟩,fun x hx=>hfg.2 x (hS' x hx)⟩ (fun g' hg x hx=>h.dj g g' (Ne.symm hg) x (hS' x hx)),fun g' x hx hx'=>?_,hS,fun g' x hx=>?_⟩
  ·split at hx'
   ·rcases List.mem_cons.1 hx' with rfl|hx'
    ·exact (List.nodup_cons.1 hnd).1 ((j5 x).2 (.inl hx))
    ·exact j8 x hx hx'
   ·exact h.dj g g' (by omega) x (hS x hx) hx'
  ·split at hx
   ·rename_i e;subst e;exact hS' x hx
   ·exact hx
end
def jjK (B:Nat) (w:World):List AV→List Value→Prop
 |[],xs=>xs=[]
 |a::l,xs=>∃x xs',xs=x::xs'∧VRel B w a x∧jjK B w l xs'
abbrev St.only (o:Nat→Ob):St:=⟨fun _=>.unk,o⟩
def Act.bare:Act:={tmps:=#[],defers:=[]}
def Turns (P:Program) (f:FuncId) (args:List AV) (o:Nat→Ob) (R:RT→(Nat→Ob)→Prop):Prop:=
 joa P f∧∀(B:Nat) (w:World) (F:Nat→List Nat) (xs:List Value),RelF B w 0 (.only o) Act.bare w F→jjK B w args xs→
  Calls P f xs.toArray w fun e w'=>∃v rt o' S F',e=.returned v∧RelF B w 0 (.only o') Act.bare w' F'∧jjL w' rt v S∧Fresh B S∧(∀g,∀b∈S,b∉F' g)∧R rt o'
def Inl (P:Program) (f:FuncId) (args:List AV) (o:Nat→Ob) (R:AV→(Nat→Ob)→Prop):Prop:=
 joa P f∧∀(B:Nat) (w:World) (F:Nat→List Nat) (xs:List Value),RelF B w 0 (.only o) Act.bare w F→jjK B w args xs→
  Calls P f xs.toArray w fun e w'=>∃v av o',∃F':Nat→List Nat,e=.returned v∧RelF B w 0 (.only o') Act.bare w' F'∧VRel B w' av v∧R av o'
def D.put:List Nat→Nat→List D→D→D
 |[],i,ds,.sl size ty cs=>.sl size ty (kC cs i ds)
 |k::p,i,ds,.sl size ty cs=>.sl size ty (match cs[k]? with
  |some d=>cs.set k (D.put p i ds d)
  |none=>cs)
 |_,_,_,.val u=>.val u
def jpi (p:List Nat) (i n:Nat) (q:List Nat):Prop:=∃j r,q=p++j::r∧i≤j∧j<i+n
def stH (flat:Bool) (p:List Nat) (k n:Nat) (η:jq) (K:jq→Prop):Prop:=match flat with
 |true=>K η
 |false=>∀η',(∀q,¬jpi p k n q→η' q=η q)→K η'
theorem jpv {flat:Bool} {p:List Nat} {k n:Nat} {η:jq} {K K':jq→Prop} (h:∀η',K η'→K' η') (hk:stH flat p k n η K):stH flat p k n η K':=by
 cases flat with
 |true=>exact h _ hk
 |false=>exact fun η' hη=>h _ (hk η' hη)
theorem jwK {flat:Bool} {p:List Nat} {k n:Nat} {η η':jq} {K:jq→Prop} (hk:stH flat p k n η K) (h:∀q,¬jpi p k n q→η' q=η q) (hf:flat=true→η'=η):K η':=by
 cases flat with
 |true=>rw [hf rfl];exact hk
 |false=>exact hk η' h
def vg (P:Program) (β:Nat) (i:Ins) (s:St) (K:St→Prop):Prop:=match i.i with
 |.box ty n x=>∃l,(s.ev x).cells=some l∧l.length=n∧qA s l fun cs s'=>∀b,K ((s'.addO [(100*(β+i.d.getD 0),.box b ty cs)]).put i.d (.c (.bp (100*(β+i.d.getD 0)) 0 b)))
 |.bsl e size _ ks ps=>∃l,jr3 s ps=some l∧qA s l fun cs s'=>∃ds,zO ks cs=some ds∧∀η,K ((s'.addO [(100*(β+i.d.getD 0),.loose (.sl size e ds) η)]).put i.d (.c (.h (100*(β+i.d.getD 0)) 0 [] (η []))))
 |.st n ks a x=>i.d=none∧∃l,(s.ev x).cells=some l∧l.length=n∧qA s l fun cs s'=>match s.ev a with
  |.c (.bp g c b)=>∃ty ds,s'.o g=.box b ty ds∧c+n≤ds.length∧K (s'.setO g (.box b ty (kC ds c cs)))
  |.c (.ep g c p k hx)=>0<n∧∃ds,zO ks cs=some ds∧∃d0 η dd,(s'.o g).own c=some (d0,η)∧η p=hx∧D.get p d0=some dd∧dd.isSl=true∧k+n≤dd.cells.length∧
   stH (ka ds&&ka ((dd.cells.drop k).take n)) p k n η fun η'=>K (s'.setO g ((s'.o g).putOwn c (D.put p k ds d0) η'))
  |_=>False
 |.app e size bytes x y=>juV s size (s.ev y) fun ys s1=>jh7 s1 e size (s.ev x) fun xs s2=>xs.length/size+ys.length/size≤maxLen∧(xs.length/size+ys.length/size)*bytes≤140737488355328∧
  ∀η,K ((s2.addO [(100*(β+i.d.getD 0),.loose (.sl size e (xs++ys)) η)]).put i.d (.c (.h (100*(β+i.d.getD 0)) 0 [] (η []))))
 |.apps e x y=>∃b,s.ev y=.c (.v (.string b))∧jh7 s e 1 (s.ev x) fun xs s2=>xs.length+b.size≤140737488355328∧
  ∀η,K ((s2.addO [(100*(β+i.d.getD 0),.loose (.sl 1 e (xs++strCells b)) η)]).put i.d (.c (.h (100*(β+i.d.getD 0)) 0 [] (η []))))
 |.clr size zs x=>i.d=none∧match s.ev x with
  |.c (.v (.slice none 0 0))=>K s
  |.c (.hs g c p hx sz lo n)=>sz=size∧0<n∧∃d0 η dd,(s.o g).own c=some (d0,η)∧η p=hx∧D.get p d0=some dd∧dd.isSl=true∧dd.size=sz∧lo+n≤dd.len∧
   stH (ka (List.replicate n zs).flatten&&ka ((dd.cells.drop (lo*sz)).take (n*sz))) p (lo*sz) (n*sz) η fun η'=>K (s.setO g ((s.o g).putOwn c (D.put p (lo*sz) (List.replicate n zs).flatten d0) η'))
  |_=>False
 |.call f args=>(∃rt,∀st,∃av os,Gen P s (β+i.d.getD 0) rt st (.call f args) av os∧K ((s.addO os).put i.d av))∨
  (Turns P f (args.map s.ev) s.o fun rt o'=>∀η:Nat→jq,K (((⟨s.t,o'⟩:St).addO (jj6 (100*(β+i.d.getD 0)) η 0 rt.flat)).put i.d (rt.av (100*(β+i.d.getD 0)) η)))∨
  Inl P f (args.map s.ev) s.o fun av o'=>K (St.put ⟨s.t,o'⟩ i.d av)
 |.callv x args=>(∃rt,∀st,∃av os,Gen P s (β+i.d.getD 0) rt st (.callv x args) av os∧K ((s.addO os).put i.d av))∨
  ∃f caps,s.ev x=.fn f caps∧Turns P f (args.map s.ev++caps.map .c) s.o fun rt o'=>∀η:Nat→jq,K (((⟨s.t,o'⟩:St).addO (jj6 (100*(β+i.d.getD 0)) η 0 rt.flat)).put i.d (rt.av (100*(β+i.d.getD 0)) η))
 |j=>∃rt,∀st,∃av os,Gen P s (β+i.d.getD 0) rt st j av os∧K ((s.addO os).put i.d av)
def vJ (s:St):Option (Nat×Bool)→Option Bool
 |none=>some true
 |some (t,want)=>match s.t t with
  |.c (.v (.bool b))=>some (b==want)
  |.c (.v _)=>some false
  |_=>none
def jf7 (P:Program) (β:Nat):List Ins→St→(St→Prop)→Prop
 |[],s,K=>K s
 |i::l,s,K=>match vJ s i.g with
  |some true=>vg P β i s fun s'=>jf7 P β l s' K
  |some false=>jf7 P β l (s.put i.d (.c (.v undef))) K
  |none=>False
def A0.ids:A0→List Nat
 |.h g _ _ _=>[g]
 |.hs g _ _ _ _ _ _=>[g]
 |.bp g _ _=>[g]
 |.ep g _ _ _ _=>[g]
 |_=>[]
def AV.ids:AV→List Nat
 |.c a=>a.ids
 |.agg l=>l.flatMap A0.ids
 |.fn _ l=>l.flatMap A0.ids
 |_=>[]
inductive Lk where
 |ob (g:Nat)
 |cs (g c n:Nat)
def A0.looks (n:Nat):A0→List Lk
 |.h g _ _ _=>[.ob g]
 |.hs g _ _ _ _ _ _=>[.ob g]
 |.bp g c _=>[.cs g c n]
 |.ep g _ _ _ _=>[.ob g]
 |.v _=>[]
 |.ro _=>[]
 |.rp _=>[]
 |.un=>[]
def AV.looks (n:Nat):AV→List Lk
 |.c a=>a.looks n
 |.agg _=>[]
 |.fn _ _=>[]
 |.tup _=>[]
 |.unk=>[]
def I.looks (s:St):I→List Lk
 |.ld _ n x=>(s.ev x).looks n
 |.ia _ x _=>(s.ev x).ids.map .ob
 |.cv _ _ x=>(s.ev x).ids.map .ob
 |.len _ x=>(s.ev x).ids.map .ob
 |.sl _ x _ _=>(s.ev x).ids.map .ob
 |_=>[]
def jq6 (g c n:Nat):Ob→Ob→Prop
 |.box b ty cs,.box b' ty' cs'=>b=b'∧ty=ty'∧cs.length=cs'.length∧jdl g c ((cs.drop c).take n)=jdl g c ((cs'.drop c).take n)
 |ob,ob'=>ob=ob'
def jp3 (s s':St):Lk→Prop
 |.ob g=>s'.o g=s.o g
 |.cs g c n=>jq6 g c n (s'.o g) (s.o g)
def joQ (s s':St):List Lk→Prop
 |[]=>True
 |k::l=>jp3 s s' k∧joQ s s' l
theorem jiI (g c n:Nat) (ob:Ob):jq6 g c n ob ob:=by cases ob<;>first|rfl|exact ⟨rfl,rfl,rfl,rfl⟩
theorem jlW {s:St} {d:Option Nat} {v:AV} {k:Lk}:jp3 s (s.put d v) k:=by cases k<;>cases d<;>first|rfl|exact jiI _ _ _ _
theorem kept_put2 {s s2:St} {d:Option Nat} {v:AV} {k:Lk}:jp3 (s.put d v) (s2.put d v) k↔jp3 s s2 k:=by cases k<;>cases d<;>exact Iff.rfl
theorem jtH {s:St} {d:Option Nat} {v:AV} {k:Lk}:jp3 (s.put d v) s k:=by cases k<;>cases d<;>first|rfl|exact jiI _ _ _ _
def jlY (s s':St) (chk:List Nat):List (Nat×List Lk)→Prop
 |[]=>True
 |(p,ids)::l=>(if chk.contains p then joQ s s' ids else True)∧jlY s s' chk l
def vZ (P:Program) (β:Nat):T→List (Nat×List Lk)→St→(St→Prop)→Prop
 |.done,_,s,K=>K s
 |.stop,_,_,_=>True
 |.pure p i t,l,s,K=>match vJ s i.g with
  |some true=>vg P β i s fun s'=>vZ P β t ((p,i.i.looks s)::l) s' K
  |some false=>vZ P β t l (s.put i.d (.c (.v undef))) K
  |none=>False
 |.alt i chk t rest,l,s,K=>(match vJ s i.g with
  |some true=>vg P β i s fun s'=>jlY s s' chk l∧vZ P β t l s' K
  |some false=>vZ P β t l (s.put i.d (.c (.v undef))) K
  |none=>False)∧vZ P β rest l s K
def Wk (s s':St):Prop:=∀(B N:Nat) (w0 w:World) (a:Act) (F:Nat→List Nat),RelF B w0 N s a w F→∃F':Nat→List Nat,RelF B w0 N s' a w F'∧∀g,∀b∈F' g,∃g',b∈F g'
def WkK (s:St) (K:St→Prop):Prop:=∀(B N:Nat) (w0 w:World) (a:Act) (F:Nat→List Nat),RelF B w0 N s a w F→∃(s':St) (F':Nat→List Nat),RelF B w0 N s' a w F'∧K s'
inductive Ex where
 |normal
 |exit (id:Nat)
 |ret
def Ex.thn (next:St→Prop) (Q:Ex→St→Prop):Ex→St→Prop
 |.normal,s=>next s
 |.exit id,s=>Q (.exit id) s
 |.ret,s=>Q .ret s
def Ex.inBlk (id:Nat) (Q:Ex→St→Prop):Ex→St→Prop
 |.exit id',s=>if id'=id then Q .normal s else Q (.exit id') s
 |.normal,s=>Q .normal s
 |.ret,s=>Q .ret s
def wpC (P:Program) (β:Nat):C→(Ex→St→Prop)→St→Prop
 |.skip,Q,s=>Q .normal s
 |.reg is,Q,s=>jf7 P β is s (Q .normal)
 |.dreg t,Q,s=>vZ P β t [] s (Q .normal)
 |.seq a b,Q,s=>wpC P β a (Ex.thn (wpC P β b Q) Q) s
 |.cond x a b,Q,s=>∃t,s.ev x=.c (.v (.bool t))∧(t=true→wpC P β a Q s)∧(t=false→wpC P β b Q s)
 |.blk id a,Q,s=>wpC P β a (Ex.inBlk id Q) s
 |.loop a,Q,s=>∃(ι:Type) (mk:ι→St) (J:ι→Prop) (μ:ι→Nat),(∃i,J i∧Wk s (mk i))∧∀i,J i→wpC P β a (Ex.thn (fun s'=>∃i',J i'∧Wk s' (mk i')∧μ i'<μ i) Q) (mk i)
 |.gh a,Q,s=>WkK s (wpC P β a Q)
 |.exit id,Q,s=>Q (.exit id) s
 |.ret,Q,s=>Q .ret s
def jwS (rs:List R) (rt:RT):Ex→St→Prop
 |.exit _,_=>False
 |_,s=>jwD rs rt s
def RetT (rs:List R) (K:RT→(Nat→Ob)→Prop) (s:St):Prop:=jhv s rs fun ps=>∃rt,jao rt ps∧qA s (ps.flatMap (·.2)) fun cs s'=>IsD cs rt.flat∧K rt s'.o
def jze (rs:List R) (K:RT→(Nat→Ob)→Prop):Ex→St→Prop
 |.exit _,_=>False
 |_,s=>RetT rs K s
def St.start (args:List AV) (o:Nat→Ob):St:=⟨fun n=>(args[n]?).getD .unk,o⟩
def jse (rs:List R) (K:AV→(Nat→Ob)→Prop) (s:St):Prop:=jhv s rs fun ps=>match ps with
 |[(true,l)]=>K (.agg l) s.o
 |[(false,[a])]=>K (.c a) s.o
 |[]=>K (.tup []) s.o
 |p::q::r=>K (.tup (p::q::r)) s.o
 |_=>False
def jBr (rs:List R) (K:AV→(Nat→Ob)→Prop):Ex→St→Prop
 |.exit _,_=>False
 |_,s=>jse rs K s
end Go.Proofs.YtmnpailnelmpiaaGreat
