/- Parts. -/
import Derived.Test.YtmnpailnelmpiaaQE1
set_option linter.unusedSimpArgs false
set_option linter.unusedVariables false
namespace Go.Proofs.Ytmnpailnelmpiaa
open Go.RowKit Go.Sort
def ViewRel (w:World):View→Value→Prop
 |.c d,x=>∃S,Rep w false d x S
 |.agg ds,x=>∃S,AggRep w false ds x S
 |.ptr ds,x=>CellsAt w ds x
 |.fn f caps,x=>∃xs:List Value,x=.func (.func f) #[] xs.toArray∧All2 caps xs
where
 CellsAt (w:World) (ds:List D) (x:Value):Prop:=∃b o us S,x=.pointer (some ⟨b,o,none⟩)∧RepL w false ds us S∧∀j u,us[j]?=some u→w.cell? ⟨b,o+j,none⟩=some u
 All2:List (List D)→List Value→Prop
  |[],xs=>xs=[]
  |ds::l,xs=>∃x xs',xs=x::xs'∧CellsAt w ds x∧All2 l xs'
def qU (w:World):List View→List Value→Prop
 |[],xs=>xs=[]
 |v::l,xs=>∃x xs',xs=x::xs'∧ViewRel w v x∧qU w l xs'
def jk2 (w:World):List (Bool×List D)→List Value→List Nat→Prop
 |[],xs,S=>xs=[]∧S=[]
 |(b,ds)::l,xs,S=>∃x xs' us S1 S2,xs=x::xs'∧S=S1++S2∧RepL w true ds us S1∧(if b then x=.agg us.toArray else us=[x])∧jk2 w l xs' S2
def jiP (w:World):RT→Value→List Nat→Prop
 |.c d,x,S=>Rep w true d x S
 |.agg ds,x,S=>AggRep w true ds x S
 |.tup l,x,S=>∃xs,x=.tuple xs.toArray∧jk2 w l xs S
def jf2 (P:Program) (f:FuncId):Prop:=∃fn,P.funcs[f]?=some fn∧fn.body.isSome=true∧(fn.name != "runtime.NumGoroutine")=true
def kg (P:Program) (f:FuncId) (vs:List View) (rt:RT):Prop:=
 jf2 P f∧∀w xs,qU w vs xs→Calls P f xs.toArray w fun e w'=>∃v S,e=.returned v∧jiP w' rt v S∧Fresh w.heap.size S∧Below w.heap.size w w'
def jce (g:Nat):Nat→List Cell→List A0
 |_,[]=>[]
 |c,.a x::l=>x::jce g (c+1) l
 |c,.own _ η::l=>.h g c [] (η [])::jce g (c+1) l
def jdg (g c:Nat) (p:List Nat) (η:jm):Nat→List D→List A0
 |_,[]=>[]
 |i,d::l=>d.toOwn g c (p++[i]) η::jdg g c p η (i+1) l
def vR (s:St) (n:Nat) (l:List A0):AV→Prop
 |.c (.rp ds)=>n≤ds.length∧l=(ds.take n).map D.toRo
 |.c (.bp g c b)=>∃ty cs,s.o g=.box b ty cs∧c+n≤cs.length∧l=jce g c ((cs.drop c).take n)
 |.c (.ep g c p i x)=>∃d0 η d,(s.o g).own c=some (d0,η)∧η p=x∧D.get p d0=some d∧d.isSl=true∧i+n≤d.cells.length∧l=jdg g c p η i ((d.cells.drop i).take n)
 |_=>False
def jd4 (s:St):List A0→List (Nat×Nat×X)→Option (List A0)
 |cs,[]=>some cs
 |cs,(off,size,x)::ps=>match (s.ev x).cells with
  |some l=>if l.length=size∧off+size≤cs.length then jd4 s (kD cs off l) ps else none
  |none=>none
def jme (s:St):List (Nat×Nat×X)→Option (List A0)
 |[]=>some []
 |(_,size,x)::ps=>match (s.ev x).cells,jme s ps with
  |some l,some r=>if l.length=size then some (l++r) else none
  |_,_=>none
def A0.plain:A0→Bool
 |.h _ _ _ _=>false
 |.hs _ _ _ _ _ _ _=>false
 |_=>true
def joP (s:St) (str:Bool) (a:AV) (n:Nat):Prop:=match str,a with
 |true,.c (.v (.string b))=>n=b.size
 |false,.c (.v (.slice none 0 0))=>n=0
 |false,.c (.ro d)=>d.isSl=true∧0<d.size∧n=d.len
 |false,.c (.h g c p x)=>∃d,Is s (.h g c p x) d∧0<d.size∧n=d.len
 |false,.c (.hs g c p x size lo m)=>(∃d,Is s (.hs g c p x size lo m) d)∧n=m
 |_,_=>False
def jcU (s:St) (x:Option X) (dflt:Nat) (n:Nat):Prop:=match x with
 |none=>n=dflt
 |some x=>∃k,s.ev x=.c (.v (.int k (n:Int)))
def jbj (s:St):List X→Option (List A0)
 |[]=>some []
 |x::l=>match s.ev x,jbj s l with
  |.c a,some r=>some (a::r)
  |_,_=>none
def Gen (P:Program) (s:St) (d:Nat) (rt:RT) (st:joM):I→AV→List (Nat×Ob)→Prop
 |.mov x,av,os=>av=s.ev x∧os=[]
 |.pick c a b,av,os=>∃t,s.ev c=.c (.v (.bool t))∧av=(if t then s.ev a else s.ev b)∧os=[]
 |.alloc ty zs,av,os=>av=.c (.bp (100*d) 0 st.blk)∧os=[(100*d,.box st.blk ty (zs.map fun z=>.a (.v z)))]
 |.bld zs ps,av,os=>∃l,jd4 s (zs.map .v) ps=some l∧av=.agg l∧os=[]
 |.ld agg n x,av,os=>∃l,vR s n l (s.ev x)∧(if agg then av=.agg l else∃a,l=[a]∧av=.c a)∧os=[]
 |.fa off x,av,os=>(match s.ev x with
  |.c (.rp ds)=>av=.c (.rp (ds.drop off))
  |.c (.bp g c b)=>av=.c (.bp g (c+off) b)
  |.c (.ep g c p i x)=>av=.c (.ep g c p (i+off) x)
  |_=>False)∧os=[]
 |.ia size x i,av,os=>∃k n,s.ev i=.c (.v (.int k n))∧0≤n∧(match s.ev x with
  |.c (.ro d)=>d.isSl=true∧d.size=size∧n.toNat<d.len∧av=.c (.rp (d.elem n.toNat))
  |.c (.h g c p hx)=>(∃d,Is s (.h g c p hx) d∧d.size=size∧n.toNat<d.len)∧av=.c (.ep g c p (n.toNat*size) hx)
  |.c (.hs g c p hx sz lo m)=>(∃d,Is s (.hs g c p hx sz lo m) d)∧sz=size∧n.toNat<m∧av=.c (.ep g c p ((lo+n.toNat)*size) hx)
  |_=>False)∧os=[]
 |.sidx x i,av,os=>∃b k n u,s.ev x=.c (.v (.string b))∧s.ev i=.c (.v (.int k n))∧0≤n∧b[n.toNat]?=some u∧av=.c (.v (.int .u8 u.toNat))∧os=[]
 |.bin op ty x y,av,os=>((∃a b v,s.ev x=.c (.v a)∧s.ev y=.c (.v b)∧js7 op a b v∧av=.c (.v v))∨
  (∃l m xs ys b,s.ev x=.agg l∧s.ev y=.agg m∧jaj l=some xs∧jaj m=some ys∧EqR P op ty xs ys b∧av=.c (.v (.bool b))))∧os=[]
 |.beq neg x y,av,os=>∃a b,s.ev x=.c (.v (.bool a))∧s.ev y=.c (.v (.bool b))∧av=.c (.v (.bool (if neg then !(a==b) else a==b)))∧os=[]
 |.un op x,av,os=>(match op with
  |.not=>∃b,s.ev x=.c (.v (.bool b))∧av=.c (.v (.bool (!b)))
  |.neg=>∃k n,s.ev x=.c (.v (.int k n))∧av=.c (.v (.int k (k.wrap (0-n))))
  |_=>False)∧os=[]
 |.cv c _ x,av,os=>(match c with
  |.num k=>∃k' n,s.ev x=.c (.v (.int k' n))∧av=.c (.v (.int k (k.wrap n)))
  |.text=>∃(a:A0) (ty:Nat) (bs:List UInt8),s.ev x=.c a∧Is s a (.sl 1 ty (bs.map kR))∧av=.c (.v (.string ⟨bs.toArray⟩))
  |.bytes=>False)∧os=[]
 |.len str x,av,os=>∃n,joP s str (s.ev x) n∧av=.c (.v (.int .i64 n))∧os=[]
 |.mm mx x y,av,os=>∃k k' a b,s.ev x=.c (.v (.int k a))∧s.ev y=.c (.v (.int k' b))∧av=.c (.v (.int k (if mx then (if b>a then b else a) else (if b<a then b else a))))∧os=[]
 |.mks e size bytes zs l c,av,os=>∃(k k':IntKind) (n:Nat),s.ev l=.c (.v (.int k (n:Int)))∧s.ev c=.c (.v (.int k' (n:Int)))∧bytes*n≤281474976710656∧n≤maxLen∧
  av=.c (.h (100*d) 0 [] (st.η 0 []))∧os=[(100*d,.loose (.sl size e ((List.replicate n zs).flatten)) (st.η 0))]
 |.sl size x lo hi,av,os=>∃l h,jcU s lo 0 l∧l≤h∧(match s.ev x with
  |.c (.v (.string b))=>size=0∧jcU s hi b.size h∧h≤b.size∧av=.c (.v (.string (b.extract l h)))
  |.c (.ro d)=>0<size∧d.isSl=true∧d.size=size∧jcU s hi d.len h∧h≤d.len∧av=.c (.ro (d.sub l h))
  |.c (.h g c p hx)=>0<size∧(∃d,Is s (.h g c p hx) d∧d.size=size∧jcU s hi d.len h∧h≤d.len)∧av=.c (.hs g c p hx size l (h-l))
  |.c (.hs g c p hx sz lo m)=>(∃d,Is s (.hs g c p hx sz lo m) d)∧sz=size∧jcU s hi m h∧h≤m∧av=.c (.hs g c p hx size (lo+l) (h-l))
  |_=>False)∧os=[]
 |.ext x i,av,os=>∃l b az,s.ev x=.tup l∧l[i]?=some (b,az)∧(if b then av=.agg az else∃a,az=[a]∧av=.c a)∧os=[]
 |.mkf f caps,av,os=>∃l,jbj s caps=some l∧av=.fn f l∧os=[]
 |.call f args,av,os=>∃vs,vG s (args.map s.ev) vs∧kg P f vs rt∧av=rt.av (100*d) st.η∧os=jg1 (100*d) st.η 0 rt.flat
 |.callv x args,av,os=>∃f caps vs,s.ev x=.fn f caps∧vG s (args.map s.ev++caps.map .c) vs∧kg P f vs rt∧av=rt.av (100*d) st.η∧os=jg1 (100*d) st.η 0 rt.flat
 |_,_,_=>False
def jtb (k:Option (Nat×Nat)) (x:Value):D:=match k,x with
 |some (size,ty),.slice none 0 0=>.sl size ty []
 |_,x=>.val x
def jlH:List (Option (Nat×Nat))→List Value→List D
 |_,[]=>[]
 |ks,x::l=>jtb (ks.head?.getD none) x::jlH ks.tail l
def vf:List (Option (Nat×Nat))→List Cell→Option (List D)
 |_,[]=>some []
 |ks,.a (.v x)::l=>match vf ks.tail l with
  |some r=>some (jtb (ks.head?.getD none) x::r)
  |none=>none
 |ks,.own d _::l=>match vf ks.tail l with
  |some r=>some (d::r)
  |none=>none
 |_,_::_=>none
def kq:List D→Bool
 |[]=>true
 |.val u::l=>u.oneCell'&&kq l
 |_::_=>false
def jjm:List D→Bool
 |[]=>true
 |.val u::l=>u.oneCell'&&jjm l
 |.sl _ _ _::l=>jjm l
def strCells (b:ByteArray):List D:=b.data.toList.map kR
def Ob.putOwn:Ob→Nat→D→jm→Ob
 |.loose _ _,_,d,η=>.loose d η
 |.box b ty cs,c,d,η=>.box b ty (cs.set c (.own d η))
 |.none,_,_,_=>.none
def jbZ (s:St) (e size:Nat) (a:AV) (K:List D→St→Prop):Prop:=match a with
 |.c (.v (.slice none 0 0))=>K [] s
 |.c (.h g c p x)=>(p=[]∧∃cs η,(s.o g).own c=some (.sl size e cs,η)∧η []=x∧K cs (s.rm g c))∨
  ∃k,p=[k]∧∃sz tyo ds0 cs η,(s.o g).own c=some (.sl sz tyo ds0,η)∧ds0[k]?=some (.sl size e cs)∧η [k]=x∧∀η',η' []=η []→K cs (s.setO g ((s.o g).putOwn c (.sl sz tyo (ds0.set k (.val x))) η'))
 |_=>False
def joY (s:St) (size:Nat) (a:AV) (K:List D→St→Prop):Prop:=match a with
 |.c (.v (.slice none 0 0))=>K [] s
 |.c (.ro d)=>d.isSl=true∧d.size=size∧kq d.cells=true∧K d.cells s
 |.c (.hs g c p x sz lo m)=>∃d,Is s (.hs g c p x sz lo m) d∧d.size=size∧kq d.cells=true∧K d.cells s
 |.c (.h g c p x)=>∃d,Is s (.h g c p x) d∧d.size=size∧(if kq d.cells=true then K d.cells s else p=[]∧jjm d.cells=true∧K d.cells (s.rm g c))
 |_=>False
def View.av:View→AV
 |.c d=>.c d.toRo
 |.agg ds=>.agg (ds.map D.toRo)
 |.ptr ds=>.c (.rp ds)
 |.fn f caps=>.fn f (caps.map .rp)
def St.init (vs:List View):St:=⟨fun n=>((vs.map View.av)[n]?).getD .unk,fun _=>.none⟩
inductive R where
 |t (n:Nat)
 |cell (n:Nat) (agg:Bool) (size:Nat)
def jhv (s:St):List R→(List (Bool×List A0)→Prop)→Prop
 |[],K=>K []
 |.t n::rs,K=>match s.t n with
  |.agg l=>jhv s rs fun ps=>K ((true,l)::ps)
  |.c a=>jhv s rs fun ps=>K ((false,[a])::ps)
  |_=>False
 |.cell n agg size::rs,K=>∃l,vR s size l (s.t n)∧(agg=true∨l.length=1)∧jhv s rs fun ps=>K ((agg,l)::ps)
def jfF:RT→List (Bool×List A0)→Prop
 |.c _,ps=>∃a,ps=[(false,[a])]
 |.agg _,ps=>∃l,ps=[(true,l)]
 |.tup l,ps=>ps.length≠1∧ps.map (fun p=>(p.1,p.2.length))=l.map (fun p=>(p.1,p.2.length))
def IsD:List Cell→List D→Prop
 |[],ds=>ds=[]
 |.a (.v x)::l,d::ds=>(d=.val x∨x=.slice none 0 0∧∃size ty,d=.sl size ty [])∧IsD l ds
 |.own d' _::l,d::ds=>d'=d∧IsD l ds
 |_,_=>False
def joO (rs:List R) (rt:RT) (s:St):Prop:=jhv s rs fun ps=>jfF rt ps∧ka s (ps.flatMap (·.2)) fun cs _=>IsD cs rt.flat
def jc7:Value→Bool
 |.agg cs=>cs.toList.all (·.oneCell')
 |.tuple _=>false
 |_=>true
def jx:Operand→Option X
 |.tmp t=>some (.t t)
 |.const v=>if jc7 v then some (.c v) else none
 |.func f=>some (.f f)
 |.global _=>none
def qJ:List Operand→Option (List X)
 |[]=>some []
 |x::l=>match jx x,qJ l with
  |some x,some l=>some (x::l)
  |_,_=>none
def jaz (off:Nat→Option (Nat×Nat)):List (Nat×Operand)→Option (List (Nat×Nat×X))
 |[]=>some []
 |(i,x)::l=>match off i,jx x,jaz off l with
  |some (o,n),some x,some l=>some ((o,n,x)::l)
  |_,_,_=>none
def qm (P:Program) (t:TypeId):Option (List Value):=match P.info? t with
 |some i=>match i.zero with
  |some z=>if z.cells.size=i.size&&z.cells.toList.all (·.oneCell') then some z.cells.toList else none
  |none=>none
 |none=>none
def ky (P:Program) (t:TypeId):Option Nat:=(P.info? t).map (·.size)
def jfb (P:Program):Nat→TypeId→List (Option (Nat×Nat))
 |0,_=>[]
 |n+1,t=>match P.underlying t with
  |some (.slice e)=>[(ky P e).map fun k=>(k,e)]
  |some (.struct fs)=>fs.toList.flatMap fun f=>jfb P n f.type
  |_=>List.replicate ((ky P t).getD 1) none
def jhl (P:Program) (c:Call):Option I:=match c.callee,c.args.toList with
 |.builtin .len,[x]=>match (c.argTypes[0]?).bind P.underlying,jx x with
  |some .string,some x=>some (.len true x)
  |some (.slice _),some x=>some (.len false x)
  |_,_=>none
 |.builtin .append,[x,y]=>match c.argTypes.toList with
  |[t,t']=>match P.underlying t,P.underlying t' with
   |some (.slice e),some (.slice _)=>match P.info? e,qm P e,jx x,jx y with
    |some i,some _,some x,some y=>if 0<i.size&&t==t' then some (.app e i.size i.bytes x y) else none
    |_,_,_,_=>none
   |some (.slice e),some .string=>match P.underlying e,P.info? e,jx x,jx y with
    |some (.int .u8),some i,some x,some y=>match i.zero with
     |some (.int .u8 0)=>if i.size==1&&i.bytes==1 then some (.apps e x y) else none
     |_=>none
    |_,_,_,_=>none
   |_,_=>none
  |_=>none
 |.builtin .clear,[x]=>match c.argTypes.toList with
  |[t]=>match P.underlying t with
   |some (.slice e)=>match P.info? e,qm P e,jx x with
    |some i,some z,some x=>if 0<i.size then some (.clr i.size (jlH (jfb P 6 e) z) x) else none
    |_,_,_=>none
   |_=>none
  |_=>none
 |.builtin .max,[x,y]=>match jx x,jx y with
  |some x,some y=>some (.mm true x y)
  |_,_=>none
 |.builtin .min,[x,y]=>match jx x,jx y with
  |some x,some y=>some (.mm false x y)
  |_,_=>none
 |.value (.func f),l=>match P.funcs[f]?,qJ l with
  |some fn,some l=>if fn.body.isSome&&fn.name != "runtime.NumGoroutine" then some (.call f l) else none
  |_,_=>none
 |.value (.tmp t),l=>(qJ l).map (.callv (.t t))
 |_,_=>none
def qP (P:Program) (op:Op):Option I:=match op with
 |.move x|.assign x=>(jx x).map .mov
 |.pick c a b=>match jx c,jx a,jx b with
  |some c,some a,some b=>some (.pick c a b)
  |_,_,_=>none
 |.alloc e=>(qm P e).map (.alloc e)
 |.box e x=>match ky P e,jx x with
  |some n,some x=>some (.box e n x)
  |_,_=>none
 |.build t ps=>match P.underlying t,qm P t with
  |some (.struct fs),some z=>if !(fs.toList.all fun f=>(P.info? f.type).isSome) then none else (jaz (fun i=>match fs[i]? with
   |some f=>(ky P f.type).map fun n=>(f.offset,n)
   |none=>none) ps.toList).map (.bld z)
  |_,_=>none
 |.buildSlice t n ps=>match P.underlying t with
  |some (.slice e)=>match ky P e with
   |some size=>if 0<size&&(qm P e).isSome&&(ps.toList.map (·.1)==List.range n)&&n*size<1000 then (jaz (fun i=>some (i*size,size)) ps.toList).map (.bsl e size n ((List.replicate n (jfb P 6 e)).flatten)) else none
   |none=>none
  |_=>none
 |.load t x=>match P.underlying t,ky P t,jx x with
  |some (.struct _),some n,some x=>some (.ld true n x)
  |some (.array _ _),_,_=>none
  |some _,some 1,some x=>some (.ld false 1 x)
  |_,_,_=>none
 |.store t a x=>match ky P t,jx a,jx x with
  |some n,some a,some x=>some (.st n (jfb P 6 t) a x)
  |_,_,_=>none
 |.fieldAddr t x f=>match P.underlying t,jx x with
  |some (.struct fs),some x=>match fs[f]? with
   |some f=>match ky P f.type with
    |some (_+1)=>some (.fa f.offset x)
    |_=>none
   |none=>none
  |_,_=>none
 |.nilCheck x=>(jx x).map (.fa 0)
 |.indexAddr t x i=>match P.underlying t,jx x,jx i with
  |some (.slice e),some x,some i=>match ky P e with
   |some (n+1)=>some (.ia (n+1) x i)
   |_=>none
  |_,_,_=>none
 |.index t x i=>match P.underlying t,jx x,jx i with
  |some .string,some x,some i=>some (.sidx x i)
  |_,_,_=>none
 |.binOp op t x y _=>match jx x,jx y with
  |some x,some y=>match P.underlying t with
   |some .bool=>match op with
    |.eql=>some (.beq false x y)
    |.neq=>some (.beq true x y)
    |_=>none
   |some _=>some (.bin op t x y)
   |none=>none
  |_,_=>none
 |.unOp op _ x=>(jx x).map (.un op)
 |.convert t t' x=>match P.underlying t,P.underlying t',jx x with
  |some (.int _),some (.int k),some x=>some (.cv (.num k) 0 x)
  |some (.slice e),some .string,some x=>match P.underlying e with
   |some (.int .u8)=>some (.cv .text e x)
   |_=>none
  |_,_,_=>none
 |.makeSlice t l c=>match P.underlying t,jx l,jx c with
  |some (.slice e),some l,some c=>match P.info? e,qm P e with
   |some i,some z=>if 0<i.size then some (.mks e i.size i.bytes (jlH (jfb P 6 e) z) l c) else none
   |_,_=>none
  |_,_,_=>none
 |.slice t x lo hi none=>match P.underlying t,jx x with
  |some (.slice e),some x=>match ky P e with
   |some (n+1)=>match lo.map jx,hi.map jx with
    |none,none=>some (.sl (n+1) x none none)
    |some (some a),none=>some (.sl (n+1) x (some a) none)
    |none,some (some b)=>some (.sl (n+1) x none (some b))
    |some (some a),some (some b)=>some (.sl (n+1) x (some a) (some b))
    |_,_=>none
   |_=>none
  |some .string,some x=>match lo.map jx,hi.map jx with
   |none,none=>some (.sl 0 x none none)
   |some (some a),none=>some (.sl 0 x (some a) none)
   |none,some (some b)=>some (.sl 0 x none (some b))
   |some (some a),some (some b)=>some (.sl 0 x (some a) (some b))
   |_,_=>none
  |_,_=>none
 |.extract x i=>(jx x).map (.ext · i)
 |.makeFunc (.func f) first caps=>if first.isEmpty then (qJ caps.toList).map (.mkf f) else none
 |.call c=>jhl P c
 |_=>none
def jqw (P:Program) (N:Nat) (ops:Array Oper) (o:Oper):Option Ins:=
 match qP P o.op,(match o.dst with|some d=>decide (d<N)|none=>true) with
 |some i,true=>match o.guard with
  |none=>some ⟨o.dst,none,i⟩
  |some (j,want)=>match (ops[j]?).bind (·.dst) with
   |some t=>if t<N then some ⟨o.dst,some (t,want),i⟩ else none
   |none=>none
 |_,_=>none
def jfm (P:Program) (N:Nat) (ops:Array Oper):List Oper→Option (List Ins)
 |[]=>some []
 |o::l=>match jqw P N ops o,jfm P N ops l with
  |some i,some r=>some (i::r)
  |_,_=>none
def I.pureB:I→Bool
 |.mov _|.pick _ _ _|.bld _ _|.ld _ _ _|.fa _ _|.ia _ _ _|.sidx _ _|.bin _ _ _ _|.beq _ _ _|.un _ _|.cv _ _ _|.len _ _|.mm _ _ _|.sl _ _ _ _|.ext _ _|.mkf _ _=>true
 |_=>false
def js1 (ops:Array Oper):Nat→List Nat→List Nat→List Nat
 |0,seen,_=>seen
 |_+1,seen,[]=>seen
 |n+1,seen,j::todo=>match ops[j]? with
  |some o=>js1 ops n (((o.after.toList.filter fun e=>Region.binds .any e&&!seen.contains e.on).map (·.on))++seen) (((o.after.toList.filter fun e=>Region.binds .any e&&!seen.contains e.on).map (·.on))++todo)
  |none=>js1 ops n seen todo
def jhx (ops:Array Oper) (n j i:Nat):Bool:=(js1 ops (8*n+8) [] [j]).contains i
def I.xs:I→List X
 |.mov x|.box _ _ x|.ld _ _ x|.fa _ x|.un _ x|.cv _ _ x|.len _ x|.ext x _=>[x]
 |.pick c a b=>[c,a,b]
 |.alloc _ _=>[]
 |.bld _ ps|.bsl _ _ _ _ ps=>ps.map (·.2.2)
 |.st _ _ a x|.ia _ a x|.sidx a x|.bin _ _ a x|.beq _ a x|.app _ _ _ a x|.apps _ a x|.mm _ a x|.mks _ _ _ _ a x=>[a,x]
 |.sl _ x lo hi=>x::(lo.toList++hi.toList)
 |.mkf _ l|.call _ l=>l
 |.clr _ _ x=>[x]
 |.callv x l=>x::l
def X.tmp?:X→Option Nat
 |.t n=>some n
 |_=>none
def Ins.uses (i:Ins):List Nat:=i.i.xs.filterMap X.tmp?++(i.g.map (·.1)).toList
def jgz (i j:Ins):Bool:=
 (match i.d with
  |some d=>!(j.uses.contains d)&&j.d !=some d
  |none=>true)&&
 (match j.d with
  |some d=>!(i.uses.contains d)
  |none=>true)
def jsB (ops:Array Oper) (is:List Ins) (listed:Array Bool) (i:Nat):Bool:=match is[i]? with
 |none=>false
 |some x=>x.i.pureB&&(List.range ops.size).all fun j=>j==i||listed.getD j true||(match ops[j]?,is[j]? with
  |some oj,some y=>oj.after.any (fun e=>Region.binds .any e&&e.on==i)||jgz x y
  |_,_=>true)
def mkT (ops:Array Oper) (is:List Ins):Nat→List Nat→Array Bool→Option T
 |0,_,listed=>if (Region.ready .any ops listed).isEmpty then some .done else none
 |f+1,pures,listed=>
  if (Region.ready .any ops listed).isEmpty then some .done
  else match (Region.ready .any ops listed).find? (jsB ops is listed) with
   |some i=>match is[i]?,mkT ops is f (i::pures) (listed.setIfInBounds i true) with
    |some x,some t=>some (.pure i x t)
    |_,_=>none
   |none=>(Region.ready .any ops listed).foldr (fun j acc=>match is[j]?,mkT ops is f pures (listed.setIfInBounds j true),acc with
    |some x,some t,some rest=>some (.alt x (pures.filter fun p=>!jhx ops ops.size j p) t rest)
    |_,_,_=>none) (some .stop)
def jqv (P:Program) (N:Nat) (ops:Array Oper):Option T:=
 if P.follows .mixedOrders then match jfm P N ops ops.toList with
  |some is=>mkT ops is ops.size [] (Array.replicate ops.size false)
  |none=>none
 else none
def jcn (P:Program) (N:Nat):Code→Option C
 |.skip=>some .skip
 |.region _ ops false=>(jfm P N ops ops.toList).map .reg
 |.region _ ops true=>(jqv P N ops).map .dreg
 |.seq a b=>match jcn P N a,jcn P N b with
  |some a,some b=>some (.seq a b)
  |_,_=>none
 |.cond c a b=>match jx c,jcn P N a,jcn P N b with
  |some c,some a,some b=>some (.cond c a b)
  |_,_,_=>none
 |.block id a=>(jcn P N a).map (.blk id)
 |.loop a=>(jcn P N a).map .loop
 |.exit id=>some (.exit id)
 |.ret=>some .ret
 |_=>none
def jfY (P:Program) (N:Nat):List ResultVar→Option (List R)
 |[]=>some []
 |.tmp n::rs=>if n<N then (jfY P N rs).map (.t n:: ·) else none
 |.cell n t::rs=>if n<N then match P.underlying t,ky P t,jfY P N rs with
  |some (.struct _),some k,some r=>some (.cell n true k::r)
  |some (.array _ _),_,_=>none
  |some _,some k,some r=>some (.cell n false k::r)
  |_,_,_=>none
  else none
def fnC (P:Program) (fn:Func):Option (C×List R×Nat):=match fn.body with
 |some b=>if fn.name != "runtime.NumGoroutine" then match jcn P fn.ntmps b,jfY P fn.ntmps fn.results.toList with
  |some c,some rs=>some (c,rs,fn.ntmps)
  |_,_=>none
  else none
 |none=>none
end Go.Proofs.Ytmnpailnelmpiaa
