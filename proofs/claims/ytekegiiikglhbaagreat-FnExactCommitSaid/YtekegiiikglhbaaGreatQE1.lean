/- Parts. -/
import Derived.Test.YtekegiiikglhbaaGreatQBase2
set_option linter.all false
namespace Go.Proofs.YtekegiiikglhbaaGreat
open Go.RowKit Go.Sort
inductive X where
 |t (n:Nat)
 |c (v:Value)
 |f (n:Nat)
inductive Cv where
 |num (k:IntKind)
 |bytes
 |text
inductive I where
 |mov (x:X)
 |pick (c a b:X)
 |box (ty n:Nat) (x:X)
 |alloc (ty:Nat) (zs:List Value)
 |bld (zs:List Value) (ps:List (Nat×Nat×X))
 |bsl (e size len:Nat) (ks:List (Option (Nat×Nat))) (ps:List (Nat×Nat×X))
 |ld (agg:Bool) (n:Nat) (x:X)
 |st (n:Nat) (ks:List (Option (Nat×Nat))) (a x:X)
 |fa (off:Nat) (x:X)
 |ia (size:Nat) (x i:X)
 |sidx (x i:X)
 |bin (op:BinOp) (ty:Nat) (x y:X)
 |beq (neg:Bool) (x y:X)
 |un (op:UnOp) (x:X)
 |cv (c:Cv) (e:Nat) (x:X)
 |len (str:Bool) (x:X)
 |app (e size bytes:Nat) (x y:X)
 |apps (e:Nat) (x y:X)
 |clr (size:Nat) (zs:List D) (x:X)
 |mm (mx:Bool) (x y:X)
 |mks (e size bytes:Nat) (zs:List D) (l c:X)
 |sl (size:Nat) (x:X) (lo hi:Option X)
 |ext (x:X) (i:Nat)
 |fld (agg:Bool) (off n:Nat) (x:X)
 |mkf (f:Nat) (caps:List X)
 |call (f:Nat) (args:List X)
 |callv (x:X) (args:List X)
structure Ins where
 d:Option Nat
 g:Option (Nat×Bool)
 i:I
abbrev iA (d:Nat) (i:I):Ins:=⟨some d,none,i⟩
abbrev iB (d g:Nat) (w:Bool) (i:I):Ins:=⟨some d,some (g,w),i⟩
abbrev iC (i:I):Ins:=⟨none,none,i⟩
abbrev iM (n:Nat):I:=.mov (.t n)
abbrev iN (n:Int):I:=.mov (.c (.int .i64 n))
abbrev iO (b:Bool):I:=.mov (.c (.bool b))
abbrev iL (n:Nat):I:=.ld false 1 (.t n)
abbrev iT (k n:Nat):I:=.ld true k (.t n)
abbrev iF (k n:Nat):I:=.fa k (.t n)
abbrev iI (k a b:Nat):I:=.ia k (.t a) (.t b)
abbrev iP (o:BinOp) (k a b:Nat):I:=.bin o k (.t a) (.t b)
abbrev iQ (o:BinOp) (k a:Nat) (v:Int):I:=.bin o k (.t a) (.c (.int .i64 v))
abbrev iE (a k:Nat):I:=.ext (.t a) k
abbrev iG (a:Nat):I:=.len false (.t a)
abbrev iU (a:Nat):I:=.un .not (.t a)
abbrev aM (d n:Nat):Ins:=iA d (iM n)
abbrev aN (d:Nat) (n:Int):Ins:=iA d (iN n)
abbrev aO (d:Nat) (b:Bool):Ins:=iA d (iO b)
abbrev aL (d n:Nat):Ins:=iA d (iL n)
abbrev aT (d k n:Nat):Ins:=iA d (iT k n)
abbrev aF (d k n:Nat):Ins:=iA d (iF k n)
abbrev aI (d k a b:Nat):Ins:=iA d (iI k a b)
abbrev aP (d:Nat) (o:BinOp) (k a b:Nat):Ins:=iA d (iP o k a b)
abbrev aQ (d:Nat) (o:BinOp) (k a:Nat) (v:Int):Ins:=iA d (iQ o k a v)
abbrev aE (d a k:Nat):Ins:=iA d (iE a k)
abbrev aG (d a:Nat):Ins:=iA d (iG a)
abbrev aU (d a:Nat):Ins:=iA d (iU a)
abbrev iK (f:Nat) (l:List Nat):I:=.call f (l.map .t)
abbrev oI (n:Int):X:=.c (.int .i64 n)
abbrev oT:X:=.c (.bool true)
abbrev oF:X:=.c (.bool false)
abbrev iY (c:Nat) (a b:X):I:=.pick (.t c) a b
abbrev wAA (a b:Nat):Ins:=iC (.st 1 [none] (.t a) (.t b))
abbrev wAB (a b:Nat):Ins:=iC (.st 10 [none,none,some (1,106),some (8,112),some (3,80),none,none,some (5,67),none,none] (.t a) (.t b))
abbrev wAC (a b:Nat):Ins:=iC (.st 1 [some (3,80)] (.t a) (.t b))
abbrev wAD (a b:Nat):Ins:=iC (.st 4 [none,none,none,none] (.t a) (.t b))
abbrev wAE (a b:Nat):Ins:=iC (.st 4 [none,none,some (1,106),some (8,112)] (.t a) (.t b))
abbrev wAF (a b:Nat):Ins:=iC (.st 2 [none,none] (.t a) (.t b))
abbrev wAG (a b:Nat):Ins:=iC (.st 3 [none,none,none] (.t a) (.t b))
abbrev wAH (a b:Nat):Ins:=iC (.st 1 [some (5,67)] (.t a) (.t b))
abbrev wAI (a b:Nat):Ins:=iC (.st 5 [none,none,none,none,some (2,158)] (.t a) (.t b))
abbrev wAJ (a b:Nat):Ins:=iC (.st 8 [none,none,none,none,none,some (2,158),none,some (4,143)] (.t a) (.t b))
abbrev wAK (a b:Nat):Ins:=iC (.st 5 [none,none,none,none,none] (.t a) (.t b))
abbrev wAL:I:=.alloc 42 [.int .i64 0,.int .i64 0,.slice none 0 0,.slice none 0 0,.slice none 0 0,.int .i64 0,.int .i64 0,.slice none 0 0,.int .i64 0,.bool false]
abbrev wAM:I:=.alloc 39 [.slice none 0 0]
abbrev wAN:I:=.alloc 158 [.int .i64 0,.int .i64 0]
abbrev wAO:I:=.alloc 143 [.int .i64 0,.int .i64 0,.int .i64 0,.int .i64 0]
abbrev wAP:I:=.alloc 112 [.int .i64 0,.int .i64 0,.int .i64 0,.int .i64 0,.int .i64 0,.slice none 0 0,.int .i64 0,.slice none 0 0]
abbrev wAQ:I:=.alloc 36 [.int .i64 0,.int .i64 0,.slice none 0 0,.slice none 0 0]
abbrev wAR:I:=.alloc 67 [.int .i64 0,.int .i64 0,.int .i64 0,.int .i64 0,.int .i64 0]
abbrev wAS:I:=.alloc 65 [.int .i64 0,.int .i64 0,.int .i64 0,.int .i64 0]
abbrev wAT:I:=.alloc 109 [.int .i64 0,.int .i64 0,.int .i64 0,.int .i64 0,.slice none 0 0]
abbrev wAU:I:=.alloc 127 [.int .i64 0,.int .i64 0,.int .i64 0,.int .i64 0]
abbrev wAV (p:List (Nat×Nat×X)):I:=.bld [.int .i64 0,.int .i64 0,.slice none 0 0,.slice none 0 0] p
abbrev wAW (p:List (Nat×Nat×X)):I:=.bsl 3 1 1 [none] p
abbrev wAX (p:List (Nat×Nat×X)):I:=.bsl 112 8 1 [none,none,none,none,none,some (2,158),none,some (4,143)] p
inductive T where
 |done
 |stop
 |pure (pid:Nat) (i:Ins) (t:T)
 |alt (i:Ins) (chk:List Nat) (t rest:T)
abbrev tA (p d:Nat) (i:I) (t:T):T:=.pure p ⟨some d,none,i⟩ t
abbrev tB (p d g:Nat) (w:Bool) (i:I) (t:T):T:=.pure p ⟨some d,some (g,w),i⟩ t
abbrev tC (d:Nat) (i:I) (l:List Nat) (t r:T):T:=.alt ⟨some d,none,i⟩ l t r
inductive C where
 |skip
 |reg (is:List Ins)
 |dreg (t:T)
 |seq (a b:C)
 |cond (x:X) (a b:C)
 |blk (id:Nat) (a:C)
 |loop (a:C)
 |exit (id:Nat)
 |ret
 |gh (a:C)
abbrev iS (l:List Ins) (c:C):C:=.seq (.reg l) c
abbrev iD (a:Nat) (x y:C):C:=.cond (.t a) x y
def C.er:C->C
 |.seq a b=>.seq a.er b.er
 |.cond x a b=>.cond x a.er b.er
 |.blk id a=>.blk id a.er
 |.loop a=>.loop a.er
 |.gh a=>a.er
 |c=>c
def C.ghAt:List Nat->C->C
 |[],c=>.gh c
 |0::p,.seq a b=>.seq (a.ghAt p) b
 |_::p,.seq a b=>.seq a (b.ghAt p)
 |0::p,.cond x a b=>.cond x (a.ghAt p) b
 |_::p,.cond x a b=>.cond x a (b.ghAt p)
 |_::p,.blk id a=>.blk id (a.ghAt p)
 |_::p,.loop a=>.loop (a.ghAt p)
 |_,c=>c
inductive A0 where
 |v (x:Value)
 |ro (d:D)
 |rp (ds:List D)
 |h (g c:Nat) (p:List Nat) (x:Value)
 |bp (g c b:Nat)
 |ep (g c:Nat) (p:List Nat) (i:Nat) (x:Value)
 |un
 |hs (g c:Nat) (p:List Nat) (x:Value) (size lo n:Nat)
inductive AV where
 |c (a:A0)
 |agg (l:List A0)
 |fn (f:Nat) (caps:List A0)
 |tup (l:List (Bool×List A0))
 |unk
abbrev jl:=List Nat->Value
inductive Cell where
 |a (x:A0)
 |own (d:D) (η:jl)
inductive Ob where
 |none
 |loose (d:D) (η:jl)
 |box (b ty:Nat) (cs:List Cell)
structure St where
 t:Nat->AV
 o:Nat->Ob
structure jmD where
 blk:Nat
 η:Nat->jl
inductive RT where
 |c (d:D)
 |agg (ds:List D)
 |tup (l:List (Bool×List D))
inductive View where
 |c (d:D)
 |agg (ds:List D)
 |ptr (ds:List D)
 |fn (f:Nat) (caps:List (List D))
def D.get:List Nat->D->Option D
 |[],d=>some d
 |i::p,.sl _ _ cs=>match cs[i]? with
  |some d=>D.get p d
  |none=>none
 |_::_,.val _=>none
def D.cells:D->List D
 |.sl _ _ cs=>cs
 |.val _=>[]
def D.size:D->Nat
 |.sl s _ _=>s
 |.val _=>1
def D.isSl:D->Bool
 |.sl _ _ _=>true
 |.val _=>false
def D.len (d:D):Nat:=d.cells.length/d.size
def D.sub (d:D) (l h:Nat):D:=match d with
 |.sl size ty cs=>.sl size ty ((cs.drop (l*size)).take ((h-l)*size))
 |.val u=>.val u
def D.elem (d:D) (k:Nat):List D:=(d.cells.drop (k*d.size)).take d.size
def D.toRo:D->A0
 |.val u=>.v u
 |.sl s t cs=>.ro (.sl s t cs)
def D.toOwn (d:D) (g c:Nat) (p:List Nat) (η:jl):A0:=match d with
 |.val u=>.v u
 |.sl _ _ _=>.h g c p (η p)
def D.obj (d:D) (g:Nat) (η:jl):List (Nat×Ob):=match d with
 |.val _=>[]
 |.sl s t cs=>[(g,.loose (.sl s t cs) η)]
def jrU (g:Nat) (η:Nat->jl):Nat->List D->List A0
 |_,[]=>[]
 |j,d::ds=>d.toOwn (g+j) 0 [] (η j)::jrU g η (j+1) ds
def je0 (g:Nat) (η:Nat->jl):Nat->List D->List (Nat×Ob)
 |_,[]=>[]
 |j,d::ds=>d.obj (g+j) (η j)++je0 g η (j+1) ds
def jsP (g:Nat) (η:Nat->jl):Nat->List (Bool×List D)->List (Bool×List A0)
 |_,[]=>[]
 |j,(b,ds)::l=>(b,jrU g η j ds)::jsP g η (j+ds.length) l
def RT.flat:RT->List D
 |.c d=>[d]
 |.agg ds=>ds
 |.tup l=>l.flatMap (·.2)
def RT.av (g:Nat) (η:Nat->jl):RT->AV
 |.c d=>.c (d.toOwn g 0 [] (η 0))
 |.agg ds=>.agg (jrU g η 0 ds)
 |.tup l=>.tup (jsP g η 0 l)
def Ob.own:Ob->Nat->Option (D×jl)
 |.loose d η,0=>some (d,η)
 |.box _ _ cs,c=>match cs[c]? with
  |some (.own d η)=>some (d,η)
  |_=>Option.none
 |_,_=>Option.none
def rmC (cs:List Cell) (c:Nat):Option Cell->List Cell
 |some (.own _ η)=>cs.set c (.a (.v (η [])))
 |_=>cs
def Ob.rm:Ob->Nat->Ob
 |.box b ty cs,c=>.box b ty (rmC cs c cs[c]?)
 |.loose d η,c=>if c=0 then .none else .loose d η
 |.none,_=>.none
namespace St
def ev (s:St):X->AV
 |.t n=>s.t n
 |.c v=>match v with
  |.agg cs=>.agg (cs.toList.map .v)
  |v=>.c (.v v)
 |.f n=>.fn n []
def put (s:St) (d:Option Nat) (v:AV):St:=match d with
 |some d=>⟨λn=>if n=d then v else s.t n,s.o⟩
 |none=>s
def setO (s:St) (g:Nat) (ob:Ob):St:=⟨s.t,λk=>if k=g then ob else s.o k⟩
def addO (s:St):List (Nat×Ob)->St
 |[]=>s
 |(g,ob)::l=>(s.setO g ob).addO l
def rm (s:St) (g c:Nat):St:=s.setO g ((s.o g).rm c)
end St
def Is (s:St):A0->D->Prop
 |.v x,d=>d=.val x\/(x=.slice none 0 0/\∃size ty,d=.sl size ty [])
 |.ro d',d=>d=d'
 |.h g c p x,d=>∃d0 η,(s.o g).own c=some (d0,η)/\η p=x/\D.get p d0=some d/\d.isSl=true
 |.hs g c p x size lo n,d=>∃d0 η dd,(s.o g).own c=some (d0,η)/\η p=x/\D.get p d0=some dd/\dd.isSl=true/\dd.size=size/\0<size/\lo+n<=dd.len/\d=dd.sub lo (lo+n)
 |_,_=>False
def IsP:A0->D->Prop
 |.v x,d=>d=.val x\/(x=.slice none 0 0/\∃size ty,d=.sl size ty [])
 |.ro d',d=>d=d'
 |_,_=>False
def IsL (s:St):List A0->List D->Prop
 |[],[]=>True
 |a::l,d::ds=>Is s a d/\IsL s l ds
 |_,_=>False
def Ptr (s:St):A0->List D->Prop
 |.rp ds',ds=>ds'=ds
 |.bp g c b,ds=>∃ty cs,s.o g=.box b ty cs/\∃l,(cs.drop c).take ds.length=l/\go s g b l c ds
 |_,_=>False
where go (s:St) (g b:Nat):List Cell->Nat->List D->Prop
 |[],_,[]=>True
 |.a x::l,c,d::ds=>IsP x d/\go s g b l (c+1) ds
 |.own d' _::l,c,d::ds=>d'=d/\go s g b l (c+1) ds
 |_,_,_=>False
def jow (s:St):List A0->List (List D)->Prop
 |[],[]=>True
 |a::l,d::ds=>Ptr s a d/\jow s l ds
 |_,_=>False
def je6 (s:St):AV->View->Prop
 |.c a,.c d=>Is s a d
 |.agg l,.agg ds=>IsL s l ds
 |.c a,.ptr ds=>Ptr s a ds
 |.fn f caps,.fn f' caps'=>f=f'/\jow s caps caps'
 |_,_=>False
def qs (s:St):List AV->List View->Prop
 |[],[]=>True
 |a::l,v::vs=>je6 s a v/\qs s l vs
 |_,_=>False
def A0.one:A0->Bool
 |.v x=>x.oneCell'
 |.h _ _ _ _=>false
 |_=>true
def jY (s:St):List A0->(List Cell->St->Prop)->Prop
 |[],K=>K [] s
 |.h g c p x::l,K=>p=[]/\∃d η,(s.o g).own c=some (d,η)/\η []=x/\jY (s.rm g c) l (λcs s'=>K (.own d η::cs) s')
 |a::l,K=>a.one=true/\jY s l (λcs s'=>K (.a a::cs) s')
def A0.c1:A0->Bool
 |.v x=>x.oneCell'
 |_=>true
def AV.cells:AV->Option (List A0)
 |.c a=>if a.c1 then some [a] else none
 |.agg l=>some l
 |_=>none
def kg {α:Type}:List α->Nat->List α->List α
 |xs,_,[]=>xs
 |xs,o,v::r=>kg (xs.set o v) (o+1) r
def jbk (op:BinOp) (k:IntKind) (a b:Int):Value:=match op with
 |.add=>.int k (k.wrap (a+b))
 |.sub=>.int k (k.wrap (a-b))
 |.mul=>.int k (k.wrap (a*b))
 |.quo=>.int k (k.wrap (a.tdiv b))
 |.rem=>.int k (a.tmod b)
 |.and=>.int k (k.wrap ((BitVec.ofInt k.bits a&&&BitVec.ofInt k.bits b).toNat))
 |.or=>.int k (k.wrap ((BitVec.ofInt k.bits a|||BitVec.ofInt k.bits b).toNat))
 |.xor=>.int k (k.wrap ((BitVec.ofInt k.bits a^^^BitVec.ofInt k.bits b).toNat))
 |.andNot=>.int k (k.wrap ((BitVec.ofInt k.bits a&&&~~~BitVec.ofInt k.bits b).toNat))
 |.shl=>.int k (k.wrap (a*2^(min b.toNat k.bits)))
 |.shr=>.int k (a.fdiv (2^(min b.toNat k.bits)))
 |.eql=>.bool (a==b)
 |.neq=>.bool (a !=b)
 |.lss=>.bool (decide (a<b))
 |.leq=>.bool (decide (a<=b))
 |.gtr=>.bool (decide (a>b))
 |.geq=>.bool (decide (a>=b))
def jnX (op:BinOp) (k k':IntKind) (b:Int):Prop:=match op with
 |.shl|.shr=>0<=b
 |.quo|.rem=>k=k'/\b≠0
 |_=>k=k'
def jqF (op:BinOp):Value->Value->Value->Prop
 |.int k a,.int k' b,v=>jnX op k k' b/\v=jbk op k a b
 |.string a,.string b,v=>match op with
  |.add=>a.size+b.size<=maxLen/\v=.string (a++b)
  |.eql=>v=.bool (a.toList==b.toList)
  |.neq=>v=.bool (!(a.toList==b.toList))
  |_=>False
 |_,_,_=>False
def EqR (P:Program) (op:BinOp) (ty:Nat) (xs ys:List Value) (b:Bool):Prop:=
 ∀w,(binOp op ty (.agg xs.toArray) (.agg ys.toArray)).run P w=.ok (.bool b) w/\∀x y,(eqGuard op ty x y (.agg xs.toArray) (.agg ys.toArray)).run P w=.ok () w
def zi:List A0->Option (List Value)
 |[]=>some []
 |.v x::l=>match zi l with
  |some r=>some (x::r)
  |none=>none
 |_::_=>none
def zU (b:UInt8):D:=.val (.int .u8 b.toNat)
def ViewRel (w:World):View->Value->Prop
 |.c d,x=>∃S,Rep w false d x S
 |.agg ds,x=>∃S,AggRep w false ds x S
 |.ptr ds,x=>CellsAt w ds x
 |.fn f caps,x=>∃xs:List Value,x=.func (.func f) #[] xs.toArray/\All2 caps xs
where
 CellsAt (w:World) (ds:List D) (x:Value):Prop:=∃b o us S,x=.pointer (some ⟨b,o,none⟩)/\RepL w false ds us S/\∀j u,us[j]?=some u->w.cell? ⟨b,o+j,none⟩=some u
 All2:List (List D)->List Value->Prop
  |[],xs=>xs=[]
  |ds::l,xs=>∃x xs',xs=x::xs'/\CellsAt w ds x/\All2 l xs'
def qw (w:World):List View->List Value->Prop
 |[],xs=>xs=[]
 |v::l,xs=>∃x xs',xs=x::xs'/\ViewRel w v x/\qw w l xs'
def ji1 (w:World):List (Bool×List D)->List Value->List Nat->Prop
 |[],xs,S=>xs=[]/\S=[]
 |(b,ds)::l,xs,S=>∃x xs' us S1 S2,xs=x::xs'/\S=S1++S2/\RepL w true ds us S1/\(if b then x=.agg us.toArray else us=[x])/\ji1 w l xs' S2
def jhu (w:World):RT->Value->List Nat->Prop
 |.c d,x,S=>Rep w true d x S
 |.agg ds,x,S=>AggRep w true ds x S
 |.tup l,x,S=>∃xs,x=.tuple xs.toArray/\ji1 w l xs S
def jgd (P:Program) (f:FuncId):Prop:=∃fn,P.funcs[f]?=some fn/\fn.body.isSome=true/\(fn.name != "runtime.NumGoroutine")=true
def jR (P:Program) (f:FuncId) (vs:List View) (rt:RT):Prop:=
 jgd P f/\∀w xs,qw w vs xs->Calls P f xs.toArray w λe w'=>∃v S,e=.returned v/\jhu w' rt v S/\Fresh w.heap.size S/\Below w.heap.size w w'
def jda (g:Nat):Nat->List Cell->List A0
 |_,[]=>[]
 |c,.a x::l=>x::jda g (c+1) l
 |c,.own _ η::l=>.h g c [] (η [])::jda g (c+1) l
def jcq (g c:Nat) (p:List Nat) (η:jl):Nat->List D->List A0
 |_,[]=>[]
 |i,d::l=>d.toOwn g c (p++[i]) η::jcq g c p η (i+1) l
def vi (s:St) (n:Nat) (l:List A0):AV->Prop
 |.c (.rp ds)=>n<=ds.length/\l=(ds.take n).map D.toRo
 |.c (.bp g c b)=>∃ty cs,s.o g=.box b ty cs/\c+n<=cs.length/\l=jda g c ((cs.drop c).take n)
 |.c (.ep g c p i x)=>∃d0 η d,(s.o g).own c=some (d0,η)/\η p=x/\D.get p d0=some d/\d.isSl=true/\i+n<=d.cells.length/\l=jcq g c p η i ((d.cells.drop i).take n)
 |_=>False
def jdb (s:St):List A0->List (Nat×Nat×X)->Option (List A0)
 |cs,[]=>some cs
 |cs,(off,size,x)::ps=>match (s.ev x).cells with
  |some l=>if l.length=size/\off+size<=cs.length then jdb s (kg cs off l) ps else none
  |none=>none
def jka (s:St):List (Nat×Nat×X)->Option (List A0)
 |[]=>some []
 |(_,size,x)::ps=>match (s.ev x).cells,jka s ps with
  |some l,some r=>if l.length=size then some (l++r) else none
  |_,_=>none
def jmE (s:St) (str:Bool) (a:AV) (n:Nat):Prop:=match str,a with
 |true,.c (.v (.string b))=>n=b.size
 |false,.c (.v (.slice none 0 0))=>n=0
 |false,.c (.ro d)=>d.isSl=true/\0<d.size/\n=d.len
 |false,.c (.h g c p x)=>∃d,Is s (.h g c p x) d/\0<d.size/\n=d.len
 |false,.c (.hs g c p x size lo m)=>(∃d,Is s (.hs g c p x size lo m) d)/\n=m
 |_,_=>False
def jb9 (s:St) (x:Option X) (dflt:Nat) (n:Nat):Prop:=match x with
 |none=>n=dflt
 |some x=>∃k,s.ev x=.c (.v (.int k (n:Int)))
def vY (s:St):List X->Option (List A0)
 |[]=>some []
 |x::l=>match s.ev x,vY s l with
  |.c a,some r=>some (a::r)
  |_,_=>none
def Gen (P:Program) (s:St) (d:Nat) (rt:RT) (st:jmD):I->AV->List (Nat×Ob)->Prop
 |.mov x,av,os=>av=s.ev x/\os=[]
 |.pick c a b,av,os=>∃t,s.ev c=.c (.v (.bool t))/\av=(if t then s.ev a else s.ev b)/\os=[]
 |.alloc ty zs,av,os=>av=.c (.bp (100*d) 0 st.blk)/\os=[(100*d,.box st.blk ty (zs.map λz=>.a (.v z)))]
 |.bld zs ps,av,os=>∃l,jdb s (zs.map .v) ps=some l/\av=.agg l/\os=[]
 |.ld agg n x,av,os=>∃l,vi s n l (s.ev x)/\(if agg then av=.agg l else∃a,l=[a]/\av=.c a)/\os=[]
 |.fa off x,av,os=>(match s.ev x with
  |.c (.rp ds)=>av=.c (.rp (ds.drop off))
  |.c (.bp g c b)=>av=.c (.bp g (c+off) b)
  |.c (.ep g c p i x)=>av=.c (.ep g c p (i+off) x)
  |_=>False)/\os=[]
 |.ia size x i,av,os=>∃k n,s.ev i=.c (.v (.int k n))/\0<=n/\(match s.ev x with
  |.c (.ro d)=>d.isSl=true/\d.size=size/\n.toNat<d.len/\av=.c (.rp (d.elem n.toNat))
  |.c (.h g c p hx)=>(∃d,Is s (.h g c p hx) d/\d.size=size/\n.toNat<d.len)/\av=.c (.ep g c p (n.toNat*size) hx)
  |.c (.hs g c p hx sz lo m)=>(∃d,Is s (.hs g c p hx sz lo m) d)/\sz=size/\n.toNat<m/\av=.c (.ep g c p ((lo+n.toNat)*size) hx)
  |_=>False)/\os=[]
 |.sidx x i,av,os=>∃b k n u,s.ev x=.c (.v (.string b))/\s.ev i=.c (.v (.int k n))/\0<=n/\b[n.toNat]?=some u/\av=.c (.v (.int .u8 u.toNat))/\os=[]
 |.bin op ty x y,av,os=>((∃a b v,s.ev x=.c (.v a)/\s.ev y=.c (.v b)/\jqF op a b v/\av=.c (.v v))\/
  (∃l m xs ys b,s.ev x=.agg l/\s.ev y=.agg m/\zi l=some xs/\zi m=some ys/\EqR P op ty xs ys b/\av=.c (.v (.bool b))))/\os=[]
 |.beq neg x y,av,os=>∃a b,s.ev x=.c (.v (.bool a))/\s.ev y=.c (.v (.bool b))/\av=.c (.v (.bool (if neg then !(a==b) else a==b)))/\os=[]
 |.un op x,av,os=>(match op with
  |.not=>∃b,s.ev x=.c (.v (.bool b))/\av=.c (.v (.bool (!b)))
  |.neg=>∃k n,s.ev x=.c (.v (.int k n))/\av=.c (.v (.int k (k.wrap (0-n))))
  |_=>False)/\os=[]
 |.cv c _ x,av,os=>(match c with
  |.num k=>∃k' n,s.ev x=.c (.v (.int k' n))/\av=.c (.v (.int k (k.wrap n)))
  |.text=>∃(a:A0) (ty:Nat) (bs:List UInt8),s.ev x=.c a/\Is s a (.sl 1 ty (bs.map zU))/\av=.c (.v (.string ⟨bs.toArray⟩))
  |.bytes=>False)/\os=[]
 |.len str x,av,os=>∃n,jmE s str (s.ev x) n/\av=.c (.v (.int .i64 n))/\os=[]
 |.mm mx x y,av,os=>∃k k' a b,s.ev x=.c (.v (.int k a))/\s.ev y=.c (.v (.int k' b))/\av=.c (.v (.int k (if mx then (if b>a then b else a) else (if b<a then b else a))))/\os=[]
 |.mks e size bytes zs l c,av,os=>∃(k k':IntKind) (n:Nat),s.ev l=.c (.v (.int k (n:Int)))/\s.ev c=.c (.v (.int k' (n:Int)))/\bytes*n<=281474976710656/\n<=maxLen/\
  av=.c (.h (100*d) 0 [] (st.η 0 []))/\os=[(100*d,.loose (.sl size e ((List.replicate n zs).flatten)) (st.η 0))]
 |.sl size x lo hi,av,os=>∃l h,jb9 s lo 0 l/\l<=h/\(match s.ev x with
  |.c (.v (.string b))=>size=0/\jb9 s hi b.size h/\h<=b.size/\av=.c (.v (.string (b.extract l h)))
  |.c (.ro d)=>0<size/\d.isSl=true/\d.size=size/\jb9 s hi d.len h/\h<=d.len/\av=.c (.ro (d.sub l h))
  |.c (.h g c p hx)=>0<size/\(∃d,Is s (.h g c p hx) d/\d.size=size/\jb9 s hi d.len h/\h<=d.len)/\av=.c (.hs g c p hx size l (h-l))
  |.c (.hs g c p hx sz lo m)=>(∃d,Is s (.hs g c p hx sz lo m) d)/\sz=size/\jb9 s hi m h/\h<=m/\av=.c (.hs g c p hx size (lo+l) (h-l))
  |_=>False)/\os=[]
 |.ext x i,av,os=>∃l b az,s.ev x=.tup l/\l[i]?=some (b,az)/\(if b then av=.agg az else∃a,az=[a]/\av=.c a)/\os=[]
 |.fld agg off n x,av,os=>∃l,s.ev x=.agg l/\off+n<=l.length/\(if agg then av=.agg ((l.drop off).take n) else∃a,(l.drop off).take n=[a]/\av=.c a)/\os=[]
 |.mkf f caps,av,os=>∃l,vY s caps=some l/\av=.fn f l/\os=[]
 |.call f args,av,os=>∃vs,qs s (args.map s.ev) vs/\jR P f vs rt/\av=rt.av (100*d) st.η/\os=je0 (100*d) st.η 0 rt.flat
 |.callv x args,av,os=>∃f caps vs,s.ev x=.fn f caps/\qs s (args.map s.ev++caps.map .c) vs/\jR P f vs rt/\av=rt.av (100*d) st.η/\os=je0 (100*d) st.η 0 rt.flat
 |_,_,_=>False
def jqH (k:Option (Nat×Nat)) (x:Value):D:=match k,x with
 |some (size,ty),.slice none 0 0=>.sl size ty []
 |_,x=>.val x
def jjH:List (Option (Nat×Nat))->List Value->List D
 |_,[]=>[]
 |ks,x::l=>jqH (ks.head?.getD none) x::jjH ks.tail l
def qG:List (Option (Nat×Nat))->List Cell->Option (List D)
 |_,[]=>some []
 |ks,.a (.v x)::l=>match qG ks.tail l with
  |some r=>some (jqH (ks.head?.getD none) x::r)
  |none=>none
 |ks,.own d _::l=>match qG ks.tail l with
  |some r=>some (d::r)
  |none=>none
 |_,_::_=>none
def jT:List D->Bool
 |[]=>true
 |.val u::l=>u.oneCell'&&jT l
 |_::_=>false
def jgJ:List D->Bool
 |[]=>true
 |.val u::l=>u.oneCell'&&jgJ l
 |.sl _ _ _::l=>jgJ l
def strCells (b:ByteArray):List D:=b.data.toList.map zU
def Ob.putOwn:Ob->Nat->D->jl->Ob
 |.loose _ _,_,d,η=>.loose d η
 |.box b ty cs,c,d,η=>.box b ty (cs.set c (.own d η))
 |.none,_,_,_=>.none
def jdB (s:St) (e size:Nat) (a:AV) (K:List D->St->Prop):Prop:=match a with
 |.c (.v (.slice none 0 0))=>K [] s
 |.c (.h g c p x)=>(p=[]/\∃cs η,(s.o g).own c=some (.sl size e cs,η)/\η []=x/\K cs (s.rm g c))\/
  ∃k,p=[k]/\∃sz tyo ds0 cs η,(s.o g).own c=some (.sl sz tyo ds0,η)/\ds0[k]?=some (.sl size e cs)/\η [k]=x/\∀aW,aW []=η []->K cs (s.setO g ((s.o g).putOwn c (.sl sz tyo (ds0.set k (.val x))) aW))
 |_=>False
def jmL (s:St) (size:Nat) (a:AV) (K:List D->St->Prop):Prop:=match a with
 |.c (.v (.slice none 0 0))=>K [] s
 |.c (.ro d)=>d.isSl=true/\d.size=size/\jT d.cells=true/\K d.cells s
 |.c (.hs g c p x sz lo m)=>∃d,Is s (.hs g c p x sz lo m) d/\d.size=size/\jT d.cells=true/\K d.cells s
 |.c (.h g c p x)=>∃d,Is s (.h g c p x) d/\d.size=size/\(if jT d.cells=true then K d.cells s else p=[]/\jgJ d.cells=true/\K d.cells (s.rm g c))
 |_=>False
def View.av:View->AV
 |.c d=>.c d.toRo
 |.agg ds=>.agg (ds.map D.toRo)
 |.ptr ds=>.c (.rp ds)
 |.fn f caps=>.fn f (caps.map .rp)
def St.init (vs:List View):St:=⟨λn=>((vs.map View.av)[n]?).getD .unk,λ_=>.none⟩
inductive R where
 |t (n:Nat)
 |cell (n:Nat) (agg:Bool) (size:Nat)
def jlk (s:St):List R->(List (Bool×List A0)->Prop)->Prop
 |[],K=>K []
 |.t n::rs,K=>match s.t n with
  |.agg l=>jlk s rs λps=>K ((true,l)::ps)
  |.c a=>jlk s rs λps=>K ((false,[a])::ps)
  |_=>False
 |.cell n agg size::rs,K=>∃l,vi s size l (s.t n)/\(agg=true\/l.length=1)/\jlk s rs λps=>K ((agg,l)::ps)
def zW:RT->List (Bool×List A0)->Prop
 |.c _,ps=>∃a,ps=[(false,[a])]
 |.agg _,ps=>∃l,ps=[(true,l)]
 |.tup l,ps=>ps.length≠1/\ps.map (λp=>(p.1,p.2.length))=l.map (λp=>(p.1,p.2.length))
def IsD:List Cell->List D->Prop
 |[],ds=>ds=[]
 |.a (.v x)::l,d::ds=>(d=.val x\/x=.slice none 0 0/\∃size ty,d=.sl size ty [])/\IsD l ds
 |.own d' _::l,d::ds=>d'=d/\IsD l ds
 |_,_=>False
def joQ (rs:List R) (rt:RT) (s:St):Prop:=jlk s rs λps=>zW rt ps/\jY s (ps.flatMap (·.2)) λcs _=>IsD cs rt.flat
def jcj:Value->Bool
 |.agg cs=>cs.toList.all (·.oneCell')
 |.tuple _=>false
 |_=>true
def jr:Operand->Option X
 |.tmp t=>some (.t t)
 |.const v=>if jcj v then some (.c v) else none
 |.func f=>some (.f f)
 |.global _=>none
def qm:List Operand->Option (List X)
 |[]=>some []
 |x::l=>match jr x,qm l with
  |some x,some l=>some (x::l)
  |_,_=>none
def zz (off:Nat->Option (Nat×Nat)):List (Nat×Operand)->Option (List (Nat×Nat×X))
 |[]=>some []
 |(i,x)::l=>match off i,jr x,zz off l with
  |some (o,n),some x,some l=>some ((o,n,x)::l)
  |_,_,_=>none
def kV (P:Program) (t:TypeId):Option (List Value):=match P.info? t with
 |some i=>match i.zero with
  |some z=>if z.cells.size=i.size&&z.cells.toList.all (·.oneCell') then some z.cells.toList else none
  |none=>none
 |none=>none
def jZ (P:Program) (t:TypeId):Option Nat:=(P.info? t).map (·.size)
def jel (P:Program):Nat->TypeId->List (Option (Nat×Nat))
 |0,_=>[]
 |n+1,t=>match P.underlying t with
  |some (.slice e)=>[(jZ P e).map λk=>(k,e)]
  |some (.struct fs)=>fs.toList.flatMap λf=>jel P n f.type
  |_=>List.replicate ((jZ P t).getD 1) none
def jf3 (P:Program) (c:Call):Option I:=match c.callee,c.args.toList with
 |.builtin .len,[x]=>match (c.argTypes[0]?).bind P.underlying,jr x with
  |some .string,some x=>some (.len true x)
  |some (.slice _),some x=>some (.len false x)
  |_,_=>none
 |.builtin .append,[x,y]=>match c.argTypes.toList with
  |[t,t']=>match P.underlying t,P.underlying t' with
   |some (.slice e),some (.slice _)=>match P.info? e,kV P e,jr x,jr y with
    |some i,some _,some x,some y=>if 0<i.size&&t==t' then some (.app e i.size i.bytes x y) else none
    |_,_,_,_=>none
   |some (.slice e),some .string=>match P.underlying e,P.info? e,jr x,jr y with
    |some (.int .u8),some i,some x,some y=>match i.zero with
     |some (.int .u8 0)=>if i.size==1&&i.bytes==1 then some (.apps e x y) else none
     |_=>none
    |_,_,_,_=>none
   |_,_=>none
  |_=>none
 |.builtin .clear,[x]=>match c.argTypes.toList with
  |[t]=>match P.underlying t with
   |some (.slice e)=>match P.info? e,kV P e,jr x with
    |some i,some z,some x=>if 0<i.size then some (.clr i.size (jjH (jel P 6 e) z) x) else none
    |_,_,_=>none
   |_=>none
  |_=>none
 |.builtin .max,[x,y]=>match jr x,jr y with
  |some x,some y=>some (.mm true x y)
  |_,_=>none
 |.builtin .min,[x,y]=>match jr x,jr y with
  |some x,some y=>some (.mm false x y)
  |_,_=>none
 |.value (.func f),l=>match P.funcs[f]?,qm l with
  |some fn,some l=>if fn.body.isSome&&fn.name != "runtime.NumGoroutine" then some (.call f l) else none
  |_,_=>none
 |.value (.tmp t),l=>(qm l).map (.callv (.t t))
 |_,_=>none
def qk (P:Program) (op:Op):Option I:=match op with
 |.move x|.assign x=>(jr x).map .mov
 |.pick c a b=>match jr c,jr a,jr b with
  |some c,some a,some b=>some (.pick c a b)
  |_,_,_=>none
 |.alloc e=>(kV P e).map (.alloc e)
 |.box e x=>match jZ P e,jr x with
  |some n,some x=>some (.box e n x)
  |_,_=>none
 |.build t ps=>match P.underlying t,kV P t with
  |some (.struct fs),some z=>if !(fs.toList.all λf=>(P.info? f.type).isSome) then none else (zz (λi=>match fs[i]? with
   |some f=>(jZ P f.type).map λn=>(f.offset,n)
   |none=>none) ps.toList).map (.bld z)
  |_,_=>none
 |.buildSlice t n ps=>match P.underlying t with
  |some (.slice e)=>match jZ P e with
   |some size=>if 0<size&&(kV P e).isSome&&(ps.toList.map (·.1)==List.range n)&&n*size<1000 then (zz (λi=>some (i*size,size)) ps.toList).map (.bsl e size n ((List.replicate n (jel P 6 e)).flatten)) else none
   |none=>none
  |_=>none
 |.load t x=>match P.underlying t,jZ P t,jr x with
  |some (.struct _),some n,some x=>some (.ld true n x)
  |some (.array _ _),_,_=>none
  |some _,some 1,some x=>some (.ld false 1 x)
  |_,_,_=>none
 |.store t a x=>match jZ P t,jr a,jr x with
  |some n,some a,some x=>some (.st n (jel P 6 t) a x)
  |_,_,_=>none
 |.fieldAddr t x f=>match P.underlying t,jr x with
  |some (.struct fs),some x=>match fs[f]? with
   |some f=>match jZ P f.type with
    |some (_+1)=>some (.fa f.offset x)
    |_=>none
   |none=>none
  |_,_=>none
 |.nilCheck x=>(jr x).map (.fa 0)
 |.indexAddr t x i=>match P.underlying t,jr x,jr i with
  |some (.slice e),some x,some i=>match jZ P e with
   |some (n+1)=>some (.ia (n+1) x i)
   |_=>none
  |_,_,_=>none
 |.index t x i=>match P.underlying t,jr x,jr i with
  |some .string,some x,some i=>some (.sidx x i)
  |_,_,_=>none
 |.binOp op t x y _=>match jr x,jr y with
  |some x,some y=>match P.underlying t with
   |some .bool=>match op with
    |.eql=>some (.beq false x y)
    |.neq=>some (.beq true x y)
    |_=>none
   |some _=>some (.bin op t x y)
   |none=>none
  |_,_=>none
 |.unOp op _ x=>(jr x).map (.un op)
 |.convert t t' x=>match P.underlying t,P.underlying t',jr x with
  |some (.int _),some (.int k),some x=>some (.cv (.num k) 0 x)
  |some (.slice e),some .string,some x=>match P.underlying e with
   |some (.int .u8)=>some (.cv .text e x)
   |_=>none
  |_,_,_=>none
 |.makeSlice t l c=>match P.underlying t,jr l,jr c with
  |some (.slice e),some l,some c=>match P.info? e,kV P e with
   |some i,some z=>if 0<i.size then some (.mks e i.size i.bytes (jjH (jel P 6 e) z) l c) else none
   |_,_=>none
  |_,_,_=>none
 |.slice t x lo hi none=>match P.underlying t,jr x with
  |some (.slice e),some x=>match jZ P e with
   |some (n+1)=>match lo.map jr,hi.map jr with
    |none,none=>some (.sl (n+1) x none none)
    |some (some a),none=>some (.sl (n+1) x (some a) none)
    |none,some (some b)=>some (.sl (n+1) x none (some b))
    |some (some a),some (some b)=>some (.sl (n+1) x (some a) (some b))
    |_,_=>none
   |_=>none
  |some .string,some x=>match lo.map jr,hi.map jr with
   |none,none=>some (.sl 0 x none none)
   |some (some a),none=>some (.sl 0 x (some a) none)
   |none,some (some b)=>some (.sl 0 x none (some b))
   |some (some a),some (some b)=>some (.sl 0 x (some a) (some b))
   |_,_=>none
  |_,_=>none
 |.extract x i=>(jr x).map (.ext · i)
 |.field t x f=>match P.underlying t,jr x with
  |some (.struct fs),some x=>match fs[f]? with
   |some f=>match P.underlying f.type,jZ P f.type with
    |some (.struct _),some n=>some (.fld true f.offset n x)
    |some (.array _ _),_=>none
    |some _,some 1=>some (.fld false f.offset 1 x)
    |_,_=>none
   |none=>none
  |_,_=>none
 |.makeFunc (.func f) first caps=>if first.isEmpty then (qm caps.toList).map (.mkf f) else none
 |.call c=>jf3 P c
 |_=>none
def joj (P:Program) (N:Nat) (ops:Array Oper) (o:Oper):Option Ins:=
 match qk P o.op,(match o.dst with|some d=>decide (d<N)|none=>true) with
 |some i,true=>match o.guard with
  |none=>some ⟨o.dst,none,i⟩
  |some (j,want)=>match (ops[j]?).bind (·.dst) with
   |some t=>if t<N then some ⟨o.dst,some (t,want),i⟩ else none
   |none=>none
 |_,_=>none
def jet (P:Program) (N:Nat) (ops:Array Oper):List Oper->Option (List Ins)
 |[]=>some []
 |o::l=>match joj P N ops o,jet P N ops l with
  |some i,some r=>some (i::r)
  |_,_=>none
def I.pureB:I->Bool
 |.mov _|.pick _ _ _|.bld _ _|.ld _ _ _|.fa _ _|.ia _ _ _|.sidx _ _|.bin _ _ _ _|.beq _ _ _|.un _ _|.cv _ _ _|.len _ _|.mm _ _ _|.sl _ _ _ _|.ext _ _|.fld _ _ _ _|.mkf _ _=>true
 |_=>false
def jqA (ops:Array Oper):Nat->List Nat->List Nat->List Nat
 |0,seen,_=>seen
 |_+1,seen,[]=>seen
 |n+1,seen,j::todo=>match ops[j]? with
  |some o=>jqA ops n (((o.after.toList.filter λe=>Region.binds .any e&&!seen.contains e.on).map (·.on))++seen) (((o.after.toList.filter λe=>Region.binds .any e&&!seen.contains e.on).map (·.on))++todo)
  |none=>jqA ops n seen todo
def jgf (ops:Array Oper) (n j i:Nat):Bool:=(jqA ops (8*n+8) [] [j]).contains i
def I.xs:I->List X
 |.mov x|.box _ _ x|.ld _ _ x|.fa _ x|.un _ x|.cv _ _ x|.len _ x|.ext x _|.fld _ _ _ x=>[x]
 |.pick c a b=>[c,a,b]
 |.alloc _ _=>[]
 |.bld _ ps|.bsl _ _ _ _ ps=>ps.map (·.2.2)
 |.st _ _ a x|.ia _ a x|.sidx a x|.bin _ _ a x|.beq _ a x|.app _ _ _ a x|.apps _ a x|.mm _ a x|.mks _ _ _ _ a x=>[a,x]
 |.sl _ x lo hi=>x::(lo.toList++hi.toList)
 |.mkf _ l|.call _ l=>l
 |.clr _ _ x=>[x]
 |.callv x l=>x::l
def X.tmp?:X->Option Nat
 |.t n=>some n
 |_=>none
def Ins.uses (i:Ins):List Nat:=i.i.xs.filterMap X.tmp?++(i.g.map (·.1)).toList
def jfq (i j:Ins):Bool:=
 (match i.d with
  |some d=>!(j.uses.contains d)&&j.d !=some d
  |none=>true)&&
 (match j.d with
  |some d=>!(i.uses.contains d)
  |none=>true)
def jqf (ops:Array Oper) (is:List Ins) (listed:Array Bool) (i:Nat):Bool:=match is[i]? with
 |none=>false
 |some x=>x.i.pureB&&(List.range ops.size).all λj=>j==i||listed.getD j true||(match ops[j]?,is[j]? with
  |some oj,some y=>oj.after.any (λe=>Region.binds .any e&&e.on==i)||jfq x y
  |_,_=>true)
def mkT (ops:Array Oper) (is:List Ins):Nat->List Nat->Array Bool->Option T
 |0,_,listed=>if (Region.ready .any ops listed).isEmpty then some .done else none
 |f+1,pures,listed=>
  if (Region.ready .any ops listed).isEmpty then some .done
  else match (Region.ready .any ops listed).find? (jqf ops is listed) with
   |some i=>match is[i]?,mkT ops is f (i::pures) (listed.setIfInBounds i true) with
    |some x,some t=>some (.pure i x t)
    |_,_=>none
   |none=>(Region.ready .any ops listed).foldr (λj acc=>match is[j]?,mkT ops is f pures (listed.setIfInBounds j true),acc with
    |some x,some t,some rest=>some (.alt x (pures.filter λp=>!jgf ops ops.size j p) t rest)
    |_,_,_=>none) (some .stop)
def joi (P:Program) (N:Nat) (ops:Array Oper):Option T:=
 if P.follows .mixedOrders then match jet P N ops ops.toList with
  |some is=>mkT ops is ops.size [] (Array.replicate ops.size false)
  |none=>none
 else none
def jbu (P:Program) (N:Nat):Code->Option C
 |.skip=>some .skip
 |.region _ ops false=>(jet P N ops ops.toList).map .reg
 |.region _ ops true=>(joi P N ops).map .dreg
 |.seq a b=>match jbu P N a,jbu P N b with
  |some a,some b=>some (.seq a b)
  |_,_=>none
 |.cond c a b=>match jr c,jbu P N a,jbu P N b with
  |some c,some a,some b=>some (.cond c a b)
  |_,_,_=>none
 |.block id a=>(jbu P N a).map (.blk id)
 |.loop a=>(jbu P N a).map .loop
 |.exit id=>some (.exit id)
 |.ret=>some .ret
 |_=>none
def je3 (P:Program) (N:Nat):List ResultVar->Option (List R)
 |[]=>some []
 |.tmp n::rs=>if n<N then (je3 P N rs).map (.t n:: ·) else none
 |.cell n t::rs=>if n<N then match P.underlying t,jZ P t,je3 P N rs with
  |some (.struct _),some k,some r=>some (.cell n true k::r)
  |some (.array _ _),_,_=>none
  |some _,some k,some r=>some (.cell n false k::r)
  |_,_,_=>none
  else none
def fnC (P:Program) (fn:Func):Option (C×List R×Nat):=match fn.body with
 |some b=>if fn.name != "runtime.NumGoroutine" then match jbu P fn.ntmps b,je3 P fn.ntmps fn.results.toList with
  |some c,some rs=>some (c,rs,fn.ntmps)
  |_,_=>none
  else none
 |none=>none
