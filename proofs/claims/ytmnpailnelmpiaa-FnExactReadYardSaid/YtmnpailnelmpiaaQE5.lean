/- Parts. -/
import Derived.Test.YtmnpailnelmpiaaQData
import Derived.Test.YtmnpailnelmpiaaQE3b
set_option linter.unusedSimpArgs false
set_option linter.unusedVariables false
namespace Go.Proofs.Ytmnpailnelmpiaa
open Go.RowKit Go.Sort
section
variable {P:Program} {β:Nat} {s:St} {K:St→Prop} {Q:Ex→St→Prop} {d:Option Nat} {g:Option (Nat×Bool)}
theorem ev_t (n:Nat):s.ev (.t n)=s.t n:=(rfl)
theorem ev_i (k:IntKind) (n:Int):s.ev (.c (.int k n))=.c (.v (.int k n)):=(rfl)
theorem ev_b (b:Bool):s.ev (.c (.bool b))=.c (.v (.bool b)):=(rfl)
theorem ev_s (b:ByteArray):s.ev (.c (.string b))=.c (.v (.string b)):=(rfl)
theorem ev_n:s.ev (.c (.slice none 0 0))=.c (.v (.slice none 0 0)):=(rfl)
theorem put_t (k n:Nat) (v:AV):(s.put (some k) v).t n=if n=k then v else s.t n:=(rfl)
theorem put_o (v:AV) (n:Nat):(s.put d v).o n=s.o n:=by cases d<;>rfl
theorem jtI (k:Nat) (ob:Ob) (n:Nat):(s.setO k ob).t n=s.t n:=(rfl)
theorem jtJ (k:Nat) (ob:Ob) (n:Nat):(s.setO k ob).o n=if n=k then ob else s.o n:=(rfl)
theorem jqJ:s.addO []=s:=(rfl)
theorem joL (k:Nat) (ob:Ob) (l:List (Nat×Ob)):s.addO ((k,ob)::l)=(s.setO k ob).addO l:=(rfl)
theorem jo5:wpC P β .skip Q s=Q .normal s:=(rfl)
theorem jtf (is:List Ins):wpC P β (.reg is) Q s=jcY P β is s (Q .normal):=(rfl)
theorem jgA (a b:C):wpC P β (.seq a b) Q s=wpC P β a (Ex.thn (wpC P β b Q) Q) s:=(rfl)
theorem jqL (id:Nat) (a:C):wpC P β (.blk id a) Q s=wpC P β a (Ex.inBlk id Q) s:=(rfl)
theorem jo6 (id:Nat):wpC P β (.exit id) Q s=Q (.exit id) s:=(rfl)
theorem jrf:wpC P β .ret Q s=Q .ret s:=(rfl)
theorem jmt {x:X} (a b:C) (h:s.ev x=.c (.v (.bool true))):wpC P β (.cond x a b) Q s=wpC P β a Q s:=by simp [wpC,h]
theorem jmu {x:X} (a b:C) (h:s.ev x=.c (.v (.bool false))):wpC P β (.cond x a b) Q s=wpC P β b Q s:=by simp [wpC,h]
theorem thn_n (next:St→Prop):Ex.thn next Q .normal s=next s:=(rfl)
theorem thn_e (next:St→Prop) (id:Nat):Ex.thn next Q (.exit id) s=Q (.exit id) s:=(rfl)
theorem thn_r (next:St→Prop):Ex.thn next Q .ret s=Q .ret s:=(rfl)
theorem blk_n (id:Nat):Ex.inBlk id Q .normal s=Q .normal s:=(rfl)
theorem blk_r (id:Nat):Ex.inBlk id Q .ret s=Q .ret s:=(rfl)
theorem blk_e (id id':Nat):Ex.inBlk id Q (.exit id') s=if id'=id then Q .normal s else Q (.exit id') s:=(rfl)
theorem jps:jcY P β [] s K=K s:=(rfl)
theorem jnb (i:I) (l:List Ins):jcY P β (⟨d,none,i⟩::l) s K=qb P β ⟨d,none,i⟩ s (fun s'=>jcY P β l s' K):=(rfl)
theorem jrE {t:Nat} (i:I) (l:List Ins) (h:s.t t=.c (.v (.bool true))):jcY P β (⟨d,some (t,true),i⟩::l) s K=qb P β ⟨d,some (t,true),i⟩ s (fun s'=>jcY P β l s' K):=by simp [jcY,qp,h]
theorem jrF {t:Nat} (i:I) (l:List Ins) (h:s.t t=.c (.v (.bool false))):jcY P β (⟨d,some (t,true),i⟩::l) s K=jcY P β l (s.put d (.c (.v undef))) K:=by simp [jcY,qp,h]
theorem jrG {t:Nat} (i:I) (l:List Ins) (h:s.t t=.c (.v (.bool true))):jcY P β (⟨d,some (t,false),i⟩::l) s K=jcY P β l (s.put d (.c (.v undef))) K:=by simp [jcY,qp,h]
theorem jrH {t:Nat} (i:I) (l:List Ins) (h:s.t t=.c (.v (.bool false))):jcY P β (⟨d,some (t,false),i⟩::l) s K=qb P β ⟨d,some (t,false),i⟩ s (fun s'=>jcY P β l s' K):=by simp [jcY,qp,h]
def I.writes:I→Bool
 |.box ..|.bsl ..|.st ..|.app ..|.apps ..|.clr ..|.call ..|.callv ..=>true
 |_=>false
theorem juQ {i:I} {av:AV} {os:List (Nat×Ob)} (hw:i.writes=false) (h:∀rt st av' os',Gen P s (β+d.getD 0) rt st i av' os'↔av'=av∧os'=os):
 qb P β ⟨d,g,i⟩ s K=K ((s.addO os).put d av):=by
 have e:qb P β ⟨d,g,i⟩ s K=(∃rt,∀st,∃av os,Gen P s (β+d.getD 0) rt st i av os∧K ((s.addO os).put d av)):=by
  cases i<;>first|rfl|cases hw
 rw [e]
 apply propext
 constructor
 ·rintro ⟨rt,h1⟩
  obtain ⟨av',os',h2,h3⟩:=h1 ⟨0,fun _ _=>undef⟩
  obtain ⟨rfl,rfl⟩:=(h _ _ _ _).1 h2;exact h3
 ·intro h1
  exact ⟨.c (.val undef),fun st=>⟨_,_,(h _ _ _ _).2 ⟨rfl,rfl⟩,h1⟩⟩
theorem jqc {i:I} {av:AV} (hw:i.writes=false) (h:∀rt st av' os',Gen P s (β+d.getD 0) rt st i av' os'↔av'=av∧os'=[]):qb P β ⟨d,g,i⟩ s K=K (s.put d av):=juQ hw h
theorem jrB (x:X):qb P β ⟨d,g,.mov x⟩ s K=K (s.put d (s.ev x)):=jqc rfl fun _ _ _ _=>Iff.rfl
theorem jsA {i:I} {p:Prop} {av:AV} (hw:i.writes=false) (h:∀rt st av' os',Gen P s (β+d.getD 0) rt st i av' os'↔p∧av'=av∧os'=[]):qb P β ⟨d,g,i⟩ s K=(p∧K (s.put d av)):=by
 by_cases hp:p
 ·rw [jqc hw (av:=av) fun rt st av' os'=>by rw [h];simp [hp]];simp [hp]
 ·have e:qb P β ⟨d,g,i⟩ s K=(∃rt,∀st,∃av os,Gen P s (β+d.getD 0) rt st i av os∧K ((s.addO os).put d av)):=by
   cases i<;>first|rfl|cases hw
  rw [e]
  apply propext
  constructor
  ·rintro ⟨rt,h1⟩
   obtain ⟨av',os',h2,_⟩:=h1 ⟨0,fun _ _=>undef⟩
   exact absurd ((h _ _ _ _).1 h2).1 hp
  ·exact fun h=>absurd h.1 hp
theorem jkG {i:I} (hw:i.writes=false) (h:∀rt st av' os',¬Gen P s (β+d.getD 0) rt st i av' os'):qb P β ⟨d,g,i⟩ s K=False:=by
 have e:qb P β ⟨d,g,i⟩ s K=(∃rt,∀st,∃av os,Gen P s (β+d.getD 0) rt st i av os∧K ((s.addO os).put d av)):=by
  cases i<;>first|rfl|cases hw
 rw [e]
 apply propext
 constructor
 ·rintro ⟨rt,h1⟩
  obtain ⟨av',os',h2,_⟩:=h1 ⟨0,fun _ _=>undef⟩
  exact absurd h2 (h _ _ _ _)
 ·exact False.elim
def jr0 (d:Option Nat) (s:St) (K:St→Prop) (c a b:AV):Prop:=match c with
 |.c (.v (.bool t))=>K (s.put d (if t then a else b))
 |_=>False
theorem jpr (c a b:X):qb P β ⟨d,g,.pick c a b⟩ s K=jr0 d s K (s.ev c) (s.ev a) (s.ev b):=by
 unfold jr0;split
 ·exact jqc rfl fun _ _ _ _=>by simp [Gen, *]
 ·rename_i h
  exact jkG rfl fun _ _ _ _ ⟨t,h1,_⟩=>h t h1
theorem jun (t:Bool) (a b:AV):jr0 d s K (.c (.v (.bool t))) a b=K (s.put d (if t then a else b)):=(rfl)
def faK (d:Option Nat) (s:St) (K:St→Prop) (off:Nat):AV→Prop
 |.c (.rp ds)=>K (s.put d (.c (.rp (ds.drop off))))
 |.c (.bp g c b)=>K (s.put d (.c (.bp g (c+off) b)))
 |.c (.ep g c p i x)=>K (s.put d (.c (.ep g c p (i+off) x)))
 |_=>False
theorem jtQ (off:Nat) (x:X):qb P β ⟨d,g,.fa off x⟩ s K=faK d s K off (s.ev x):=by
 cases h:s.ev x with
 |c a=>cases a<;>first|exact jqc rfl (fun _ _ _ _=>by simp [Gen,h])|exact jkG rfl (fun _ _ _ _=>by simp [Gen,h])
 |_=>exact jkG rfl (fun _ _ _ _=>by simp [Gen,h])
theorem juU (off:Nat) (ds:List D):faK d s K off (.c (.rp ds))=K (s.put d (.c (.rp (ds.drop off)))):=(rfl)
theorem juW (off k c b:Nat):faK d s K off (.c (.bp k c b))=K (s.put d (.c (.bp k (c+off) b))):=(rfl)
theorem juV (off k c:Nat) (p:List Nat) (i:Nat) (x:Value):faK d s K off (.c (.ep k c p i x))=K (s.put d (.c (.ep k c p (i+off) x))):=(rfl)
def ldV:Bool→List A0→(AV→Prop)→Prop
 |true,l,k=>k (.agg l)
 |false,[a],k=>k (.c a)
 |false,_,_=>False
theorem ldV_t (l:List A0) (k:AV→Prop):ldV true l k=k (.agg l):=(rfl)
theorem ldV_f (a:A0) (k:AV→Prop):ldV false [a] k=k (.c a):=(rfl)
def ldB (ob:Ob) (g c b n:Nat) (k:List A0→Prop):Prop:=match ob with
 |.box b' _ cs=>b'=b∧c+n≤cs.length∧k (jce g c ((cs.drop c).take n))
 |_=>False
theorem ldB_ (b' ty:Nat) (cs:List Cell) (k c b n:Nat) (K:List A0→Prop):ldB (.box b' ty cs) k c b n K=(b'=b∧c+n≤cs.length∧K (jce k c ((cs.drop c).take n))):=(rfl)
def ldK (d:Option Nat) (s:St) (K:St→Prop) (agg:Bool) (n:Nat):AV→Prop
 |.c (.rp ds)=>n≤ds.length∧ldV agg ((ds.take n).map D.toRo) fun v=>K (s.put d v)
 |.c (.bp g c b)=>ldB (s.o g) g c b n fun l=>ldV agg l fun v=>K (s.put d v)
 |.c (.ep g c p i x)=>∃d0 η dd,(s.o g).own c=some (d0,η)∧η p=x∧D.get p d0=some dd∧dd.isSl=true∧i+n≤dd.cells.length∧ldV agg (jdg g c p η i ((dd.cells.drop i).take n)) fun v=>K (s.put d v)
 |_=>False
theorem jtN (agg:Bool) (n:Nat) (x:X):qb P β ⟨d,g,.ld agg n x⟩ s K=ldK d s K agg n (s.ev x):=by
 have e:qb P β ⟨d,g,.ld agg n x⟩ s K=(∃rt:RT,∀st:joM,∃av os,(∃l,vR s n l (s.ev x)∧(if agg then av=.agg l else∃a,l=[a]∧av=.c a)∧os=[])∧K ((s.addO os).put d av)):=rfl
 have h1:∀l,(∃av os,((if agg then av=.agg l else∃a,l=[a]∧av=.c a)∧os=[])∧K ((s.addO os).put d av))↔ldV agg l fun v=>K (s.put d v):=fun l=>by
  cases agg
  ·rcases l with _|⟨a,_|⟨b,l⟩⟩
   ·simp [ldV]
   ·simp only [ldV]
    constructor
    ·rintro ⟨_,_,⟨h,rfl⟩,h3⟩;simp at h;subst h;exact h3
    ·intro h3;exact ⟨_,_,⟨by simp,rfl⟩,h3⟩
   ·simp [ldV]
  ·simp only [ldV]
   constructor
   ·rintro ⟨_,_,⟨h,rfl⟩,h3⟩;simp at h;subst h;exact h3
   ·intro h3;exact ⟨_,_,⟨by simp,rfl⟩,h3⟩
 have e2:qb P β ⟨d,g,.ld agg n x⟩ s K↔∃l,vR s n l (s.ev x)∧ldV agg l fun v=>K (s.put d v):=by
  rw [e];constructor
  ·rintro ⟨_,h⟩
   obtain ⟨av,os,⟨l,h2,h3⟩,h4⟩:=h ⟨0,fun _ _=>undef⟩
   exact ⟨l,h2,(h1 l).1 ⟨av,os,h3,h4⟩⟩
  ·rintro ⟨l,h2,h3⟩
   refine ⟨.c (.val undef),fun _=>?_⟩
   obtain ⟨av,os,h4,h5⟩:=(h1 l).2 h3;exact ⟨av,os,⟨l,h2,h4⟩,h5⟩
 apply propext
 rw [e2];cases h:s.ev x with
 |c a=>
  cases a with
  |bp k c b=>
   simp only [vR,ldK,ldB];cases ho:s.o k<;>simp
   constructor
   ·rintro ⟨l,⟨_,_,⟨rfl,_,rfl⟩,h2,rfl⟩,h3⟩;exact ⟨rfl,h2,h3⟩
   ·rintro ⟨rfl,h2,h3⟩;exact ⟨_,⟨_,_,⟨rfl,rfl,rfl⟩,h2,rfl⟩,h3⟩
  |rp ds=>
   simp only [vR,ldK];constructor
   ·rintro ⟨l,⟨h2,rfl⟩,h3⟩;exact ⟨h2,h3⟩
   ·rintro ⟨h2,h3⟩;exact ⟨_,⟨h2,rfl⟩,h3⟩
  |ep k c p i x=>
   simp only [vR,ldK];constructor
   ·rintro ⟨l,⟨d0,η,dd,h2,h3,h4,h7,h5,rfl⟩,h6⟩;exact ⟨d0,η,dd,h2,h3,h4,h7,h5,h6⟩
   ·rintro ⟨d0,η,dd,h2,h3,h4,h7,h5,h6⟩;exact ⟨_,⟨d0,η,dd,h2,h3,h4,h7,h5,rfl⟩,h6⟩
  |_=>simp [vR,ldK]
 |_=>simp [vR,ldK]
theorem juI (agg:Bool) (n:Nat) (ds:List D):ldK d s K agg n (.c (.rp ds))=(n≤ds.length∧ldV agg ((ds.take n).map D.toRo) fun v=>K (s.put d v)):=(rfl)
theorem juJ (agg:Bool) (n k c b:Nat):ldK d s K agg n (.c (.bp k c b))=ldB (s.o k) k c b n fun l=>ldV agg l fun v=>K (s.put d v):=(rfl)
def iaK (d:Option Nat) (s:St) (K:St→Prop) (size:Nat):AV→AV→Prop
 |.c (.ro dd),.c (.v (.int _ n))=>(0≤n∧n.toNat<dd.len∧dd.isSl=true∧dd.size=size)∧K (s.put d (.c (.rp (dd.elem n.toNat))))
 |.c (.hs g c p hx sz lo m),.c (.v (.int _ n))=>(0≤n∧(∃dd,Is s (.hs g c p hx sz lo m) dd)∧sz=size∧n.toNat<m)∧K (s.put d (.c (.ep g c p ((lo+n.toNat)*size) hx)))
 |.c (.h g c p hx),.c (.v (.int _ n))=>(0≤n∧∃dd,Is s (.h g c p hx) dd∧dd.size=size∧n.toNat<dd.len)∧K (s.put d (.c (.ep g c p (n.toNat*size) hx)))
 |_,_=>False
theorem jtO (size:Nat) (x i:X):qb P β ⟨d,g,.ia size x i⟩ s K=iaK d s K size (s.ev x) (s.ev i):=by
 unfold iaK;split
 ·rename_i dd k n h1 h2
  refine jsA rfl fun _ _ _ _=>?_
  simp only [Gen,h1,h2];constructor
  ·rintro ⟨_,_,he,h3,⟨h4,h5,h6,h7⟩,h8⟩;cases he;exact ⟨⟨h3,h6,h4,h5⟩,h7,h8⟩
  ·rintro ⟨⟨h3,h6,h4,h5⟩,h7,h8⟩;exact ⟨_,_,rfl,h3,⟨h4,h5,h6,h7⟩,h8⟩
 ·rename_i k c p hx sz lo m kk n h1 h2
  refine jsA rfl fun _ _ _ _=>?_
  simp only [Gen,h1,h2];constructor
  ·rintro ⟨_,_,he,h3,⟨h4,h5,h6,h7⟩,h8⟩;cases he;exact ⟨⟨h3,h4,h5,h6⟩,h7,h8⟩
  ·rintro ⟨⟨h3,h4,h5,h6⟩,h7,h8⟩;exact ⟨_,_,rfl,h3,⟨h4,h5,h6,h7⟩,h8⟩
 ·rename_i k c p hx kk n h1 h2
  refine jsA rfl fun _ _ _ _=>?_
  simp only [Gen,h1,h2];constructor
  ·rintro ⟨_,_,he,h3,⟨h4,h7⟩,h8⟩;cases he;exact ⟨⟨h3,h4⟩,h7,h8⟩
  ·rintro ⟨⟨h3,h4⟩,h7,h8⟩;exact ⟨_,_,rfl,h3,⟨h4,h7⟩,h8⟩
 ·rename_i h1 h2 h3'
  refine jkG rfl fun _ _ _ _=>?_
  simp only [Gen];rintro ⟨k,n,he,h3,h4,_⟩;split at h4
  ·exact h1 _ _ _ (by assumption) he
  ·exact h3' _ _ _ _ _ _ (by assumption) he
  ·exact h2 _ _ _ _ _ _ _ _ _ (by assumption) he
  ·exact h4
theorem juN (size:Nat) (dd:D) (k:IntKind) (n:Int):iaK d s K size (.c (.ro dd)) (.c (.v (.int k n)))=((0≤n∧n.toNat<dd.len∧dd.isSl=true∧dd.size=size)∧K (s.put d (.c (.rp (dd.elem n.toNat))))):=(rfl)
theorem iaK_h (size k c:Nat) (p:List Nat) (hx:Value) (kk:IntKind) (n:Int):iaK d s K size (.c (.h k c p hx)) (.c (.v (.int kk n)))=((0≤n∧∃dd,Is s (.h k c p hx) dd∧dd.size=size∧n.toNat<dd.len)∧K (s.put d (.c (.ep k c p (n.toNat*size) hx)))):=rfl
theorem jhf {i:I} {G:AV→Prop} (hw:i.writes=false) (h:∀rt st av' os',Gen P s (β+d.getD 0) rt st i av' os'↔G av'∧os'=[]):qb P β ⟨d,g,i⟩ s K=∃av,G av∧K (s.put d av):=by
 have e:qb P β ⟨d,g,i⟩ s K=(∃rt,∀st,∃av os,Gen P s (β+d.getD 0) rt st i av os∧K ((s.addO os).put d av)):=by
  cases i<;>first|rfl|cases hw
 rw [e]
 apply propext
 constructor
 ·rintro ⟨_,h1⟩
  obtain ⟨av',os',h2,h3⟩:=h1 ⟨0,fun _ _=>undef⟩
  obtain ⟨h4,rfl⟩:=(h _ _ _ _).1 h2;exact ⟨av',h4,h3⟩
 ·rintro ⟨av,h1,h2⟩
  exact ⟨.c (.val undef),fun _=>⟨av,[],(h _ _ _ _).2 ⟨h1,rfl⟩,h2⟩⟩
def jsi (d:Option Nat) (s:St) (K:St→Prop) (str:Bool) (a:AV):Prop:=∃av,(∃n,joP s str a n∧av=.c (.v (.int .i64 (n:Int))))∧K (s.put d av)
theorem jrC (str:Bool) (x:X):qb P β ⟨d,g,.len str x⟩ s K=jsi d s K str (s.ev x):=jhf rfl fun _ _ av os=>by
 simp only [Gen];constructor
 ·rintro ⟨n,h1,h2,h3⟩;exact ⟨⟨n,h1,h2⟩,h3⟩
 ·rintro ⟨⟨n,h1,h2⟩,h3⟩;exact ⟨n,h1,h2,h3⟩
theorem jp3 (str:Bool) (a:AV):jsi d s K str a=∃n,joP s str a n∧K (s.put d (.c (.v (.int .i64 (n:Int))))):=by
 apply propext
 constructor
 ·rintro ⟨_,⟨n,h1,rfl⟩,h2⟩;exact ⟨n,h1,h2⟩
 ·rintro ⟨n,h1,h2⟩;exact ⟨_,⟨n,h1,rfl⟩,h2⟩
theorem jsg (dd:D):jsi d s K false (.c (.ro dd))=((dd.isSl=true∧0<dd.size)∧K (s.put d (.c (.v (.int .i64 dd.len))))):=by
 rw [jp3]
 apply propext
 constructor
 ·rintro ⟨_,⟨h1,h2,rfl⟩,h3⟩;exact ⟨⟨h1,h2⟩,h3⟩
 ·rintro ⟨⟨h1,h2⟩,h3⟩;exact ⟨_,⟨h1,h2,rfl⟩,h3⟩
theorem jp1 (b:ByteArray):jsi d s K true (.c (.v (.string b)))=K (s.put d (.c (.v (.int .i64 b.size)))):=by
 rw [jp3];simp [joP]
theorem juH (k c:Nat) (p:List Nat) (x:Value):jsi d s K false (.c (.h k c p x))=∃dd,Is s (.h k c p x) dd∧0<dd.size∧K (s.put d (.c (.v (.int .i64 dd.len)))):=by
 rw [jp3]
 apply propext
 constructor
 ·rintro ⟨_,⟨dd,h1,h2,rfl⟩,h3⟩;exact ⟨dd,h1,h2,h3⟩
 ·rintro ⟨dd,h1,h2,h3⟩;exact ⟨_,⟨dd,h1,h2,rfl⟩,h3⟩
def jq7 (P:Program) (d:Option Nat) (s:St) (K:St→Prop) (op:BinOp) (ty:Nat) (x y:AV):Prop:=∃av,((∃a b v,x=.c (.v a)∧y=.c (.v b)∧js7 op a b v∧av=.c (.v v))∨
 (∃l m xs ys b,x=.agg l∧y=.agg m∧jaj l=some xs∧jaj m=some ys∧EqR P op ty xs ys b∧av=.c (.v (.bool b))))∧K (s.put d av)
theorem jrM (op:BinOp) (ty:Nat) (x y:X):qb P β ⟨d,g,.bin op ty x y⟩ s K=jq7 P d s K op ty (s.ev x) (s.ev y):=jhf rfl fun _ _ _ _=>Iff.rfl
theorem jkV (op:BinOp) (ty:Nat) (a b:Value):jq7 P d s K op ty (.c (.v a)) (.c (.v b))=∃v,js7 op a b v∧K (s.put d (.c (.v v))):=by
 apply propext
 constructor
 ·rintro ⟨_,(⟨_,_,v,h1,h2,h3,rfl⟩|⟨_,_,_,_,_,h1,_⟩),h4⟩
  ·cases h1;cases h2;exact ⟨v,h3,h4⟩
  ·cases h1
 ·rintro ⟨v,h1,h2⟩;exact ⟨_,.inl ⟨_,_,v,rfl,rfl,h1,rfl⟩,h2⟩
theorem jva (op:BinOp) (ty:Nat) (k k':IntKind) (a b:Int):jq7 P d s K op ty (.c (.v (.int k a))) (.c (.v (.int k' b)))=(jp8 op k k' b∧K (s.put d (.c (.v (zU op k a b))))):=by
 rw [jkV]
 apply propext
 constructor
 ·rintro ⟨_,⟨h1,rfl⟩,h2⟩;exact ⟨h1,h2⟩
 ·rintro ⟨h1,h2⟩;exact ⟨_,⟨h1,rfl⟩,h2⟩
theorem jqD (ty:Nat) (a b:ByteArray):jq7 P d s K .eql ty (.c (.v (.string a))) (.c (.v (.string b)))=K (s.put d (.c (.v (.bool (a.toList==b.toList))))):=by rw [jkV];simp [js7]
theorem jqC (ty:Nat) (a b:ByteArray):jq7 P d s K .neq ty (.c (.v (.string a))) (.c (.v (.string b)))=K (s.put d (.c (.v (.bool (!(a.toList==b.toList)))))):=by rw [jkV];simp [js7]
theorem joy (ty:Nat) (a b:ByteArray):jq7 P d s K .add ty (.c (.v (.string a))) (.c (.v (.string b)))=(a.size+b.size≤maxLen∧K (s.put d (.c (.v (.string (a++b)))))):=by rw [jkV];simp [js7,and_assoc]
def beqK (d:Option Nat) (s:St) (K:St→Prop) (neg:Bool) (x y:AV):Prop:=∃av,(∃a b,x=.c (.v (.bool a))∧y=.c (.v (.bool b))∧av=.c (.v (.bool (if neg then !(a==b) else a==b))))∧K (s.put d av)
theorem jrN (neg:Bool) (x y:X):qb P β ⟨d,g,.beq neg x y⟩ s K=beqK d s K neg (s.ev x) (s.ev y):=jhf rfl fun _ _ av os=>by
 simp only [Gen];constructor
 ·rintro ⟨a,b,h1,h2,h3,h4⟩;exact ⟨⟨a,b,h1,h2,h3⟩,h4⟩
 ·rintro ⟨⟨a,b,h1,h2,h3⟩,h4⟩;exact ⟨a,b,h1,h2,h3,h4⟩
theorem beqK_ (neg a b:Bool):beqK d s K neg (.c (.v (.bool a))) (.c (.v (.bool b)))=K (s.put d (.c (.v (.bool (if neg then !(a==b) else a==b))))):=by
 apply propext
 constructor
 ·rintro ⟨_,⟨_,_,h1,h2,rfl⟩,h⟩;cases h1;cases h2;exact h
 ·intro h;exact ⟨_,⟨_,_,rfl,rfl,rfl⟩,h⟩
def unK (d:Option Nat) (s:St) (K:St→Prop) (op:UnOp) (x:AV):Prop:=∃av,(match op with
 |.not=>∃b,x=.c (.v (.bool b))∧av=.c (.v (.bool (!b)))
 |.neg=>∃k n,x=.c (.v (.int k n))∧av=.c (.v (.int k (k.wrap (0-n))))
 |_=>False)∧K (s.put d av)
theorem jtK (op:UnOp) (x:X):qb P β ⟨d,g,.un op x⟩ s K=unK d s K op (s.ev x):=jhf rfl fun _ _ _ _=>Iff.rfl
theorem jrk (b:Bool):unK d s K .not (.c (.v (.bool b)))=K (s.put d (.c (.v (.bool (!b))))):=by simp [unK]
def cvK (d:Option Nat) (s:St) (K:St→Prop) (c:Cv) (x:AV):Prop:=∃av,(match c with
 |.num k=>∃k' n,x=.c (.v (.int k' n))∧av=.c (.v (.int k (k.wrap n)))
 |.text=>∃(a:A0) (ty:Nat) (bs:List UInt8),x=.c a∧Is s a (.sl 1 ty (bs.map kR))∧av=.c (.v (.string ⟨bs.toArray⟩))
 |.bytes=>False)∧K (s.put d av)
theorem jtR (c:Cv) (e:Nat) (x:X):qb P β ⟨d,g,.cv c e x⟩ s K=cvK d s K c (s.ev x):=jhf rfl fun _ _ _ _=>Iff.rfl
theorem jsS (k k':IntKind) (n:Int):cvK d s K (.num k) (.c (.v (.int k' n)))=K (s.put d (.c (.v (.int k (k.wrap n))))):=by
 apply propext
 constructor
 ·rintro ⟨_,⟨_,_,h1,rfl⟩,h⟩;cases h1;exact h
 ·intro h;exact ⟨_,⟨_,_,rfl,rfl⟩,h⟩
def extK (d:Option Nat) (s:St) (K:St→Prop) (x:AV) (i:Nat):Prop:=∃av,(∃l b az,x=.tup l∧l[i]?=some (b,az)∧(if b then av=.agg az else∃a,az=[a]∧av=.c a))∧K (s.put d av)
theorem jrI (x:X) (i:Nat):qb P β ⟨d,g,.ext x i⟩ s K=extK d s K (s.ev x) i:=jhf rfl fun _ _ av os=>by
 simp only [Gen];constructor
 ·rintro ⟨l,b,az,h1,h2,h3,h4⟩;exact ⟨⟨l,b,az,h1,h2,h3⟩,h4⟩
 ·rintro ⟨⟨l,b,az,h1,h2,h3⟩,h4⟩;exact ⟨l,b,az,h1,h2,h3,h4⟩
def jvs (l:Option (Bool×List A0)) (k:AV→Prop):Prop:=match l with
 |some (true,az)=>k (.agg az)
 |some (false,[a])=>k (.c a)
 |_=>False
theorem extK_ (l:List (Bool×List A0)) (i:Nat):extK d s K (.tup l) i=jvs l[i]? fun v=>K (s.put d v):=by
 apply propext
 unfold extK jvs;constructor
 ·rintro ⟨av,⟨l',b,az,h1,h2,h3⟩,h4⟩
  cases h1;rw [h2];cases b
  ·obtain ⟨a,rfl,rfl⟩:∃a,az=[a]∧av=.c a:=by simpa using h3
   exact h4
  ·obtain rfl:av=.agg az:=by simpa using h3
   exact h4
 ·split
  ·intro h;exact ⟨_,⟨_,_,_,rfl,by assumption,by simp⟩,h⟩
  ·intro h;exact ⟨_,⟨_,_,_,rfl,by assumption,by simp⟩,h⟩
  ·exact False.elim
theorem juX (az:List A0) (k:AV→Prop):jvs (some (true,az)) k=k (.agg az):=(rfl)
theorem juY (a:A0) (k:AV→Prop):jvs (some (false,[a])) k=k (.c a):=(rfl)
def jtF (d:Option Nat) (s:St) (K:St→Prop) (x i:AV):Prop:=∃av,(∃b k n u,x=.c (.v (.string b))∧i=.c (.v (.int k n))∧0≤n∧b[n.toNat]?=some u∧av=.c (.v (.int .u8 u.toNat)))∧K (s.put d av)
theorem jpq (x i:X):qb P β ⟨d,g,.sidx x i⟩ s K=jtF d s K (s.ev x) (s.ev i):=jhf rfl fun _ _ av os=>by
 simp only [Gen];constructor
 ·rintro ⟨b,k,n,u,h1,h2,h3,h4,h5,h6⟩;exact ⟨⟨b,k,n,u,h1,h2,h3,h4,h5⟩,h6⟩
 ·rintro ⟨⟨b,k,n,u,h1,h2,h3,h4,h5⟩,h6⟩;exact ⟨b,k,n,u,h1,h2,h3,h4,h5,h6⟩
theorem jtE (b:ByteArray) (k:IntKind) (n:Int):jtF d s K (.c (.v (.string b))) (.c (.v (.int k n)))=(0≤n∧∃u,b[n.toNat]?=some u∧K (s.put d (.c (.v (.int .u8 u.toNat))))):=by
 apply propext
 constructor
 ·rintro ⟨_,⟨_,_,_,u,h1,h2,h3,h4,rfl⟩,h5⟩;cases h1;cases h2;exact ⟨h3,u,h4,h5⟩
 ·rintro ⟨h3,u,h4,h5⟩;exact ⟨_,⟨_,_,_,u,rfl,rfl,h3,h4,rfl⟩,h5⟩
theorem jb {f:Nat} {args:List X} {vs:List View} {rt:RT} (hp:kg P f vs rt) (ha:vG s (args.map s.ev) vs) (hk:∀η:Nat→jm,K ((s.addO (jg1 (100*(β+d.getD 0)) η 0 rt.flat)).put d (rt.av (100*(β+d.getD 0)) η))):
 qb P β ⟨d,g,.call f args⟩ s K:=Or.inl ⟨rt,fun st=>⟨_,_,⟨vs,ha,hp,rfl,rfl⟩,hk st.η⟩⟩
theorem jkm {f:Nat} {args:List X} {R:RT→(Nat→Ob)→Prop} (h:Turns P f (args.map s.ev) s.o R) (hk:∀rt o',R rt o'→∀η:Nat→jm,K (((⟨s.t,o'⟩:St).addO (jg1 (100*(β+d.getD 0)) η 0 rt.flat)).put d (rt.av (100*(β+d.getD 0)) η))):
 qb P β ⟨d,g,.call f args⟩ s K:=Or.inr (Or.inl ⟨h.1,fun B w F xs h1 h2=>(h.2 B w F xs h1 h2).mono fun e w' ⟨v,rt,o',S,F',k1,k2,k3,k4,k5,k6⟩=>⟨v,rt,o',S,F',k1,k2,k3,k4,k5,hk _ _ k6⟩⟩)
theorem qY {f:Nat} {args:List X} (h:Inl P f (args.map s.ev) s.o fun av o'=>K (St.put ⟨s.t,o'⟩ d av)):qb P β ⟨d,g,.call f args⟩ s K:=Or.inr (Or.inr h)
def boxK (β:Nat) (d:Option Nat) (s:St) (K:St→Prop) (ty n:Nat) (x:AV):Prop:=∃l,x.cells=some l∧l.length=n∧ka s l fun cs s'=>∀b,K ((s'.addO [(100*(β+d.getD 0),.box b ty cs)]).put d (.c (.bp (100*(β+d.getD 0)) 0 b)))
theorem jrK (ty n:Nat) (x:X):qb P β ⟨d,g,.box ty n x⟩ s K=boxK β d s K ty n (s.ev x):=(rfl)
theorem jqz (ty n:Nat) (l:List A0):boxK β d s K ty n (.agg l)=(l.length=n∧ka s l fun cs s'=>∀b,K ((s'.addO [(100*(β+d.getD 0),.box b ty cs)]).put d (.c (.bp (100*(β+d.getD 0)) 0 b)))):=by simp [boxK,AV.cells]
theorem jkc (K:List Cell→St→Prop):ka s [] K=K [] s:=(rfl)
theorem jtn (x:Value) (l:List A0) (K:List Cell→St→Prop):ka s (.v x::l) K=(x.oneCell'=true∧ka s l (fun cs s'=>K (.a (.v x)::cs) s')):=(rfl)
theorem jrm (x:D) (l:List A0) (K:List Cell→St→Prop):ka s (.ro x::l) K=ka s l (fun cs s'=>K (.a (.ro x)::cs) s'):=by simp [ka,A0.one]
theorem one_i (k:IntKind) (n:Int):(Value.int k n).oneCell'=true:=(rfl)
theorem one_b (b:Bool):(Value.bool b).oneCell'=true:=(rfl)
theorem one_s (b:ByteArray):(Value.string b).oneCell'=true:=(rfl)
theorem one_n (a:Option Addr) (n c:Nat):(Value.slice a n c).oneCell'=true:=(rfl)
theorem jto (k c:Nat) (x:Value) (l:List A0) (K:List Cell→St→Prop):ka s (.h k c [] x::l) K=∃d η,(s.o k).own c=some (d,η)∧η []=x∧ka (s.rm k c) l (fun cs s'=>K (.own d η::cs) s'):=by simp [ka]
end
section
variable {P:Program} {β:Nat} {s:St} {K:St→Prop} {d:Option Nat} {l:List (Nat×List Lk)}
theorem jrR:qE P β .done l s K=K s:=(rfl)
theorem jrP:qE P β .stop l s K=True:=(rfl)
theorem jrQ (p:Nat) (i:I) (t:T):qE P β (.pure p ⟨d,none,i⟩ t) l s K=qb P β ⟨d,none,i⟩ s fun s'=>qE P β t ((p,i.looks s)::l) s' K:=(rfl)
theorem jtS {n:Nat} (p:Nat) (i:I) (t:T) (h:s.t n=.c (.v (.bool true))):qE P β (.pure p ⟨d,some (n,true),i⟩ t) l s K=qb P β ⟨d,some (n,true),i⟩ s fun s'=>qE P β t ((p,i.looks s)::l) s' K:=by simp [qE,qp,h]
theorem jtT {n:Nat} (p:Nat) (i:I) (t:T) (h:s.t n=.c (.v (.bool false))):qE P β (.pure p ⟨d,some (n,true),i⟩ t) l s K=qE P β t l (s.put d (.c (.v undef))) K:=by simp [qE,qp,h]
theorem jtU {n:Nat} (p:Nat) (i:I) (t:T) (h:s.t n=.c (.v (.bool true))):qE P β (.pure p ⟨d,some (n,false),i⟩ t) l s K=qE P β t l (s.put d (.c (.v undef))) K:=by simp [qE,qp,h]
theorem jtV {n:Nat} (p:Nat) (i:I) (t:T) (h:s.t n=.c (.v (.bool false))):qE P β (.pure p ⟨d,some (n,false),i⟩ t) l s K=qb P β ⟨d,some (n,false),i⟩ s fun s'=>qE P β t ((p,i.looks s)::l) s' K:=by simp [qE,qp,h]
theorem jtW (i:I) (chk:List Nat) (t r:T):qE P β (.alt ⟨d,none,i⟩ chk t r) l s K=(qb P β ⟨d,none,i⟩ s (fun s'=>jg9 s s' chk l∧qE P β t l s' K)∧qE P β r l s K):=(rfl)
theorem jt9 {n:Nat} (i:I) (chk:List Nat) (t r:T) (h:s.t n=.c (.v (.bool true))):qE P β (.alt ⟨d,some (n,true),i⟩ chk t r) l s K=(qb P β ⟨d,some (n,true),i⟩ s (fun s'=>jg9 s s' chk l∧qE P β t l s' K)∧qE P β r l s K):=by simp [qE,qp,h]
theorem jua {n:Nat} (i:I) (chk:List Nat) (t r:T) (h:s.t n=.c (.v (.bool false))):qE P β (.alt ⟨d,some (n,true),i⟩ chk t r) l s K=(qE P β t l (s.put d (.c (.v undef))) K∧qE P β r l s K):=by simp [qE,qp,h]
theorem jub {n:Nat} (i:I) (chk:List Nat) (t r:T) (h:s.t n=.c (.v (.bool true))):qE P β (.alt ⟨d,some (n,false),i⟩ chk t r) l s K=(qE P β t l (s.put d (.c (.v undef))) K∧qE P β r l s K):=by simp [qE,qp,h]
theorem juc {n:Nat} (i:I) (chk:List Nat) (t r:T) (h:s.t n=.c (.v (.bool false))):qE P β (.alt ⟨d,some (n,false),i⟩ chk t r) l s K=(qb P β ⟨d,some (n,false),i⟩ s (fun s'=>jg9 s s' chk l∧qE P β t l s' K)∧qE P β r l s K):=by simp [qE,qp,h]
theorem jrg (t:T) (Q:Ex→St→Prop):wpC P β (.dreg t) Q s=qE P β t [] s (Q .normal):=(rfl)
theorem jnR (s':St) (chk:List Nat):jg9 s s' chk []=True:=(rfl)
theorem jlU (s':St) (chk:List Nat) (p:Nat) (ids:List Lk) (l:List (Nat×List Lk)):jg9 s s' chk ((p,ids)::l)=((if chk.contains p then jjC s s' ids else True)∧jg9 s s' chk l):=(rfl)
theorem jnS (s':St):jjC s s' []=True:=(rfl)
theorem jlV (s':St) (k:Lk) (l:List Lk):jjC s s' (k::l)=(jkA s s' k∧jjC s s' l):=(rfl)
theorem jsk (s':St) (g:Nat):jkA s s' (.ob g)=(s'.o g=s.o g):=(rfl)
theorem jsl (s':St) (g c n:Nat):jkA s s' (.cs g c n)=jln g c n (s'.o g) (s.o g):=(rfl)
theorem jrA (g c n:Nat) (ob:Ob):jln g c n ob ob=True:=eq_true (jeQ g c n ob)
theorem jm8 (g c n b ty b' ty':Nat) (cs cs':List Cell):jln g c n (.box b ty cs) (.box b' ty' cs')=(b=b'∧ty=ty'∧cs.length=cs'.length∧jce g c ((cs.drop c).take n)=jce g c ((cs'.drop c).take n)):=(rfl)
end
section
variable {α:Type} {enc:α→List D} {size:Nat}
theorem vm (hl:∀x,(enc x).length=size) (hs:0<size) (ty:TypeId) (xs:List α):D.len (.sl size ty (xs.flatMap enc))=xs.length:=by
 simp only [D.len,D.cells,D.size];rw [jU hl,Nat.mul_div_cancel _ hs]
theorem vC (hl:∀x,(enc x).length=size) {ty:TypeId} {xs:List α} {k:Nat} {x:α} (hx:xs[k]?=some x):D.elem (.sl size ty (xs.flatMap enc)) k=enc x:=by
 have hk:k<xs.length:=(List.getElem?_eq_some_iff.1 hx).1;have hx':xs[k]=x:=by rw [List.getElem?_eq_getElem hk] at hx;exact Option.some.inj hx
 simp only [D.elem,D.cells,D.size];have e:xs=xs.take k++(x::xs.drop (k+1)):=by rw [←hx'];simp
 have e2:xs.flatMap enc=(xs.take k).flatMap enc++(enc x++(xs.drop (k+1)).flatMap enc):=by
  conv=>lhs;rw [e]
  simp
 have e3:((xs.take k).flatMap enc).length=k*size:=by rw [jU hl,List.length_take,Nat.min_eq_left (by omega)]
 rw [e2,←e3,List.drop_left,←hl x,List.take_left]
end
theorem jlP (l:List Rn):(kr l).len=l.length:=vm (enc:=jc) (fun _=>rfl) (by decide) _ _
theorem vD {l:List Rn} {k:Nat} {x:Rn} (h:l[k]?=some x):(kr l).elem k=jc x:=vC (enc:=jc) (fun _=>rfl) h
theorem jnO (l:List (List En)):(kO l).len=l.length:=vm (enc:=fun es=>[js es]) (fun _=>rfl) (by decide) _ _
theorem qO {l:List (List En)} {k:Nat} {x:List En} (h:l[k]?=some x):(kO l).elem k=[js x]:=vC (enc:=fun es=>[js es]) (fun _=>rfl) h
theorem jlR (l:List En):(js l).len=l.length:=vm (enc:=jk) (fun _=>rfl) (by decide) _ _
theorem jD {l:List En} {k:Nat} {x:En} (h:l[k]?=some x):(js l).elem k=jk x:=vC (enc:=jk) (fun _=>rfl) h
theorem jlO (l:List Tk):(km l).len=l.length:=vm (enc:=jn) (fun _=>rfl) (by decide) _ _
theorem jJ {l:List Tk} {k:Nat} {x:Tk} (h:l[k]?=some x):(km l).elem k=jn x:=vC (enc:=jn) (fun _=>rfl) h
theorem jmU (l:List Rn):(kr l).isSl=true:=(rfl)
theorem jpk (l:List (List En)):(kO l).isSl=true:=(rfl)
theorem jmW (l:List En):(js l).isSl=true:=(rfl)
theorem jmT (l:List Tk):(km l).isSl=true:=(rfl)
theorem jmH (l:List Rn):(kr l).size=8:=(rfl)
theorem jpd (l:List (List En)):(kO l).size=1:=(rfl)
theorem jmJ (l:List En):(js l).size=4:=(rfl)
theorem jmG (l:List Tk):(km l).size=4:=(rfl)
theorem jnf (l:List Rn):(kr l).toRo=.ro (kr l):=(rfl)
theorem jpw (l:List (List En)):(kO l).toRo=.ro (kO l):=(rfl)
theorem jng (l:List En):(js l).toRo=.ro (js l):=(rfl)
theorem jne (l:List Tk):(km l).toRo=.ro (km l):=(rfl)
theorem jnh (l:List Ed):(jv l).toRo=.ro (jv l):=(rfl)
theorem jtY (v:Value):(D.val v).toRo=.v v:=(rfl)
theorem juM (vs:List View) (n:Nat):(St.init vs).o n=.none:=(rfl)
theorem juL (vs:List View) (n:Nat):(St.init vs).t n=((vs.map View.av)[n]?).getD .unk:=(rfl)
end Go.Proofs.Ytmnpailnelmpiaa
