/- Parts. -/
import Derived.Test.YtekegiiikglhbaaGreatQData
import Derived.Test.YtekegiiikglhbaaGreatQE3b
set_option linter.all false
namespace Go.Proofs.YtekegiiikglhbaaGreat
open Go.RowKit Go.Sort
section
variable {P:Program} {β:Nat} {s:St} {K:St->Prop} {Q:Ex->St->Prop} {d:Option Nat} {g:Option (Nat×Bool)}
theorem ev_t (n:Nat):s.ev (.t n)=s.t n:=(rfl)
theorem ev_i (k:IntKind) (n:Int):s.ev (.c (.int k n))=.c (.v (.int k n)):=(rfl)
theorem ev_b (b:Bool):s.ev (.c (.bool b))=.c (.v (.bool b)):=(rfl)
theorem ev_s (b:ByteArray):s.ev (.c (.string b))=.c (.v (.string b)):=(rfl)
theorem ev_n:s.ev (.c (.slice none 0 0))=.c (.v (.slice none 0 0)):=(rfl)
theorem put_t (k n:Nat) (v:AV):(s.put (some k) v).t n=if n=k then v else s.t n:=(rfl)
theorem put_o (v:AV) (n:Nat):(s.put d v).o n=s.o n:=by cases d<;>rfl
theorem jrc (k:Nat) (ob:Ob) (n:Nat):(s.setO k ob).t n=s.t n:=(rfl)
theorem jrd (k:Nat) (ob:Ob) (n:Nat):(s.setO k ob).o n=if n=k then ob else s.o n:=(rfl)
theorem jou:s.addO []=s:=(rfl)
theorem jmC (k:Nat) (ob:Ob) (l:List (Nat×Ob)):s.addO ((k,ob)::l)=(s.setO k ob).addO l:=(rfl)
theorem jmM:wpC P β .skip Q s=Q .normal s:=(rfl)
theorem jqO (is:List Ins):wpC P β (.reg is) Q s=jcc P β is s (Q .normal):=(rfl)
theorem jkm (a b:C):wpC P β (.seq a b) Q s=wpC P β a (Ex.thn (wpC P β b Q) Q) s:=(rfl)
theorem jox (id:Nat) (a:C):wpC P β (.blk id a) Q s=wpC P β a (Ex.inBlk id Q) s:=(rfl)
theorem jmN (id:Nat):wpC P β (.exit id) Q s=Q (.exit id) s:=(rfl)
theorem joS:wpC P β .ret Q s=Q .ret s:=(rfl)
theorem jko {x:X} (a b:C) (h:s.ev x=.c (.v (.bool true))):wpC P β (.cond x a b) Q s=wpC P β a Q s:=by simp [wpC,h]
theorem jkp {x:X} (a b:C) (h:s.ev x=.c (.v (.bool false))):wpC P β (.cond x a b) Q s=wpC P β b Q s:=by simp [wpC,h]
theorem thn_n (next:St->Prop):Ex.thn next Q .normal s=next s:=(rfl)
theorem thn_e (next:St->Prop) (id:Nat):Ex.thn next Q (.exit id) s=Q (.exit id) s:=(rfl)
theorem thn_r (next:St->Prop):Ex.thn next Q .ret s=Q .ret s:=(rfl)
theorem blk_n (id:Nat):Ex.inBlk id Q .normal s=Q .normal s:=(rfl)
theorem blk_r (id:Nat):Ex.inBlk id Q .ret s=Q .ret s:=(rfl)
theorem blk_e (id id':Nat):Ex.inBlk id Q (.exit id') s=if id'=id then Q .normal s else Q (.exit id') s:=(rfl)
theorem jnf:jcc P β [] s K=K s:=(rfl)
theorem jk7 (i:I) (l:List Ins):jcc P β (⟨d,none,i⟩::l) s K=kK P β ⟨d,none,i⟩ s (λs'=>jcc P β l s' K):=(rfl)
theorem jpc {t:Nat} (i:I) (l:List Ins) (h:s.t t=.c (.v (.bool true))):jcc P β (⟨d,some (t,true),i⟩::l) s K=kK P β ⟨d,some (t,true),i⟩ s (λs'=>jcc P β l s' K):=by simp [jcc,kX,h]
theorem jpd {t:Nat} (i:I) (l:List Ins) (h:s.t t=.c (.v (.bool false))):jcc P β (⟨d,some (t,true),i⟩::l) s K=jcc P β l (s.put d (.c (.v undef))) K:=by simp [jcc,kX,h]
theorem jpe {t:Nat} (i:I) (l:List Ins) (h:s.t t=.c (.v (.bool true))):jcc P β (⟨d,some (t,false),i⟩::l) s K=jcc P β l (s.put d (.c (.v undef))) K:=by simp [jcc,kX,h]
theorem jpf {t:Nat} (i:I) (l:List Ins) (h:s.t t=.c (.v (.bool false))):jcc P β (⟨d,some (t,false),i⟩::l) s K=kK P β ⟨d,some (t,false),i⟩ s (λs'=>jcc P β l s' K):=by simp [jcc,kX,h]
def I.writes:I->Bool
 |.box ..|.bsl ..|.st ..|.app ..|.apps ..|.clr ..|.call ..|.callv ..=>true
 |_=>false
theorem joK {i:I} {av:AV} {os:List (Nat×Ob)} (hw:i.writes=false) (h:∀rt st av' os',Gen P s (β+d.getD 0) rt st i av' os'↔av'=av/\os'=os):
 kK P β ⟨d,g,i⟩ s K=K ((s.addO os).put d av):=by
 have e:kK P β ⟨d,g,i⟩ s K=(∃rt,∀st,∃av os,Gen P s (β+d.getD 0) rt st i av os/\K ((s.addO os).put d av)):=by
  cases i<;>first|rfl|cases hw
 rw [e]
 apply propext
 constructor
 ·rintro ⟨rt,V⟩
  obtain ⟨av',os',Y,h3⟩:=V ⟨0,λ_ _=>undef⟩
  obtain ⟨rfl,rfl⟩:=(h _ _ _ _).1 Y;exact h3
 ·intro V
  exact ⟨.c (.val undef),λst=>⟨_,_,(h _ _ _ _).2 ⟨rfl,rfl⟩,V⟩⟩
theorem jn1 {i:I} {av:AV} (hw:i.writes=false) (h:∀rt st av' os',Gen P s (β+d.getD 0) rt st i av' os'↔av'=av/\os'=[]):kK P β ⟨d,g,i⟩ s K=K (s.put d av):=joK hw h
theorem jo8 (x:X):kK P β ⟨d,g,.mov x⟩ s K=K (s.put d (s.ev x)):=jn1 rfl λ_ _ _ _=>Iff.rfl
theorem jqe {i:I} {p:Prop} {av:AV} (hw:i.writes=false) (h:∀rt st av' os',Gen P s (β+d.getD 0) rt st i av' os'↔p/\av'=av/\os'=[]):kK P β ⟨d,g,i⟩ s K=(p/\K (s.put d av)):=by
 by_cases hp:p
 ·rw [jn1 hw (av:=av) λrt st av' os'=>by rw [h];simp [hp]];simp [hp]
 ·have e:kK P β ⟨d,g,i⟩ s K=(∃rt,∀st,∃av os,Gen P s (β+d.getD 0) rt st i av os/\K ((s.addO os).put d av)):=by
   cases i<;>first|rfl|cases hw
  rw [e]
  apply propext
  constructor
  ·rintro ⟨rt,V⟩
   obtain ⟨av',os',Y,_⟩:=V ⟨0,λ_ _=>undef⟩
   exact absurd ((h _ _ _ _).1 Y).1 hp
  ·exact λh=>absurd h.1 hp
theorem jiK {i:I} (hw:i.writes=false) (h:∀rt st av' os',¬Gen P s (β+d.getD 0) rt st i av' os'):kK P β ⟨d,g,i⟩ s K=False:=by
 have e:kK P β ⟨d,g,i⟩ s K=(∃rt,∀st,∃av os,Gen P s (β+d.getD 0) rt st i av os/\K ((s.addO os).put d av)):=by
  cases i<;>first|rfl|cases hw
 rw [e]
 apply propext
 constructor
 ·rintro ⟨rt,V⟩
  obtain ⟨av',os',Y,_⟩:=V ⟨0,λ_ _=>undef⟩
  exact absurd Y (h _ _ _ _)
 ·exact False.elim
def jpF (d:Option Nat) (s:St) (K:St->Prop) (c a b:AV):Prop:=match c with
 |.c (.v (.bool t))=>K (s.put d (if t then a else b))
 |_=>False
theorem jne (c a b:X):kK P β ⟨d,g,.pick c a b⟩ s K=jpF d s K (s.ev c) (s.ev a) (s.ev b):=by
 unfold jpF;split
 ·exact jn1 rfl λ_ _ _ _=>by simp [Gen, *]
 ·rename_i h
  exact jiK rfl λ_ _ _ _ ⟨t,V,_⟩=>h t V
theorem jrR (t:Bool) (a b:AV):jpF d s K (.c (.v (.bool t))) a b=K (s.put d (if t then a else b)):=(rfl)
def faK (d:Option Nat) (s:St) (K:St->Prop) (off:Nat):AV->Prop
 |.c (.rp ds)=>K (s.put d (.c (.rp (ds.drop off))))
 |.c (.bp g c b)=>K (s.put d (.c (.bp g (c+off) b)))
 |.c (.ep g c p i x)=>K (s.put d (.c (.ep g c p (i+off) x)))
 |_=>False
theorem jrk (off:Nat) (x:X):kK P β ⟨d,g,.fa off x⟩ s K=faK d s K off (s.ev x):=by
 cases h:s.ev x with
 |c a=>cases a<;>first|exact jn1 rfl (λ_ _ _ _=>by simp [Gen,h])|exact jiK rfl (λ_ _ _ _=>by simp [Gen,h])
 |_=>exact jiK rfl (λ_ _ _ _=>by simp [Gen,h])
theorem jsr (off:Nat) (ds:List D):faK d s K off (.c (.rp ds))=K (s.put d (.c (.rp (ds.drop off)))):=(rfl)
theorem jst (off k c b:Nat):faK d s K off (.c (.bp k c b))=K (s.put d (.c (.bp k (c+off) b))):=(rfl)
theorem jss (off k c:Nat) (p:List Nat) (i:Nat) (x:Value):faK d s K off (.c (.ep k c p i x))=K (s.put d (.c (.ep k c p (i+off) x))):=(rfl)
def ldV:Bool->List A0->(AV->Prop)->Prop
 |true,l,k=>k (.agg l)
 |false,[a],k=>k (.c a)
 |false,_,_=>False
theorem ldV_t (l:List A0) (k:AV->Prop):ldV true l k=k (.agg l):=(rfl)
theorem ldV_f (a:A0) (k:AV->Prop):ldV false [a] k=k (.c a):=(rfl)
def ldB (ob:Ob) (g c b n:Nat) (k:List A0->Prop):Prop:=match ob with
 |.box b' _ cs=>b'=b/\c+n<=cs.length/\k (jda g c ((cs.drop c).take n))
 |_=>False
theorem ldB_ (b' ty:Nat) (cs:List Cell) (k c b n:Nat) (K:List A0->Prop):ldB (.box b' ty cs) k c b n K=(b'=b/\c+n<=cs.length/\K (jda k c ((cs.drop c).take n))):=(rfl)
def ldK (d:Option Nat) (s:St) (K:St->Prop) (agg:Bool) (n:Nat):AV->Prop
 |.c (.rp ds)=>n<=ds.length/\ldV agg ((ds.take n).map D.toRo) λv=>K (s.put d v)
 |.c (.bp g c b)=>ldB (s.o g) g c b n λl=>ldV agg l λv=>K (s.put d v)
 |.c (.ep g c p i x)=>∃d0 η dd,(s.o g).own c=some (d0,η)/\η p=x/\D.get p d0=some dd/\dd.isSl=true/\i+n<=dd.cells.length/\ldV agg (jcq g c p η i ((dd.cells.drop i).take n)) λv=>K (s.put d v)
 |_=>False
theorem jrh (agg:Bool) (n:Nat) (x:X):kK P β ⟨d,g,.ld agg n x⟩ s K=ldK d s K agg n (s.ev x):=by
 have e:kK P β ⟨d,g,.ld agg n x⟩ s K=(∃rt:RT,∀st:jmD,∃av os,(∃l,vi s n l (s.ev x)/\(if agg then av=.agg l else∃a,l=[a]/\av=.c a)/\os=[])/\K ((s.addO os).put d av)):=rfl
 have V:∀l,(∃av os,((if agg then av=.agg l else∃a,l=[a]/\av=.c a)/\os=[])/\K ((s.addO os).put d av))↔ldV agg l λv=>K (s.put d v):=λl=>by
  cases agg
  ·rcases l with _|⟨a,_|⟨b,l⟩⟩
   ·simp [ldV]
   ·simp only [ldV]
    constructor
    ·rintro ⟨_,_,⟨h,rfl⟩,h3⟩;simp at h;subst h;exact h3
    ·intro h3;exact ⟨_,_,⟨by simp,rfl⟩,h3⟩
   ·simp [ldV]
  ·simp only [ldV]
   constructor
   ·rintro ⟨_,_,⟨h,rfl⟩,h3⟩;simp at h;subst h;exact h3
   ·intro h3;exact ⟨_,_,⟨by simp,rfl⟩,h3⟩
 have e2:kK P β ⟨d,g,.ld agg n x⟩ s K↔∃l,vi s n l (s.ev x)/\ldV agg l λv=>K (s.put d v):=by
  rw [e];constructor
  ·rintro ⟨_,h⟩
   obtain ⟨av,os,⟨l,Y,h3⟩,h4⟩:=h ⟨0,λ_ _=>undef⟩
   exact ⟨l,Y,(V l).1 ⟨av,os,h3,h4⟩⟩
  ·rintro ⟨l,Y,h3⟩
   refine ⟨.c (.val undef),λ_=>?_⟩
   obtain ⟨av,os,h4,h5⟩:=(V l).2 h3;exact ⟨av,os,⟨l,Y,h4⟩,h5⟩
 apply propext
 rw [e2];cases h:s.ev x with
 |c a=>
  cases a with
  |bp k c b=>
   simp only [vi,ldK,ldB];cases ho:s.o k<;>simp
   constructor
   ·rintro ⟨l,⟨_,_,⟨rfl,_,rfl⟩,Y,rfl⟩,h3⟩;exact ⟨rfl,Y,h3⟩
   ·rintro ⟨rfl,Y,h3⟩;exact ⟨_,⟨_,_,⟨rfl,rfl,rfl⟩,Y,rfl⟩,h3⟩
  |rp ds=>
   simp only [vi,ldK];constructor
   ·rintro ⟨l,⟨Y,rfl⟩,h3⟩;exact ⟨Y,h3⟩
   ·rintro ⟨Y,h3⟩;exact ⟨_,⟨Y,rfl⟩,h3⟩
  |ep k c p i x=>
   simp only [vi,ldK];constructor
   ·rintro ⟨l,⟨d0,η,dd,Y,h3,h4,h7,h5,rfl⟩,h6⟩;exact ⟨d0,η,dd,Y,h3,h4,h7,h5,h6⟩
   ·rintro ⟨d0,η,dd,Y,h3,h4,h7,h5,h6⟩;exact ⟨_,⟨d0,η,dd,Y,h3,h4,h7,h5,rfl⟩,h6⟩
  |_=>simp [vi,ldK]
 |_=>simp [vi,ldK]
theorem jsc (agg:Bool) (n:Nat) (ds:List D):ldK d s K agg n (.c (.rp ds))=(n<=ds.length/\ldV agg ((ds.take n).map D.toRo) λv=>K (s.put d v)):=(rfl)
theorem jsd (agg:Bool) (n k c b:Nat):ldK d s K agg n (.c (.bp k c b))=ldB (s.o k) k c b n λl=>ldV agg l λv=>K (s.put d v):=(rfl)
def iaK (d:Option Nat) (s:St) (K:St->Prop) (size:Nat):AV->AV->Prop
 |.c (.ro dd),.c (.v (.int _ n))=>(0<=n/\n.toNat<dd.len/\dd.isSl=true/\dd.size=size)/\K (s.put d (.c (.rp (dd.elem n.toNat))))
 |.c (.hs g c p hx sz lo m),.c (.v (.int _ n))=>(0<=n/\(∃dd,Is s (.hs g c p hx sz lo m) dd)/\sz=size/\n.toNat<m)/\K (s.put d (.c (.ep g c p ((lo+n.toNat)*size) hx)))
 |.c (.h g c p hx),.c (.v (.int _ n))=>(0<=n/\∃dd,Is s (.h g c p hx) dd/\dd.size=size/\n.toNat<dd.len)/\K (s.put d (.c (.ep g c p (n.toNat*size) hx)))
 |_,_=>False
theorem jri (size:Nat) (x i:X):kK P β ⟨d,g,.ia size x i⟩ s K=iaK d s K size (s.ev x) (s.ev i):=by
 unfold iaK;split
 ·rename_i dd k n V Y
  refine jqe rfl λ_ _ _ _=>?_
  simp only [Gen,V,Y];constructor
  ·rintro ⟨_,_,he,h3,⟨h4,h5,h6,h7⟩,h8⟩;cases he;exact ⟨⟨h3,h6,h4,h5⟩,h7,h8⟩
  ·rintro ⟨⟨h3,h6,h4,h5⟩,h7,h8⟩;exact ⟨_,_,rfl,h3,⟨h4,h5,h6,h7⟩,h8⟩
 ·rename_i k c p hx sz lo m kk n V Y
  refine jqe rfl λ_ _ _ _=>?_
  simp only [Gen,V,Y];constructor
  ·rintro ⟨_,_,he,h3,⟨h4,h5,h6,h7⟩,h8⟩;cases he;exact ⟨⟨h3,h4,h5,h6⟩,h7,h8⟩
  ·rintro ⟨⟨h3,h4,h5,h6⟩,h7,h8⟩;exact ⟨_,_,rfl,h3,⟨h4,h5,h6,h7⟩,h8⟩
 ·rename_i k c p hx kk n V Y
  refine jqe rfl λ_ _ _ _=>?_
  simp only [Gen,V,Y];constructor
  ·rintro ⟨_,_,he,h3,⟨h4,h7⟩,h8⟩;cases he;exact ⟨⟨h3,h4⟩,h7,h8⟩
  ·rintro ⟨⟨h3,h4⟩,h7,h8⟩;exact ⟨_,_,rfl,h3,⟨h4,h7⟩,h8⟩
 ·rename_i V Y eH
  refine jiK rfl λ_ _ _ _=>?_
  simp only [Gen];rintro ⟨k,n,he,h3,h4,_⟩;split at h4
  ·exact V _ _ _ (by assumption) he
  ·exact eH _ _ _ _ _ _ (by assumption) he
  ·exact Y _ _ _ _ _ _ _ _ _ (by assumption) he
  ·exact h4
theorem jsk (size:Nat) (dd:D) (k:IntKind) (n:Int):iaK d s K size (.c (.ro dd)) (.c (.v (.int k n)))=((0<=n/\n.toNat<dd.len/\dd.isSl=true/\dd.size=size)/\K (s.put d (.c (.rp (dd.elem n.toNat))))):=(rfl)
theorem iaK_h (size k c:Nat) (p:List Nat) (hx:Value) (kk:IntKind) (n:Int):iaK d s K size (.c (.h k c p hx)) (.c (.v (.int kk n)))=((0<=n/\∃dd,Is s (.h k c p hx) dd/\dd.size=size/\n.toNat<dd.len)/\K (s.put d (.c (.ep k c p (n.toNat*size) hx)))):=rfl
theorem jfX {i:I} {G:AV->Prop} (hw:i.writes=false) (h:∀rt st av' os',Gen P s (β+d.getD 0) rt st i av' os'↔G av'/\os'=[]):kK P β ⟨d,g,i⟩ s K=∃av,G av/\K (s.put d av):=by
 have e:kK P β ⟨d,g,i⟩ s K=(∃rt,∀st,∃av os,Gen P s (β+d.getD 0) rt st i av os/\K ((s.addO os).put d av)):=by
  cases i<;>first|rfl|cases hw
 rw [e]
 apply propext
 constructor
 ·rintro ⟨_,V⟩
  obtain ⟨av',os',Y,h3⟩:=V ⟨0,λ_ _=>undef⟩
  obtain ⟨h4,rfl⟩:=(h _ _ _ _).1 Y;exact ⟨av',h4,h3⟩
 ·rintro ⟨av,V,Y⟩
  exact ⟨.c (.val undef),λ_=>⟨av,[],(h _ _ _ _).2 ⟨V,rfl⟩,Y⟩⟩
def jqI (d:Option Nat) (s:St) (K:St->Prop) (str:Bool) (a:AV):Prop:=∃av,(∃n,jmE s str a n/\av=.c (.v (.int .i64 (n:Int))))/\K (s.put d av)
theorem jpa (str:Bool) (x:X):kK P β ⟨d,g,.len str x⟩ s K=jqI d s K str (s.ev x):=jfX rfl λ_ _ av os=>by
 simp only [Gen];constructor
 ·rintro ⟨n,V,Y,h3⟩;exact ⟨⟨n,V,Y⟩,h3⟩
 ·rintro ⟨⟨n,V,Y⟩,h3⟩;exact ⟨n,V,Y,h3⟩
theorem jpY (str:Bool) (a:AV):jqI d s K str a=∃n,jmE s str a n/\K (s.put d (.c (.v (.int .i64 (n:Int))))):=by
 apply propext
 constructor
 ·rintro ⟨_,⟨n,V,rfl⟩,Y⟩;exact ⟨n,V,Y⟩
 ·rintro ⟨n,V,Y⟩;exact ⟨_,⟨n,V,rfl⟩,Y⟩
theorem jpX (dd:D):jqI d s K false (.c (.ro dd))=((dd.isSl=true/\0<dd.size)/\K (s.put d (.c (.v (.int .i64 dd.len))))):=by
 rw [jpY]
 apply propext
 constructor
 ·rintro ⟨_,⟨V,Y,rfl⟩,h3⟩;exact ⟨⟨V,Y⟩,h3⟩
 ·rintro ⟨⟨V,Y⟩,h3⟩;exact ⟨_,⟨V,Y,rfl⟩,h3⟩
theorem jnT (b:ByteArray):jqI d s K true (.c (.v (.string b)))=K (s.put d (.c (.v (.int .i64 b.size)))):=by
 rw [jpY];simp [jmE]
theorem jsb (k c:Nat) (p:List Nat) (x:Value):jqI d s K false (.c (.h k c p x))=∃dd,Is s (.h k c p x) dd/\0<dd.size/\K (s.put d (.c (.v (.int .i64 dd.len)))):=by
 rw [jpY]
 apply propext
 constructor
 ·rintro ⟨_,⟨dd,V,Y,rfl⟩,h3⟩;exact ⟨dd,V,Y,h3⟩
 ·rintro ⟨dd,V,Y,h3⟩;exact ⟨_,⟨dd,V,Y,rfl⟩,h3⟩
def joM (P:Program) (d:Option Nat) (s:St) (K:St->Prop) (op:BinOp) (ty:Nat) (x y:AV):Prop:=∃av,((∃a b v,x=.c (.v a)/\y=.c (.v b)/\jqF op a b v/\av=.c (.v v))\/
 (∃l m xs ys b,x=.agg l/\y=.agg m/\zi l=some xs/\zi m=some ys/\EqR P op ty xs ys b/\av=.c (.v (.bool b))))/\K (s.put d av)
theorem jpk (op:BinOp) (ty:Nat) (x y:X):kK P β ⟨d,g,.bin op ty x y⟩ s K=joM P d s K op ty (s.ev x) (s.ev y):=jfX rfl λ_ _ _ _=>Iff.rfl
theorem jiW (op:BinOp) (ty:Nat) (a b:Value):joM P d s K op ty (.c (.v a)) (.c (.v b))=∃v,jqF op a b v/\K (s.put d (.c (.v v))):=by
 apply propext
 constructor
 ·rintro ⟨_,(⟨_,_,v,V,Y,h3,rfl⟩|⟨_,_,_,_,_,V,_⟩),h4⟩
  ·cases V;cases Y;exact ⟨v,h3,h4⟩
  ·cases V
 ·rintro ⟨v,V,Y⟩;exact ⟨_,.inl ⟨_,_,v,rfl,rfl,V,rfl⟩,Y⟩
theorem jsG (op:BinOp) (ty:Nat) (k k':IntKind) (a b:Int):joM P d s K op ty (.c (.v (.int k a))) (.c (.v (.int k' b)))=(jnX op k k' b/\K (s.put d (.c (.v (jbk op k a b))))):=by
 rw [jiW]
 apply propext
 constructor
 ·rintro ⟨_,⟨V,rfl⟩,Y⟩;exact ⟨V,Y⟩
 ·rintro ⟨V,Y⟩;exact ⟨_,⟨V,rfl⟩,Y⟩
theorem jop (ty:Nat) (a b:ByteArray):joM P d s K .eql ty (.c (.v (.string a))) (.c (.v (.string b)))=K (s.put d (.c (.v (.bool (a.toList==b.toList))))):=by rw [jiW];simp [jqF]
theorem joo (ty:Nat) (a b:ByteArray):joM P d s K .neq ty (.c (.v (.string a))) (.c (.v (.string b)))=K (s.put d (.c (.v (.bool (!(a.toList==b.toList)))))):=by rw [jiW];simp [jqF]
theorem jmp (ty:Nat) (a b:ByteArray):joM P d s K .add ty (.c (.v (.string a))) (.c (.v (.string b)))=(a.size+b.size<=maxLen/\K (s.put d (.c (.v (.string (a++b)))))):=by rw [jiW];simp [jqF,and_assoc]
def beqK (d:Option Nat) (s:St) (K:St->Prop) (neg:Bool) (x y:AV):Prop:=∃av,(∃a b,x=.c (.v (.bool a))/\y=.c (.v (.bool b))/\av=.c (.v (.bool (if neg then !(a==b) else a==b))))/\K (s.put d av)
theorem jpl (neg:Bool) (x y:X):kK P β ⟨d,g,.beq neg x y⟩ s K=beqK d s K neg (s.ev x) (s.ev y):=jfX rfl λ_ _ av os=>by
 simp only [Gen];constructor
 ·rintro ⟨a,b,V,Y,h3,h4⟩;exact ⟨⟨a,b,V,Y,h3⟩,h4⟩
 ·rintro ⟨⟨a,b,V,Y,h3⟩,h4⟩;exact ⟨a,b,V,Y,h3,h4⟩
theorem beqK_ (neg a b:Bool):beqK d s K neg (.c (.v (.bool a))) (.c (.v (.bool b)))=K (s.put d (.c (.v (.bool (if neg then !(a==b) else a==b))))):=by
 apply propext
 constructor
 ·rintro ⟨_,⟨_,_,V,Y,rfl⟩,h⟩;cases V;cases Y;exact h
 ·intro h;exact ⟨_,⟨_,_,rfl,rfl,rfl⟩,h⟩
def unK (d:Option Nat) (s:St) (K:St->Prop) (op:UnOp) (x:AV):Prop:=∃av,(match op with
 |.not=>∃b,x=.c (.v (.bool b))/\av=.c (.v (.bool (!b)))
 |.neg=>∃k n,x=.c (.v (.int k n))/\av=.c (.v (.int k (k.wrap (0-n))))
 |_=>False)/\K (s.put d av)
theorem jre (op:UnOp) (x:X):kK P β ⟨d,g,.un op x⟩ s K=unK d s K op (s.ev x):=jfX rfl λ_ _ _ _=>Iff.rfl
theorem joX (b:Bool):unK d s K .not (.c (.v (.bool b)))=K (s.put d (.c (.v (.bool (!b))))):=by simp [unK]
def cvK (d:Option Nat) (s:St) (K:St->Prop) (c:Cv) (x:AV):Prop:=∃av,(match c with
 |.num k=>∃k' n,x=.c (.v (.int k' n))/\av=.c (.v (.int k (k.wrap n)))
 |.text=>∃(a:A0) (ty:Nat) (bs:List UInt8),x=.c a/\Is s a (.sl 1 ty (bs.map zU))/\av=.c (.v (.string ⟨bs.toArray⟩))
 |.bytes=>False)/\K (s.put d av)
theorem jrl (c:Cv) (e:Nat) (x:X):kK P β ⟨d,g,.cv c e x⟩ s K=cvK d s K c (s.ev x):=jfX rfl λ_ _ _ _=>Iff.rfl
theorem jqo (k k':IntKind) (n:Int):cvK d s K (.num k) (.c (.v (.int k' n)))=K (s.put d (.c (.v (.int k (k.wrap n))))):=by
 apply propext
 constructor
 ·rintro ⟨_,⟨_,_,V,rfl⟩,h⟩;cases V;exact h
 ·intro h;exact ⟨_,⟨_,_,rfl,rfl⟩,h⟩
def extK (d:Option Nat) (s:St) (K:St->Prop) (x:AV) (i:Nat):Prop:=∃av,(∃l b az,x=.tup l/\l[i]?=some (b,az)/\(if b then av=.agg az else∃a,az=[a]/\av=.c a))/\K (s.put d av)
theorem jpg (x:X) (i:Nat):kK P β ⟨d,g,.ext x i⟩ s K=extK d s K (s.ev x) i:=jfX rfl λ_ _ av os=>by
 simp only [Gen];constructor
 ·rintro ⟨l,b,az,V,Y,h3,h4⟩;exact ⟨⟨l,b,az,V,Y,h3⟩,h4⟩
 ·rintro ⟨⟨l,b,az,V,Y,h3⟩,h4⟩;exact ⟨l,b,az,V,Y,h3,h4⟩
def jsT (l:Option (Bool×List A0)) (k:AV->Prop):Prop:=match l with
 |some (true,az)=>k (.agg az)
 |some (false,[a])=>k (.c a)
 |_=>False
theorem extK_ (l:List (Bool×List A0)) (i:Nat):extK d s K (.tup l) i=jsT l[i]? λv=>K (s.put d v):=by
 apply propext
 unfold extK jsT;constructor
 ·rintro ⟨av,⟨l',b,az,V,Y,h3⟩,h4⟩
  cases V;rw [Y];cases b
  ·obtain ⟨a,rfl,rfl⟩:∃a,az=[a]/\av=.c a:=by simpa using h3
   exact h4
  ·obtain rfl:av=.agg az:=by simpa using h3
   exact h4
 ·split
  ·intro h;exact ⟨_,⟨_,_,_,rfl,by assumption,by simp⟩,h⟩
  ·intro h;exact ⟨_,⟨_,_,_,rfl,by assumption,by simp⟩,h⟩
  ·exact False.elim
theorem jsu (az:List A0) (k:AV->Prop):jsT (some (true,az)) k=k (.agg az):=(rfl)
theorem jsv (a:A0) (k:AV->Prop):jsT (some (false,[a])) k=k (.c a):=(rfl)
def jrb (d:Option Nat) (s:St) (K:St->Prop) (x i:AV):Prop:=∃av,(∃b k n u,x=.c (.v (.string b))/\i=.c (.v (.int k n))/\0<=n/\b[n.toNat]?=some u/\av=.c (.v (.int .u8 u.toNat)))/\K (s.put d av)
theorem jnd (x i:X):kK P β ⟨d,g,.sidx x i⟩ s K=jrb d s K (s.ev x) (s.ev i):=jfX rfl λ_ _ av os=>by
 simp only [Gen];constructor
 ·rintro ⟨b,k,n,u,V,Y,h3,h4,h5,h6⟩;exact ⟨⟨b,k,n,u,V,Y,h3,h4,h5⟩,h6⟩
 ·rintro ⟨⟨b,k,n,u,V,Y,h3,h4,h5⟩,h6⟩;exact ⟨b,k,n,u,V,Y,h3,h4,h5,h6⟩
theorem jra (b:ByteArray) (k:IntKind) (n:Int):jrb d s K (.c (.v (.string b))) (.c (.v (.int k n)))=(0<=n/\∃u,b[n.toNat]?=some u/\K (s.put d (.c (.v (.int .u8 u.toNat))))):=by
 apply propext
 constructor
 ·rintro ⟨_,⟨_,_,_,u,V,Y,h3,h4,rfl⟩,h5⟩;cases V;cases Y;exact ⟨h3,u,h4,h5⟩
 ·rintro ⟨h3,u,h4,h5⟩;exact ⟨_,⟨_,_,_,u,rfl,rfl,h3,h4,rfl⟩,h5⟩
theorem jg {f:Nat} {args:List X} {vs:List View} {rt:RT} (hp:jR P f vs rt) (ha:qs s (args.map s.ev) vs) (hk:∀η:Nat->jl,K ((s.addO (je0 (100*(β+d.getD 0)) η 0 rt.flat)).put d (rt.av (100*(β+d.getD 0)) η))):
 kK P β ⟨d,g,.call f args⟩ s K:=Or.inl ⟨rt,λst=>⟨_,_,⟨vs,ha,hp,rfl,rfl⟩,hk st.η⟩⟩
theorem jnc {f:Nat} {args:List X} {R:RT->(Nat->Ob)->Prop} (h:Turns P f (args.map s.ev) s.o R) (hk:∀rt o',R rt o'->∀η:Nat->jl,K (((⟨s.t,o'⟩:St).addO (je0 (100*(β+d.getD 0)) η 0 rt.flat)).put d (rt.av (100*(β+d.getD 0)) η))):
 kK P β ⟨d,g,.call f args⟩ s K:=Or.inr (Or.inl ⟨h.1,λB w F xs V Y=>(h.2 B w F xs V Y).mono λe w' ⟨v,rt,o',S,F',k1,k2,k3,k4,k5,k6⟩=>⟨v,rt,o',S,F',k1,k2,k3,k4,k5,hk _ _ k6⟩⟩)
theorem jfy {f:Nat} {args:List X} (h:Inl P f (args.map s.ev) s.o λav o'=>K (St.put ⟨s.t,o'⟩ d av)):kK P β ⟨d,g,.call f args⟩ s K:=Or.inr (Or.inr h)
theorem jk8 {f:Nat} {x:X} {caps:List A0} {args:List X} {vs:List View} {rt:RT} (h0:s.ev x=.fn f caps) (hp:jR P f vs rt) (ha:qs s (args.map s.ev++caps.map .c) vs) (hk:∀η:Nat->jl,K ((s.addO (je0 (100*(β+d.getD 0)) η 0 rt.flat)).put d (rt.av (100*(β+d.getD 0)) η))):
 kK P β ⟨d,g,.callv x args⟩ s K:=Or.inl ⟨rt,λst=>⟨_,_,⟨f,caps,vs,h0,ha,hp,rfl,rfl⟩,hk st.η⟩⟩
def jsF (β:Nat) (d:Option Nat) (s:St) (K:St->Prop) (ty n:Nat) (x:AV):Prop:=∃l,x.cells=some l/\l.length=n/\jY s l λcs s'=>∀b,K ((s'.addO [(100*(β+d.getD 0),.box b ty cs)]).put d (.c (.bp (100*(β+d.getD 0)) 0 b)))
theorem jpi (ty n:Nat) (x:X):kK P β ⟨d,g,.box ty n x⟩ s K=jsF β d s K ty n (s.ev x):=(rfl)
theorem jol (ty n:Nat) (l:List A0):jsF β d s K ty n (.agg l)=(l.length=n/\jY s l λcs s'=>∀b,K ((s'.addO [(100*(β+d.getD 0),.box b ty cs)]).put d (.c (.bp (100*(β+d.getD 0)) 0 b)))):=by simp [jsF,AV.cells]
theorem jsE (ty n:Nat) (a:A0):jsF β d s K ty n (.c a)=(a.c1=true/\1=n/\jY s [a] λcs s'=>∀b,K ((s'.addO [(100*(β+d.getD 0),.box b ty cs)]).put d (.c (.bp (100*(β+d.getD 0)) 0 b)))):=by
 unfold jsF AV.cells;by_cases h:a.c1=true<;>simp [h]
theorem jmU (K:List Cell->St->Prop):jY s [] K=K [] s:=(rfl)
theorem jqT (x:Value) (l:List A0) (K:List Cell->St->Prop):jY s (.v x::l) K=(x.oneCell'=true/\jY s l (λcs s'=>K (.a (.v x)::cs) s')):=(rfl)
theorem joZ (x:D) (l:List A0) (K:List Cell->St->Prop):jY s (.ro x::l) K=jY s l (λcs s'=>K (.a (.ro x)::cs) s'):=by simp [jY,A0.one]
theorem one_i (k:IntKind) (n:Int):(Value.int k n).oneCell'=true:=(rfl)
theorem one_b (b:Bool):(Value.bool b).oneCell'=true:=(rfl)
theorem one_s (b:ByteArray):(Value.string b).oneCell'=true:=(rfl)
theorem one_n (a:Option Addr) (n c:Nat):(Value.slice a n c).oneCell'=true:=(rfl)
theorem jqU (k c:Nat) (x:Value) (l:List A0) (K:List Cell->St->Prop):jY s (.h k c [] x::l) K=∃d η,(s.o k).own c=some (d,η)/\η []=x/\jY (s.rm k c) l (λcs s'=>K (.own d η::cs) s'):=by simp [jY]
end
section
variable {P:Program} {β:Nat} {s:St} {K:St->Prop} {d:Option Nat} {l:List (Nat×List Lk)}
theorem jpp:qi P β .done l s K=K s:=(rfl)
theorem jpn:qi P β .stop l s K=True:=(rfl)
theorem jpo (p:Nat) (i:I) (t:T):qi P β (.pure p ⟨d,none,i⟩ t) l s K=kK P β ⟨d,none,i⟩ s λs'=>qi P β t ((p,i.looks s)::l) s' K:=(rfl)
theorem jrm {n:Nat} (p:Nat) (i:I) (t:T) (h:s.t n=.c (.v (.bool true))):qi P β (.pure p ⟨d,some (n,true),i⟩ t) l s K=kK P β ⟨d,some (n,true),i⟩ s λs'=>qi P β t ((p,i.looks s)::l) s' K:=by simp [qi,kX,h]
theorem jrn {n:Nat} (p:Nat) (i:I) (t:T) (h:s.t n=.c (.v (.bool false))):qi P β (.pure p ⟨d,some (n,true),i⟩ t) l s K=qi P β t l (s.put d (.c (.v undef))) K:=by simp [qi,kX,h]
theorem jro {n:Nat} (p:Nat) (i:I) (t:T) (h:s.t n=.c (.v (.bool true))):qi P β (.pure p ⟨d,some (n,false),i⟩ t) l s K=qi P β t l (s.put d (.c (.v undef))) K:=by simp [qi,kX,h]
theorem jrp {n:Nat} (p:Nat) (i:I) (t:T) (h:s.t n=.c (.v (.bool false))):qi P β (.pure p ⟨d,some (n,false),i⟩ t) l s K=kK P β ⟨d,some (n,false),i⟩ s λs'=>qi P β t ((p,i.looks s)::l) s' K:=by simp [qi,kX,h]
theorem jrq (i:I) (chk:List Nat) (t r:T):qi P β (.alt ⟨d,none,i⟩ chk t r) l s K=(kK P β ⟨d,none,i⟩ s (λs'=>jfQ s s' chk l/\qi P β t l s' K)/\qi P β r l s K):=(rfl)
theorem jrD {n:Nat} (i:I) (chk:List Nat) (t r:T) (h:s.t n=.c (.v (.bool true))):qi P β (.alt ⟨d,some (n,true),i⟩ chk t r) l s K=(kK P β ⟨d,some (n,true),i⟩ s (λs'=>jfQ s s' chk l/\qi P β t l s' K)/\qi P β r l s K):=by simp [qi,kX,h]
theorem jrE {n:Nat} (i:I) (chk:List Nat) (t r:T) (h:s.t n=.c (.v (.bool false))):qi P β (.alt ⟨d,some (n,true),i⟩ chk t r) l s K=(qi P β t l (s.put d (.c (.v undef))) K/\qi P β r l s K):=by simp [qi,kX,h]
theorem jrF {n:Nat} (i:I) (chk:List Nat) (t r:T) (h:s.t n=.c (.v (.bool true))):qi P β (.alt ⟨d,some (n,false),i⟩ chk t r) l s K=(qi P β t l (s.put d (.c (.v undef))) K/\qi P β r l s K):=by simp [qi,kX,h]
theorem jrG {n:Nat} (i:I) (chk:List Nat) (t r:T) (h:s.t n=.c (.v (.bool false))):qi P β (.alt ⟨d,some (n,false),i⟩ chk t r) l s K=(kK P β ⟨d,some (n,false),i⟩ s (λs'=>jfQ s s' chk l/\qi P β t l s' K)/\qi P β r l s K):=by simp [qi,kX,h]
theorem joT (t:T) (Q:Ex->St->Prop):wpC P β (.dreg t) Q s=qi P β t [] s (Q .normal):=(rfl)
theorem jlS (s':St) (chk:List Nat):jfQ s s' chk []=True:=(rfl)
theorem jjU (s':St) (chk:List Nat) (p:Nat) (ids:List Lk) (l:List (Nat×List Lk)):jfQ s s' chk ((p,ids)::l)=((if chk.contains p then jh2 s s' ids else True)/\jfQ s s' chk l):=(rfl)
theorem jlT (s':St):jh2 s s' []=True:=(rfl)
theorem jjV (s':St) (k:Lk) (l:List Lk):jh2 s s' (k::l)=(jiD s s' k/\jh2 s s' l):=(rfl)
theorem jp0 (s':St) (g:Nat):jiD s s' (.ob g)=(s'.o g=s.o g):=(rfl)
theorem jp1 (s':St) (g c n:Nat):jiD s s' (.cs g c n)=jk5 g c n (s'.o g) (s.o g):=(rfl)
theorem jo7 (g c n:Nat) (ob:Ob):jk5 g c n ob ob=True:=eq_true (jd1 g c n ob)
end
section
variable {α:Type} {enc:α->List D} {size:Nat}
theorem qM (hl:∀x,(enc x).length=size) (hs:0<size) (ty:TypeId) (xs:List α):D.len (.sl size ty (xs.flatMap enc))=xs.length:=by
 simp only [D.len,D.cells,D.size];rw [jF hl,aBP _ hs]
theorem qc (hl:∀x,(enc x).length=size) {ty:TypeId} {xs:List α} {k:Nat} {x:α} (hx:xs[k]?=some x):D.elem (.sl size ty (xs.flatMap enc)) k=enc x:=by
 have hk:k<xs.length:=(aAR.1 hx).1;have cL:xs[k]=x:=by rw [aAT hk] at hx;exact aCV hx
 simp only [D.elem,D.cells,D.size];have e:xs=xs.take k++(x::xs.drop (k+1)):=by rw [<-cL];simp
 have e2:xs.flatMap enc=(xs.take k).flatMap enc++(enc x++(xs.drop (k+1)).flatMap enc):=by
  conv=>lhs;rw [e]
  simp
 have e3:((xs.take k).flatMap enc).length=k*size:=by rw [jF hl,aBA,aCW (by omega)]
 rw [e2,<-e3,List.drop_left,<-hl x,List.take_left]
end
theorem jjQ (l:List Rn):(jC l).len=l.length:=qM (enc:=jc) (λ_=>rfl) (by decide) _ _
theorem qp {l:List Rn} {k:Nat} {x:Rn} (h:l[k]?=some x):(jC l).elem k=jc x:=qc (enc:=jc) (λ_=>rfl) h
theorem jlO (l:List (List En)):(jX l).len=l.length:=qM (enc:=λes=>[jo es]) (λ_=>rfl) (by decide) _ _
theorem qo {l:List (List En)} {k:Nat} {x:List En} (h:l[k]?=some x):(jX l).elem k=[jo x]:=qc (enc:=λes=>[jo es]) (λ_=>rfl) h
theorem jjS (l:List En):(jo l).len=l.length:=qM (enc:=jk) (λ_=>rfl) (by decide) _ _
theorem jA {l:List En} {k:Nat} {x:En} (h:l[k]?=some x):(jo l).elem k=jk x:=qc (enc:=jk) (λ_=>rfl) h
theorem jjP (l:List Tk):(ke l).len=l.length:=qM (enc:=ji) (λ_=>rfl) (by decide) _ _
theorem jE {l:List Tk} {k:Nat} {x:Tk} (h:l[k]?=some x):(ke l).elem k=ji x:=qc (enc:=ji) (λ_=>rfl) h
theorem jkQ (l:List Rn):(jC l).isSl=true:=(rfl)
theorem jm5 (l:List (List En)):(jX l).isSl=true:=(rfl)
theorem jkS (l:List En):(jo l).isSl=true:=(rfl)
theorem jkP (l:List Tk):(ke l).isSl=true:=(rfl)
theorem jkA (l:List Rn):(jC l).size=8:=(rfl)
theorem jmX (l:List (List En)):(jX l).size=1:=(rfl)
theorem jkC (l:List En):(jo l).size=4:=(rfl)
theorem jkz (l:List Tk):(ke l).size=4:=(rfl)
theorem jle (l:List Rn):(jC l).toRo=.ro (jC l):=(rfl)
theorem jnj (l:List (List En)):(jX l).toRo=.ro (jX l):=(rfl)
theorem jlg (l:List En):(jo l).toRo=.ro (jo l):=(rfl)
theorem jld (l:List Tk):(ke l).toRo=.ro (ke l):=(rfl)
theorem jlh (l:List Ed):(jL l).toRo=.ro (jL l):=(rfl)
theorem jrs (v:Value):(D.val v).toRo=.v v:=(rfl)
theorem jse (vs:List View) (n:Nat):(St.init vs).t n=((vs.map View.av)[n]?).getD .unk:=(rfl)
