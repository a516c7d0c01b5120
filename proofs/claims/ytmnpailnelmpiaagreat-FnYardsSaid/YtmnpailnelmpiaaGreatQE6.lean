/- Parts. -/
import Derived.Test.YtmnpailnelmpiaaGreatQData
import Derived.Test.YtmnpailnelmpiaaGreatQE4h
import Derived.Test.YtmnpailnelmpiaaGreatProg
set_option linter.unusedSimpArgs false
set_option linter.unusedVariables false
set_option maxHeartbeats 2000000
set_option maxRecDepth 100000
namespace Go.Proofs.YtmnpailnelmpiaaGreat
open Go.RowKit Go.Sort
section
variable {P:Program} {β:Nat} {s:St} {d:Option Nat} {g:Option (Nat×Bool)} {K:St→Prop} {Q:Ex→St→Prop}
def jik (o:Option (D×jq)) (k:D→jq→Prop):Prop:=match o with
 |some (d,η)=>k d η
 |none=>False
def jqb (o:Option D) (k:D→Prop):Prop:=match o with
 |some d=>k d
 |none=>False
theorem ownK_ (d:D) (η:jq) (k:D→jq→Prop):jik (some (d,η)) k=k d η:=(rfl)
theorem getK_ (d:D) (k:D→Prop):jqb (some d) k=k d:=(rfl)
theorem jdI (o:Option (D×jq)) (k:D→jq→Prop):(∃d η,o=some (d,η)∧k d η)=jik o k:=by
 cases o with
 |none=>simp [jik]
 |some p=>
  obtain ⟨d,η⟩:=p
  apply propext
  constructor
  ·rintro ⟨_,_,h,h2⟩;cases h;exact h2
  ·intro h;exact ⟨d,η,rfl,h⟩
theorem jcy (d:D):D.get [] d=some d:=by cases d<;>rfl
theorem jys (k c:Nat) (p:List Nat) (x:Value) (R:D→Prop):(∃d,Is s (.h k c p x) d∧R d)=jik ((s.o k).own c) fun d0 η=>η p=x∧jqb (D.get p d0) fun d=>d.isSl=true∧R d:=by
 apply propext
 rw [←jdI];constructor
 ·rintro ⟨d,⟨d0,η,h1,h2,h3,h4⟩,h5⟩;exact ⟨d0,η,h1,h2,by rw [h3];exact ⟨h4,h5⟩⟩
 ·rintro ⟨d0,η,h1,h2,h3⟩
  cases h:D.get p d0 with
  |none=>rw [h] at h3;exact h3.elim
  |some d=>rw [h] at h3;exact ⟨d,⟨d0,η,h1,h2,h,h3.1⟩,h3.2⟩
theorem jtq (d:D) (η:jq):(Ob.loose d η).own 0=some (d,η):=(rfl)
def ownC:Option Cell→Option (D×jq)
 |some (.own d η)=>some (d,η)
 |_=>none
theorem jx9 (b ty:Nat) (cs:List Cell) (c:Nat):(Ob.box b ty cs).own c=ownC cs[c]?:=by
 simp only [Ob.own,ownC];split<;>simp_all
theorem ownC_ (d:D) (η:jq):ownC (some (.own d η))=some (d,η):=(rfl)
theorem rm_o (k c n:Nat):(s.rm k c).o n=if n=k then (s.o k).rm c else s.o n:=(rfl)
theorem rm_t (k c n:Nat):(s.rm k c).t n=s.t n:=(rfl)
theorem jrq (d:D) (η:jq):(Ob.loose d η).rm 0=.none:=(rfl)
theorem jvH (b ty:Nat) (cs:List Cell) (c:Nat):(Ob.box b ty cs).rm c=.box b ty (rmC cs c cs[c]?):=(rfl)
theorem jx0 (cs:List Cell) (c:Nat) (d:D) (η:jq):rmC cs c (some (.own d η))=cs.set c (.a (.v (η []))):=(rfl)
theorem jvR (k c:Nat) (p:List Nat) (x:Value):jw0 d s K false (.c (.h k c p x))=jik ((s.o k).own c) fun d0 η=>η p=x∧jqb (D.get p d0) fun dd=>dd.isSl=true∧0<dd.size∧K (s.put d (.c (.v (.int .i64 dd.len)))):=by
 rw [jAv,jys]
theorem jyC (size k c:Nat) (p:List Nat) (hx:Value) (kk:IntKind) (n:Int):iaK d s K size (.c (.h k c p hx)) (.c (.v (.int kk n)))=((0≤n∧jik ((s.o k).own c) fun d0 η=>η p=hx∧jqb (D.get p d0) fun dd=>dd.isSl=true∧dd.size=size∧n.toNat<dd.len)∧K (s.put d (.c (.ep k c p (n.toNat*size) hx)))):=by
 rw [iaK_h,jys]
theorem jyn (agg:Bool) (n k c:Nat) (p:List Nat) (i:Nat) (x:Value):ldK d s K agg n (.c (.ep k c p i x))=jik ((s.o k).own c) fun d0 η=>η p=x∧jqb (D.get p d0) fun dd=>dd.isSl=true∧i+n≤dd.cells.length∧ldV agg (jgo k c p η i ((dd.cells.drop i).take n)) fun v=>K (s.put d v):=by
 apply propext
 rw [←jdI];simp only [ldK];constructor
 ·rintro ⟨d0,η,dd,h1,h2,h3,h4⟩;exact ⟨d0,η,h1,h2,by rw [h3];exact h4⟩
 ·rintro ⟨d0,η,h1,h2,h3⟩
  cases h:D.get p d0 with
  |none=>rw [h] at h3;exact h3.elim
  |some dd=>rw [h] at h3;exact ⟨d0,η,dd,h1,h2,h,h3⟩
theorem ju5 (k c:Nat) (x:Value) (l:List A0) (R:List Cell→St→Prop):qA s (.h k c [] x::l) R=jik ((s.o k).own c) fun d η=>η []=x∧qA (s.rm k c) l (fun cs s'=>R (.own d η::cs) s'):=by
 rw [jzg,jdI]
def jbN (a:AV) (n:Nat) (k:List A0→Prop):Prop:=∃l,a.cells=some l∧l.length=n∧k l
theorem juw (l:List A0) (n:Nat) (k:List A0→Prop):jbN (.agg l) n k=(l.length=n∧k l):=by simp [jbN,AV.cells]
theorem jyX (a:A0) (n:Nat) (k:List A0→Prop):jbN (.c a) n k=(a.c1=true∧1=n∧k [a]):=by
 simp only [jbN,AV.cells];cases h:a.c1<;>simp
def jxd (s:St):List (Nat×Nat×X)→(List A0→Prop)→Prop
 |[],k=>k []
 |(_,size,x)::ps,k=>jbN (s.ev x) size fun l=>jxd s ps fun r=>k (l++r)
theorem juy:∀(ps:List (Nat×Nat×X)) (k:List A0→Prop),(∃l,jr3 s ps=some l∧k l)=jxd s ps k
 |[],k=>by simp [jr3,jxd]
 |(o,size,x)::ps,k=>by
  apply propext
  simp only [jxd,jbN,jr3];constructor
  ·rintro ⟨l,h1,h2⟩
   split at h1
   ·rename_i l1 r h3 h4
    split at h1
    ·rename_i h5
     simp at h1;subst h1;refine ⟨l1,h3,h5,?_⟩;rw [←juy ps];exact ⟨r,h4,h2⟩
    ·simp at h1
   ·simp at h1
  ·rintro ⟨l1,h3,h5,h6⟩
   rw [←juy ps] at h6;obtain ⟨r,h7,h8⟩:=h6;exact ⟨l1++r,by rw [h3,h7];simp [h5],h8⟩
theorem jyY (k:List A0→Prop):jxd s [] k=k []:=(rfl)
theorem jws (o size:Nat) (x:X) (ps:List (Nat×Nat×X)) (k:List A0→Prop):jxd s ((o,size,x)::ps) k=jbN (s.ev x) size fun l=>jxd s ps fun r=>k (l++r):=(rfl)
def jnF (s:St):List A0→List (Nat×Nat×X)→(List A0→Prop)→Prop
 |cs,[],k=>k cs
 |cs,(off,size,x)::ps,k=>jbN (s.ev x) size fun l=>off+size≤cs.length∧jnF s (kC cs off l) ps k
theorem jo6:∀(ps:List (Nat×Nat×X)) (cs:List A0) (k:List A0→Prop),(∃l,jhA s cs ps=some l∧k l)=jnF s cs ps k
 |[],cs,k=>by simp [jhA,jnF]
 |(o,size,x)::ps,cs,k=>by
  apply propext
  simp only [jnF,jbN,jhA];constructor
  ·rintro ⟨l,h1,h2⟩
   split at h1
   ·rename_i l1 h3
    split at h1
    ·rename_i h5
     exact ⟨l1,h3,h5.1,h5.2,by rw [←jo6 ps];exact ⟨l,h1,h2⟩⟩
    ·simp at h1
   ·simp at h1
  ·rintro ⟨l1,h3,h5,h6,h7⟩
   rw [←jo6 ps] at h7;obtain ⟨r,h8,h9⟩:=h7;exact ⟨r,by rw [h3];simp [h5,h6,h8],h9⟩
theorem jwb (cs:List A0) (k:List A0→Prop):jnF s cs [] k=k cs:=(rfl)
theorem jt7 (cs:List A0) (off size:Nat) (x:X) (ps:List (Nat×Nat×X)) (k:List A0→Prop):jnF s cs ((off,size,x)::ps) k=jbN (s.ev x) size fun l=>off+size≤cs.length∧jnF s (kC cs off l) ps k:=(rfl)
theorem jxS (zs:List Value) (ps:List (Nat×Nat×X)):vg P β ⟨d,g,.bld zs ps⟩ s K=jnF s (zs.map .v) ps fun l=>K (s.put d (.agg l)):=by
 have e:=jl5 (P:=P) (β:=β) (s:=s) (d:=d) (g:=g) (K:=K) (i:=.bld zs ps) (G:=fun av=>∃l,jhA s (zs.map .v) ps=some l∧av=.agg l) rfl (by
  intro _ _ av os;simp only [Gen];constructor
  ·rintro ⟨l,h1,h2,h3⟩;exact ⟨⟨l,h1,h2⟩,h3⟩
  ·rintro ⟨⟨l,h1,h2⟩,h3⟩;exact ⟨l,h1,h2,h3⟩)
 rw [e,←jo6]
 apply propext
 constructor
 ·rintro ⟨_,⟨l,h1,rfl⟩,h2⟩;exact ⟨l,h1,h2⟩
 ·rintro ⟨l,h1,h2⟩;exact ⟨_,⟨l,h1,rfl⟩,h2⟩
def jsd (ks:List (Option (Nat×Nat))) (cs:List Cell) (k:List D→Prop):Prop:=∃ds,zO ks cs=some ds∧k ds
theorem jyS (ks:List (Option (Nat×Nat))) (k:List D→Prop):jsd ks [] k=k []:=by simp [jsd,zO]
theorem dat_v (ks:List (Option (Nat×Nat))) (x:Value) (l:List Cell) (k:List D→Prop):jsd ks (.a (.v x)::l) k=jsd ks.tail l fun r=>k (jpV (ks.head?.getD none) x::r):=by
 simp only [jsd,zO];cases zO ks.tail l<;>simp
theorem jyR (ks:List (Option (Nat×Nat))) (dd:D) (η:jq) (l:List Cell) (k:List D→Prop):jsd ks (.own dd η::l) k=jsd ks.tail l fun r=>k (dd::r):=by
 simp only [jsd,zO];cases zO ks.tail l<;>simp
theorem jAq (x:Value):jpV none x=.val x:=(rfl)
theorem jxQ (e size n:Nat) (ks:List (Option (Nat×Nat))) (ps:List (Nat×Nat×X)):vg P β ⟨d,g,.bsl e size n ks ps⟩ s K=jxd s ps fun l=>qA s l fun cs s'=>jsd ks cs fun ds=>∀η,K ((s'.addO [(100*(β+d.getD 0),.loose (.sl size e ds) η)]).put d (.c (.h (100*(β+d.getD 0)) 0 [] (η [])))):=by
 rw [←juy];rfl
theorem jsX (ty:Nat) (zs:List Value):vg P β ⟨d,g,.alloc ty zs⟩ s K=∀b,K ((s.addO [(100*(β+d.getD 0),.box b ty (zs.map fun z=>.a (.v z)))]).put d (.c (.bp (100*(β+d.getD 0)) 0 b))):=by
 apply propext
 constructor
 ·rintro ⟨_,h⟩ b
  obtain ⟨_,_,⟨rfl,rfl⟩,h2⟩:=h ⟨b,fun _ _=>undef⟩
  exact h2
 ·intro h
  exact ⟨.c (.val undef),fun st=>⟨_,_,⟨rfl,rfl⟩,h st.blk⟩⟩
def obK (o:Ob) (b:Nat) (k:Nat→List Cell→Prop):Prop:=match o with
 |.box b' ty ds=>b'=b∧k ty ds
 |_=>False
theorem obK_ (b b' ty:Nat) (ds:List Cell) (k:Nat→List Cell→Prop):obK (.box b' ty ds) b k=(b'=b∧k ty ds):=(rfl)
theorem jAo (o:Ob) (b:Nat) (k:Nat→List Cell→Prop):(∃ty ds,o=.box b ty ds∧k ty ds)=obK o b k:=by
 cases o with
 |box b' ty ds=>
  simp only [obK]
  apply propext
  constructor
  ·rintro ⟨_,_,h,h2⟩;cases h;exact ⟨by trivial,h2⟩
  ·rintro ⟨rfl,h2⟩;exact ⟨_,_,rfl,h2⟩
 |_=>simp [obK]
def stA (s':St) (K:St→Prop) (n:Nat) (ks:List (Option (Nat×Nat))) (cs:List Cell):AV→Prop
 |.c (.bp g c b)=>obK (s'.o g) b fun ty ds=>c+n≤ds.length∧K (s'.setO g (.box b ty (kC ds c cs)))
 |.c (.ep g c p k hx)=>0<n∧jsd ks cs fun ds=>jik ((s'.o g).own c) fun d0 η=>η p=hx∧jqb (D.get p d0) fun dd=>dd.isSl=true∧k+n≤dd.cells.length∧
  stH (ka ds&&ka ((dd.cells.drop k).take n)) p k n η fun η'=>K (s'.setO g ((s'.o g).putOwn c (D.put p k ds d0) η'))
 |_=>False
theorem jzl (s':St) (n k c b:Nat) (ks:List (Option (Nat×Nat))) (cs:List Cell):stA s' K n ks cs (.c (.bp k c b))=obK (s'.o k) b fun ty ds=>c+n≤ds.length∧K (s'.setO k (.box b ty (kC ds c cs))):=(rfl)
theorem jzk (s':St) (n k c i:Nat) (p:List Nat) (hx:Value) (ks:List (Option (Nat×Nat))) (cs:List Cell):stA s' K n ks cs (.c (.ep k c p i hx))=(0<n∧jsd ks cs fun ds=>jik ((s'.o k).own c) fun d0 η=>η p=hx∧jqb (D.get p d0) fun dd=>dd.isSl=true∧i+n≤dd.cells.length∧
 stH (ka ds&&ka ((dd.cells.drop i).take n)) p i n η fun η'=>K (s'.setO k ((s'.o k).putOwn c (D.put p i ds d0) η'))):=rfl
theorem jzG (n:Nat) (ks:List (Option (Nat×Nat))) (a x:X):vg P β ⟨none,g,.st n ks a x⟩ s K=jbN (s.ev x) n fun l=>qA s l fun cs s'=>stA s' K n ks cs (s.ev a):=by
 have e:vg P β ⟨none,g,.st n ks a x⟩ s K=((none:Option Nat)=none∧∃l,(s.ev x).cells=some l∧l.length=n∧qA s l fun cs s'=>match s.ev a with
  |.c (.bp g c b)=>∃ty ds,s'.o g=.box b ty ds∧c+n≤ds.length∧K (s'.setO g (.box b ty (kC ds c cs)))
  |.c (.ep g c p k hx)=>0<n∧∃ds,zO ks cs=some ds∧∃d0 η dd,(s'.o g).own c=some (d0,η)∧η p=hx∧D.get p d0=some dd∧dd.isSl=true∧k+n≤dd.cells.length∧
   stH (ka ds&&ka ((dd.cells.drop k).take n)) p k n η fun η'=>K (s'.setO g ((s'.o g).putOwn c (D.put p k ds d0) η'))
  |_=>False):=rfl
 rw [e];simp only [true_and,jbN]
 congr 1
 funext l
 congr 2
 congr 1
 funext cs s'
 cases hv:s.ev a with
 |c y=>
  cases y with
  |bp g c b=>simp only [stA,←jAo]
  |ep g c p k hx=>
   simp only [stA,jsd]
   apply propext
   constructor
   ·rintro ⟨h0,ds,h1,d0,η,dd,h2,h3,h4,h5,h6,h7⟩
    exact ⟨h0,ds,h1,by rw [←jdI];exact ⟨d0,η,h2,h3,by rw [h4];exact ⟨h5,h6,h7⟩⟩⟩
   ·rintro ⟨h0,ds,h1,h2⟩
    rw [←jdI] at h2;obtain ⟨d0,η,h3,h4,h5⟩:=h2;cases hg:D.get p d0 with
    |none=>rw [hg] at h5;exact h5.elim
    |some dd=>rw [hg] at h5;exact ⟨h0,ds,h1,d0,η,dd,h3,h4,hg,h5⟩
  |_=>simp [stA]
 |_=>simp [stA]
theorem jm1 (d0 d1:D) (η η':jq):(Ob.loose d0 η).putOwn 0 d1 η'=.loose d1 η':=(rfl)
theorem jri (b ty:Nat) (cs:List Cell) (c:Nat) (d1:D) (η':jq):(Ob.box b ty cs).putOwn c d1 η'=.box b ty (cs.set c (.own d1 η')):=(rfl)
theorem jsO {α:Type} (l:List α) (c:Nat):kC l c []=l:=(rfl)
theorem jq5 {α:Type} (l:List α) (c:Nat) (x:α) (r:List α):kC l c (x::r)=kC (l.set c x) (c+1) r:=(rfl)
theorem jxU (e size bytes:Nat) (x y:X):vg P β ⟨d,g,.app e size bytes x y⟩ s K=juV s size (s.ev y) fun ys s1=>jh7 s1 e size (s.ev x) fun xs s2=>xs.length/size+ys.length/size≤maxLen∧(xs.length/size+ys.length/size)*bytes≤140737488355328∧
 ∀η,K ((s2.addO [(100*(β+d.getD 0),.loose (.sl size e (xs++ys)) η)]).put d (.c (.h (100*(β+d.getD 0)) 0 [] (η [])))):=rfl
theorem jzm (size:Nat) (dd:D) (R:List D→St→Prop):juV s size (.c (.ro dd)) R=(dd.isSl=true∧dd.size=size∧ka dd.cells=true∧R dd.cells s):=(rfl)
theorem src_h (size k c:Nat) (p:List Nat) (x:Value) (R:List D→St→Prop):juV s size (.c (.h k c p x)) R=jik ((s.o k).own c) fun d0 η=>η p=x∧jqb (D.get p d0) fun dd=>dd.isSl=true∧dd.size=size∧(if ka dd.cells=true then R dd.cells s else p=[]∧jiZ dd.cells=true∧R dd.cells (s.rm k c)):=by
 rw [←jys];rfl
theorem jwj (e size:Nat) (R:List D→St→Prop):jh7 s e size (.c (.v (.slice none 0 0))) R=R [] s:=(rfl)
def slK (dd:D) (e size:Nat) (k:List D→Prop):Prop:=∃cs,dd=.sl size e cs∧k cs
theorem jvg (e size e' size':Nat) (cs:List D) (k:List D→Prop):slK (.sl size' e' cs) e size k=((size'=size∧e'=e)∧k cs):=by
 simp only [slK]
 apply propext
 constructor
 ·rintro ⟨_,h,h2⟩;cases h;exact ⟨⟨by trivial,by trivial⟩,h2⟩
 ·rintro ⟨⟨rfl,rfl⟩,h⟩;exact ⟨_,rfl,h⟩
theorem jAZ (e size k c:Nat) (x:Value) (R:List D→St→Prop):jh7 s e size (.c (.h k c [] x)) R=jik ((s.o k).own c) fun d0 η=>slK d0 e size fun cs=>η []=x∧R cs (s.rm k c):=by
 apply propext
 rw [←jdI];simp only [jh7,slK];constructor
 ·rintro (⟨_,cs,η,h1,h2,h3⟩|⟨_,h,_⟩)
  ·exact ⟨_,η,h1,cs,rfl,h2,h3⟩
  ·cases h
 ·rintro ⟨_,η,h1,cs,rfl,h2,h3⟩;exact .inl ⟨trivial,cs,η,h1,h2,h3⟩
theorem jt3:ka []=true:=(rfl)
theorem jrS (u:Value) (l:List D):ka (.val u::l)=(u.oneCell'&&ka l):=(rfl)
theorem vB:∀(l m:List D),ka (l++m)=(ka l&&ka m)
 |[],_=>by simp [ka]
 |.val u::l,m=>by simp [ka,vB l m,Bool.and_assoc]
 |.sl _ _ _::l,m=>by simp [ka]
theorem jsV {e size bytes:Nat} {zs:List D} {l c:X}:vg P β ⟨d,g,.mks e size bytes zs l c⟩ s K=∃(k k':IntKind) (n:Nat),s.ev l=.c (.v (.int k (n:Int)))∧s.ev c=.c (.v (.int k' (n:Int)))∧bytes*n≤281474976710656∧n≤maxLen∧
 ∀η,K ((s.addO [(100*(β+d.getD 0),.loose (.sl size e ((List.replicate n zs).flatten)) η)]).put d (.c (.h (100*(β+d.getD 0)) 0 [] (η [])))):=by
 apply propext
 constructor
 ·rintro ⟨_,h⟩
  obtain ⟨_,_,⟨k,k',n,h1,h2,h3,h4,rfl,rfl⟩,_⟩:=h ⟨0,fun _ _=>undef⟩
  refine ⟨k,k',n,h1,h2,h3,h4,fun η=>?_⟩
  obtain ⟨_,_,⟨k1,k1',n1,h1',h2',_,_,rfl,rfl⟩,h6⟩:=h ⟨0,fun _=>η⟩
  rw [h1] at h1';cases h1';exact h6
 ·rintro ⟨k,k',n,h1,h2,h3,h4,h5⟩
  exact ⟨.c (.val undef),fun st=>⟨_,_,⟨k,k',n,h1,h2,h3,h4,rfl,rfl⟩,h5 (st.η 0)⟩⟩
def bnd (s:St) (x:Option X) (dflt:Nat) (k:Nat→Prop):Prop:=match x with
 |none=>k dflt
 |some x=>∃kk n,s.ev x=.c (.v (.int kk n))∧0≤n∧k n.toNat
def bndA (a:AV) (k:Nat→Prop):Prop:=match a with
 |.c (.v (.int _ n))=>0≤n∧k n.toNat
 |_=>False
theorem bndA_ (kk:IntKind) (n:Int) (k:Nat→Prop):bndA (.c (.v (.int kk n))) k=(0≤n∧k n.toNat):=(rfl)
theorem bnd_n (dflt:Nat) (k:Nat→Prop):bnd s none dflt k=k dflt:=(rfl)
theorem bnd_s (x:X) (dflt:Nat) (k:Nat→Prop):bnd s (some x) dflt k=bndA (s.ev x) k:=by
 simp only [bnd]
 apply propext
 constructor
 ·rintro ⟨kk,n,h1,h2⟩;rw [h1];exact h2
 ·intro h
  unfold bndA at h;split at h
  ·rename_i kk n he;exact ⟨kk,n,he,h⟩
  ·exact h.elim
theorem jjF (x:Option X) (dflt:Nat) (R:Nat→Prop):(∃l,jf3 s x dflt l∧R l)=bnd s x dflt R:=by
 apply propext
 cases x with
 |none=>constructor
        ·rintro ⟨l,rfl,h⟩;exact h
        ·intro h;exact ⟨_,rfl,h⟩
 |some x=>
  constructor
  ·rintro ⟨l,⟨k,h1⟩,h2⟩;exact ⟨k,l,h1,Int.natCast_nonneg _,by simpa using h2⟩
  ·rintro ⟨k,n,h1,h2,h3⟩;exact ⟨n.toNat,⟨k,by rw [h1,Int.toNat_of_nonneg h2]⟩,h3⟩
def slA (d:Option Nat) (s:St) (K:St→Prop) (size:Nat) (lo hi:Option X):AV→Prop
 |.c (.v (.string b))=>size=0∧bnd s lo 0 fun l=>bnd s hi b.size fun h=>(l≤h∧h≤b.size)∧K (s.put d (.c (.v (.string (b.extract l h)))))
 |.c (.ro dd)=>(0<size∧dd.isSl=true∧dd.size=size)∧bnd s lo 0 fun l=>bnd s hi dd.len fun h=>(l≤h∧h≤dd.len)∧K (s.put d (.c (.ro (dd.sub l h))))
 |.c (.h k c p x)=>0<size∧jik ((s.o k).own c) fun d0 η=>η p=x∧jqb (D.get p d0) fun dd=>(dd.isSl=true∧dd.size=size)∧bnd s lo 0 fun l=>bnd s hi dd.len fun h=>(l≤h∧h≤dd.len)∧K (s.put d (.c (.hs k c p x size l (h-l))))
 |.c (.hs k c p x sz lo0 m)=>((∃dd,Is s (.hs k c p x sz lo0 m) dd)∧sz=size)∧bnd s lo 0 fun l=>bnd s hi m fun h=>(l≤h∧h≤m)∧K (s.put d (.c (.hs k c p x size (lo0+l) (h-l))))
 |_=>False
theorem jzH (size:Nat) (x:X) (lo hi:Option X):vg P β ⟨d,g,.sl size x lo hi⟩ s K=slA d s K size lo hi (s.ev x):=by
 have e:=jl5 (P:=P) (β:=β) (s:=s) (d:=d) (g:=g) (K:=K) (i:=.sl size x lo hi) (G:=fun av=>∃l h,jf3 s lo 0 l∧l≤h∧(match s.ev x with
  |.c (.v (.string b))=>size=0∧jf3 s hi b.size h∧h≤b.size∧av=.c (.v (.string (b.extract l h)))
  |.c (.ro d)=>0<size∧d.isSl=true∧d.size=size∧jf3 s hi d.len h∧h≤d.len∧av=.c (.ro (d.sub l h))
  |.c (.h g c p hx)=>0<size∧(∃d,Is s (.h g c p hx) d∧d.size=size∧jf3 s hi d.len h∧h≤d.len)∧av=.c (.hs g c p hx size l (h-l))
  |.c (.hs g c p hx sz lo m)=>(∃d,Is s (.hs g c p hx sz lo m) d)∧sz=size∧jf3 s hi m h∧h≤m∧av=.c (.hs g c p hx size (lo+l) (h-l))
  |_=>False)) rfl (by
  intro _ _ av os;simp only [Gen];constructor
  ·rintro ⟨l,h,h1,h2,h3,h4⟩;exact ⟨⟨l,h,h1,h2,h3⟩,h4⟩
  ·rintro ⟨⟨l,h,h1,h2,h3⟩,h4⟩;exact ⟨l,h,h1,h2,h3,h4⟩)
 rw [e]
 apply propext
 cases hv:s.ev x with
 |c y=>
  cases y with
  |v u=>
   cases u with
   |string b=>
    simp only [slA,←jjF];constructor
    ·rintro ⟨_,⟨l,h,h1,h2,h3,h4,h5,rfl⟩,h6⟩;exact ⟨h3,l,h1,h,h4,⟨h2,h5⟩,h6⟩
    ·rintro ⟨h3,l,h1,h,h4,⟨h2,h5⟩,h6⟩;exact ⟨_,⟨l,h,h1,h2,h3,h4,h5,rfl⟩,h6⟩
   |_=>simp [slA]
  |ro dd=>
   simp only [slA,←jjF];constructor
   ·rintro ⟨_,⟨l,h,h1,h2,h3,h4,h5,h6,h7,rfl⟩,h8⟩;exact ⟨⟨h3,h4,h5⟩,l,h1,h,h6,⟨h2,h7⟩,h8⟩
   ·rintro ⟨⟨h3,h4,h5⟩,l,h1,h,h6,⟨h2,h7⟩,h8⟩;exact ⟨_,⟨l,h,h1,h2,h3,h4,h5,h6,h7,rfl⟩,h8⟩
  |h k c p hx=>
   simp only [slA];constructor
   ·rintro ⟨_,⟨l,h,h1,h2,h3,⟨dd,⟨d0,η,k1,k2,k3,k4⟩,k5,k6,k7⟩,rfl⟩,h8⟩
    refine ⟨h3,?_⟩;rw [←jdI];refine ⟨d0,η,k1,k2,?_⟩;rw [k3];refine ⟨⟨k4,k5⟩,?_⟩;rw [←jjF];refine ⟨l,h1,?_⟩;rw [←jjF];exact ⟨h,k6,⟨h2,k7⟩,h8⟩
   ·rintro ⟨h3,h4⟩
    rw [←jdI] at h4;obtain ⟨d0,η,k1,k2,k3⟩:=h4;cases hg:D.get p d0 with
    |none=>rw [hg] at k3;exact k3.elim
    |some dd=>
     rw [hg] at k3;obtain ⟨⟨k4,k5⟩,k6⟩:=k3;rw [←jjF] at k6;obtain ⟨l,h1,k7⟩:=k6;rw [←jjF] at k7;obtain ⟨h,k8,⟨h2,k9⟩,h8⟩:=k7;exact ⟨_,⟨l,h,h1,h2,h3,⟨dd,⟨d0,η,k1,k2,hg,k4⟩,k5,k8,k9⟩,rfl⟩,h8⟩
  |hs k c p hx sz lo0 m=>
   simp only [slA,←jjF];constructor
   ·rintro ⟨_,⟨l,h,h1,h2,h3,h4,h5,h6,rfl⟩,h7⟩;exact ⟨⟨h3,h4⟩,l,h1,h,h5,⟨h2,h6⟩,h7⟩
   ·rintro ⟨⟨h3,h4⟩,l,h1,h,h5,⟨h2,h6⟩,h7⟩;exact ⟨_,⟨l,h,h1,h2,h3,h4,h5,h6,rfl⟩,h7⟩
  |_=>simp [slA]
 |_=>simp [slA]
theorem jzp (size:Nat) (lo hi:Option X) (dd:D):slA d s K size lo hi (.c (.ro dd))=((0<size∧dd.isSl=true∧dd.size=size)∧bnd s lo 0 fun l=>bnd s hi dd.len fun h=>(l≤h∧h≤dd.len)∧K (s.put d (.c (.ro (dd.sub l h))))):=(rfl)
theorem slA_h (size:Nat) (lo hi:Option X) (k c:Nat) (p:List Nat) (x:Value):slA d s K size lo hi (.c (.h k c p x))=(0<size∧jik ((s.o k).own c) fun d0 η=>η p=x∧jqb (D.get p d0) fun dd=>(dd.isSl=true∧dd.size=size)∧bnd s lo 0 fun l=>bnd s hi dd.len fun h=>(l≤h∧h≤dd.len)∧K (s.put d (.c (.hs k c p x size l (h-l))))):=(rfl)
theorem is_hs (k c:Nat) (p:List Nat) (x:Value) (sz lo n:Nat) (R:D→Prop):(∃d,Is s (.hs k c p x sz lo n) d∧R d)=jik ((s.o k).own c) fun d0 η=>η p=x∧jqb (D.get p d0) fun dd=>(dd.isSl=true∧dd.size=sz∧0<sz∧lo+n≤dd.len)∧R (dd.sub lo (lo+n)):=by
 apply propext
 rw [←jdI];constructor
 ·rintro ⟨d,⟨d0,η,dd,h1,h2,h3,h4,h5,h6,h7,rfl⟩,h8⟩;exact ⟨d0,η,h1,h2,by rw [h3];exact ⟨⟨h4,h5,h6,h7⟩,h8⟩⟩
 ·rintro ⟨d0,η,h1,h2,h3⟩
  cases h:D.get p d0 with
  |none=>rw [h] at h3;exact h3.elim
  |some dd=>rw [h] at h3;obtain ⟨⟨h4,h5,h6,h7⟩,h8⟩:=h3;exact ⟨_,⟨d0,η,dd,h1,h2,h,h4,h5,h6,h7,rfl⟩,h8⟩
theorem jzn (size k c:Nat) (p:List Nat) (x:Value) (sz lo n:Nat) (R:List D→St→Prop):juV s size (.c (.hs k c p x sz lo n)) R=jik ((s.o k).own c) fun d0 η=>η p=x∧jqb (D.get p d0) fun dd=>(dd.isSl=true∧dd.size=sz∧0<sz∧lo+n≤dd.len)∧(dd.sub lo (lo+n)).size=size∧ka (dd.sub lo (lo+n)).cells=true∧R (dd.sub lo (lo+n)).cells s:=
 is_hs (s:=s) k c p x sz lo n fun d=>d.size=size∧ka d.cells=true∧R d.cells s
theorem jym (k c:Nat) (p:List Nat) (x:Value) (sz lo n:Nat):jw0 d s K false (.c (.hs k c p x sz lo n))=((∃dd,Is s (.hs k c p x sz lo n) dd)∧K (s.put d (.c (.v (.int .i64 n))))):=by
 rw [jtB]
 apply propext
 constructor
 ·rintro ⟨_,⟨h1,rfl⟩,h2⟩;exact ⟨h1,h2⟩
 ·rintro ⟨h1,h2⟩;exact ⟨_,⟨h1,rfl⟩,h2⟩
theorem jAF (size k c:Nat) (p:List Nat) (hx:Value) (sz lo m:Nat) (kk:IntKind) (n:Int):iaK d s K size (.c (.hs k c p hx sz lo m)) (.c (.v (.int kk n)))=((0≤n∧(∃dd,Is s (.hs k c p hx sz lo m) dd)∧sz=size∧n.toNat<m)∧K (s.put d (.c (.ep k c p ((lo+n.toNat)*size) hx)))):=(rfl)
theorem ret_r (rs:List R) (rt:RT):jwS rs rt .ret s=jwD rs rt s:=(rfl)
def St.n (s:St) (i:Nat):Nat:=match s.t i with|.c (.v (.int _ n))=>n.toNat|_=>0
theorem jaP {i:Nat} {k:IntKind} {n:Int} (h:s.t i=.c (.v (.int k n))):s.n i=n.toNat:=by simp [St.n,h]
theorem jg {x:Int} (h:-9223372036854775808≤x) (h':x<9223372036854775808):IntKind.i64.wrap x=x:=IntWalk.i64_in _ (by omega)
theorem is_v (x:Value):Is s (.v x) (.val x)=True:=by simp [Is]
theorem is_ro (d:D):Is s (.ro d) d=True:=by simp [Is]
theorem jw1 (size:Nat) (ty:TypeId):Is s (.v (.slice none 0 0)) (.sl size ty [])=True:=by simp [Is]
theorem jyt:IsL s [] []=True:=(rfl)
theorem jvT (a:A0) (l:List A0) (d:D) (ds:List D):IsL s (a::l) (d::ds)=(Is s a d∧IsL s l ds):=(rfl)
theorem jwA:zJ s [] []=True:=(rfl)
theorem juM (a:AV) (l:List AV) (v:View) (vs:List View):zJ s (a::l) (v::vs)=(jkk s a v∧zJ s l vs):=(rfl)
theorem arg_c (a:A0) (d:D):jkk s (.c a) (.c d)=Is s a d:=(rfl)
theorem jy3 (l:List A0) (ds:List D):jkk s (.agg l) (.agg ds)=IsL s l ds:=(rfl)
theorem jy2 (a:A0) (ds:List D):jkk s (.c a) (.ptr ds)=Ptr s a ds:=(rfl)
theorem jBe (f:Nat) (caps:List A0) (caps':List (List D)):jkk s (.fn f caps) (.fn f caps')=jwE s caps caps':=by simp [jkk]
theorem jvC:jwE s [] []=True:=(rfl)
theorem jtg (a:A0) (l:List A0) (d:List D) (ds:List (List D)):jwE s (a::l) (d::ds)=(Ptr s a d∧jwE s l ds):=(rfl)
theorem jz9 (ds:List D):Ptr s (.rp ds) ds=True:=by simp [Ptr]
theorem is_h0 (k c:Nat) (x:Value) (d:D):Is s (.h k c [] x) d=jik ((s.o k).own c) fun d0 η=>d0=d∧η []=x∧d.isSl=true:=by
 apply propext
 rw [←jdI];simp only [Is,jcy];constructor
 ·rintro ⟨d0,η,h1,h2,h3,h4⟩;cases h3;exact ⟨_,η,h1,rfl,h2,h4⟩
 ·rintro ⟨_,η,h1,rfl,h2,h3⟩;exact ⟨_,η,h1,h2,rfl,h3⟩
theorem jiq {k c:Nat} {x:Value} {ty:Nat} {cs:List D} {η:jq} {bs:List UInt8} (h1:(s.o k).own c=some (.sl 1 ty cs,η)) (h2:η []=x) (h3:cs=bs.map qY) (hk:K (s.put d (.c (.v (.string ⟨bs.toArray⟩))))):cvK d s K .text (.c (.h k c [] x)):=by
 subst h3;exact ⟨_,⟨_,ty,bs,rfl,⟨_,η,h1,h2,jcy _,rfl⟩,rfl⟩,hk⟩
end
theorem jwg (s:Nat) (t:TypeId) (cs:List D):(D.sl s t cs).size=s:=(rfl)
theorem juo (s:Nat) (t:TypeId) (cs:List D):(D.sl s t cs).cells=cs:=(rfl)
theorem jAW (s:Nat) (t:TypeId) (cs:List D):(D.sl s t cs).isSl=true:=(rfl)
theorem jyN (s:Nat) (t:TypeId) (cs:List D) (g:Nat) (η:jq):(D.sl s t cs).obj g η=[(g,.loose (.sl s t cs) η)]:=(rfl)
theorem jAY (v:Value) (g:Nat) (η:jq):(D.val v).obj g η=[]:=(rfl)
theorem jyM (s:Nat) (t:TypeId) (cs:List D) (g c:Nat) (p:List Nat) (η:jq):(D.sl s t cs).toOwn g c p η=.h g c p (η p):=(rfl)
theorem jAX (v:Value) (g c:Nat) (p:List Nat) (η:jq):(D.val v).toOwn g c p η=.v v:=(rfl)
theorem jyK (s:Nat) (t:TypeId) (cs:List D) (l h:Nat):(D.sl s t cs).sub l h=.sl s t ((cs.drop (l*s)).take ((h-l)*s)):=(rfl)
attribute [go_sem] jwg juo jAW jyN jAY jyM jAX jyK jxn jxX jxV jxW jzO jzP jzQ jzR jzS jz1 jz2 jz3 jz4 jtI jrG jtJ jrH jyp jyq jxE jsS I.looks AV.looks A0.looks AV.ids A0.ids List.flatMap_cons List.flatMap_nil List.append_nil List.contains_cons List.contains_nil Bool.or_false Bool.or_true Bool.or_self Bool.false_or Bool.true_or ite_true ite_false jzH jzp slA_h bnd_n bnd_s bndA_ jzn jym jAF jAq jm1 jri List.tail_cons List.head?_cons Nat.zero_add juZ jy8 joe jwH ju0 jxm jsi jsj thn_n thn_e thn_r blk_n blk_r blk_e jvq jsW jxK jxL jxM jxN jxG jvp jAc jzM jAL jAN jAM jzJ jAw jAx jyn ldB_ ldV_t ldV_f jzK jAE jyC jxI jyl jvQ jvS jvR jxT jA9 jwx jzF jxr jzN jyT jzI mmK_ jxO extK_ jAO jAP jvo jzA jxR jwu jA7 jxQ jxS jsX jzG jzl jxU jzm src_h jwj jAZ jvg ownK_ getK_ jcy jtq jx9 ownC_ rm_o rm_t jrq jvH jx0 obK_ juw jyX jyY jws jwb jt7 jyS dat_v jyR jsO jq5 jt3 jrS vB ju6 jzf jxu ju5 one_i one_b one_s one_n A0.c1 ev_t ev_i ev_b ev_s ev_n put_t put_o jzC jzD jwC juT jAz jAA View.av jzT jvV je7 jdl ret_r is_v is_ro jw1 jyt jvT jwA juM arg_c jy3 jy2 jBe jvC jtg jz9 is_h0 RT.flat jj6 RT.av jAg jBp List.map_cons List.map_nil List.length_cons List.length_nil List.take_succ_cons List.take_zero List.drop_succ_cons List.drop_zero List.getElem?_cons_zero List.getElem?_cons_succ List.set_cons_zero List.set_cons_succ List.cons_append List.nil_append Option.getD_some Nat.lt_add_one and_true true_and and_self forall_const imp_self implies_true ge_iff_le gt_iff_lt decide_true decide_false Bool.not_true Bool.not_false Bool.and_self Bool.false_eq_true Int.toNat_natCast Int.natCast_nonneg not_false_eq_true ne_eq
attribute [go_sem_proc] Nat.reduceEqDiff Nat.reduceMul Nat.reduceAdd Nat.reduceLeDiff Nat.reduceLT Nat.reduceBEq Nat.reduceSub reduceCtorEq Int.reduceEq
attribute [go_sem_proc↓] reduceIte
section
variable {P:Program} {β:Nat} {s:St} {Q Q':Ex→St→Prop}
theorem jiL:∀{is:List Ins} {s:St} {K K':St→Prop},(∀s,K s→K' s)→jf7 P β is s K→jf7 P β is s K'
 |[],_,_,_,h,hk=>h _ hk
 |i::l,s,K,K',h,hk=>by
  simp only [jf7] at hk⊢;split
  ·rename_i hw;simp only [hw] at hk;exact jeW (fun s'=>jiL h) hk
  ·rename_i hw;simp only [hw] at hk;exact jiL h hk
  ·rename_i hw;simp only [hw] at hk
theorem ja6:∀{t:T} {l:List (Nat×List Lk)} {s:St} {K K':St→Prop},(∀s,K s→K' s)→vZ P β t l s K→vZ P β t l s K'
 |.done,_,_,_,_,h,hk=>h _ hk
 |.stop,_,_,_,_,_,_=>trivial
 |.pure p i t,l,s,K,K',h,hk=>by
  simp only [vZ] at hk⊢;split
  ·rename_i hw;simp only [hw] at hk;exact jeW (fun s'=>ja6 h) hk
  ·rename_i hw;simp only [hw] at hk;exact ja6 h hk
  ·rename_i hw;simp only [hw] at hk
 |.alt i chk t r,l,s,K,K',h,hk=>by
  simp only [vZ] at hk⊢;refine ⟨?_,ja6 h hk.2⟩;have hk:=hk.1;split
  ·rename_i hw;simp only [hw] at hk;exact jeW (fun s' ⟨h1,h2⟩=>⟨h1,ja6 h h2⟩) hk
  ·rename_i hw;simp only [hw] at hk;exact ja6 h hk
  ·rename_i hw;simp only [hw] at hk
theorem jeQ {n n':St→Prop} (hn:∀s,n s→n' s) (hQ:∀e s,Q e s→Q' e s):∀e s,Ex.thn n Q e s→Ex.thn n' Q' e s
 |.normal,_,h=>hn _ h
 |.exit _,_,h=>hQ _ _ h
 |.ret,_,h=>hQ _ _ h
theorem jwv {id:Nat} (hQ:∀e s,Q e s→Q' e s):∀e s,Ex.inBlk id Q e s→Ex.inBlk id Q' e s
 |.normal,_,h=>hQ _ _ h
 |.exit id',_,h=>by
  simp only [Ex.inBlk] at h⊢;by_cases e:id'=id
  ·rw [if_pos e] at h⊢;exact hQ _ _ h
  ·rw [if_neg e] at h⊢;exact hQ _ _ h
 |.ret,_,h=>hQ _ _ h
theorem zp:∀(c:C) {s:St} {Q Q':Ex→St→Prop},(∀e s,Q e s→Q' e s)→wpC P β c Q s→wpC P β c Q' s
 |.skip,_,_,_,h,hk=>h _ _ hk
 |.reg _,_,_,_,h,hk=>jiL (fun _=>h _ _) hk
 |.dreg _,_,_,_,h,hk=>ja6 (fun _=>h _ _) hk
 |.seq a b,s,Q,Q',h,hk=>by
  rw [joe] at hk⊢;exact zp a (jeQ (fun _=>zp b h) h) hk
 |.cond x a b,_,_,_,h,⟨t,h1,h2,h3⟩=>⟨t,h1,fun ht=>zp a h (h2 ht),fun ht=>zp b h (h3 ht)⟩
 |.blk id a,s,Q,Q',h,hk=>by
  rw [jwH] at hk⊢;exact zp a (jwv h) hk
 |.loop a,_,_,_,h,⟨ι,mk,J,μ,h1,h2⟩=>⟨ι,mk,J,μ,h1,fun i hi=>zp a (jeQ (fun _ h=>h) h) (h2 i hi)⟩
 |.gh a,_,_,_,h,hk=>fun _ _ _ _ _ _ hr=>let ⟨s',F',h1,h2⟩:=hk _ _ _ _ _ _ hr;⟨s',F',h1,zp a h h2⟩
 |.exit _,_,_,_,h,hk=>h _ _ hk
 |.ret,_,_,_,h,hk=>h _ _ hk
theorem Wk.refl (s:St):Wk s s:=fun _ _ _ _ _ F h=>⟨F,h,fun g b hb=>⟨g,hb⟩⟩
theorem qQ {a:C} {s:St} (J:St→Prop) (μ:St→Nat) (h:J s) (hr:∀s,J s→wpC P β a (Ex.thn (fun s'=>J s'∧μ s'<μ s) Q) s):wpC P β (.loop a) Q s:=by
 refine ⟨St,id,J,μ,⟨s,h,.refl s⟩,fun s hs=>zp a (jeQ (fun s' ⟨h1,h2⟩=>⟨s',h1,.refl s',h2⟩) fun _ _ h=>h) (hr s hs)⟩
theorem jtD {p:Nat→Prop} (h:∃n,p n):∃n,p n∧∀m,p m→n≤m:=by
 obtain ⟨n,hn⟩:=h
 induction n using Nat.strongRecOn with
 |_ n ih=>
  by_cases hm:∃m,m<n∧p m
  ·obtain ⟨m,h1,h2⟩:=hm
   exact ih m h1 h2
  ·exact ⟨n,hn,fun m hp=>Nat.le_of_not_lt fun hlt=>hm ⟨m,hlt,hp⟩⟩
def rounds (P:Program) (β:Nat) (a:C) (Q:Ex→St→Prop):Nat→St→Prop
 |0,_=>False
 |n+1,s=>wpC P β a (Ex.thn (rounds P β a Q n) Q) s
open Classical in
theorem jsh {a:C} {n:Nat} (h:rounds P β a Q n s):wpC P β (.loop a) Q s:=by
 refine qQ (fun s=>∃n,rounds P β a Q n s) (fun s=>if h:∃n,rounds P β a Q n s then Classical.choose (jtD h) else 0) ⟨n,h⟩ ?_
 intro s hs;obtain ⟨h1,h0⟩:=Classical.choose_spec (jtD hs)
 obtain ⟨m,hm⟩:∃m,Classical.choose (jtD hs)=m+1:=by
  cases hq:Classical.choose (jtD hs) with
  |zero=>rw [hq] at h1;exact h1.elim
  |succ m=>exact ⟨m,rfl⟩
 rw [hm] at h1;refine zp _ (jeQ (fun s' h2=>⟨⟨m,h2⟩,?_⟩) fun _ _ h=>h) h1
 have h3:∃n,rounds P β a Q n s':=⟨m,h2⟩;have h4:=(Classical.choose_spec (jtD h3)).2 m h2;simp only [dif_pos hs,dif_pos h3,hm];omega
theorem zy {a:C} {s:St} (n:Nat) (h:wpC P β a (Ex.thn (rounds P β a Q n) Q) s):wpC P β (.loop a) Q s:=jsh (n:=n+1) h
theorem jxY (a:C) (n:Nat):rounds P β a Q (n+1) s=wpC P β a (Ex.thn (rounds P β a Q n) Q) s:=(rfl)
theorem jsk {t:Nat} {w:Bool} (h:s.t t=.c (.v undef)):vJ s (some (t,w))=some false:=by
 simp only [vJ,h];rfl
theorem jzL {t:Nat} {w:Bool} {d:Option Nat} {K:St→Prop} (i:I) (l:List Ins) (h:s.t t=.c (.v undef)):jf7 P β (⟨d,some (t,w),i⟩::l) s K=jf7 P β l (s.put d (.c (.v undef))) K:=by
 simp only [jf7,jsk h]
theorem rt_gu {t p:Nat} {w:Bool} {d:Option Nat} {l:List (Nat×List Lk)} {K:St→Prop} (i:I) (t':T) (h:s.t t=.c (.v undef)):vZ P β (.pure p ⟨d,some (t,w),i⟩ t') l s K=vZ P β t' l (s.put d (.c (.v undef))) K:=by
 simp only [vZ,jsk h]
theorem ra_gu {t:Nat} {w:Bool} {d:Option Nat} {l:List (Nat×List Lk)} {K:St→Prop} (i:I) (chk:List Nat) (t' r:T) (h:s.t t=.c (.v undef)):vZ P β (.alt ⟨d,some (t,w),i⟩ chk t' r) l s K=(vZ P β t' l (s.put d (.c (.v undef))) K∧vZ P β r l s K):=by
 simp only [vZ,jsk h]
theorem jtN:IsD [] []=True:=by simp [IsD]
theorem jyv (x:Value) (l:List Cell) (d:D) (ds:List D):IsD (.a (.v x)::l) (d::ds)=((d=.val x∨x=.slice none 0 0∧∃size ty,d=.sl size ty [])∧IsD l ds):=rfl
theorem jyu (x:Value) (l:List Cell) (ds:List D):IsD (.a (.v x)::l) (.val x::ds)=IsD l ds:=by rw [jyv];simp
theorem isD_1 (x u:Value):IsD [.a (.v x)] [.val u]=(x=u):=by
 rw [jyv];simp only [jtN];apply propext;constructor
 ·rintro ⟨h|⟨_,_,_,h⟩,_⟩
  ·cases h;rfl
  ·cases h
 ·rintro rfl;exact ⟨.inl rfl,trivial⟩
theorem jl0 (l:List Cell) (size:Nat) (ty:TypeId) (ds:List D):IsD (.a (.v (.slice none 0 0))::l) (.sl size ty []::ds)=IsD l ds:=by rw [jyv];simp
theorem jyw (d d':D) (η:jq) (l:List Cell) (ds:List D):IsD (.own d' η::l) (d::ds)=(d'=d∧IsD l ds):=(rfl)
def js6 (s:St):RT→AV→Prop
 |.c d,.c a=>qA s [a] fun cs _=>IsD cs [d]
 |.agg ds,.agg l=>qA s l fun cs _=>IsD cs ds
 |_,_=>False
theorem jzY (d:D) (a:A0):js6 s (.c d) (.c a)=qA s [a] fun cs _=>IsD cs [d]:=(rfl)
theorem jvw (ds:List D) (l:List A0):js6 s (.agg ds) (.agg l)=qA s l fun cs _=>IsD cs ds:=(rfl)
theorem ret_t (n:Nat) (rt:RT):jwD [.t n] rt s=js6 s rt (s.t n):=by
 apply propext
 simp only [jwD,jhv];cases h:s.t n with
 |c a=>cases rt<;>simp [js6,jao,RT.flat]
 |agg l=>cases rt<;>simp [js6,jao,RT.flat]
 |_=>cases rt<;>simp [js6]
def jor (s:St) (agg:Bool) (k:Nat) (rt:RT) (a:AV):Prop:=∃l,zR s k l a∧(agg=true∨l.length=1)∧jao rt [(agg,l)]∧qA s ([(agg,l)].flatMap (·.2)) fun cs _=>IsD cs rt.flat
theorem jvv (n k:Nat) (agg:Bool) (rt:RT):jwD [.cell n agg k] rt s=jor s agg k rt (s.t n):=(rfl)
theorem jrc (k g c b:Nat) (agg:Bool) (rt:RT):jor s agg k rt (.c (.bp g c b))=ldB (s.o g) g c b k fun l=>ldV agg l fun v=>js6 s rt v:=by
 apply propext
 simp only [jor,zR];cases ho:s.o g with
 |box b' ty cs=>
  simp only [ldB,Ob.box.injEq];constructor
  ·rintro ⟨l,⟨_,_,⟨rfl,rfl,rfl⟩,h2,rfl⟩,h3,h4,h5⟩
   refine ⟨rfl,h2,?_⟩;cases agg with
   |true=>cases rt<;>simp_all [ldV,js6,jao,RT.flat]
   |false=>
    obtain ⟨a,ha⟩:=List.length_eq_one_iff.1 (by simpa using h3)
    rw [ha] at h4 h5⊢;cases rt<;>simp_all [ldV,js6,jao,RT.flat]
  ·rintro ⟨rfl,h2,h3⟩
   refine ⟨_,⟨ty,cs,⟨rfl,rfl,rfl⟩,h2,rfl⟩,?_⟩;cases agg with
   |true=>cases rt<;>simp_all [ldV,js6,jao,RT.flat]
   |false=>
    generalize jdl g c ((cs.drop c).take k)=l at h3⊢
    match l,h3 with
    |[a],h3=>cases rt<;>simp_all [ldV,js6,jao,RT.flat]
 |_=>simp [ldB]
theorem ri_r (rs:List R) (K:AV→(Nat→Ob)→Prop):jBr rs K .ret s=jse rs K s:=(rfl)
theorem ri_n (rs:List R) (K:AV→(Nat→Ob)→Prop):jBr rs K .normal s=jse rs K s:=(rfl)
def retI (s:St) (K:AV→(Nat→Ob)→Prop):AV→Prop
 |.c a=>K (.c a) s.o
 |.agg l=>K (.agg l) s.o
 |_=>False
theorem jzX (K:AV→(Nat→Ob)→Prop) (a:A0):retI s K (.c a)=K (.c a) s.o:=(rfl)
theorem jzV (n:Nat) (K:AV→(Nat→Ob)→Prop):jse [.t n] K s=retI s K (s.t n):=by
 simp only [jse,jhv];cases h:s.t n<;>simp [retI]
theorem jzW (K:AV→(Nat→Ob)→Prop):jse [] K s=K (.tup []) s.o:=(rfl)
def jlu (s:St) (agg:Bool) (k:Nat) (K:AV→(Nat→Ob)→Prop) (a:AV):Prop:=∃l,zR s k l a∧(agg=true∨l.length=1)∧(match [(agg,l)] with
 |[(true,l)]=>K (.agg l) s.o
 |[(false,[a])]=>K (.c a) s.o
 |[]=>K (.tup []) s.o
 |p::q::r=>K (.tup (p::q::r)) s.o
 |_=>False)
theorem js3 (n k:Nat) (agg:Bool) (K:AV→(Nat→Ob)→Prop):jse [.cell n agg k] K s=jlu s agg k K (s.t n):=(rfl)
theorem joq (k g c b:Nat) (agg:Bool) (K:AV→(Nat→Ob)→Prop):jlu s agg k K (.c (.bp g c b))=ldB (s.o g) g c b k fun l=>ldV agg l fun v=>K v s.o:=by
 apply propext
 simp only [jlu,zR];cases ho:s.o g with
 |box b' ty cs=>
  simp only [ldB,Ob.box.injEq];constructor
  ·rintro ⟨l,⟨_,_,⟨rfl,rfl,rfl⟩,h2,rfl⟩,h3,h4⟩
   refine ⟨rfl,h2,?_⟩;cases agg with
   |true=>exact h4
   |false=>
    obtain ⟨a,ha⟩:=List.length_eq_one_iff.1 (by simpa using h3)
    rw [ha] at h4⊢;exact h4
  ·rintro ⟨rfl,h2,h3⟩
   refine ⟨_,⟨ty,cs,⟨rfl,rfl,rfl⟩,h2,rfl⟩,?_⟩;cases agg with
   |true=>exact ⟨.inl rfl,h3⟩
   |false=>
    generalize jdl g c ((cs.drop c).take k)=l at h3⊢
    match l,h3 with
    |[a],h3=>exact ⟨.inr rfl,h3⟩
 |_=>simp [ldB]
theorem jxy (args:List AV) (o:Nat→Ob) (n:Nat):(St.start args o).t n=(args[n]?).getD .unk:=(rfl)
theorem jxz (args:List AV) (o:Nat→Ob):(St.start args o).o=o:=(rfl)
end
theorem jeO (n:Int) (h:-1000000000000000≤n) (h':n<1000000000000000):IntKind.i64.wrap n=n:=jg (by omega) (by omega)
attribute [go_sem_proc] Int.reduceBEq Int.reduceBNe Nat.reduceBNe Int.reduceAdd Int.reduceSub Int.reduceMul Int.reduceLE Int.reduceLT Int.reduceGE Int.reduceGT Int.reduceTMod Int.reduceTDiv Int.reduceNe Int.reduceNeg Int.reduceToNat Nat.reduceDiv Nat.reduceMod Nat.reducePow Int.reduceNegSucc
attribute [go_sem] Int.cast_ofNat_Int jzL rt_gu ra_gu jxY jtN isD_1 jyu jl0 jyw jxy jxz ri_r ri_n jzX jzV jzW js3 joq ret_t jvv jrc jzY jvw
section
variable {P:Program} {f:FuncId}
theorem jy9 {w:World} {v1 v2:View} {xs:List Value} (h:zx w [v1,v2] xs):∃a b,xs=[a,b]∧ViewRel w v1 a∧ViewRel w v2 b:=by
 obtain ⟨a,_,rfl,h1,b,_,rfl,h2,h3⟩:=h;rw [show _=_ from h3]
 exact ⟨a,b,rfl,h1,h2⟩
theorem jza {w:World} {v1:View} {xs:List Value} (h:zx w [v1] xs):∃a,xs=[a]∧ViewRel w v1 a:=by
 obtain ⟨a,_,rfl,h1,h3⟩:=h;rw [show _=_ from h3]
 exact ⟨a,rfl,h1⟩
theorem jox {v1 v2:View} {u:Value} (hn:joa P f) (h:∀w a b,ViewRel w v1 a→ViewRel w v2 b→Calls P f #[a,b] w fun e w'=>e=.returned u∧Below w.heap.size w w'):kp P f [v1,v2] (.c (.val u)):=by
 refine ⟨hn,fun w xs hv=>?_⟩
 obtain ⟨a,b,rfl,h1,h2⟩:=jy9 hv;exact (h w a b h1 h2).mono fun e w' ⟨he,hb⟩=>⟨u,[],he,⟨rfl,rfl⟩,Fresh.nil _,hb⟩
theorem jz8 {v1:View} {u:Value} (hn:joa P f) (h:∀w a,ViewRel w v1 a→Calls P f #[a] w fun e w'=>e=.returned u∧Below w.heap.size w w'):kp P f [v1] (.c (.val u)):=by
 refine ⟨hn,fun w xs hv=>?_⟩
 obtain ⟨a,rfl,h1⟩:=jza hv;exact (h w a h1).mono fun e w' ⟨he,hb⟩=>⟨u,[],he,⟨rfl,rfl⟩,Fresh.nil _,hb⟩
theorem jm3 {ds:List D} (hn:joa P f) (h:∀w,Calls P f #[] w (juW w ds)):kp P f [] (.agg ds):=by
 refine ⟨hn,fun w xs hv=>?_⟩
 rw [show xs=[] from hv]
 exact (h w).mono fun e w' h=>h
theorem jaz {w:World} {u a:Value} (h:ViewRel w (.c (.val u)) a):a=u:=by obtain ⟨S,h1,_⟩:=h;exact h1
end
attribute [go_sem] and_false false_and
def jd8:C:=iS [iA 6 (iN 0)] (.seq (iS [iA 7 (iM 2),iA 8 (iM 1),iA 9 (iP .lss 3 7 8),iA 10 (iM 9),iB 11 10 false (iM 0),iB 12 10 false (iM 1),iB 13 10 false (iP .lss 3 11 12),iA 14 (.pick (.t 10) (.c (.bool true)) (.t 13))] (iD 14 (iS [iA 15 (iM 1),iA 6 (iM 15)] .ret) .skip)) (.seq (iS [iA 16 (iM 0),iA 17 (iM 2),iA 18 (iP .gtr 3 16 17)] (iD 18 (iS [iA 19 (iM 2),iA 6 (iM 19)] .ret) .skip)) (iS [iA 20 (iM 0),iA 6 (iM 20)] .ret)))
theorem jgO:fnC Tryz.prog Tryz.f261=some (jd8,[.t 6],21):=by kernel_rfl
def jej:C:=iS [iA 6 (iN 0)] (.seq (iS [iA 7 (iM 2),iA 8 (iM 1),iA 9 (iP .lss 3 7 8),iA 10 (iM 9),iB 11 10 false (iM 0),iB 12 10 false (iM 1),iB 13 10 false (iP .lss 3 11 12),iA 14 (.pick (.t 10) (.c (.bool true)) (.t 13))] (iD 14 (iS [iA 15 (iM 1),iA 6 (iM 15)] .ret) .skip)) (iS [iA 16 (iM 0),iA 17 (iM 2),iA 18 (.mm false (.t 16) (.t 17)),iA 6 (iM 18)] .ret))
theorem jgZ:fnC Tryz.prog Tryz.f276=some (jej,[.t 6],19):=by kernel_rfl
def jbS:C:=iS [iA 4 (.mov (.c (.slice none 0 0)))] (iS [iA 8 (iM 0),iA 9 (.call 261 [.t 8,.c (.int .i64 0),.c (.int .i64 3)]),iA 0 (iM 9)] (.seq (iS [iA 10 (iM 1),iA 11 (iQ .lss 3 10 0)] (iD 11 (.reg [iA 1 (iN 0)]) .skip)) (iS [iA 12 (.bsl 3 1 0 [] []),iA 5 (iM 12)] (.seq (iS [iA 6 (iN 1)] (.blk 0 (.loop (.seq (iS [iA 13 (iM 6),iA 14 (iQ .lss 3 13 4)] (iD 14 .skip (.exit 0))) (.seq (.blk 1 (.reg [iA 17 (iM 5),iA 18 (iM 0),iA 19 (iM 6),iA 20 (iP .add 3 18 19),iA 21 (iQ .rem 3 20 4),iA 22 (.bsl 3 1 1 [none] [(0,1,.t 21)]),iA 23 (.app 3 1 8 (.t 17) (.t 22)),iA 5 (iM 23)])) (.reg [iA 15 (iM 6),iA 16 (iQ .add 3 15 1),iA 6 (iM 16)])))))) (iS [iA 24 (iM 1),iA 25 (iM 5),iA 26 (iG 25),iA 27 (iP .rem 3 24 26),iA 7 (iM 27)] (.seq (.dreg (T.pure 1 (iA 29 (iM 5)) (T.pure 2 (iA 30 (iM 7)) (T.pure 3 (iA 31 (.sl 1 (.t 29) (some (.t 30)) none)) (T.pure 5 (iA 33 (iM 5)) (T.pure 6 (iA 34 (iM 7)) (T.pure 7 (iA 35 (.sl 1 (.t 33) none (some (.t 34)))) (T.alt (iA 28 (.bsl 3 1 0 [] [])) [7,6,5,3,2,1] (T.alt (iA 32 (.app 3 1 8 (.t 28) (.t 31))) [7,6,5] (T.alt (iA 36 (.app 3 1 8 (.t 32) (.t 35))) [] (T.pure 9 (iA 4 (iM 36)) T.done) T.stop) T.stop) T.stop)))))))) .ret))))))
theorem jeB:fnC Tryz.prog Tryz.f191=some (jbS,[.t 4],37):=by kernel_rfl
def jbV:C:=iS [iA 4 (.mov (.c (.slice none 0 0)))] (iS [iA 7 (iM 0),iA 8 (.call 276 [.t 7,.c (.int .i64 0),.c (.int .i64 3)]),iA 0 (iM 8)] (iS [iA 5 (.mov (.c (.slice none 0 0)))] (.seq (iS [iA 6 (iN 0)] (.blk 0 (.loop (.seq (iS [iA 9 (iM 6),iA 10 (iQ .lss 3 9 3)] (iD 10 .skip (.exit 0))) (.seq (.blk 1 (.reg [iA 13 (iM 5),iA 14 (iM 0),iA 15 (iQ .add 3 14 1),iA 16 (iM 1),iA 17 (.mm true (.t 16) (.c (.int .i64 0))),iA 18 (iQ .rem 3 17 3),iA 19 (iM 6),iA 20 (iP .add 3 18 19),iA 21 (iQ .rem 3 20 3),iA 22 (iP .add 3 15 21),iA 23 (iQ .rem 3 22 4),iA 24 (.bsl 3 1 1 [none] [(0,1,.t 23)]),iA 25 (.app 3 1 8 (.t 13) (.t 24)),iA 5 (iM 25)])) (.reg [iA 11 (iM 6),iA 12 (iQ .add 3 11 1),iA 6 (iM 12)])))))) (iS [iA 26 (iM 5),iA 4 (iM 26)] .ret))))
theorem jeE:fnC Tryz.prog Tryz.f216=some (jbV,[.t 4],27):=by kernel_rfl
def brI (n a b:Int):Int:=if b<a∨n<a then a else if n>b then b else n
theorem vx (n a b:Int):kp Tryz.prog 261 [.c (.val (.int .i64 n)),.c (.val (.int .i64 a)),.c (.val (.int .i64 b))] (.c (.val (.int .i64 (brI n a b)))):=by
 refine js Tryz.func261 jgO (by simp) ?_
 unfold jd8;by_cases h1:b<a
 ·simp only [go_sem,h1]
  simp [brI,h1]
 ·by_cases h2:n<a
  ·simp only [go_sem,h1,h2]
   simp [brI,h1,h2]
  ·by_cases h3:b<n
   ·simp only [go_sem,h1,h2,h3]
    simp [brI,h1,h2,h3]
   ·simp only [go_sem,h1,h2,h3]
    simp [brI,h1,h2,h3]
theorem jj5 (n a b:Int):kp Tryz.prog 276 [.c (.val (.int .i64 n)),.c (.val (.int .i64 a)),.c (.val (.int .i64 b))] (.c (.val (.int .i64 (brI n a b)))):=by
 refine js Tryz.func276 jgZ (by simp) ?_
 unfold jej;by_cases h1:b<a
 ·simp only [go_sem,h1]
  simp [brI,h1]
 ·by_cases h2:n<a
  ·simp only [go_sem,h1,h2]
   simp [brI,h1,h2]
  ·simp only [go_sem,h1,h2]
   simp only [brI,h1,h2,or_self,if_false]
def jht (home draw:Int):List Int:=
 let h:=brI home 0 3
 let k:=(if draw<0 then 0 else draw).tmod 3
 [(h+1+k.tmod 3).tmod 4,(h+1+(k+1).tmod 3).tmod 4,(h+1+(k+2).tmod 3).tmod 4]
theorem jA6 (n:Int):brI n 0 3=0∨brI n 0 3=1∨brI n 0 3=2∨brI n 0 3=3:=by
 unfold brI;split
 ·omega
 ·split<;>omega
theorem jxt {n:Int} (h:0≤n):n.tmod 3=0∨n.tmod 3=1∨n.tmod 3=2:=by
 rw [Int.tmod_eq_emod_of_nonneg h];omega
theorem jso (home draw h d:Int) (hh:brI home 0 3=h) (hd:(if draw<0 then 0 else draw)=d) (hk:0≤h∧h≤3):(d.tmod 3=0→jht home draw=[(h+1).tmod 4,(h+2).tmod 4,(h+3).tmod 4])∧(d.tmod 3=1→jht home draw=[(h+2).tmod 4,(h+3).tmod 4,(h+1).tmod 4])∧(d.tmod 3=2→jht home draw=[(h+3).tmod 4,(h+1).tmod 4,(h+2).tmod 4]):=by
 have e1:h+1+1=h+2:=by omega
 have e2:h+1+2=h+3:=by omega
 have e0:h+1+0=h+1:=by omega
 refine ⟨fun h3=>?_,fun h3=>?_,fun h3=>?_⟩<;>simp [jht,hh,hd,h3,e0,e1,e2]
theorem jxe (n:Int):0≤brI n 0 3∧brI n 0 3≤3:=by have:=jA6 n;omega
theorem jhx (home draw:Int):kp Tryz.prog 191 [.c (.val (.int .i64 home)),.c (.val (.int .i64 draw))] (.c (jh (jht home draw))):=by
 refine js Tryz.func191 jeB (by simp) ?_
 unfold jbS;simp only [go_sem];refine jc (vx home 0 3) (by simp only [go_sem]) fun η=>?_
 obtain ⟨d,hd,hdk⟩:∃d:Int,(if draw<0 then 0 else draw)=d∧0≤d:=⟨_,rfl,by split<;>omega⟩
 have hk:=jxe home;have hvl:=jso home draw _ d rfl hd hk;have h3:=jxt hdk;generalize brI home 0 3=h at*;have w1:IntKind.i64.wrap (h+1)=h+1:=jeO _ (by omega) (by omega)
 have w2:IntKind.i64.wrap (h+2)=h+2:=jeO _ (by omega) (by omega)
 have w3:IntKind.i64.wrap (h+3)=h+3:=jeO _ (by omega) (by omega)
 obtain ⟨v0,v1,v2⟩:=hvl;by_cases hneg:draw<0
 ·rw [if_pos hneg] at hd
  subst hd;rw [v0 (by decide)]
  simp only [go_sem,hneg];intro η1;refine zy 3 ?_;simp only [go_sem,jeO,w1,w2,w3,D.len,maxLen];intros;rfl
 ·rw [if_neg hneg] at hd
  subst hd;rcases h3 with h3|h3|h3
  ·rw [v0 h3]
   simp only [go_sem,hneg];intro η1;refine zy 3 ?_;simp only [go_sem,jeO,w1,w2,w3,D.len,maxLen,h3];intros;rfl
  ·rw [v1 h3]
   simp only [go_sem,hneg];intro η1;refine zy 3 ?_;simp only [go_sem,jeO,w1,w2,w3,D.len,maxLen,h3];intros;rfl
  ·rw [v2 h3]
   simp only [go_sem,hneg];intro η1;refine zy 3 ?_;simp only [go_sem,jeO,w1,w2,w3,D.len,maxLen,h3];intros;rfl
theorem jhy (home draw:Int):kp Tryz.prog 216 [.c (.val (.int .i64 home)),.c (.val (.int .i64 draw))] (.c (jh (jht home draw))):=by
 refine js Tryz.func216 jeE (by simp) ?_
 unfold jbV;simp only [go_sem];refine jc (jj5 home 0 3) (by simp only [go_sem]) fun η=>?_
 obtain ⟨d,hd,hdk⟩:∃d:Int,(if draw<0 then 0 else draw)=d∧0≤d:=⟨_,rfl,by split<;>omega⟩
 have hk:=jxe home;have hvl:=jso home draw _ d rfl hd hk;have h3:=jxt hdk;generalize brI home 0 3=h at*;have w1:IntKind.i64.wrap (h+1)=h+1:=jeO _ (by omega) (by omega)
 have w0:IntKind.i64.wrap (h+1+0)=h+1:=by rw [jeO _ (by omega) (by omega)];omega
 have w2:IntKind.i64.wrap (h+1+1)=h+2:=by rw [jeO _ (by omega) (by omega)];omega
 have w3:IntKind.i64.wrap (h+1+2)=h+3:=by rw [jeO _ (by omega) (by omega)];omega
 obtain ⟨v0,v1,v2⟩:=hvl;rcases h3 with h3|h3|h3
 ·rw [v0 h3]
  simp only [go_sem];refine zy 3 ?_;simp only [go_sem,jeO,w0,w1,w2,w3,D.len,maxLen,hd,h3];intros;rfl
 ·rw [v1 h3]
  simp only [go_sem];refine zy 3 ?_;simp only [go_sem,jeO,w0,w1,w2,w3,D.len,maxLen,hd,h3];intros;rfl
 ·rw [v2 h3]
  simp only [go_sem];refine zy 3 ?_;simp only [go_sem,jeO,w0,w1,w2,w3,D.len,maxLen,hd,h3];intros;rfl
end Go.Proofs.YtmnpailnelmpiaaGreat
