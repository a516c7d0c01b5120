/- Parts. -/
import Derived.Test.YtcehjhiglmifjaaGreatQE4g
import Derived.Test.YtcehjhiglmifjaaGreatProg
import Derived.Laws.StructEq
import Derived.Test.YtcehjhiglmifjaaGreatRows
import Derived.ProofKit
import Derived.Deep.Slices
import Derived.ChangeSame
import Derived.Below
import Derived.OpenShut
set_option linter.all false
set_option maxHeartbeats 2000000
set_option maxRecDepth 100000
namespace Go.Proofs.YtcehjhiglmifjaaGreat
open Go.RowKit Go.Sort
section
variable {P:Program} {β:Nat} {s:St} {d:Option Nat} {g:Option (Nat×Bool)} {K:St->Prop} {Q:Ex->St->Prop}
def jjh (o:Option (D×jm)) (k:D->jm->Prop):Prop:=match o with
 |some (d,η)=>k d η
 |none=>False
def jrF (o:Option D) (k:D->Prop):Prop:=match o with
 |some d=>k d
 |none=>False
theorem ownK_ (d:D) (η:jm) (k:D->jm->Prop):jjh (some (d,η)) k=k d η:=(rfl)
theorem getK_ (d:D) (k:D->Prop):jrF (some d) k=k d:=(rfl)
theorem jej (o:Option (D×jm)) (k:D->jm->Prop):(∃d η,o=some (d,η)/\k d η)=jjh o k:=by
 cases o with
 |none=>simp [jjh]
 |some p=>
  obtain ⟨d,η⟩:=p
  apply propext
  constructor
  ·rintro ⟨_,_,h,h2⟩;cases h;exact h2
  ·intro h;exact ⟨d,η,rfl,h⟩
theorem jb8 (d:D):D.get [] d=some d:=by cases d<;>rfl
theorem jAk (k c:Nat) (p:List Nat) (x:Value) (R:D->Prop):(∃d,Is s (.h k c p x) d/\R d)=jjh ((s.o k).own c) λd0 η=>η p=x/\jrF (D.get p d0) λd=>d.isSl=true/\R d:=by
 apply propext
 rw [<-jej];constructor
 ·rintro ⟨d,⟨d0,η,h1,h2,h3,h4⟩,h5⟩;exact ⟨d0,η,h1,h2,by rw [h3];exact ⟨h4,h5⟩⟩
 ·rintro ⟨d0,η,h1,h2,h3⟩
  cases h:D.get p d0 with
  |none=>rw [h] at h3;exact h3.elim
  |some d=>rw [h] at h3;exact ⟨d,⟨d0,η,h1,h2,h,h3.1⟩,h3.2⟩
theorem ju7 (d:D) (η:jm):(Ob.loose d η).own 0=some (d,η):=(rfl)
def ownC:Option Cell->Option (D×jm)
 |some (.own d η)=>some (d,η)
 |_=>none
theorem jz2 (b ty:Nat) (cs:List Cell) (c:Nat):(Ob.box b ty cs).own c=ownC cs[c]?:=by
 simp only [Ob.own,ownC];split<;>simp_all
theorem ownC_ (d:D) (η:jm):ownC (some (.own d η))=some (d,η):=(rfl)
theorem rm_o (k c n:Nat):(s.rm k c).o n=if n=k then (s.o k).rm c else s.o n:=(rfl)
theorem rm_t (k c n:Nat):(s.rm k c).t n=s.t n:=(rfl)
theorem jsX (d:D) (η:jm):(Ob.loose d η).rm 0=.none:=(rfl)
theorem jxu (b ty:Nat) (cs:List Cell) (c:Nat):(Ob.box b ty cs).rm c=.box b ty (rmC cs c cs[c]?):=(rfl)
theorem jzT (cs:List Cell) (c:Nat) (d:D) (η:jm):rmC cs c (some (.own d η))=cs.set c (.a (.v (η []))):=(rfl)
theorem jxF (k c:Nat) (p:List Nat) (x:Value):jyS d s K false (.c (.h k c p x))=jjh ((s.o k).own c) λd0 η=>η p=x/\jrF (D.get p d0) λdd=>dd.isSl=true/\0<dd.size/\K (s.put d (.c (.v (.int .i64 dd.len)))):=by
 rw [jCr,jAk]
theorem jAt (size k c:Nat) (p:List Nat) (hx:Value) (kk:IntKind) (n:Int):iaK d s K size (.c (.h k c p hx)) (.c (.v (.int kk n)))=((0<=n/\jjh ((s.o k).own c) λd0 η=>η p=hx/\jrF (D.get p d0) λdd=>dd.isSl=true/\dd.size=size/\n.toNat<dd.len)/\K (s.put d (.c (.ep k c p (n.toNat*size) hx)))):=by
 rw [iaK_h,jAk]
theorem jAf (agg:Bool) (n k c:Nat) (p:List Nat) (i:Nat) (x:Value):ldK d s K agg n (.c (.ep k c p i x))=jjh ((s.o k).own c) λd0 η=>η p=x/\jrF (D.get p d0) λdd=>dd.isSl=true/\i+n<=dd.cells.length/\ldV agg (jhk k c p η i ((dd.cells.drop i).take n)) λv=>K (s.put d v):=by
 apply propext
 rw [<-jej];simp only [ldK];constructor
 ·rintro ⟨d0,η,dd,h1,h2,h3,h4⟩;exact ⟨d0,η,h1,h2,by rw [h3];exact h4⟩
 ·rintro ⟨d0,η,h1,h2,h3⟩
  cases h:D.get p d0 with
  |none=>rw [h] at h3;exact h3.elim
  |some dd=>rw [h] at h3;exact ⟨d0,η,dd,h1,h2,h,h3⟩
theorem jwU (k c:Nat) (x:Value) (l:List A0) (R:List Cell->St->Prop):qM s (.h k c [] x::l) R=jjh ((s.o k).own c) λd η=>η []=x/\qM (s.rm k c) l (λcs s'=>R (.own d η::cs) s'):=by
 rw [jBb,jej]
def jcm (a:AV) (n:Nat) (k:List A0->Prop):Prop:=∃l,a.cells=some l/\l.length=n/\k l
theorem jwf (l:List A0) (n:Nat) (k:List A0->Prop):jcm (.agg l) n k=(l.length=n/\k l):=by simp [jcm,AV.cells]
theorem jAS (a:A0) (n:Nat) (k:List A0->Prop):jcm (.c a) n k=(a.c1=true/\1=n/\k [a]):=by
 simp only [jcm,AV.cells];cases h:a.c1<;>simp
def jy6 (s:St):List (Nat×Nat×X)->(List A0->Prop)->Prop
 |[],k=>k []
 |(_,size,x)::ps,k=>jcm (s.ev x) size λl=>jy6 s ps λr=>k (l++r)
theorem jwh:∀(ps:List (Nat×Nat×X)) (k:List A0->Prop),(∃l,jtB s ps=some l/\k l)=jy6 s ps k
 |[],k=>by simp [jtB,jy6]
 |(o,size,x)::ps,k=>by
  apply propext
  simp only [jy6,jcm,jtB];constructor
  ·rintro ⟨l,h1,h2⟩
   split at h1
   ·rename_i l1 r h3 h4
    split at h1
    ·rename_i h5
     simp at h1;subst h1;refine ⟨l1,h3,h5,?_⟩;rw [<-jwh ps];exact ⟨r,h4,h2⟩
    ·simp at h1
   ·simp at h1
  ·rintro ⟨l1,h3,h5,h6⟩
   rw [<-jwh ps] at h6;obtain ⟨r,h7,h8⟩:=h6;exact ⟨l1++r,by rw [h3,h7];simp [h5],h8⟩
theorem jAT (k:List A0->Prop):jy6 s [] k=k []:=(rfl)
theorem jyi (o size:Nat) (x:X) (ps:List (Nat×Nat×X)) (k:List A0->Prop):jy6 s ((o,size,x)::ps) k=jcm (s.ev x) size λl=>jy6 s ps λr=>k (l++r):=(rfl)
def joY (s:St):List A0->List (Nat×Nat×X)->(List A0->Prop)->Prop
 |cs,[],k=>k cs
 |cs,(off,size,x)::ps,k=>jcm (s.ev x) size λl=>off+size<=cs.length/\joY s (kI cs off l) ps k
theorem jqw:∀(ps:List (Nat×Nat×X)) (cs:List A0) (k:List A0->Prop),(∃l,jiy s cs ps=some l/\k l)=joY s cs ps k
 |[],cs,k=>by simp [jiy,joY]
 |(o,size,x)::ps,cs,k=>by
  apply propext
  simp only [joY,jcm,jiy];constructor
  ·rintro ⟨l,h1,h2⟩
   split at h1
   ·rename_i l1 h3
    split at h1
    ·rename_i h5
     exact ⟨l1,h3,h5.1,h5.2,by rw [<-jqw ps];exact ⟨l,h1,h2⟩⟩
    ·simp at h1
   ·simp at h1
  ·rintro ⟨l1,h3,h5,h6,h7⟩
   rw [<-jqw ps] at h7;obtain ⟨r,h8,h9⟩:=h7;exact ⟨r,by rw [h3];simp [h5,h6,h8],h9⟩
theorem jx0 (cs:List A0) (k:List A0->Prop):joY s cs [] k=k cs:=(rfl)
theorem jvP (cs:List A0) (off size:Nat) (x:X) (ps:List (Nat×Nat×X)) (k:List A0->Prop):joY s cs ((off,size,x)::ps) k=jcm (s.ev x) size λl=>off+size<=cs.length/\joY s (kI cs off l) ps k:=(rfl)
theorem jzL (zs:List Value) (ps:List (Nat×Nat×X)):vv P β ⟨d,g,.bld zs ps⟩ s K=joY s (zs.map .v) ps λl=>K (s.put d (.agg l)):=by
 have e:=jnh (P:=P) (β:=β) (s:=s) (d:=d) (g:=g) (K:=K) (i:=.bld zs ps) (G:=λav=>∃l,jiy s (zs.map .v) ps=some l/\av=.agg l) rfl (by
  intro _ _ av os;simp only [Gen];constructor
  ·rintro ⟨l,h1,h2,h3⟩;exact ⟨⟨l,h1,h2⟩,h3⟩
  ·rintro ⟨⟨l,h1,h2⟩,h3⟩;exact ⟨l,h1,h2,h3⟩)
 rw [e,<-jqw]
 apply propext
 constructor
 ·rintro ⟨_,⟨l,h1,rfl⟩,h2⟩;exact ⟨l,h1,h2⟩
 ·rintro ⟨l,h1,h2⟩;exact ⟨_,⟨l,h1,rfl⟩,h2⟩
def jtL (ks:List (Option (Nat×Nat))) (cs:List Cell) (k:List D->Prop):Prop:=∃ds,jat ks cs=some ds/\k ds
theorem jAN (ks:List (Option (Nat×Nat))) (k:List D->Prop):jtL ks [] k=k []:=by simp [jtL,jat]
theorem dat_v (ks:List (Option (Nat×Nat))) (x:Value) (l:List Cell) (k:List D->Prop):jtL ks (.a (.v x)::l) k=jtL ks.tail l λr=>k (jrq (ks.head?.getD none) x::r):=by
 simp only [jtL,jat];cases jat ks.tail l<;>simp
theorem jAM (ks:List (Option (Nat×Nat))) (dd:D) (η:jm) (l:List Cell) (k:List D->Prop):jtL ks (.own dd η::l) k=jtL ks.tail l λr=>k (dd::r):=by
 simp only [jtL,jat];cases jat ks.tail l<;>simp
theorem jCm (x:Value):jrq none x=.val x:=(rfl)
theorem jzJ (e size n:Nat) (ks:List (Option (Nat×Nat))) (ps:List (Nat×Nat×X)):vv P β ⟨d,g,.bsl e size n ks ps⟩ s K=jy6 s ps λl=>qM s l λcs s'=>jtL ks cs λds=>∀η,K ((s'.addO [(100*(β+d.getD 0),.loose (.sl size e ds) η)]).put d (.c (.h (100*(β+d.getD 0)) 0 [] (η [])))):=by
 rw [<-jwh];rfl
theorem juD (ty:Nat) (zs:List Value):vv P β ⟨d,g,.alloc ty zs⟩ s K=∀b,K ((s.addO [(100*(β+d.getD 0),.box b ty (zs.map λz=>.a (.v z)))]).put d (.c (.bp (100*(β+d.getD 0)) 0 b))):=by
 apply propext
 constructor
 ·rintro ⟨_,h⟩ b
  obtain ⟨_,_,⟨rfl,rfl⟩,h2⟩:=h ⟨b,λ_ _=>undef⟩
  exact h2
 ·intro h
  exact ⟨.c (.val undef),λst=>⟨_,_,⟨rfl,rfl⟩,h st.blk⟩⟩
def obK (o:Ob) (b:Nat) (k:Nat->List Cell->Prop):Prop:=match o with
 |.box b' ty ds=>b'=b/\k ty ds
 |_=>False
theorem obK_ (b b' ty:Nat) (ds:List Cell) (k:Nat->List Cell->Prop):obK (.box b' ty ds) b k=(b'=b/\k ty ds):=(rfl)
theorem jCj (o:Ob) (b:Nat) (k:Nat->List Cell->Prop):(∃ty ds,o=.box b ty ds/\k ty ds)=obK o b k:=by
 cases o with
 |box b' ty ds=>
  simp only [obK]
  apply propext
  constructor
  ·rintro ⟨_,_,h,h2⟩;cases h;exact ⟨by trivial,h2⟩
  ·rintro ⟨rfl,h2⟩;exact ⟨_,_,rfl,h2⟩
 |_=>simp [obK]
def stA (s':St) (K:St->Prop) (n:Nat) (ks:List (Option (Nat×Nat))) (cs:List Cell):AV->Prop
 |.c (.bp g c b)=>obK (s'.o g) b λty ds=>c+n<=ds.length/\K (s'.setO g (.box b ty (kI ds c cs)))
 |.c (.ep g c p k hx)=>0<n/\jtL ks cs λds=>jjh ((s'.o g).own c) λd0 η=>η p=hx/\jrF (D.get p d0) λdd=>dd.isSl=true/\k+n<=dd.cells.length/\
  stH (jZ ds&&jZ ((dd.cells.drop k).take n)) p k n η λaH=>K (s'.setO g ((s'.o g).putOwn c (D.put p k ds d0) aH))
 |_=>False
theorem jBg (s':St) (n k c b:Nat) (ks:List (Option (Nat×Nat))) (cs:List Cell):stA s' K n ks cs (.c (.bp k c b))=obK (s'.o k) b λty ds=>c+n<=ds.length/\K (s'.setO k (.box b ty (kI ds c cs))):=(rfl)
theorem jBf (s':St) (n k c i:Nat) (p:List Nat) (hx:Value) (ks:List (Option (Nat×Nat))) (cs:List Cell):stA s' K n ks cs (.c (.ep k c p i hx))=(0<n/\jtL ks cs λds=>jjh ((s'.o k).own c) λd0 η=>η p=hx/\jrF (D.get p d0) λdd=>dd.isSl=true/\i+n<=dd.cells.length/\
 stH (jZ ds&&jZ ((dd.cells.drop i).take n)) p i n η λaH=>K (s'.setO k ((s'.o k).putOwn c (D.put p i ds d0) aH))):=rfl
theorem jBA (n:Nat) (ks:List (Option (Nat×Nat))) (a x:X):vv P β ⟨none,g,.st n ks a x⟩ s K=jcm (s.ev x) n λl=>qM s l λcs s'=>stA s' K n ks cs (s.ev a):=by
 have e:vv P β ⟨none,g,.st n ks a x⟩ s K=((none:Option Nat)=none/\∃l,(s.ev x).cells=some l/\l.length=n/\qM s l λcs s'=>match s.ev a with
  |.c (.bp g c b)=>∃ty ds,s'.o g=.box b ty ds/\c+n<=ds.length/\K (s'.setO g (.box b ty (kI ds c cs)))
  |.c (.ep g c p k hx)=>0<n/\∃ds,jat ks cs=some ds/\∃d0 η dd,(s'.o g).own c=some (d0,η)/\η p=hx/\D.get p d0=some dd/\dd.isSl=true/\k+n<=dd.cells.length/\
   stH (jZ ds&&jZ ((dd.cells.drop k).take n)) p k n η λaH=>K (s'.setO g ((s'.o g).putOwn c (D.put p k ds d0) aH))
  |_=>False):=rfl
 rw [e];simp only [true_and,jcm]
 congr 1
 funext l
 congr 2
 congr 1
 funext cs s'
 cases hv:s.ev a with
 |c y=>
  cases y with
  |bp g c b=>simp only [stA,<-jCj]
  |ep g c p k hx=>
   simp only [stA,jtL]
   apply propext
   constructor
   ·rintro ⟨h0,ds,h1,d0,η,dd,h2,h3,h4,h5,h6,h7⟩
    exact ⟨h0,ds,h1,by rw [<-jej];exact ⟨d0,η,h2,h3,by rw [h4];exact ⟨h5,h6,h7⟩⟩⟩
   ·rintro ⟨h0,ds,h1,h2⟩
    rw [<-jej] at h2;obtain ⟨d0,η,h3,h4,h5⟩:=h2;cases hg:D.get p d0 with
    |none=>rw [hg] at h5;exact h5.elim
    |some dd=>rw [hg] at h5;exact ⟨h0,ds,h1,d0,η,dd,h3,h4,hg,h5⟩
  |_=>simp [stA]
 |_=>simp [stA]
theorem joa (d0 d1:D) (η aH:jm):(Ob.loose d0 η).putOwn 0 d1 aH=.loose d1 aH:=(rfl)
theorem jsK (b ty:Nat) (cs:List Cell) (c:Nat) (d1:D) (aH:jm):(Ob.box b ty cs).putOwn c d1 aH=.box b ty (cs.set c (.own d1 aH)):=(rfl)
theorem juv {α:Type} (l:List α) (c:Nat):kI l c []=l:=(rfl)
theorem jsy {α:Type} (l:List α) (c:Nat) (x:α) (r:List α):kI l c (x::r)=kI (l.set c x) (c+1) r:=(rfl)
theorem jzN (e size bytes:Nat) (x y:X):vv P β ⟨d,g,.app e size bytes x y⟩ s K=jwF s size (s.ev y) λys s1=>ji5 s1 e size (s.ev x) λxs s2=>xs.length/size+ys.length/size<=maxLen/\(xs.length/size+ys.length/size)*bytes<=140737488355328/\
 ∀η,K ((s2.addO [(100*(β+d.getD 0),.loose (.sl size e (xs++ys)) η)]).put d (.c (.h (100*(β+d.getD 0)) 0 [] (η [])))):=rfl
theorem jBh (size:Nat) (dd:D) (R:List D->St->Prop):jwF s size (.c (.ro dd)) R=(dd.isSl=true/\dd.size=size/\jZ dd.cells=true/\R dd.cells s):=(rfl)
theorem src_h (size k c:Nat) (p:List Nat) (x:Value) (R:List D->St->Prop):jwF s size (.c (.h k c p x)) R=jjh ((s.o k).own c) λd0 η=>η p=x/\jrF (D.get p d0) λdd=>dd.isSl=true/\dd.size=size/\(if jZ dd.cells=true then R dd.cells s else p=[]/\jjY dd.cells=true/\R dd.cells (s.rm k c)):=by
 rw [<-jAk];rfl
theorem jx9 (e size:Nat) (R:List D->St->Prop):ji5 s e size (.c (.v (.slice none 0 0))) R=R [] s:=(rfl)
def slK (dd:D) (e size:Nat) (k:List D->Prop):Prop:=∃cs,dd=.sl size e cs/\k cs
theorem jwI (e size e' size':Nat) (cs:List D) (k:List D->Prop):slK (.sl size' e' cs) e size k=((size'=size/\e'=e)/\k cs):=by
 simp only [slK]
 apply propext
 constructor
 ·rintro ⟨_,h,h2⟩;cases h;exact ⟨⟨by trivial,by trivial⟩,h2⟩
 ·rintro ⟨⟨rfl,rfl⟩,h⟩;exact ⟨_,rfl,h⟩
theorem jCY (e size k c:Nat) (x:Value) (R:List D->St->Prop):ji5 s e size (.c (.h k c [] x)) R=jjh ((s.o k).own c) λd0 η=>slK d0 e size λcs=>η []=x/\R cs (s.rm k c):=by
 apply propext
 rw [<-jej];simp only [ji5,slK];constructor
 ·rintro (⟨_,cs,η,h1,h2,h3⟩|⟨_,h,_⟩)
  ·exact ⟨_,η,h1,cs,rfl,h2,h3⟩
  ·cases h
 ·rintro ⟨_,η,h1,cs,rfl,h2,h3⟩;exact .inl ⟨trivial,cs,η,h1,h2,h3⟩
theorem jvL:jZ []=true:=(rfl)
theorem jtp (u:Value) (l:List D):jZ (.val u::l)=(u.oneCell'&&jZ l):=(rfl)
theorem vR:∀(l m:List D),jZ (l++m)=(jZ l&&jZ m)
 |[],_=>by simp [jZ]
 |.val u::l,m=>by simp [jZ,vR l m,Bool.and_assoc]
 |.sl _ _ _::l,m=>by simp [jZ]
theorem juB {e size bytes:Nat} {zs:List D} {l c:X}:vv P β ⟨d,g,.mks e size bytes zs l c⟩ s K=∃(k k':IntKind) (n:Nat),s.ev l=.c (.v (.int k (n:Int)))/\s.ev c=.c (.v (.int k' (n:Int)))/\bytes*n<=281474976710656/\n<=maxLen/\
 ∀η,K ((s.addO [(100*(β+d.getD 0),.loose (.sl size e ((List.replicate n zs).flatten)) η)]).put d (.c (.h (100*(β+d.getD 0)) 0 [] (η [])))):=by
 apply propext
 constructor
 ·rintro ⟨_,h⟩
  obtain ⟨_,_,⟨k,k',n,h1,h2,h3,h4,rfl,rfl⟩,_⟩:=h ⟨0,λ_ _=>undef⟩
  refine ⟨k,k',n,h1,h2,h3,h4,λη=>?_⟩
  obtain ⟨_,_,⟨k1,k1',n1,dN,bI,_,_,rfl,rfl⟩,h6⟩:=h ⟨0,λ_=>η⟩
  rw [h1] at dN;cases dN;exact h6
 ·rintro ⟨k,k',n,h1,h2,h3,h4,h5⟩
  exact ⟨.c (.val undef),λst=>⟨_,_,⟨k,k',n,h1,h2,h3,h4,rfl,rfl⟩,h5 (st.η 0)⟩⟩
def bnd (s:St) (x:Option X) (dflt:Nat) (k:Nat->Prop):Prop:=match x with
 |none=>k dflt
 |some x=>∃kk n,s.ev x=.c (.v (.int kk n))/\0<=n/\k n.toNat
def bndA (a:AV) (k:Nat->Prop):Prop:=match a with
 |.c (.v (.int _ n))=>0<=n/\k n.toNat
 |_=>False
theorem bndA_ (kk:IntKind) (n:Int) (k:Nat->Prop):bndA (.c (.v (.int kk n))) k=(0<=n/\k n.toNat):=(rfl)
theorem bnd_n (dflt:Nat) (k:Nat->Prop):bnd s none dflt k=k dflt:=(rfl)
theorem bnd_s (x:X) (dflt:Nat) (k:Nat->Prop):bnd s (some x) dflt k=bndA (s.ev x) k:=by
 simp only [bnd]
 apply propext
 constructor
 ·rintro ⟨kk,n,h1,h2⟩;rw [h1];exact h2
 ·intro h
  unfold bndA at h;split at h
  ·rename_i kk n he;exact ⟨kk,n,he,h⟩
  ·exact h.elim
theorem jkH (x:Option X) (dflt:Nat) (R:Nat->Prop):(∃l,jgZ s x dflt l/\R l)=bnd s x dflt R:=by
 apply propext
 cases x with
 |none=>constructor
        ·rintro ⟨l,rfl,h⟩;exact h
        ·intro h;exact ⟨_,rfl,h⟩
 |some x=>
  constructor
  ·rintro ⟨l,⟨k,h1⟩,h2⟩;exact ⟨k,l,h1,Int.natCast_nonneg _,by simpa using h2⟩
  ·rintro ⟨k,n,h1,h2,h3⟩;exact ⟨n.toNat,⟨k,by rw [h1,Int.toNat_of_nonneg h2]⟩,h3⟩
def slA (d:Option Nat) (s:St) (K:St->Prop) (size:Nat) (lo hi:Option X):AV->Prop
 |.c (.v (.string b))=>size=0/\bnd s lo 0 λl=>bnd s hi b.size λh=>(l<=h/\h<=b.size)/\K (s.put d (.c (.v (.string (b.extract l h)))))
 |.c (.ro dd)=>(0<size/\dd.isSl=true/\dd.size=size)/\bnd s lo 0 λl=>bnd s hi dd.len λh=>(l<=h/\h<=dd.len)/\K (s.put d (.c (.ro (dd.sub l h))))
 |.c (.h k c p x)=>0<size/\jjh ((s.o k).own c) λd0 η=>η p=x/\jrF (D.get p d0) λdd=>(dd.isSl=true/\dd.size=size)/\bnd s lo 0 λl=>bnd s hi dd.len λh=>(l<=h/\h<=dd.len)/\K (s.put d (.c (.hs k c p x size l (h-l))))
 |.c (.hs k c p x sz lo0 m)=>((∃dd,Is s (.hs k c p x sz lo0 m) dd)/\sz=size)/\bnd s lo 0 λl=>bnd s hi m λh=>(l<=h/\h<=m)/\K (s.put d (.c (.hs k c p x size (lo0+l) (h-l))))
 |_=>False
theorem jBB (size:Nat) (x:X) (lo hi:Option X):vv P β ⟨d,g,.sl size x lo hi⟩ s K=slA d s K size lo hi (s.ev x):=by
 have e:=jnh (P:=P) (β:=β) (s:=s) (d:=d) (g:=g) (K:=K) (i:=.sl size x lo hi) (G:=λav=>∃l h,jgZ s lo 0 l/\l<=h/\(match s.ev x with
  |.c (.v (.string b))=>size=0/\jgZ s hi b.size h/\h<=b.size/\av=.c (.v (.string (b.extract l h)))
  |.c (.ro d)=>0<size/\d.isSl=true/\d.size=size/\jgZ s hi d.len h/\h<=d.len/\av=.c (.ro (d.sub l h))
  |.c (.h g c p hx)=>0<size/\(∃d,Is s (.h g c p hx) d/\d.size=size/\jgZ s hi d.len h/\h<=d.len)/\av=.c (.hs g c p hx size l (h-l))
  |.c (.hs g c p hx sz lo m)=>(∃d,Is s (.hs g c p hx sz lo m) d)/\sz=size/\jgZ s hi m h/\h<=m/\av=.c (.hs g c p hx size (lo+l) (h-l))
  |_=>False)) rfl (by
  intro _ _ av os;simp only [Gen];constructor
  ·rintro ⟨l,h,h1,h2,h3,h4⟩;exact ⟨⟨l,h,h1,h2,h3⟩,h4⟩
  ·rintro ⟨⟨l,h,h1,h2,h3⟩,h4⟩;exact ⟨l,h,h1,h2,h3,h4⟩)
 rw [e]
 apply propext
 cases hv:s.ev x with
 |c y=>
  cases y with
  |v u=>
   cases u with
   |string b=>
    simp only [slA,<-jkH];constructor
    ·rintro ⟨_,⟨l,h,h1,h2,h3,h4,h5,rfl⟩,h6⟩;exact ⟨h3,l,h1,h,h4,⟨h2,h5⟩,h6⟩
    ·rintro ⟨h3,l,h1,h,h4,⟨h2,h5⟩,h6⟩;exact ⟨_,⟨l,h,h1,h2,h3,h4,h5,rfl⟩,h6⟩
   |_=>simp [slA]
  |ro dd=>
   simp only [slA,<-jkH];constructor
   ·rintro ⟨_,⟨l,h,h1,h2,h3,h4,h5,h6,h7,rfl⟩,h8⟩;exact ⟨⟨h3,h4,h5⟩,l,h1,h,h6,⟨h2,h7⟩,h8⟩
   ·rintro ⟨⟨h3,h4,h5⟩,l,h1,h,h6,⟨h2,h7⟩,h8⟩;exact ⟨_,⟨l,h,h1,h2,h3,h4,h5,h6,h7,rfl⟩,h8⟩
  |h k c p hx=>
   simp only [slA];constructor
   ·rintro ⟨_,⟨l,h,h1,h2,h3,⟨dd,⟨d0,η,k1,k2,k3,k4⟩,k5,k6,k7⟩,rfl⟩,h8⟩
    refine ⟨h3,?_⟩;rw [<-jej];refine ⟨d0,η,k1,k2,?_⟩;rw [k3];refine ⟨⟨k4,k5⟩,?_⟩;rw [<-jkH];refine ⟨l,h1,?_⟩;rw [<-jkH];exact ⟨h,k6,⟨h2,k7⟩,h8⟩
   ·rintro ⟨h3,h4⟩
    rw [<-jej] at h4;obtain ⟨d0,η,k1,k2,k3⟩:=h4;cases hg:D.get p d0 with
    |none=>rw [hg] at k3;exact k3.elim
    |some dd=>
     rw [hg] at k3;obtain ⟨⟨k4,k5⟩,k6⟩:=k3;rw [<-jkH] at k6;obtain ⟨l,h1,k7⟩:=k6;rw [<-jkH] at k7;obtain ⟨h,k8,⟨h2,k9⟩,h8⟩:=k7;exact ⟨_,⟨l,h,h1,h2,h3,⟨dd,⟨d0,η,k1,k2,hg,k4⟩,k5,k8,k9⟩,rfl⟩,h8⟩
  |hs k c p hx sz lo0 m=>
   simp only [slA,<-jkH];constructor
   ·rintro ⟨_,⟨l,h,h1,h2,h3,h4,h5,h6,rfl⟩,h7⟩;exact ⟨⟨h3,h4⟩,l,h1,h,h5,⟨h2,h6⟩,h7⟩
   ·rintro ⟨⟨h3,h4⟩,l,h1,h,h5,⟨h2,h6⟩,h7⟩;exact ⟨_,⟨l,h,h1,h2,h3,h4,h5,h6,rfl⟩,h7⟩
  |_=>simp [slA]
 |_=>simp [slA]
theorem jBk (size:Nat) (lo hi:Option X) (dd:D):slA d s K size lo hi (.c (.ro dd))=((0<size/\dd.isSl=true/\dd.size=size)/\bnd s lo 0 λl=>bnd s hi dd.len λh=>(l<=h/\h<=dd.len)/\K (s.put d (.c (.ro (dd.sub l h))))):=(rfl)
theorem slA_h (size:Nat) (lo hi:Option X) (k c:Nat) (p:List Nat) (x:Value):slA d s K size lo hi (.c (.h k c p x))=(0<size/\jjh ((s.o k).own c) λd0 η=>η p=x/\jrF (D.get p d0) λdd=>(dd.isSl=true/\dd.size=size)/\bnd s lo 0 λl=>bnd s hi dd.len λh=>(l<=h/\h<=dd.len)/\K (s.put d (.c (.hs k c p x size l (h-l))))):=(rfl)
theorem is_hs (k c:Nat) (p:List Nat) (x:Value) (sz lo n:Nat) (R:D->Prop):(∃d,Is s (.hs k c p x sz lo n) d/\R d)=jjh ((s.o k).own c) λd0 η=>η p=x/\jrF (D.get p d0) λdd=>(dd.isSl=true/\dd.size=sz/\0<sz/\lo+n<=dd.len)/\R (dd.sub lo (lo+n)):=by
 apply propext
 rw [<-jej];constructor
 ·rintro ⟨d,⟨d0,η,dd,h1,h2,h3,h4,h5,h6,h7,rfl⟩,h8⟩;exact ⟨d0,η,h1,h2,by rw [h3];exact ⟨⟨h4,h5,h6,h7⟩,h8⟩⟩
 ·rintro ⟨d0,η,h1,h2,h3⟩
  cases h:D.get p d0 with
  |none=>rw [h] at h3;exact h3.elim
  |some dd=>rw [h] at h3;obtain ⟨⟨h4,h5,h6,h7⟩,h8⟩:=h3;exact ⟨_,⟨d0,η,dd,h1,h2,h,h4,h5,h6,h7,rfl⟩,h8⟩
theorem jBi (size k c:Nat) (p:List Nat) (x:Value) (sz lo n:Nat) (R:List D->St->Prop):jwF s size (.c (.hs k c p x sz lo n)) R=jjh ((s.o k).own c) λd0 η=>η p=x/\jrF (D.get p d0) λdd=>(dd.isSl=true/\dd.size=sz/\0<sz/\lo+n<=dd.len)/\(dd.sub lo (lo+n)).size=size/\jZ (dd.sub lo (lo+n)).cells=true/\R (dd.sub lo (lo+n)).cells s:=
 is_hs (s:=s) k c p x sz lo n λd=>d.size=size/\jZ d.cells=true/\R d.cells s
theorem jAe (k c:Nat) (p:List Nat) (x:Value) (sz lo n:Nat):jyS d s K false (.c (.hs k c p x sz lo n))=((∃dd,Is s (.hs k c p x sz lo n) dd)/\K (s.put d (.c (.v (.int .i64 n))))):=by
 rw [jvj]
 apply propext
 constructor
 ·rintro ⟨_,⟨h1,rfl⟩,h2⟩;exact ⟨h1,h2⟩
 ·rintro ⟨h1,h2⟩;exact ⟨_,⟨h1,rfl⟩,h2⟩
theorem jCB (size k c:Nat) (p:List Nat) (hx:Value) (sz lo m:Nat) (kk:IntKind) (n:Int):iaK d s K size (.c (.hs k c p hx sz lo m)) (.c (.v (.int kk n)))=((0<=n/\(∃dd,Is s (.hs k c p hx sz lo m) dd)/\sz=size/\n.toNat<m)/\K (s.put d (.c (.ep k c p ((lo+n.toNat)*size) hx)))):=(rfl)
theorem ret_r (rs:List R) (rt:RT):jxj rs rt .ret s=jyu rs rt s:=(rfl)
def St.n (s:St) (i:Nat):Nat:=match s.t i with|.c (.v (.int _ n))=>n.toNat|_=>0
theorem je1 {i:Nat} {k:IntKind} {n:Int} (h:s.t i=.c (.v (.int k n))):s.n i=n.toNat:=by simp [St.n,h]
theorem qE {x:Int} (h:-9223372036854775808<=x) (h':x<9223372036854775808):IntKind.i64.wrap x=x:=IntWalk.i64_in _ (by omega)
theorem is_v (x:Value):Is s (.v x) (.val x)=True:=by simp [Is]
theorem is_ro (d:D):Is s (.ro d) d=True:=by simp [Is]
theorem jyT (size:Nat) (ty:TypeId):Is s (.v (.slice none 0 0)) (.sl size ty [])=True:=by simp [Is]
theorem jAl:IsL s [] []=True:=(rfl)
theorem jxH (a:A0) (l:List A0) (d:D) (ds:List D):IsL s (a::l) (d::ds)=(Is s a d/\IsL s l ds):=(rfl)
theorem jyr:zS s [] []=True:=(rfl)
theorem jwx (a:AV) (l:List AV) (v:View) (vs:List View):zS s (a::l) (v::vs)=(jlo s a v/\zS s l vs):=(rfl)
theorem arg_c (a:A0) (d:D):jlo s (.c a) (.c d)=Is s a d:=(rfl)
theorem jAX (l:List A0) (ds:List D):jlo s (.agg l) (.agg ds)=IsL s l ds:=(rfl)
theorem jAW (a:A0) (ds:List D):jlo s (.c a) (.ptr ds)=Ptr s a ds:=(rfl)
theorem jDe (f:Nat) (caps:List A0) (caps':List (List D)):jlo s (.fn f caps) (.fn f caps')=jyv s caps caps':=by simp [jlo]
theorem jxp:jyv s [] []=True:=(rfl)
theorem juY (a:A0) (l:List A0) (d:List D) (ds:List (List D)):jyv s (a::l) (d::ds)=(Ptr s a d/\jyv s l ds):=(rfl)
theorem jB2 (ds:List D):Ptr s (.rp ds) ds=True:=by simp [Ptr]
theorem is_h0 (k c:Nat) (x:Value) (d:D):Is s (.h k c [] x) d=jjh ((s.o k).own c) λd0 η=>d0=d/\η []=x/\d.isSl=true:=by
 apply propext
 rw [<-jej];simp only [Is,jb8];constructor
 ·rintro ⟨d0,η,h1,h2,h3,h4⟩;cases h3;exact ⟨_,η,h1,rfl,h2,h4⟩
 ·rintro ⟨_,η,h1,rfl,h2,h3⟩;exact ⟨_,η,h1,h2,rfl,h3⟩
theorem jjp {k c:Nat} {x:Value} {ty:Nat} {cs:List D} {η:jm} {bs:List UInt8} (h1:(s.o k).own c=some (.sl 1 ty cs,η)) (h2:η []=x) (h3:cs=bs.map vt) (hk:K (s.put d (.c (.v (.string ⟨bs.toArray⟩))))):cvK d s K .text (.c (.h k c [] x)):=by
 subst h3;exact ⟨_,⟨_,ty,bs,rfl,⟨_,η,h1,h2,jb8 _,rfl⟩,rfl⟩,hk⟩
end
theorem jx6 (s:Nat) (t:TypeId) (cs:List D):(D.sl s t cs).size=s:=(rfl)
theorem jv6 (s:Nat) (t:TypeId) (cs:List D):(D.sl s t cs).cells=cs:=(rfl)
theorem jCS (s:Nat) (t:TypeId) (cs:List D):(D.sl s t cs).isSl=true:=(rfl)
theorem jAE (s:Nat) (t:TypeId) (cs:List D) (g:Nat) (η:jm):(D.sl s t cs).obj g η=[(g,.loose (.sl s t cs) η)]:=(rfl)
theorem jCU (v:Value) (g:Nat) (η:jm):(D.val v).obj g η=[]:=(rfl)
theorem jAD (s:Nat) (t:TypeId) (cs:List D) (g c:Nat) (p:List Nat) (η:jm):(D.sl s t cs).toOwn g c p η=.h g c p (η p):=(rfl)
theorem jCT (v:Value) (g c:Nat) (p:List Nat) (η:jm):(D.val v).toOwn g c p η=.v v:=(rfl)
theorem jAB (s:Nat) (t:TypeId) (cs:List D) (l h:Nat):(D.sl s t cs).sub l h=.sl s t ((cs.drop (l*s)).take ((h-l)*s)):=(rfl)
attribute [go_sem] jx6 jv6 jCS jAE jCU jAD jCT jAB jzi jzQ jzO jzP jBI jBJ jBK jBL jBM jBV jBW jBX jBY jvr jtd jvs jte jAh jAi jzx juy I.looks AV.looks A0.looks AV.ids A0.ids List.flatMap_cons List.flatMap_nil List.append_nil List.contains_cons List.contains_nil Bool.or_false Bool.or_true Bool.or_self Bool.false_or Bool.true_or ite_true ite_false jBB jBk slA_h bnd_n bnd_s bndA_ jBi jAe jCB jCm joa jsK List.tail_cons List.head?_cons Nat.zero_add jwL jA3 jpB jyy jwM jzh jtQ jtR thn_n thn_e thn_r blk_n blk_r blk_e jxd juC jzD jzE jzF jzG jzz jxc jB5 jBG jCH jCJ jCI jBD jCs jCt jAf ldB_ ldV_t ldV_f jBE jCA jAt jzB jAd jxE jxG jxF jzM jC9 jyn jBz jzm jBH jAO jBC mmK_ jzH extK_ jCK jCL jxb jBv jzK jyk jC7 jzJ jzL juD jBA jBg jzN jBh src_h jx9 jCY jwI ownK_ getK_ jb8 ju7 jz2 ownC_ rm_o rm_t jsX jxu jzT obK_ jwf jAS jAT jyi jx0 jvP jAN dat_v jAM juv jsy jvL jtp vR jwV jBa jzn jwU one_i one_b one_s one_n A0.c1 ev_t ev_i ev_b ev_s ev_n put_t put_o jBx jBy jyt jwD jCv jCw View.av jBN jxJ jfV jdW ret_r is_v is_ro jyT jAl jxH jyr jwx arg_c jAX jAW jDe jxp juY jB2 is_h0 RT.flat jkP RT.av jB9 jDo List.map_cons List.map_nil List.length_cons List.length_nil List.take_succ_cons List.take_zero List.drop_succ_cons List.drop_zero List.getElem?_cons_zero List.getElem?_cons_succ List.set_cons_zero List.set_cons_succ List.cons_append List.nil_append Option.getD_some Nat.lt_add_one and_true true_and and_self forall_const imp_self implies_true ge_iff_le gt_iff_lt decide_true decide_false Bool.not_true Bool.not_false Bool.and_self Bool.false_eq_true Int.toNat_natCast Int.natCast_nonneg not_false_eq_true ne_eq
attribute [go_sem_proc] Nat.reduceEqDiff Nat.reduceMul Nat.reduceAdd Nat.reduceLeDiff Nat.reduceLT Nat.reduceBEq Nat.reduceSub reduceCtorEq Int.reduceEq
attribute [go_sem_proc↓] reduceIte
section
variable {P:Program} {β:Nat} {s:St} {Q Q':Ex->St->Prop}
theorem jjJ:∀{is:List Ins} {s:St} {K K':St->Prop},(∀s,K s->K' s)->jg5 P β is s K->jg5 P β is s K'
 |[],_,_,_,h,hk=>h _ hk
 |i::l,s,K,K',h,hk=>by
  simp only [jg5] at hk⊢;split
  ·rename_i hw;simp only [hw] at hk;exact jfG (λs'=>jjJ h) hk
  ·rename_i hw;simp only [hw] at hk;exact jjJ h hk
  ·rename_i hw;simp only [hw] at hk
theorem jbE:∀{t:T} {l:List (Nat×List Lk)} {s:St} {K K':St->Prop},(∀s,K s->K' s)->zz P β t l s K->zz P β t l s K'
 |.done,_,_,_,_,h,hk=>h _ hk
 |.stop,_,_,_,_,_,_=>trivial
 |.pure p i t,l,s,K,K',h,hk=>by
  simp only [zz] at hk⊢;split
  ·rename_i hw;simp only [hw] at hk;exact jfG (λs'=>jbE h) hk
  ·rename_i hw;simp only [hw] at hk;exact jbE h hk
  ·rename_i hw;simp only [hw] at hk
 |.alt i chk t r,l,s,K,K',h,hk=>by
  simp only [zz] at hk⊢;refine ⟨?_,jbE h hk.2⟩;have hk:=hk.1;split
  ·rename_i hw;simp only [hw] at hk;exact jfG (λs' ⟨h1,h2⟩=>⟨h1,jbE h h2⟩) hk
  ·rename_i hw;simp only [hw] at hk;exact jbE h hk
  ·rename_i hw;simp only [hw] at hk
theorem jfA {n n':St->Prop} (hn:∀s,n s->n' s) (hQ:∀e s,Q e s->Q' e s):∀e s,Ex.thn n Q e s->Ex.thn n' Q' e s
 |.normal,_,h=>hn _ h
 |.exit _,_,h=>hQ _ _ h
 |.ret,_,h=>hQ _ _ h
theorem jyl {id:Nat} (hQ:∀e s,Q e s->Q' e s):∀e s,Ex.inBlk id Q e s->Ex.inBlk id Q' e s
 |.normal,_,h=>hQ _ _ h
 |.exit id',_,h=>by
  simp only [Ex.inBlk] at h⊢;by_cases e:id'=id
  ·rw [if_pos e] at h⊢;exact hQ _ _ h
  ·rw [if_neg e] at h⊢;exact hQ _ _ h
 |.ret,_,h=>hQ _ _ h
theorem zT:∀(c:C) {s:St} {Q Q':Ex->St->Prop},(∀e s,Q e s->Q' e s)->wpC P β c Q s->wpC P β c Q' s
 |.skip,_,_,_,h,hk=>h _ _ hk
 |.reg _,_,_,_,h,hk=>jjJ (λ_=>h _ _) hk
 |.dreg _,_,_,_,h,hk=>jbE (λ_=>h _ _) hk
 |.seq a b,s,Q,Q',h,hk=>by
  rw [jpB] at hk⊢;exact zT a (jfA (λ_=>zT b h) h) hk
 |.cond x a b,_,_,_,h,⟨t,h1,h2,h3⟩=>⟨t,h1,λht=>zT a h (h2 ht),λht=>zT b h (h3 ht)⟩
 |.blk id a,s,Q,Q',h,hk=>by
  rw [jyy] at hk⊢;exact zT a (jyl h) hk
 |.loop a,_,_,_,h,⟨ι,mk,J,μ,h1,h2⟩=>⟨ι,mk,J,μ,h1,λi hi=>zT a (jfA (λ_ h=>h) h) (h2 i hi)⟩
 |.gh a,_,_,_,h,hk=>λ_ _ _ _ _ _ hr=>let ⟨s',F',h1,h2⟩:=hk _ _ _ _ _ _ hr;⟨s',F',h1,zT a h h2⟩
 |.exit _,_,_,_,h,hk=>h _ _ hk
 |.ret,_,_,_,h,hk=>h _ _ hk
theorem Wk.refl (s:St):Wk s s:=λ_ _ _ _ _ F h=>⟨F,h,λg b hb=>⟨g,hb⟩⟩
theorem vV {a:C} {s:St} (J:St->Prop) (μ:St->Nat) (h:J s) (hr:∀s,J s->wpC P β a (Ex.thn (λs'=>J s'/\μ s'<μ s) Q) s):wpC P β (.loop a) Q s:=by
 refine ⟨St,id,J,μ,⟨s,h,.refl s⟩,λs hs=>zT a (jfA (λs' ⟨h1,h2⟩=>⟨s',h1,.refl s',h2⟩) λ_ _ h=>h) (hr s hs)⟩
theorem jvn {p:Nat->Prop} (h:∃n,p n):∃n,p n/\∀m,p m->n<=m:=by
 obtain ⟨n,hn⟩:=h
 induction n using Nat.strongRecOn with
 |_ n ih=>
  by_cases hm:∃m,m<n/\p m
  ·obtain ⟨m,h1,h2⟩:=hm
   exact ih m h1 h2
  ·exact ⟨n,hn,λm hp=>Nat.le_of_not_lt λaB=>hm ⟨m,aB,hp⟩⟩
def rounds (P:Program) (β:Nat) (a:C) (Q:Ex->St->Prop):Nat->St->Prop
 |0,_=>False
 |n+1,s=>wpC P β a (Ex.thn (rounds P β a Q n) Q) s
open Classical in
theorem jtP {a:C} {n:Nat} (h:rounds P β a Q n s):wpC P β (.loop a) Q s:=by
 refine vV (λs=>∃n,rounds P β a Q n s) (λs=>if h:∃n,rounds P β a Q n s then Classical.choose (jvn h) else 0) ⟨n,h⟩ ?_
 intro s hs;obtain ⟨h1,h0⟩:=Classical.choose_spec (jvn hs)
 obtain ⟨m,hm⟩:∃m,Classical.choose (jvn hs)=m+1:=by
  cases hq:Classical.choose (jvn hs) with
  |zero=>rw [hq] at h1;exact h1.elim
  |succ m=>exact ⟨m,rfl⟩
 rw [hm] at h1;refine zT _ (jfA (λs' h2=>⟨⟨m,h2⟩,?_⟩) λ_ _ h=>h) h1
 have h3:∃n,rounds P β a Q n s':=⟨m,h2⟩;have h4:=(Classical.choose_spec (jvn h3)).2 m h2;simp only [dif_pos hs,dif_pos h3,hm];omega
theorem jab {a:C} {s:St} (n:Nat) (h:wpC P β a (Ex.thn (rounds P β a Q n) Q) s):wpC P β (.loop a) Q s:=jtP (n:=n+1) h
theorem jzR (a:C) (n:Nat):rounds P β a Q (n+1) s=wpC P β a (Ex.thn (rounds P β a Q n) Q) s:=(rfl)
theorem jtS {t:Nat} {w:Bool} (h:s.t t=.c (.v undef)):zf s (some (t,w))=some false:=by
 simp only [zf,h];rfl
theorem jBF {t:Nat} {w:Bool} {d:Option Nat} {K:St->Prop} (i:I) (l:List Ins) (h:s.t t=.c (.v undef)):jg5 P β (⟨d,some (t,w),i⟩::l) s K=jg5 P β l (s.put d (.c (.v undef))) K:=by
 simp only [jg5,jtS h]
theorem rt_gu {t p:Nat} {w:Bool} {d:Option Nat} {l:List (Nat×List Lk)} {K:St->Prop} (i:I) (t':T) (h:s.t t=.c (.v undef)):zz P β (.pure p ⟨d,some (t,w),i⟩ t') l s K=zz P β t' l (s.put d (.c (.v undef))) K:=by
 simp only [zz,jtS h]
theorem ra_gu {t:Nat} {w:Bool} {d:Option Nat} {l:List (Nat×List Lk)} {K:St->Prop} (i:I) (chk:List Nat) (t' r:T) (h:s.t t=.c (.v undef)):zz P β (.alt ⟨d,some (t,w),i⟩ chk t' r) l s K=(zz P β t' l (s.put d (.c (.v undef))) K/\zz P β r l s K):=by
 simp only [zz,jtS h]
theorem jvw:IsD [] []=True:=by simp [IsD]
theorem jAn (x:Value) (l:List Cell) (d:D) (ds:List D):IsD (.a (.v x)::l) (d::ds)=((d=.val x\/x=.slice none 0 0/\∃size ty,d=.sl size ty [])/\IsD l ds):=rfl
theorem jAm (x:Value) (l:List Cell) (ds:List D):IsD (.a (.v x)::l) (.val x::ds)=IsD l ds:=by rw [jAn];simp
theorem isD_1 (x u:Value):IsD [.a (.v x)] [.val u]=(x=u):=by
 rw [jAn];simp only [jvw];apply propext;constructor
 ·rintro ⟨h|⟨_,_,_,h⟩,_⟩
  ·cases h;rfl
  ·cases h
 ·rintro rfl;exact ⟨.inl rfl,trivial⟩
theorem jnd (l:List Cell) (size:Nat) (ty:TypeId) (ds:List D):IsD (.a (.v (.slice none 0 0))::l) (.sl size ty []::ds)=IsD l ds:=by rw [jAn];simp
theorem jAo (d d':D) (η:jm) (l:List Cell) (ds:List D):IsD (.own d' η::l) (d::ds)=(d'=d/\IsD l ds):=(rfl)
def juO (s:St):RT->AV->Prop
 |.c d,.c a=>qM s [a] λcs _=>IsD cs [d]
 |.agg ds,.agg l=>qM s l λcs _=>IsD cs ds
 |_,_=>False
theorem jBS (d:D) (a:A0):juO s (.c d) (.c a)=qM s [a] λcs _=>IsD cs [d]:=(rfl)
theorem jxk (ds:List D) (l:List A0):juO s (.agg ds) (.agg l)=qM s l λcs _=>IsD cs ds:=(rfl)
theorem ret_t (n:Nat) (rt:RT):jyu [.t n] rt s=juO s rt (s.t n):=by
 apply propext
 simp only [jyu,jis];cases h:s.t n with
 |c a=>cases rt<;>simp [juO,ja0,RT.flat]
 |agg l=>cases rt<;>simp [juO,ja0,RT.flat]
 |_=>cases rt<;>simp [juO]
def jpQ (s:St) (agg:Bool) (k:Nat) (rt:RT) (a:AV):Prop:=∃l,jav s k l a/\(agg=true\/l.length=1)/\ja0 rt [(agg,l)]/\qM s ([(agg,l)].flatMap (·.2)) λcs _=>IsD cs rt.flat
theorem jxi (n k:Nat) (agg:Bool) (rt:RT):jyu [.cell n agg k] rt s=jpQ s agg k rt (s.t n):=(rfl)
theorem jsE (k g c b:Nat) (agg:Bool) (rt:RT):jpQ s agg k rt (.c (.bp g c b))=ldB (s.o g) g c b k λl=>ldV agg l λv=>juO s rt v:=by
 apply propext
 simp only [jpQ,jav];cases ho:s.o g with
 |box b' ty cs=>
  simp only [ldB,Ob.box.injEq];constructor
  ·rintro ⟨l,⟨_,_,⟨rfl,rfl,rfl⟩,h2,rfl⟩,h3,h4,h5⟩
   refine ⟨rfl,h2,?_⟩;cases agg with
   |true=>cases rt<;>simp_all [ldV,juO,ja0,RT.flat]
   |false=>
    obtain ⟨a,ha⟩:=List.length_eq_one_iff.1 (by simpa using h3)
    rw [ha] at h4 h5⊢;cases rt<;>simp_all [ldV,juO,ja0,RT.flat]
  ·rintro ⟨rfl,h2,h3⟩
   refine ⟨_,⟨ty,cs,⟨rfl,rfl,rfl⟩,h2,rfl⟩,?_⟩;cases agg with
   |true=>cases rt<;>simp_all [ldV,juO,ja0,RT.flat]
   |false=>
    generalize jdW g c ((cs.drop c).take k)=l at h3⊢
    match l,h3 with
    |[a],h3=>cases rt<;>simp_all [ldV,juO,ja0,RT.flat]
 |_=>simp [ldB]
theorem ri_r (rs:List R) (K:AV->(Nat->Ob)->Prop):jDq rs K .ret s=jtM rs K s:=(rfl)
theorem ri_n (rs:List R) (K:AV->(Nat->Ob)->Prop):jDq rs K .normal s=jtM rs K s:=(rfl)
def retI (s:St) (K:AV->(Nat->Ob)->Prop):AV->Prop
 |.c a=>K (.c a) s.o
 |.agg l=>K (.agg l) s.o
 |_=>False
theorem jBR (K:AV->(Nat->Ob)->Prop) (a:A0):retI s K (.c a)=K (.c a) s.o:=(rfl)
theorem jBP (n:Nat) (K:AV->(Nat->Ob)->Prop):jtM [.t n] K s=retI s K (s.t n):=by
 simp only [jtM,jis];cases h:s.t n<;>simp [retI]
theorem jBQ (K:AV->(Nat->Ob)->Prop):jtM [] K s=K (.tup []) s.o:=(rfl)
def jmH (s:St) (agg:Bool) (k:Nat) (K:AV->(Nat->Ob)->Prop) (a:AV):Prop:=∃l,jav s k l a/\(agg=true\/l.length=1)/\(match [(agg,l)] with
 |[(true,l)]=>K (.agg l) s.o
 |[(false,[a])]=>K (.c a) s.o
 |[]=>K (.tup []) s.o
 |p::q::r=>K (.tup (p::q::r)) s.o
 |_=>False)
theorem juL (n k:Nat) (agg:Bool) (K:AV->(Nat->Ob)->Prop):jtM [.cell n agg k] K s=jmH s agg k K (s.t n):=(rfl)
theorem jpP (k g c b:Nat) (agg:Bool) (K:AV->(Nat->Ob)->Prop):jmH s agg k K (.c (.bp g c b))=ldB (s.o g) g c b k λl=>ldV agg l λv=>K v s.o:=by
 apply propext
 simp only [jmH,jav];cases ho:s.o g with
 |box b' ty cs=>
  simp only [ldB,Ob.box.injEq];constructor
  ·rintro ⟨l,⟨_,_,⟨rfl,rfl,rfl⟩,h2,rfl⟩,h3,h4⟩
   refine ⟨rfl,h2,?_⟩;cases agg with
   |true=>exact h4
   |false=>
    obtain ⟨a,ha⟩:=List.length_eq_one_iff.1 (by simpa using h3)
    rw [ha] at h4⊢;exact h4
  ·rintro ⟨rfl,h2,h3⟩
   refine ⟨_,⟨ty,cs,⟨rfl,rfl,rfl⟩,h2,rfl⟩,?_⟩;cases agg with
   |true=>exact ⟨.inl rfl,h3⟩
   |false=>
    generalize jdW g c ((cs.drop c).take k)=l at h3⊢
    match l,h3 with
    |[a],h3=>exact ⟨.inr rfl,h3⟩
 |_=>simp [ldB]
theorem jzr (args:List AV) (o:Nat->Ob) (n:Nat):(St.start args o).t n=(args[n]?).getD .unk:=(rfl)
theorem jzs (args:List AV) (o:Nat->Ob):(St.start args o).o=o:=(rfl)
end
theorem jfv (n:Int) (h:-1000000000000000<=n) (h':n<1000000000000000):IntKind.i64.wrap n=n:=qE (by omega) (by omega)
attribute [go_sem_proc] Int.reduceBEq Int.reduceBNe Nat.reduceBNe Int.reduceAdd Int.reduceSub Int.reduceMul Int.reduceLE Int.reduceLT Int.reduceGE Int.reduceGT Int.reduceTMod Int.reduceTDiv Int.reduceNe Int.reduceNeg Int.reduceToNat Nat.reduceDiv Nat.reduceMod Nat.reducePow Int.reduceNegSucc
attribute [go_sem] Int.cast_ofNat_Int jBF rt_gu ra_gu jzR jvw isD_1 jAm jnd jAo jzr jzs ri_r ri_n jBR jBP jBQ juL jpP ret_t jxi jsE jBS jxk
section
variable {P:Program} {f:FuncId}
theorem jA4 {w:World} {v1 v2:View} {xs:List Value} (h:jaa w [v1,v2] xs):∃a b,xs=[a,b]/\ViewRel w v1 a/\ViewRel w v2 b:=by
 obtain ⟨a,_,rfl,h1,b,_,rfl,h2,h3⟩:=h;rw [show _=_ from h3]
 exact ⟨a,b,rfl,h1,h2⟩
theorem jA5 {w:World} {v1:View} {xs:List Value} (h:jaa w [v1] xs):∃a,xs=[a]/\ViewRel w v1 a:=by
 obtain ⟨a,_,rfl,h1,h3⟩:=h;rw [show _=_ from h3]
 exact ⟨a,rfl,h1⟩
theorem jpV {v1 v2:View} {u:Value} (hn:jpx P f) (h:∀w a b,ViewRel w v1 a->ViewRel w v2 b->Calls P f #[a,b] w λe w'=>e=.returned u/\Below w.heap.size w w'):kg P f [v1,v2] (.c (.val u)):=by
 refine ⟨hn,λw xs hv=>?_⟩
 obtain ⟨a,b,rfl,h1,h2⟩:=jA4 hv;exact (h w a b h1 h2).mono λe w' ⟨he,hb⟩=>⟨u,[],he,⟨rfl,rfl⟩,Fresh.nil _,hb⟩
theorem jB1 {v1:View} {u:Value} (hn:jpx P f) (h:∀w a,ViewRel w v1 a->Calls P f #[a] w λe w'=>e=.returned u/\Below w.heap.size w w'):kg P f [v1] (.c (.val u)):=by
 refine ⟨hn,λw xs hv=>?_⟩
 obtain ⟨a,rfl,h1⟩:=jA5 hv;exact (h w a h1).mono λe w' ⟨he,hb⟩=>⟨u,[],he,⟨rfl,rfl⟩,Fresh.nil _,hb⟩
theorem jjN {ds:List D} (hn:jpx P f) (h:∀w,Calls P f #[] w (jwG w ds)):kg P f [] (.agg ds):=by
 refine ⟨hn,λw xs hv=>?_⟩
 rw [show xs=[] from hv]
 exact (h w).mono λe w' h=>h
theorem jba {w:World} {u a:Value} (h:ViewRel w (.c (.val u)) a):a=u:=by obtain ⟨S,h1,_⟩:=h;exact h1
end
attribute [go_sem] and_false false_and
def jcF:jm
 |[]=>.slice none 0 0
 |_::_=>undef
def A0.sim:A0->A0->Prop
 |.v x,.v y=>x=y
 |.v x,.h _ _ _ y=>x=y/\x.oneCell'=true
 |.h _ _ _ x,.h _ _ _ y=>x=y
 |.bp _ c b,.bp _ c' b'=>c=c'/\b=b'
 |.ep _ _ _ i x,.ep _ _ _ i' x'=>i=i'/\x=x'
 |.hs _ _ _ x s l n,.hs _ _ _ y s' l' n'=>x=y/\s=s'/\l=l'/\n=n'
 |.ro d,.ro d'=>d=d'
 |.rp ds,.rp ds'=>ds=ds'
 |.un,.un=>True
 |_,_=>False
def simL:List A0->List A0->Prop
 |[],[]=>True
 |a::l,b::m=>a.sim b/\simL l m
 |_,_=>False
def AV.sim:AV->AV->Prop
 |.c a,.c b=>a.sim b
 |.agg l,.agg m=>simL l m
 |.fn f l,.fn f' m=>f=f'/\simL l m
 |.tup l,.tup m=>l=m
 |_,.unk=>True
 |_,_=>False
def Cell.sim:Cell->Cell->Prop
 |.a x,.a y=>x.sim y
 |.own d η,.own d' aH=>d=d'/\η=aH
 |.a (.v x),.own d η=>x=.slice none 0 0/\d.isSl=true/\d.cells=[]/\η=jcF
 |_,_=>False
def simC:List Cell->List Cell->Prop
 |[],[]=>True
 |a::l,b::m=>a.sim b/\simC l m
 |_,_=>False
def Ob.sim:Ob->Ob->Prop
 |.loose d η,.loose d' aH=>d=d'/\η=aH
 |.box b ty cs,.box b' ty' cs'=>b=b'/\ty=ty'/\simC cs cs'
 |.none,.none=>True
 |_,_=>False
def nilOb:Ob->Prop
 |.loose d η=>d.isSl=true/\d.cells=[]/\η=jcF
 |_=>False
def lkT:List (Nat×AV)->Nat->AV
 |[],_=>.unk
 |(k,v)::T,n=>if n=k then v else lkT T n
def lkO:List (Nat×Ob)->Nat->Ob
 |[],_=>.none
 |(k,v)::T,n=>if n=k then v else lkO T n
def St.of (T:List (Nat×AV)) (O:List (Nat×Ob)):St:=⟨lkT T,lkO O⟩
def jxY (s:St):List (Nat×AV)->Prop
 |[]=>True
 |(n,v)::T=>(s.t n).sim v/\jxY s T
def jqs (s:St):List (Option Nat)->List (Nat×Ob)->Prop
 |[],[]=>True
 |some k::ks,(_,ob)::O=>(s.o k).sim ob/\jqs s ks O
 |none::ks,(_,ob)::O=>nilOb ob/\jqs s ks O
 |_,_=>False
def fp (F:Nat->List Nat):List (Option Nat)->List (Nat×Ob)->Nat->List Nat
 |k::ks,(g',_)::O,g=>if g=g' then (match k with|some k=>F k|none=>[]) else fp F ks O g
 |_,_,_=>[]
def jqZ:List (Option Nat)->List Nat
 |[]=>[]
 |some k::ks=>k::jqZ ks
 |none::ks=>jqZ ks
def jiq:List Nat->Bool
 |[]=>true
 |k::ks=>!ks.contains k&&jiq ks
section
variable {B N:Nat} {w0 w:World} {s:St} {a:Act} {F:Nat->List Nat}
theorem A0.sim.rel:∀{a b:A0} {u:Value},a.sim b->A0Rel B w a u->A0Rel B w b u
 |.v x,.v y,u,hh,hr=>by rw [show x=y from hh] at hr;exact hr
 |.v x,.h _ _ _ y,u,hh,hr=>by obtain ⟨h1,h2⟩:=hh;subst h1;exact ⟨hr,h2⟩
 |.h _ _ _ x,.h _ _ _ y,u,hh,hr=>by rw [show x=y from hh] at hr;exact hr
 |.bp _ c b,.bp _ c' b',u,hh,hr=>by obtain ⟨h1,h2⟩:=hh;subst h1 h2;exact hr
 |.ep _ _ _ i x,.ep _ _ _ i' x',u,hh,hr=>by obtain ⟨h1,h2⟩:=hh;subst h1 h2;exact hr
 |.hs _ _ _ x s l n,.hs _ _ _ y s' l' n',u,hh,hr=>by obtain ⟨h1,h2,h3,h4⟩:=hh;subst h1 h2 h3 h4;exact hr
 |.ro d,.ro d',u,hh,hr=>by rw [show d=d' from hh] at hr;exact hr
 |.rp ds,.rp ds',u,hh,hr=>by rw [show ds=ds' from hh] at hr;exact hr
 |.un,.un,_,_,hr=>hr
theorem simL.rel:∀{l m:List A0} {us:List Value},simL l m->A0RelL B w l us->A0RelL B w m us
 |[],[],_,_,hr=>hr
 |_::_,_::_,_,⟨h1,h2⟩,⟨u,us',e,h3,h4⟩=>⟨u,us',e,h1.rel h3,h2.rel h4⟩
theorem AV.sim.rel {v v':AV} {u:Value} (h:v.sim v') (hr:VRel B w v u):VRel B w v' u:=by
 cases v' with
 |unk=>trivial
 |c b=>cases v<;>first|exact A0.sim.rel h hr|exact h.elim
 |agg m=>cases v<;>first|(obtain ⟨us,e,h1⟩:=hr;exact ⟨us,e,simL.rel h h1⟩)|exact h.elim
 |fn f m=>cases v<;>first|(obtain ⟨us,e,h1⟩:=hr;obtain ⟨rfl,h2⟩:=h;exact ⟨us,e,h2.rel h1⟩)|exact h.elim
 |tup m=>cases v<;>first|(rw [show _=m from h] at hr;exact hr)|exact h.elim
theorem jve {d:D} (hs:d.isSl=true) (hc:d.cells=[]):(∃size ty,d=.sl size ty [])/\∀p,jcF p=hdr w p d (.slice none 0 0):=by
 cases d with
 |val u=>cases hs
 |sl size ty cs=>
  obtain rfl:cs=[]:=hc;exact ⟨⟨_,_,rfl⟩,λp=>by cases p<;>rfl⟩
theorem simC.rel:∀{cs cs':List Cell} {us:List Value} {S:List Nat},simC cs cs'->CRel B w cs us S->CRel B w cs' us S
 |[],[],_,_,_,hr=>hr
 |.a x::l,.a y::m,_,_,⟨h1,h2⟩,⟨u,us',e,h3,h4⟩=>⟨u,us',e,A0.sim.rel h1 h3,h2.rel h4⟩
 |.own d η::l,.own d' aH::m,_,_,⟨⟨h1,dN⟩,h2⟩,⟨u,us',S1,S2,e,e',h3,h4,h5,h6⟩=>by
  subst h1 dN;exact ⟨u,us',S1,S2,e,e',h3,h4,h5,h2.rel h6⟩
 |.a (.v x)::l,.own d η::m,_,S,⟨⟨h1,h2,h3,h4⟩,h5⟩,⟨u,us',e,h6,h7⟩=>by
  subst h1 h4;obtain ⟨⟨size,ty,rfl⟩,k2⟩:=jve (w:=w) h2 h3;refine ⟨u,us',[],S,e,rfl,h2,?_,λp=>?_,h5.rel h7⟩
  ·rw [show u=_ from h6];exact Rep.nil_ w size ty
  ·rw [show u=_ from h6];exact k2 p
theorem Ob.sim.rel {ob ob':Ob} {S:List Nat} (h:ob.sim ob') (hr:ORel B w ob S):ORel B w ob' S:=by
 cases ob<;>cases ob'<;>first|exact h.elim|skip
 ·exact hr
 ·obtain ⟨rfl,rfl⟩:=h;exact hr
 ·obtain ⟨rfl,rfl,h⟩:=h;obtain ⟨us,S1,h1,h2,h3⟩:=hr;exact ⟨us,S1,h1,h.rel h2,h3⟩
theorem nilOb.rel {ob:Ob} (h:nilOb ob):ORel B w ob []:=by
 cases ob with
 |loose d η=>
  obtain ⟨h1,h2,rfl⟩:=h;obtain ⟨⟨size,ty,rfl⟩,k2⟩:=jve (w:=w) h1 h2;exact ⟨h1,_,Rep.nil_ w size ty,k2⟩
 |_=>exact h.elim
theorem jf3:∀{ks:List (Option Nat)} {O:List (Nat×Ob)} {g b:Nat},b∈fp F ks O g->∃k∈jqZ ks,b∈F k
 |[],_,_,_,h=>by simp [fp] at h
 |_::_,[],_,_,h=>by simp [fp] at h
 |k::ks,(g',ob)::O,g,b,h=>by
  simp only [fp] at h;split at h
  ·cases k with
   |some k=>exact ⟨k,by simp [jqZ],h⟩
   |none=>simp at h
  ·obtain ⟨k',h1,h2⟩:=jf3 h
   exact ⟨k',by cases k<;>simp [jqZ,h1],h2⟩
theorem jce:∀{l:List Nat},jiq l=true->l.Nodup
 |[],_=>List.nodup_nil
 |k::l,h=>by
  simp only [jiq,aMY,Bool.not_eq_true',List.contains_eq_mem,aNK] at h;exact aOP.2 ⟨h.1,jce h.2⟩
theorem jxT (nT:∀g g',g≠g'->∀b∈F g,b∉F g'):∀{ks:List (Option Nat)} {O:List (Nat×Ob)},(jqZ ks).Nodup->∀g g',g≠g'->∀b∈fp F ks O g,b∉fp F ks O g'
 |[],_,_,_,_,_,b,h=>by simp [fp] at h
 |_::_,[],_,_,_,_,b,h=>by simp [fp] at h
 |k::ks,(g0,ob)::O,hn,g,g',aR,b,h=>by
  have lK:(jqZ ks).Nodup:=by cases k with
   |none=>exact hn
   |some k=>exact (aOP.1 hn).2
  have key:∀{g g':Nat},g=g0->g'≠g0->b∈fp F (k::ks) ((g0,ob)::O) g->b∉fp F (k::ks) ((g0,ob)::O) g':=by
   intro g g' e bO h h';simp only [fp,if_pos e] at h;simp only [fp,if_neg bO] at h';cases k with
   |none=>simp at h
   |some k=>
    obtain ⟨k',h1,h2⟩:=jf3 h';have:k≠k':=λe=>(aOP.1 hn).1 (by rw [e];exact h1)
    exact nT _ _ this b h h2
  by_cases e:g=g0
  ·exact key e (λe'=>aR (e.trans e'.symm)) h
  ·by_cases e':g'=g0
   ·exact λh'=>key e' e h' h
   ·simp only [fp,if_neg e] at h
    simp only [fp,if_neg e'];exact jxT nT lK g g' aR b h
theorem jvI (h:∀g,ORel B w (s.o g) (F g)):∀{ks:List (Option Nat)} {O:List (Nat×Ob)},jqs s ks O->∀g,ORel B w (lkO O g) (fp F ks O g)
 |[],[],_,_=>rfl
 |[],_::_,hf,_=>hf.elim
 |some _::_,[],hf,_=>hf.elim
 |none::_,[],hf,_=>hf.elim
 |some k::ks,(g',ob)::O,⟨h1,h2⟩,g=>by
  simp only [lkO,fp];by_cases e:g=g'
  ·rw [if_pos e,if_pos e];exact h1.rel (h k)
  ·rw [if_neg e,if_neg e];exact jvI h h2 g
 |none::ks,(g',ob)::O,⟨h1,h2⟩,g=>by
  simp only [lkO,fp];by_cases e:g=g'
  ·rw [if_pos e,if_pos e];exact h1.rel
  ·rw [if_neg e,if_neg e];exact jvI h h2 g
theorem jxS (h:∀g,Fresh B (F g)):∀(ks:List (Option Nat)) (O:List (Nat×Ob)) (g:Nat),Fresh B (fp F ks O g)
 |[],_,_=>Fresh.nil _
 |_::_,[],_=>Fresh.nil _
 |k::ks,(g',ob)::O,g=>by
  simp only [fp];split
  ·cases k with
   |some k=>exact h k
   |none=>exact Fresh.nil _
  ·exact jxS h ks O g
theorem jxW (h:∀n,VRel B w (s.t n) (a.tmps.getD n undef)):∀{T:List (Nat×AV)},jxY s T->∀n,VRel B w (lkT T n) (a.tmps.getD n undef)
 |[],_,_=>trivial
 |(k,v)::T,⟨h1,h2⟩,n=>by
  simp only [lkT];by_cases e:n=k
  ·rw [if_pos e];subst e;exact h1.rel (h n)
  ·rw [if_neg e];exact jxW h h2 n
theorem zo (ks:List (Option Nat)) {T:List (Nat×AV)} {O:List (Nat×Ob)} (h:jxY s T/\jqs s ks O) (hn:jiq (jqZ ks)=true:=by decide):Wk s (St.of T O):=
 λB N w0 w a F hr=>⟨fp F ks O,⟨hr.below,hr.hB,hr.df,hr.sz,jxW hr.sl h.1,jvI hr.ob h.2,jxS hr.fr ks O,jxT hr.dj (jce hn)⟩,
  λg b hb=>by obtain ⟨k,_,h2⟩:=jf3 hb;exact ⟨k,h2⟩⟩
end
section
variable {P:Program} {β:Nat} {s:St} {Q:Ex->St->Prop}
theorem kN {ι:Type} {a:C} (mk:ι->St) (J:ι->Prop) (μ:ι->Nat) (i0:ι) (h0:J i0) (hw:Wk s (mk i0)) (hr:∀i,J i->wpC P β a (Ex.thn (λs'=>∃i',J i'/\Wk s' (mk i')/\μ i'<μ i) Q) (mk i)):wpC P β (.loop a) Q s:=⟨ι,mk,J,μ,⟨i0,h0,hw⟩,hr⟩
theorem wp_gh {a:C} (s':St) (h:Wk s s') (hk:wpC P β a Q s'):wpC P β (.gh a) Q s:=λ_ _ _ _ _ _ hr=>let ⟨F',h1,_⟩:=h _ _ _ _ _ _ hr;⟨s',F',h1,hk⟩
end
section
variable {s:St}
theorem of_t (T:List (Nat×AV)) (O:List (Nat×Ob)) (n:Nat):(St.of T O).t n=lkT T n:=(rfl)
theorem of_o (T:List (Nat×AV)) (O:List (Nat×Ob)) (n:Nat):(St.of T O).o n=lkO O n:=(rfl)
theorem jxC (k n:Nat) (v:AV) (T:List (Nat×AV)):lkT ((k,v)::T) n=if n=k then v else lkT T n:=(rfl)
theorem jAc (n:Nat):lkO [] n=.none:=(rfl)
theorem jxD (k n:Nat) (v:Ob) (T:List (Nat×Ob)):lkO ((k,v)::T) n=if n=k then v else lkO T n:=(rfl)
theorem jxX:jxY s []=True:=(rfl)
theorem jvM (n:Nat) (v:AV) (T:List (Nat×AV)):jxY s ((n,v)::T)=((s.t n).sim v/\jxY s T):=(rfl)
theorem jxZ:jqs s [] []=True:=(rfl)
theorem jCF (k g:Nat) (ob:Ob) (ks:List (Option Nat)) (O:List (Nat×Ob)):jqs s (some k::ks) ((g,ob)::O)=((s.o k).sim ob/\jqs s ks O):=(rfl)
theorem jCG (g:Nat) (ob:Ob) (ks:List (Option Nat)) (O:List (Nat×Ob)):jqs s (none::ks) ((g,ob)::O)=(nilOb ob/\jqs s ks O):=(rfl)
theorem jCl (d:D) (η:jm):nilOb (.loose d η)=(d.isSl=true/\d.cells=[]/\η=jcF):=(rfl)
theorem nilH_:jcF []=.slice none 0 0:=(rfl)
theorem sim_c (a b:A0):AV.sim (.c a) (.c b)=a.sim b:=(rfl)
theorem jzv (l m:List A0):AV.sim (.agg l) (.agg m)=simL l m:=(rfl)
theorem jBq (f f':Nat) (l m:List A0):AV.sim (.fn f l) (.fn f' m)=(f=f'/\simL l m):=(rfl)
theorem jw6:simL [] []=True:=(rfl)
theorem juq (a b:A0) (l m:List A0):simL (a::l) (b::m)=(a.sim b/\simL l m):=(rfl)
theorem sim_v (x y:Value):A0.sim (.v x) (.v y)=(x=y):=(rfl)
theorem jBm (x y:Value) (g c:Nat) (p:List Nat):A0.sim (.v x) (.h g c p y)=(x=y/\x.oneCell'=true):=(rfl)
theorem sim_h (x y:Value) (g c g' c':Nat) (p p':List Nat):A0.sim (.h g c p x) (.h g' c' p' y)=(x=y):=(rfl)
theorem jBs (g c b g' c' b':Nat):A0.sim (.bp g c b) (.bp g' c' b')=(c=c'/\b=b'):=(rfl)
theorem jBr (g c i g' c' i':Nat) (p p':List Nat) (x x':Value):A0.sim (.ep g c p i x) (.ep g' c' p' i' x')=(i=i'/\x=x'):=(rfl)
theorem jBp (g c g' c' sz lo n sz' lo' n':Nat) (p p':List Nat) (x x':Value):A0.sim (.hs g c p x sz lo n) (.hs g' c' p' x' sz' lo' n')=(x=x'/\sz=sz'/\lo=lo'/\n=n'):=(rfl)
theorem jBo (d d':D):A0.sim (.ro d) (.ro d')=(d=d'):=(rfl)
theorem jBn (d d':List D):A0.sim (.rp d) (.rp d')=(d=d'):=(rfl)
theorem jBl (x y:A0):Cell.sim (.a x) (.a y)=x.sim y:=by cases x<;>rfl
theorem jw4 (d d':D) (η aH:jm):Cell.sim (.own d η) (.own d' aH)=(d=d'/\η=aH):=(rfl)
theorem jw5 (x:Value) (d:D) (η:jm):Cell.sim (.a (.v x)) (.own d η)=(x=.slice none 0 0/\d.isSl=true/\d.cells=[]/\η=jcF):=(rfl)
theorem jw7:simC [] []=True:=(rfl)
theorem jur (a b:Cell) (l m:List Cell):simC (a::l) (b::m)=(a.sim b/\simC l m):=(rfl)
theorem jBt (d d':D) (η aH:jm):Ob.sim (.loose d η) (.loose d' aH)=(d=d'/\η=aH):=(rfl)
theorem jBu (b ty b' ty':Nat) (cs cs':List Cell):Ob.sim (.box b ty cs) (.box b' ty' cs')=(b=b'/\ty=ty'/\simC cs cs'):=(rfl)
end
attribute [go_sem] of_t of_o jxC jAc jxD jxX jvM jxZ jCF jCG jCl nilH_ sim_c jzv jBq jw6 juq sim_v jBm sim_h jBs jBr jBp jBo jBn jBl jw4 jw5 jw7 jur jBt jBu
section
variable {P:Program} {β:Nat} {s:St}
theorem jqd (l:List Int):(je l).len=l.length:=zZ (enc:=λn=>[iv n]) (λ_=>rfl) (by decide) _ _
theorem jc5 {l:List Int} {k:Nat} {x:Int} (h:l[k]?=some x):(je l).elem k=[iv x]:=vQ (enc:=λn=>[iv n]) (λ_=>rfl) h
theorem jsn (l:List Int):(je l).isSl=true:=(rfl)
theorem jsj (l:List Int):(je l).size=1:=(rfl)
theorem jsD (l:List Int):(je l).toRo=.ro (je l):=(rfl)
theorem jp7 (l:List Int) (g:Nat) (η:jm):(je l).obj g η=[(g,.loose (je l) η)]:=(rfl)
theorem jp3 (l:List Int) (g c:Nat) (p:List Nat) (η:jm):(je l).toOwn g c p η=.h g c p (η p):=(rfl)
theorem jnx (l:List Int):(je l).cells=l.flatMap (λn=>[iv n]):=(rfl)
theorem jdP (l:List Ed):(jv l).len=l.length:=zZ (enc:=jR) (λ_=>rfl) (by decide) _ _
theorem ju {l:List Ed} {k:Nat} {x:Ed} (h:l[k]?=some x):(jv l).elem k=jR x:=vQ (enc:=jR) (λ_=>rfl) h
theorem jun (l:List Ed):(jv l).isSl=true:=(rfl)
theorem jub (l:List Ed):(jv l).size=2:=(rfl)
theorem js3 (l:List Ed) (g:Nat) (η:jm):(jv l).obj g η=[(g,.loose (jv l) η)]:=(rfl)
theorem jsV (l:List Ed) (g c:Nat) (p:List Nat) (η:jm):(jv l).toOwn g c p η=.h g c p (η p):=(rfl)
theorem jpe (l:List Ed):(jv l).cells=l.flatMap (jR):=(rfl)
theorem js2 (l:List En) (g:Nat) (η:jm):(ji l).obj g η=[(g,.loose (ji l) η)]:=(rfl)
theorem jsU (l:List En) (g c:Nat) (p:List Nat) (η:jm):(ji l).toOwn g c p η=.h g c p (η p):=(rfl)
theorem jpd (l:List En):(ji l).cells=l.flatMap (jh):=(rfl)
theorem jsY (l:List Tk) (g:Nat) (η:jm):(jC l).obj g η=[(g,.loose (jC l) η)]:=(rfl)
theorem jsQ (l:List Tk) (g c:Nat) (p:List Nat) (η:jm):(jC l).toOwn g c p η=.h g c p (η p):=(rfl)
theorem jo9 (l:List Tk):(jC l).cells=l.flatMap (jk):=(rfl)
theorem js0 (l:List Rn) (g:Nat) (η:jm):(jI l).obj g η=[(g,.loose (jI l) η)]:=(rfl)
theorem jsS (l:List Rn) (g c:Nat) (p:List Nat) (η:jm):(jI l).toOwn g c p η=.h g c p (η p):=(rfl)
theorem jpb (l:List Rn):(jI l).cells=l.flatMap (jc):=(rfl)
theorem jvd (l:List (List En)) (g:Nat) (η:jm):(ku l).obj g η=[(g,.loose (ku l) η)]:=(rfl)
theorem ju8 (l:List (List En)) (g c:Nat) (p:List Nat) (η:jm):(ku l).toOwn g c p η=.h g c p (η p):=(rfl)
theorem jqC (l:List (List En)):(ku l).cells=l.flatMap (λes=>[ji es]):=(rfl)
theorem jhl (l:List Dd):(kv l).len=l.length:=zZ (enc:=jj) (λ_=>rfl) (by decide) _ _
theorem jaV {l:List Dd} {k:Nat} {x:Dd} (h:l[k]?=some x):(kv l).elem k=jj x:=vQ (enc:=jj) (λ_=>rfl) h
theorem juo (l:List Dd):(kv l).isSl=true:=(rfl)
theorem juc (l:List Dd):(kv l).size=11:=(rfl)
theorem juJ (l:List Dd):(kv l).toRo=.ro (kv l):=(rfl)
theorem js4 (l:List Dd) (g:Nat) (η:jm):(kv l).obj g η=[(g,.loose (kv l) η)]:=(rfl)
theorem jsW (l:List Dd) (g c:Nat) (p:List Nat) (η:jm):(kv l).toOwn g c p η=.h g c p (η p):=(rfl)
theorem jpf (l:List Dd):(kv l).cells=l.flatMap (jj):=(rfl)
theorem jpK (l:List Int) (e:Nat) (k:List D->Prop):slK (je l) e 1 k=(jg3=e/\k (l.flatMap (λn=>[iv n]))):=by rw [show je l=.sl 1 jg3 (l.flatMap (λn=>[iv n])) from rfl,jwI];simp
theorem jqB (l:List Int):(l.flatMap (λn=>[iv n])).length/1=l.length:=by rw [jG (enc:=λn=>[iv n]) (size:=1) (λ_=>rfl)];exact aNN _ (by decide)
theorem jp9:D.sl 1 jg3 []=je []:=rfl
theorem jf6 (l:List Int):jZ (l.flatMap (λn=>[iv n]))=true:=by
 induction l with
 |nil=>rfl
 |cons x l ih=>rw [aNL,vR,ih];rfl
theorem jst (l:List Ed) (e:Nat) (k:List D->Prop):slK (jv l) e 2 k=(tEd=e/\k (l.flatMap (jR))):=by rw [show jv l=.sl 2 tEd (l.flatMap (jR)) from rfl,jwI];simp
theorem jj9 (l:List Ed):D.sl 2 tEd (l.flatMap (jR))=jv l:=rfl
theorem jtz (l:List Ed):(l.flatMap (jR)).length/2=l.length:=by rw [jG (enc:=jR) (size:=2) (λ_=>rfl)];exact aNN _ (by decide)
theorem km:D.sl 2 tEd []=jv []:=rfl
theorem jtI (l:List Ed) (x:Ed):D.sl 2 tEd (l.flatMap (jR)++(jR) x)=jv (l++[x]):=by simp [jv]
theorem joX (l:List Ed):jZ (l.flatMap (jR))=true:=by
 induction l with
 |nil=>rfl
 |cons x l ih=>rw [aNL,vR,ih];rfl
theorem jnl (l:List Ed) (r:List D):jZ (jv l::r)=false:=(rfl)
theorem jp6 (l:List Ed) (r:List D):jjY (jv l::r)=jjY r:=(rfl)
theorem jss (l:List En) (e:Nat) (k:List D->Prop):slK (ji l) e 4 k=(tEn=e/\k (l.flatMap (jh))):=by rw [show ji l=.sl 4 tEn (l.flatMap (jh)) from rfl,jwI];simp
theorem jqr (l:List En):D.sl 4 tEn (l.flatMap (jh))=ji l:=rfl
theorem jty (l:List En):(l.flatMap (jh)).length/4=l.length:=by rw [jG (enc:=jh) (size:=4) (λ_=>rfl)];exact aNN _ (by decide)
theorem jdJ:D.sl 4 tEn []=ji []:=rfl
theorem jbi (l:List En):jZ (l.flatMap (jh))=true:=by
 induction l with
 |nil=>rfl
 |cons x l ih=>rw [aNL,vR,ih];rfl
theorem jnk (l:List En) (r:List D):jZ (ji l::r)=false:=(rfl)
theorem jp5 (l:List En) (r:List D):jjY (ji l::r)=jjY r:=(rfl)
theorem jso (l:List Tk) (e:Nat) (k:List D->Prop):slK (jC l) e 4 k=(tTk=e/\k (l.flatMap (jk))):=by rw [show jC l=.sl 4 tTk (l.flatMap (jk)) from rfl,jwI];simp
theorem jtu (l:List Tk):(l.flatMap (jk)).length/4=l.length:=by rw [jG (enc:=jk) (size:=4) (λ_=>rfl)];exact aNN _ (by decide)
theorem jie (l:List Tk):jZ (l.flatMap (jk))=true:=by
 induction l with
 |nil=>rfl
 |cons x l ih=>rw [aNL,vR,ih];rfl
theorem jp4 (l:List Tk) (r:List D):jjY (jC l::r)=jjY r:=(rfl)
theorem jsq (l:List Rn) (e:Nat) (k:List D->Prop):slK (jI l) e 8 k=(tRn=e/\k (l.flatMap (jc))):=by rw [show jI l=.sl 8 tRn (l.flatMap (jc)) from rfl,jwI];simp
theorem jtw (l:List Rn):(l.flatMap (jc)).length/8=l.length:=by rw [jG (enc:=jc) (size:=8) (λ_=>rfl)];exact aNN _ (by decide)
theorem jup (l:List (List En)) (e:Nat) (k:List D->Prop):slK (ku l) e 1 k=(jsi=e/\k (l.flatMap (λes=>[ji es]))):=by rw [show ku l=.sl 1 jsi (l.flatMap (λes=>[ji es])) from rfl,jwI];simp
theorem jv2 (l:List (List En)):(l.flatMap (λes=>[ji es])).length/1=l.length:=by rw [jG (enc:=λes=>[ji es]) (size:=1) (λ_=>rfl)];exact aNN _ (by decide)
theorem jsu (l:List Dd) (e:Nat) (k:List D->Prop):slK (kv l) e 11 k=(tDd=e/\k (l.flatMap (jj))):=by rw [show kv l=.sl 11 tDd (l.flatMap (jj)) from rfl,jwI];simp
theorem jtA (l:List Dd):(l.flatMap (jj)).length/11=l.length:=by rw [jG (enc:=jj) (size:=11) (λ_=>rfl)];exact aNN _ (by decide)
theorem jlS:D.sl 11 tDd []=kv []:=rfl
theorem jCd (u:Value) (l:List D):jjY (.val u::l)=(u.oneCell'&&jjY l):=(rfl)
theorem jxt:jjY []=true:=(rfl)
theorem joM (l:List Cell) (ds:List D):IsD (.a (.v (.slice none 0 0))::l) (je []::ds)=IsD l ds:=jnd l _ _ ds
theorem jqh (l:List Cell) (ds:List D):IsD (.a (.v (.slice none 0 0))::l) (ji []::ds)=IsD l ds:=jnd l _ _ ds
theorem jtg:Is s (.v (.slice none 0 0)) (jv [])=True:=jyT _ _
theorem jth (l:List Int) (a b:Int):D.sl 1 jg3 (l.flatMap (λn=>[iv n])++[iv a,iv b])=je (l++[a,b]):=by simp [je]
theorem jg {l:List Int} {k:Nat} {x:Int} (h:l[k]?=some x):((l.flatMap (λn=>[iv n])).drop (k*1)).take 1=[iv x]:=jc5 h
theorem jf {l:List Int} {k:Nat} (h:k<l.length):k*1+1<=(l.flatMap (λn=>[iv n])).length:=by rw [jG (enc:=λn=>[iv n]) (size:=1) (λ_=>rfl)];omega
theorem jpq {l:List Ed} {k:Nat} {x:Ed} (h:l[k]?=some x):((l.flatMap (jR)).drop (k*2)).take 2=jR x:=ju h
theorem joO {l:List Ed} {k:Nat} (h:k<l.length):k*2+2<=(l.flatMap (jR)).length:=by rw [jG (enc:=jR) (size:=2) (λ_=>rfl)];omega
theorem jcd {l:List (List En)} {k:Nat} {x:List En} (h:l[k]?=some x):((l.flatMap (λes=>[ji es])).drop (k*1)).take 1=[ji x]:=kY h
theorem jbf {l:List (List En)} {k:Nat} (h:k<l.length):k*1+1<=(l.flatMap (λes=>[ji es])).length:=by rw [jG (enc:=λes=>[ji es]) (size:=1) (λ_=>rfl)];omega
theorem jaZ {l:List Dd} {k:Nat} {x:Dd} (h:l[k]?=some x):((l.flatMap (jj)).drop (k*11)).take 11=jj x:=jaV h
theorem jaR {l:List Dd} {k:Nat} (h:k<l.length):k*11+11<=(l.flatMap (jj)).length:=by rw [jG (enc:=jj) (size:=11) (λ_=>rfl)];omega
theorem jAa (g c:Nat) (p:List Nat) (η:jm) (i:Nat) (v:Value) (l:List D):jhk g c p η i (.val v::l)=.v v::jhk g c p η (i+1) l:=(rfl)
theorem jAb (g c:Nat) (p:List Nat) (η:jm) (i:Nat):jhk g c p η i []=[]:=(rfl)
end
attribute [go_sem] jAa jAb jtg joM jqh jf6 jpK jqB jnx joX jst jtz jpe jnl jp6 jbi jss jty jpd jnk jp5 jie jso jtu jo9 jp4 jsq jtw jpb jup jv2 jqC jsu jtA jpf jCd jxt Bool.and_false Bool.false_and Bool.and_true Bool.true_and jqd jsn jsj jsD jp7 jp3 jdP jun jub juI js3 jsV jdO jum jua jn4 js2 jsU jdM jui jt6 juF jsY jsQ vB juk jt8 juH js0 jsS jaP jw3 jwX jxf jvd ju8 jhl juo juc juJ js4 jsW
abbrev Ni (n:Int):AV:=.c (.v (.int .i64 n))
abbrev Hd (g:Nat) (η:jm):AV:=.c (.h g 0 [] (η []))
abbrev Bx (g b:Nat):AV:=.c (.bp g 0 b)
abbrev Ro (d:D):AV:=.c (.ro d)
abbrev Bi (b ty:Nat) (ds:List D):Ob:=.box b ty (ds.map λx=>.a x.toRo)
theorem jxV (s t:Nat) (cs l:List D):jZ (.sl s t cs::l)=false:=(rfl)
theorem jz3 (s t:Nat) (cs l:List D):jjY (.sl s t cs::l)=jjY l:=(rfl)
attribute [go_sem] jxV jz3
theorem ql {ι:Type} {mk:ι->St} {J:ι->Prop} {μ:ι->Nat} {n:Nat} {s':St} (i:ι) (h:Wk s' (mk i)) (hj:J i:=by (try dsimp only);first|omega|assumption|(and_intros<;>first|omega|assumption)) (hm:μ i<n:=by (try dsimp only);omega):∃i',J i'/\Wk s' (mk i')/\μ i'<n:=⟨i,hj,h,hm⟩
theorem vo {P:Program} {β:Nat} {s:St} {Q:Ex->St->Prop} {ι:Type} {a:C} (mk:ι->St) (J:ι->Prop) (μ:ι->Nat) (i0:ι) (hw:Wk s (mk i0)) (hr:∀i,J i->wpC P β a (Ex.thn (λs'=>∃i',J i'/\Wk s' (mk i')/\μ i'<μ i) Q) (mk i)) (h0:J i0:=by (try dsimp only);first|omega|(simp;done)|(and_intros<;>first|omega|simp)):wpC P β (.loop a) Q s:=kN mk J μ i0 h0 hw hr
theorem jx {P:Program} {β:Nat} {d:Option Nat} {g:Option (Nat×Bool)} {s:St} {K:St->Prop} {f:Nat} {args:List X} {vs:List View} {rt:RT} (hp:kg P f vs rt) (hk:∀η:Nat->jm,K ((s.addO (jkP (100*(β+d.getD 0)) η 0 rt.flat)).put d (rt.av (100*(β+d.getD 0)) η))) (ha:zS s (args.map s.ev) vs:=by first|(simp only [go_sem];done)|simp only [go_sem,jj,jR,jh,ja,jc,jk,jb]):vv P β ⟨d,g,.call f args⟩ s K:=jn hp ha hk
theorem kX (k:Nat) (h:(k:Int)+1<9223372036854775808:=by omega):IntKind.i64.wrap ((k:Int)+1)=((k+1:Nat):Int):=qE (by omega) (by omega)
theorem jy {s:St} {T:List (Nat×AV)} {O:List (Nat×Ob)} (ks:List Nat) (h:jxY s T/\jqs s (ks.map some) O:=by simp only [go_sem]<;>trivial) (hn:jiq (jqZ (ks.map some))=true:=by decide):Wk s (St.of T O):=zo (ks.map some) h hn
theorem pf_ {P:Program} {N:Nat} {f:FuncId} {fn:Func} {c:C} {vs:List View} {rs:List R} {rt:RT} (hc:fnC P fn=some (c,rs,N)) (hw:wpC P 0 c (jxj rs rt) (St.init vs)) (hf:P.funcs[f]?=some fn:=by kernel_rfl) (hN:vs.length<=N:=by simp):kg P f vs rt:=je5 hf hc hN hw
theorem zy {x:Int} (h:-9223372036854775808<=x:=by omega) (h':x<9223372036854775808:=by omega):IntKind.i64.wrap x=x:=qE h h'
theorem qT (k:Nat):(k:Int)>=0:=by omega
theorem jCN {P:Program} {ty:Nat} {xs ys:List Value} {b:Bool} (h:∀w,(Op.equalIn 10000 ty (.agg xs.toArray) (.agg ys.toArray)).run P w=.ok b w) (hg:P.eqGuardType P.depth ty=false):EqR P .eql ty xs ys b:=λw=>⟨by rw [run_eql_struct,h w];rfl,λx y=>run_eqGuard_agg _ _ _ _ _ _ _ hg⟩
theorem jrL {P:Program} {ty:Nat} {xs ys:List Value} {b:Bool} (h:∀w,(Op.equalIn 10000 ty (.agg xs.toArray) (.agg ys.toArray)).run P w=.ok b w) (hg:P.eqGuardType P.depth ty=false):EqR P .neq ty xs ys (!b):=λw=>⟨by rw [run_neq_struct,h w];rfl,λx y=>run_eqGuard_agg _ _ _ _ _ _ _ hg⟩
theorem w_any:Nonempty World:=⟨default⟩
theorem jg0 {P:Program} {d:Option Nat} {s:St} {K:St->Prop} {op:BinOp} {ty:Nat} {l m:List A0} {xs ys:List Value} {b:Bool} (hx:jcI l=some xs) (hy:jcI m=some ys) (h:EqR P op ty xs ys b):jwJ P d s K op ty (.agg l) (.agg m)=K (s.put d (.c (.v (.bool b)))):=by
 apply propext
 constructor
 ·rintro ⟨av,(⟨_,_,_,h1,_⟩|⟨l',m',xs',ys',b',h1,h2,h3,h4,h5,rfl⟩),h6⟩
  ·cases h1
  ·cases h1;cases h2
   rw [hx] at h3;rw [hy] at h4;cases h3;cases h4;obtain ⟨w⟩:=w_any;have e1:=(h w).1;rw [(h5 w).1] at e1;simp at e1;subst e1;exact h6
 ·intro hk
  exact ⟨_,.inr ⟨l,m,xs,ys,b,rfl,rfl,hx,hy,h,rfl⟩,hk⟩
theorem jyZ (w:World) (x y:Ed):(Op.equalIn 10000 161 (.agg #[.int .i64 x.src,.int .i64 x.dst]) (.agg #[.int .i64 y.src,.int .i64 y.dst])).run Tryz.prog w=.ok (decide (x=y)) w:=by
 have u3:=Tryz.underlying3;have a3:=Tryz.isAgg3;have z3:=Tryz.sizeOf3;rw [show (10000:Nat)=9999+1 from rfl,run_equalIn_agg w 9999 161 _ _ (by kernel_rfl) (by kernel_rfl)]
 simp only [Program.fieldsOf,Tryz.underlying161];obtain ⟨xsrc,xdst⟩:=x;obtain ⟨ysrc,ydst⟩:=y
 go_simp
 by_cases h0:xsrc=ysrc<;>by_cases h1:xdst=ydst<;>simp [h0,h1]
theorem jwq {d:Option Nat} {s:St} {K:St->Prop} (x y:Ed):jwJ Tryz.prog d s K .eql 161 (.agg [.v (.int .i64 x.src),.v (.int .i64 x.dst)]) (.agg [.v (.int .i64 y.src),.v (.int .i64 y.dst)])=K (s.put d (.c (.v (.bool (decide (x=y)))))):=jg0 rfl rfl (jCN (λw=>jyZ w x y) (by kernel_rfl))
theorem jwp {d:Option Nat} {s:St} {K:St->Prop} (x y:Ed):jwJ Tryz.prog d s K .neq 161 (.agg [.v (.int .i64 x.src),.v (.int .i64 x.dst)]) (.agg [.v (.int .i64 y.src),.v (.int .i64 y.dst)])=K (s.put d (.c (.v (.bool (!decide (x=y)))))):=jg0 rfl rfl (jrL (λw=>jyZ w x y) (by kernel_rfl))
attribute [go_sem] jwq jwp
theorem jCR (w:World) (x y:En):(Op.equalIn 10000 44 (.agg #[.int .i64 x.aMC,.int .i64 x.seq,.int .i64 x.run,.int .i64 x.aMA]) (.agg #[.int .i64 y.aMC,.int .i64 y.seq,.int .i64 y.run,.int .i64 y.aMA])).run Tryz.prog w=.ok (decide (x=y)) w:=by
 have u3:=Tryz.underlying3;have a3:=Tryz.isAgg3;have z3:=Tryz.sizeOf3;rw [show (10000:Nat)=9999+1 from rfl,run_equalIn_agg w 9999 44 _ _ (by kernel_rfl) (by kernel_rfl)]
 simp only [Program.fieldsOf,Tryz.underlying44];obtain ⟨xprio,xseq,xrun,xtask⟩:=x;obtain ⟨yprio,yseq,yrun,ytask⟩:=y
 go_simp
 by_cases h0:xprio=yprio<;>by_cases h1:xseq=yseq<;>by_cases h2:xrun=yrun<;>by_cases h3:xtask=ytask<;>simp [h0,h1,h2,h3]
theorem jwo {d:Option Nat} {s:St} {K:St->Prop} (x y:En):jwJ Tryz.prog d s K .neq 44 (.agg [.v (.int .i64 x.aMC),.v (.int .i64 x.seq),.v (.int .i64 x.run),.v (.int .i64 x.aMA)]) (.agg [.v (.int .i64 y.aMC),.v (.int .i64 y.seq),.v (.int .i64 y.run),.v (.int .i64 y.aMA)])=K (s.put d (.c (.v (.bool (!decide (x=y)))))):=jg0 rfl rfl (jrL (λw=>jCR w x y) (by kernel_rfl))
attribute [go_sem] jwo
theorem jCP (w:World) (x y:Tk):(Op.equalIn 10000 46 (.agg #[.int .i64 x.aLV,.int .i64 x.aME,.int .i64 x.tri,.int .i64 x.til]) (.agg #[.int .i64 y.aLV,.int .i64 y.aME,.int .i64 y.tri,.int .i64 y.til])).run Tryz.prog w=.ok (decide (x=y)) w:=by
 have u3:=Tryz.underlying3;have a3:=Tryz.isAgg3;have z3:=Tryz.sizeOf3;rw [show (10000:Nat)=9999+1 from rfl,run_equalIn_agg w 9999 46 _ _ (by kernel_rfl) (by kernel_rfl)]
 simp only [Program.fieldsOf,Tryz.underlying46];obtain ⟨xstate,xneed,xtri,xtil⟩:=x;obtain ⟨ystate,yneed,ytri,ytil⟩:=y
 go_simp
 by_cases h0:xstate=ystate<;>by_cases h1:xneed=yneed<;>by_cases h2:xtri=ytri<;>by_cases h3:xtil=ytil<;>simp [h0,h1,h2,h3]
theorem jwm {d:Option Nat} {s:St} {K:St->Prop} (x y:Tk):jwJ Tryz.prog d s K .neq 46 (.agg [.v (.int .i64 x.aLV),.v (.int .i64 x.aME),.v (.int .i64 x.tri),.v (.int .i64 x.til)]) (.agg [.v (.int .i64 y.aLV),.v (.int .i64 y.aME),.v (.int .i64 y.tri),.v (.int .i64 y.til)])=K (s.put d (.c (.v (.bool (!decide (x=y)))))):=jg0 rfl rfl (jrL (λw=>jCP w x y) (by kernel_rfl))
attribute [go_sem] jwm
def jeD:C:=iS [aN 2 0] (iS [aM 4 0,iA 5 (iK 159 [4]),aM 3 5] (.seq (iS [aM 6 3,iA 7 (.bin .eql 9 (.t 6) (.c (.string ⟨⟨[]⟩⟩)))] (iD 7 (iS [aN 2 0] .ret) .skip)) (iS [aM 8 3,iA 9 (iK 195 [8]),aQ 10 .rem 3 9 4,aM 2 10] .ret)))
theorem jhG:fnC Tryz.prog Tryz.f170=some (jeD,[.t 2],11):=by kernel_rfl
def jeQ:C:=iS [aN 2 0] (iS [aM 4 0,iA 5 (iK 153 [4]),aM 3 5] (.seq (iS [aM 6 3,iA 7 (.bin .eql 9 (.t 6) (.c (.string ⟨⟨[]⟩⟩)))] (iD 7 (iS [aN 2 0] .ret) .skip)) (iS [aM 8 3,iA 9 (iK 98 [8]),aQ 10 .rem 3 9 4,aM 2 10] .ret)))
theorem jhT:fnC Tryz.prog Tryz.f165=some (jeQ,[.t 2],11):=by kernel_rfl
def jeA:C:=iS [iA 2 (.mov (.c (.string ⟨⟨[]⟩⟩)))] (.seq (iS [aM 4 0,iA 5 (.call 68 [.t 4,oI 0,oI 1000000000]),aU 6 5] (iD 6 (iS [iA 2 (.mov (.c (.string ⟨⟨[]⟩⟩)))] .ret) .skip)) (iS [iA 7 (.bsl 5 1 0 [] []),aM 3 7] (.seq (.blk 0 (.loop (.seq (iS [aM 8 0,aQ 9 .gtr 3 8 127] (iD 9 .skip (.exit 0))) (.blk 1 (iS [aM 10 3,aM 11 0,aQ 12 .rem 3 11 128,iA 13 (.bin .add 3 (oI 128) (.t 12)),iA 14 (.cv (.num .u8) 0 (.t 13)),iA 15 (.bsl 5 1 1 [none] [(0,1,.t 14)]),iA 16 (.app 5 1 1 (.t 10) (.t 15)),aM 3 16] (.reg [aM 17 0,aQ 18 .quo 3 17 128,aM 0 18])))))) (iS [aM 19 3,aM 20 0,iA 21 (.cv (.num .u8) 0 (.t 20)),iA 22 (.bsl 5 1 1 [none] [(0,1,.t 21)]),iA 23 (.app 5 1 1 (.t 19) (.t 22)),iA 24 (.cv .text 5 (.t 23)),aM 2 24] .ret))))
theorem jhD:fnC Tryz.prog Tryz.f159=some (jeA,[.t 2],25):=by kernel_rfl
def jeM:C:=iS [iA 2 (.mov (.c (.string ⟨⟨[]⟩⟩)))] (.seq (iS [aM 4 0,iA 5 (.call 62 [.t 4,oI 0,oI 1000000000]),aU 6 5] (iD 6 (iS [iA 2 (.mov (.c (.string ⟨⟨[]⟩⟩)))] .ret) .skip)) (iS [iA 3 (.mov (.c (.slice none 0 0)))] (.seq (.blk 0 (.loop (.seq (iS [aM 7 0,aQ 8 .geq 3 7 128] (iD 8 .skip (.exit 0))) (.blk 1 (iS [aM 9 3,aM 10 0,aQ 11 .rem 3 10 128,aQ 12 .add 3 11 128,iA 13 (.cv (.num .u8) 0 (.t 12)),iA 14 (.bsl 5 1 1 [none] [(0,1,.t 13)]),iA 15 (.app 5 1 1 (.t 9) (.t 14)),aM 3 15] (.reg [aM 16 0,aQ 17 .quo 3 16 128,aM 0 17])))))) (iS [aM 18 3,aM 19 0,iA 20 (.cv (.num .u8) 0 (.t 19)),iA 21 (.bsl 5 1 1 [none] [(0,1,.t 20)]),iA 22 (.app 5 1 1 (.t 18) (.t 21)),iA 23 (.cv .text 5 (.t 22)),aM 2 23] .ret))))
theorem jhP:fnC Tryz.prog Tryz.f153=some (jeM,[.t 2],24):=by kernel_rfl
def jdg:C:=iS [aN 2 0] (iS [aN 3 4294967295] (.seq (iS [aN 4 0] (.blk 0 (.loop (.seq (iS [aM 7 4,aM 8 0,iA 9 (.len true (.t 8)),aP 10 .lss 3 7 9] (iD 10 .skip (.exit 0))) (.seq (.blk 1 (iS [aM 13 3,aM 14 0,aM 15 4,iA 16 (.sidx (.t 14) (.t 15)),iA 17 (.cv (.num .i64) 0 (.t 16)),aP 18 .xor 3 13 17,aM 3 18] (iS [aN 5 0] (.blk 2 (.loop (.seq (iS [aM 19 5,aQ 20 .lss 3 19 8] (iD 20 .skip (.exit 2))) (.seq (.blk 3 (iS [aM 23 3,aQ 24 .rem 3 23 2,aQ 25 .eql 3 24 1,aM 6 25] (iS [aM 26 3,aQ 27 .quo 3 26 2,aM 3 27] (iS [aM 28 6] (iD 28 (.reg [aM 29 3,aQ 30 .xor 3 29 3988292384,aM 3 30]) .skip))))) (.reg [aM 21 5,aQ 22 .add 3 21 1,aM 5 22])))))))) (.reg [aM 11 4,aQ 12 .add 3 11 1,aM 4 12])))))) (iS [aM 31 3,aQ 32 .xor 3 31 4294967295,aM 2 32] .ret)))
theorem jko:fnC Tryz.prog Tryz.f195=some (jdg,[.t 2],33):=by kernel_rfl
def jpj:C:=iS [aN 2 0] (iS [aN 3 4294967295] (.seq (iS [aN 4 0] (.blk 0 (.loop (.seq (iS [aM 7 4,aM 8 0,iA 9 (.len true (.t 8)),aP 10 .lss 3 7 9] (iD 10 .skip (.exit 0))) (.seq (.blk 1 (iS [aM 13 3,aM 14 0,aM 15 4,iA 16 (.sidx (.t 14) (.t 15)),iA 17 (.cv (.num .i64) 0 (.t 16)),aP 18 .xor 3 13 17,aM 3 18] (iS [aN 5 0] (.blk 2 (.loop (.seq (iS [aM 19 5,aQ 20 .lss 3 19 8] (iD 20 .skip (.exit 2))) (.seq (.blk 3 (iS [aM 23 3,aQ 24 .rem 3 23 2,aQ 25 .eql 3 24 1,aM 6 25] (iS [aM 26 3,aQ 27 .quo 3 26 2,aM 3 27] (iS [aM 28 6] (iD 28 (.reg [aM 29 3,aQ 30 .xor 3 29 3988292384,aM 3 30]) .skip))))) (.reg [aM 21 5,aQ 22 .add 3 21 1,aM 5 22])))))))) (.reg [aM 11 4,aQ 12 .add 3 11 1,aM 4 12])))))) (iS [aM 31 3,aQ 32 .xor 3 31 4294967295,aM 2 32] .ret)))
theorem jkv:fnC Tryz.prog Tryz.f98=some (jpj,[.t 2],33):=by kernel_rfl
def jif:C:=iS [aO 6 false] (iS [aM 7 0,aM 8 1,aP 9 .geq 3 7 8,aM 10 9,iB 11 10 true (iM 0),iB 12 10 true (iM 2),iB 13 10 true (iP .leq 3 11 12),iA 14 (iY 10 (.t 13) (oF)),aM 6 14] .ret)
theorem jkm:fnC Tryz.prog Tryz.f68=some (jif,[.t 6],15):=by kernel_rfl
def jgK:C:=iS [aO 6 false] (iS [aM 7 0,aM 8 1,aP 9 .geq 3 7 8,aM 10 9,iB 11 10 true (iM 0),iB 12 10 true (iM 2),iB 13 10 true (iP .leq 3 11 12),iA 14 (iY 10 (.t 13) (oF)),aM 6 14] .ret)
theorem jiP:fnC Tryz.prog Tryz.f62=some (jgK,[.t 6],15):=by kernel_rfl
theorem jJ (a b c:Int):kg Tryz.prog 68 [.c (.val (.int .i64 a)),.c (.val (.int .i64 b)),.c (.val (.int .i64 c))] (.c (.val (.bool (decide (b<=a/\a<=c))))):=by
 refine pf_ jkm ?_;unfold jif;by_cases h:b<=a
 ·simp only [go_sem,h]
 ·simp only [go_sem,h]
theorem jE (a b c:Int):kg Tryz.prog 62 [.c (.val (.int .i64 a)),.c (.val (.int .i64 b)),.c (.val (.int .i64 c))] (.c (.val (.bool (decide (b<=a/\a<=c))))):=by
 refine pf_ jiP ?_;unfold jgK;by_cases h:b<=a
 ·simp only [go_sem,h]
 ·simp only [go_sem,h]
def jh2 (v:Nat):List UInt8:=if v<128 then [UInt8.ofNat v] else UInt8.ofNat (128+v%128)::jh2 (v/128)
termination_by v
decreasing_by omega
theorem jmk (v:Nat):(jh2 v).length<=v+1:=by
 induction v using Nat.strongRecOn with
 |_ v ih=>
  unfold jh2;split
  ·simp
  ·have:=ih (v/128) (by omega)
   simp only [aNG];omega
def jsf (n:Int):ByteArray:=if 0<=n/\n<=1000000000 then ⟨(jh2 n.toNat).toArray⟩ else ⟨#[]⟩
theorem jyj {v:Nat} (h:v<256):D.val (.int .u8 (IntKind.u8.wrap (v:Int)))=vt (UInt8.ofNat v):=by
 have:IntKind.u8.wrap (v:Int)=v:=IntWalk.u8_in _ (by omega)
 rw [this];simp [vt,Nat.mod_eq_of_lt h]
theorem jmp (v:Nat):Int.tdiv (v:Int) 128=((v/128:Nat):Int):=rfl
theorem jmo (v:Nat):Int.tmod (v:Int) 128=((v%128:Nat):Int):=rfl
theorem jtW {n:Nat} (h:n<=1000000000):jsf (n:Int)=⟨(jh2 n).toArray⟩:=by simp [jsf];omega
theorem jkT (n:Int):kg Tryz.prog 159 [.c (.val (.int .i64 n))] (.c (.val (.string (jsf n)))):=by
 refine pf_ jhD ?_;unfold jeA;simp only [go_sem];refine jx (jJ n 0 1000000000) λη=>?_
 by_cases h:0<=n/\n<=1000000000
 ·obtain ⟨n,rfl⟩:=Int.eq_ofNat_of_zero_le h.1
  have hn:n<=1000000000:=by omega
  rw [jtW hn];simp only [go_sem,h];intro dB;have hl0:=jmk n;refine vV (λs=>∃(l:List UInt8) (v:Nat) (g:Nat) (η:jm),l++jh2 v=jh2 n/\v<=n/\(g=700\/g=1600)/\s.t 0=.c (.v (.int .i64 v))/\s.t 3=.c (.h g 0 [] (η []))/\s.o g=.loose (.sl 1 5 (l.map vt)) η) (λs=>s.n 0) ?_ ?_
  ·exact ⟨[],n,700,dB,rfl,aMV _,.inl rfl,by simp only [go_sem],by simp only [go_sem],by simp only [go_sem]⟩
  ·rintro s ⟨l,v,g,η,hl,hv,hg,h0,h3,ho⟩
   have eV:l.length<=1000000001:=by have:=congrArg List.length hl;simp only [aMR] at this;omega
   by_cases aB:128<=v
   ·have aA:(127:Int)<v:=by omega
    have hw:IntKind.i64.wrap (128+((v%128:Nat):Int))=((128+v%128:Nat):Int):=by rw [qE (by omega) (by omega)];omega
    have bS:IntKind.i64.wrap ((v/128:Nat):Int)=((v/128:Nat):Int):=zy;have hb:=jyj (v:=128+v%128) (by omega)
    have e':l++jh2 v=(l++[UInt8.ofNat (128+v%128)])++jh2 (v/128):=by rw [jh2,if_neg (by omega)];simp
    rcases hg with rfl|rfl
    ·simp only [go_sem,h0,h3,ho,aA,jmp,jmo,hw,bS]
     intro aV;refine ⟨by simp [maxLen];try omega,by simp;try omega,λcT=>⟨⟨_,v/128,1600,cT,e'.symm.trans hl,by omega,.inr rfl,rfl,rfl,by simp only [go_sem,hb,aOT]⟩,?_⟩⟩
     rw [je1 (k:=.i64) (n:=((v/128:Nat):Int)) (by simp only [go_sem]),je1 h0];omega
    ·simp only [go_sem,h0,h3,ho,aA,jmp,jmo,hw,bS]
     intro aV;refine ⟨by simp [maxLen];try omega,by simp;try omega,λcT=>⟨⟨_,v/128,1600,cT,e'.symm.trans hl,by omega,.inr rfl,rfl,rfl,by simp only [go_sem,hb,aOT]⟩,?_⟩⟩
     rw [je1 (k:=.i64) (n:=((v/128:Nat):Int)) (by simp only [go_sem]),je1 h0];omega
   ·have aA:¬(127:Int)<v:=by omega
    have hb:=jyj (v:=v) (by omega)
    have e':l++jh2 v=l++[UInt8.ofNat v]:=by rw [jh2,if_pos (by omega)]
    have bN:jh2 n=l++[UInt8.ofNat v]:=by rw [<-hl,e']
    rcases hg with rfl|rfl
    ·simp only [go_sem,h0,h3,ho,aA]
     intro aV;refine ⟨by simp [maxLen];try omega,by simp;try omega,λcT=>jjp (bs:=jh2 n) rfl rfl (by rw [bN];simp only [go_sem,hb,aOT]) ?_⟩
     simp only [go_sem]
    ·simp only [go_sem,h0,h3,ho,aA]
     intro aV;refine ⟨by simp [maxLen];try omega,by simp;try omega,λcT=>jjp (bs:=jh2 n) rfl rfl (by rw [bN];simp only [go_sem,hb,aOT]) ?_⟩
     simp only [go_sem]
 ·simp only [go_sem,h]
  simp [jsf,h]
theorem jk1 (n:Int):kg Tryz.prog 153 [.c (.val (.int .i64 n))] (.c (.val (.string (jsf n)))):=by
 refine pf_ jhP ?_;unfold jeM;simp only [go_sem];refine jx (jE n 0 1000000000) λη=>?_
 by_cases h:0<=n/\n<=1000000000
 ·obtain ⟨n,rfl⟩:=Int.eq_ofNat_of_zero_le h.1
  have hn:n<=1000000000:=by omega
  rw [jtW hn];simp only [go_sem,h];have hl0:=jmk n;refine vV (λs=>∃(l:List UInt8) (v:Nat),l++jh2 v=jh2 n/\v<=n/\s.t 0=.c (.v (.int .i64 v))/\((l=[]/\s.t 3=.c (.v (.slice none 0 0)))\/∃η,s.t 3=.c (.h 1500 0 [] (η []))/\s.o 1500=.loose (.sl 1 5 (l.map vt)) η)) (λs=>s.n 0) ?_ ?_
  ·exact ⟨[],n,rfl,aMV _,by simp only [go_sem],.inl ⟨rfl,by simp only [go_sem]⟩⟩
  ·rintro s ⟨l,v,hl,hv,h0,hg⟩
   have eV:l.length<=1000000001:=by have:=congrArg List.length hl;simp only [aMR] at this;omega
   by_cases aB:128<=v
   ·have aA:(128:Int)<=v:=by omega
    have hw:IntKind.i64.wrap (((v%128:Nat):Int)+128)=((128+v%128:Nat):Int):=by rw [qE (by omega) (by omega)];omega
    have bS:IntKind.i64.wrap ((v/128:Nat):Int)=((v/128:Nat):Int):=zy;have hb:=jyj (v:=128+v%128) (by omega)
    have e':l++jh2 v=(l++[UInt8.ofNat (128+v%128)])++jh2 (v/128):=by rw [jh2,if_neg (by omega)];simp
    rcases hg with ⟨rfl,h3⟩|⟨η,h3,ho⟩
    ·simp only [go_sem,h0,h3,aOM,aA,maxLen,jmp,jmo,hw,bS]
     intro aV;intro cT;refine ⟨⟨_,v/128,e'.symm.trans hl,by omega,rfl,.inr ⟨cT,rfl,by simp only [go_sem,hb,aOT]⟩⟩,?_⟩
     rw [je1 (k:=.i64) (n:=((v/128:Nat):Int)) (by simp only [go_sem]),je1 h0];omega
    ·simp only [go_sem,h0,h3,ho,aA,jmp,jmo,hw,bS]
     intro aV;refine ⟨by simp [maxLen];try omega,by simp;try omega,λcT=>⟨⟨_,v/128,e'.symm.trans hl,by omega,rfl,.inr ⟨cT,rfl,by simp only [go_sem,hb,aOT]⟩⟩,?_⟩⟩
     rw [je1 (k:=.i64) (n:=((v/128:Nat):Int)) (by simp only [go_sem]),je1 h0];omega
   ·have aA:¬(128:Int)<=v:=by omega
    have hb:=jyj (v:=v) (by omega)
    have e':l++jh2 v=l++[UInt8.ofNat v]:=by rw [jh2,if_pos (by omega)]
    have bN:jh2 n=l++[UInt8.ofNat v]:=by rw [<-hl,e']
    rcases hg with ⟨rfl,h3⟩|⟨η,h3,ho⟩
    ·simp only [go_sem,h0,h3,aOM,aA,maxLen]
     intro aV cT;refine jjp (bs:=jh2 n) rfl rfl (by rw [bN];simp only [go_sem,hb,aOT]) ?_
     simp only [go_sem]
    ·simp only [go_sem,h0,h3,ho,aA]
     intro aV;refine ⟨by simp [maxLen];try omega,by simp;try omega,λcT=>jjp (bs:=jh2 n) rfl rfl (by rw [bN];simp only [go_sem,hb,aOT]) ?_⟩
     simp only [go_sem]
 ·simp only [go_sem,h]
  simp [jsf,h]
def jse (a b:Int):Int:=IntKind.i64.wrap ((BitVec.ofInt 64 a^^^BitVec.ofInt 64 b).toNat)
theorem jwK (a b:Int):IntKind.i64.wrap ((BitVec.ofInt 64 a^^^BitVec.ofInt 64 b).toNat)=jse a b:=rfl
def jls (c:Int):Int:=if (c.tmod 2==1)=true then jse (IntKind.i64.wrap (c.tdiv 2)) 3988292384 else IntKind.i64.wrap (c.tdiv 2)
def joJ:Nat->Int->Int
 |0,c=>c
 |n+1,c=>jls (joJ n c)
def jyA (c:Int) (b:UInt8):Int:=joJ 8 (jse c (IntKind.i64.wrap b.toNat))
def jA0 (b:ByteArray):Int:=jse (b.data.toList.foldl jyA 4294967295) 4294967295
theorem jto {α β:Type} (f:β->α->β) (c:β) {l:List α} {k:Nat} {x:α} (h:l[k]?=some x):(l.take (k+1)).foldl f c=f ((l.take k).foldl f c) x:=by
 rw [aMT,h];simp
theorem jtV {P:Program} (b:ByteArray) (hb:b.size<9223372036854775807):wpC P 0 jdg (jxj [.t 2] (.c (.val (.int .i64 (jA0 b))))) (St.init [.c (.val (.string b))]):=by
 unfold jdg;simp only [go_sem];refine vV (λs=>∃k:Nat,k<=b.size/\s.t 0=.c (.v (.string b))/\s.t 4=.c (.v (.int .i64 k))/\s.t 3=.c (.v (.int .i64 ((b.data.toList.take k).foldl jyA 4294967295)))) (λs=>b.size-s.n 4) ?_ ?_
 ·exact ⟨0,aNE _,by simp only [go_sem],by simp only [go_sem]<;>rfl,by simp only [go_sem]<;>rfl⟩
 ·rintro s ⟨k,hk,h0,h4,h3⟩
  by_cases aB:k<b.size
  ·have aA:(k:Int)<b.size:=by omega
   obtain ⟨u,hu⟩:∃u,b[k]?=some u:=⟨b[k],by simp [aB]⟩
   have hu':b.data.toList[k]?=some u:=by
    rw [<-hu,getElem?_pos b k aB];simp only [Array.getElem?_toList];exact getElem?_pos b.data k aB
   have hw4:=kX k;simp only [go_sem,h0,h3,h4,aA,jwK];refine ⟨u,hu,?_⟩;refine vV (λs=>∃j:Nat,j<=8/\s.t 0=.c (.v (.string b))/\s.t 4=.c (.v (.int .i64 k))/\s.t 5=.c (.v (.int .i64 j))/\s.t 3=.c (.v (.int .i64 (joJ j (jse ((b.data.toList.take k).foldl jyA 4294967295) (IntKind.i64.wrap u.toNat)))))) (λs=>8-s.n 5) ?_ ?_
   ·exact ⟨0,aNE _,by simp only [go_sem,h0],by simp only [go_sem,h4],by simp only [go_sem]<;>rfl,by simp only [go_sem]<;>rfl⟩
   ·rintro s' ⟨j,hj,eO,rQ,mD,i8⟩
    by_cases hj':j<8
    ·have mQ:(j:Int)<8:=by omega
     have hw:=kX j;cases p9:(joJ j (jse ((b.data.toList.take k).foldl jyA 4294967295) (IntKind.i64.wrap u.toNat))).tmod 2==1 with
     |true=>
      simp only [go_sem,eO,rQ,mD,i8,mQ,p9,hw,jwK];exact ⟨⟨j+1,by omega,rfl,by simp only [joJ,jls,p9,↓reduceIte];rfl⟩,by rw [je1 (k:=.i64) (n:=((j+1:Nat):Int)) (by simp only [go_sem]),je1 mD];omega⟩
     |false=>
      simp only [go_sem,eO,rQ,mD,i8,mQ,p9,hw,jwK];exact ⟨⟨j+1,by omega,rfl,by simp only [joJ,jls,p9,aOZ,↓reduceIte]⟩,by rw [je1 (k:=.i64) (n:=((j+1:Nat):Int)) (by simp only [go_sem]),je1 mD];omega⟩
    ·have mQ:¬(j:Int)<8:=by omega
     have hj8:j=8:=by omega
     subst hj8;simp only [go_sem,eO,rQ,mD,i8,mQ,hw4];exact ⟨⟨k+1,by omega,rfl,by rw [jto _ _ hu'];rfl⟩,by rw [je1 (k:=.i64) (n:=((k+1:Nat):Int)) (by simp only [go_sem]),je1 h4];omega⟩
  ·have aA:¬(k:Int)<b.size:=by omega
   have yY:b.data.toList.take k=b.data.toList:=aMO (by simp only [Array.length_toList];exact Nat.le_of_not_lt aB)
   simp only [go_sem,h0,h3,h4,aA,jwK,yY];rfl
theorem jof (b:ByteArray) (hb:b.size<9223372036854775807):kg Tryz.prog 195 [.c (.val (.string b))] (.c (.val (.int .i64 (jA0 b)))):=
 je5 Tryz.func195 jko (by simp) (jtV b hb)
theorem joo (b:ByteArray) (hb:b.size<9223372036854775807):kg Tryz.prog 98 [.c (.val (.string b))] (.c (.val (.int .i64 (jA0 b)))):=
 je5 Tryz.func98 jkv (by simp) (jtV b hb)
def jcO (n:Int):Int:=if ((jsf n).toList==ByteArray.toList ⟨⟨[]⟩⟩)=true then 0 else (jA0 (jsf n)).tmod 4
theorem jlq (n:Int):(jsf n).size<9223372036854775807:=by
 unfold jsf;split
 ·have:=jmk n.toNat
  show (jh2 n.toNat).toArray.size<_;simp only [List.size_toArray];omega
 ·decide
theorem jef (n:Int):kg Tryz.prog 170 [.c (.val (.int .i64 n))] (.c (.val (.int .i64 (jcO n)))):=by
 refine pf_ jhG ?_;unfold jeD;simp only [go_sem];refine jx (jkT n) λη=>?_
 cases he:(jsf n).toList==ByteArray.toList ⟨⟨[]⟩⟩ with
 |true=>
  simp only [go_sem,he];simp only [jcO,he,if_true]
 |false=>
  simp only [go_sem,he];refine jx (jof _ (jlq n)) λη=>?_
  simp only [go_sem];simp only [jcO,he,aOZ,if_false]
theorem jei (n:Int):kg Tryz.prog 165 [.c (.val (.int .i64 n))] (.c (.val (.int .i64 (jcO n)))):=by
 refine pf_ jhT ?_;unfold jeQ;simp only [go_sem];refine jx (jk1 n) λη=>?_
 cases he:(jsf n).toList==ByteArray.toList ⟨⟨[]⟩⟩ with
 |true=>
  simp only [go_sem,he];simp only [jcO,he,if_true]
 |false=>
  simp only [go_sem,he];refine jx (joo _ (jlq n)) λη=>?_
  simp only [go_sem];simp only [jcO,he,aOZ,if_false]
def jex:C:=iS [iA 1 (.box 49 5 (.t 0)),iA 2 wAR] (iS [iA 3 (.bsl 161 2 0 [] []),aF 4 4 1,aL 5 4,iA 6 (.app 161 2 16 (.t 3) (.t 5)),aF 7 4 1,iC (.st 1 [some (2,161)] (.t 7) (.t 6))] (iS [aT 8 5 1,wAH 2 8] .ret))
theorem jhA:fnC Tryz.prog Tryz.f168=some (jex,[.cell 2 true 5],9):=by kernel_rfl
def jds:C:=iS [iA 1 (.box 49 5 (.t 0)),iA 2 wAR] (iS [aF 3 4 1,aL 4 3,iA 5 (.app 161 2 16 (.c (.slice none 0 0)) (.t 4)),aF 6 4 1,iC (.st 1 [some (2,161)] (.t 6) (.t 5))] (iS [aT 7 5 1,wAH 2 7] .ret))
theorem jgq:fnC Tryz.prog Tryz.f163=some (jds,[.cell 2 true 5],8):=by kernel_rfl
theorem jee (p:Pl) (hb:p.aLY.length<=4000000):kg Tryz.prog 168 [.agg (ja p)] (.agg (ja p)):=by
 refine pf_ jhA ?_;unfold jex;have h1:p.aLY.length<=maxLen:=by unfold maxLen;omega
 have h2:p.aLY.length*16<=140737488355328:=by omega
 simp only [go_sem,ja,h1,h2,jj9]
theorem jcW (p:Pl) (hb:p.aLY.length<=4000000):kg Tryz.prog 163 [.agg (ja p)] (.agg (ja p)):=by
 refine pf_ jgq ?_;unfold jds;have h1:p.aLY.length<=maxLen:=by unfold maxLen;omega
 have h2:p.aLY.length*16<=140737488355328:=by omega
 simp only [go_sem,ja,h1,h2,jj9]
open Go.RowKit
theorem iEn:(Tryz.prog.info? tEn).map (λi=>(i.zero,i.size,i.bytes))=some (some (.agg #[.int .i64 0,.int .i64 0,.int .i64 0,.int .i64 0]),4,32):=by kernel_rfl
theorem slEn:SlT Tryz.prog jsi tEn 4 32 [.int .i64 0,.int .i64 0,.int .i64 0,.int .i64 0]:=⟨by kernel_rfl,jqj iEn,rfl,by decide⟩
theorem jDn:(Tryz.prog.info? tEn).map (·.size)=some 4:=by kernel_rfl
theorem iEnS:(Tryz.prog.info? jsi).map (λi=>(i.zero,i.size,i.bytes))=some (some (.slice none 0 0),1,24):=by kernel_rfl
theorem jBj:SlT Tryz.prog tSh jsi 1 24 [.slice none 0 0]:=⟨by kernel_rfl,jqj iEnS,rfl,by decide⟩
theorem iRn:(Tryz.prog.info? tRn).map (λi=>(i.zero,i.size,i.bytes))=some (some (.agg #[.int .i64 0,.int .i64 0,.int .i64 0,.int .i64 0,.int .i64 0,.slice none 0 0,.int .i64 0,.slice none 0 0]),8,96):=by kernel_rfl
theorem slRn:SlT Tryz.prog jBc tRn 8 96 [.int .i64 0,.int .i64 0,.int .i64 0,.int .i64 0,.int .i64 0,.slice none 0 0,.int .i64 0,.slice none 0 0]:=⟨by kernel_rfl,jqj iRn,rfl,by decide⟩
theorem jvU:∀(y:En),∀d∈jh y,d.one:=by intro y d hd;simp [jh] at hd;rcases hd with rfl|rfl|rfl|rfl<;>trivial
theorem jts:∀(y:List En),∀d∈[ji y],d.one:=by intro y d hd;simp at hd;subst hd;trivial
theorem zEnS (w:World):RepL w true [ji []] [.slice none 0 0] []:=RepL.cons_ (Rep.nil_ w 4 tEn) RepL.nil_
open Go.RowKit Go.Sort Go.BigFrame
theorem jbb (y:Yd) (id:Int) (a:Value) (S:List Nat) (w:World) (own:Bool) (ha:AggRep w own (jb y) a S):
 Calls Tryz.prog 26 #[a,.int .i64 id] w λe w'=>e=.returned (.int .i64 (runAt y id))/\Below w.heap.size w w':=by
 obtain ⟨_,rfl,ha⟩:=ha;obtain ⟨sv,rv,S1,S2,rfl,ah0,ah1,rfl⟩:=zn ha;clear ha ah0;obtain ⟨A,c,rfl,cW,dI,dW⟩:=Rep.open_ (size:=8) (enc:=jc) (λ_=>rfl) (by decide) ah1
 unfold maxLen at dI;have g8:y.aLX.length<=9223372036854775807:=by omega
 by_cases h8:8<y.aLX.length
 ·clear dW
  have hr:runAt y id=-1:=by simp [runAt,h8]
  rw [hr];clear hr
  go_enter Tryz.func26,Tryz.ntmps26
  go_wp2
  go_loop [5] (λi=>i=.int .i64 0) (λ_=>0)
  case atStart=>rfl
  case round=>
   subst hrel
   go_wp2
   all_goals go_ret
   all_goals exact ⟨rfl,(Below.refl _ _).alloc (by simp) _⟩
 ·have hr:runAt y id=jg8 y.aLX id:=by simp [runAt,h8]
  rw [hr];clear hr
  go_enter Tryz.func26,Tryz.ntmps26
  go_wp2
  go_loop [5] (λi=>∃k:Nat,k<=y.aLX.length/\i=.int .i64 k/\∀j,j<k->∀z,y.aLX[j]?=some z->z.id≠id) (λi=>y.aLX.length-(intOf i).toNat)
  case atStart=>exact ⟨0,by omega,rfl,by simp⟩
  case round=>
   obtain ⟨k,hk,rfl,d7⟩:=hrel;have HN:=Lib.hid d7;clear d7;by_cases aB:k<y.aLX.length
   ·obtain ⟨x,hx⟩:=jd aB
    obtain ⟨b1,o1,vk1,T1,rfl,-,dE,-,-,aW,bK⟩:=dW k x hx;clear dW;obtain ⟨v0,v1,U0,U1,rfl,-,-,-⟩:=jay dE;have HX:=Lib.hid hx;clear hx;have p0:w.cell? ⟨b1,o1+k*8,none⟩=some (.int .i64 x.id):=bK 0 _ rfl;clear bK dE;by_cases he:x.id=id
    ·have hb:(x.id==id)=true:=by simpa using he
     have HE:=Lib.hid he;clear he
     go_wp2
     go_ret
     exact ⟨jha (jbZ HX.out HE.out HN.out).symm,(Below.refl _ _).alloc (by simp) _⟩
    ·have hb:(x.id==id)=false:=by simpa using he
     have HE:=Lib.hid he;clear he
     go_wp2
     go_round
     case rel=>
      refine ⟨k+1,by omega,by go_num,λj hj z hz=>?_⟩
      by_cases mP:j=k
      ·subst mP
       have:=HX.out;rw [hz] at this;cases this;exact HE.out
      ·exact HN.out j (by omega) z hz
     case measure=>simp [intOf];omega
   ·obtain rfl:k=y.aLX.length:=by omega
    clear dW
    go_wp2
    go_ret
    exact ⟨jha (jbF HN.out).symm,(Below.refl _ _).alloc (by simp) _⟩
theorem joR (x:Rn) (id:Int) (a:Value) (S:List Nat) (g:Nat) (w:World) (own:Bool) (ha:AggRep w own (jc x) a S) (hg:w.cell? ⟨g,0,none⟩=some (.int .i64 id)):
 Calls Tryz.prog 88 #[a,.pointer (some ⟨g,0,none⟩)] w λe w'=>e=.returned (.bool (x.id==id))/\Below w.heap.size w w':=by
 obtain ⟨_,rfl,ha⟩:=ha;obtain ⟨v0,v1,U0,U1,rfl,-,-,-⟩:=jay ha;clear ha;have aB:=World.block_lt_of_cell? w _ hg
 go_enter Tryz.func88,Tryz.ntmps88
 go_wp2
 go_ret
 exact ⟨rfl,(Below.refl _ _).alloc (by simp) _⟩
theorem jqm (rs:List Rn) (id:Int) (a:Value) (S:List Nat) (g:Nat) (w:World) (own:Bool) (ha:Rep w own (jI rs) a S) (hg:w.cell? ⟨g,0,none⟩=some (.int .i64 id)):
 Calls Tryz.prog 87 #[a,.func (.func 88) #[] #[.pointer (some ⟨g,0,none⟩)]] w λe w'=>e=.returned (.int .i64 (jg8 rs id))/\Below w.heap.size w w':=by
 obtain ⟨A,c,rfl,cW,dI,dW⟩:=Rep.open_ (size:=8) (enc:=jc) (λ_=>rfl) (by decide) ha
 unfold maxLen at dI;have g8:rs.length<=9223372036854775807:=by omega
 have aCH:=World.block_lt_of_cell? w _ hg;clear ha
 go_enter Tryz.func87,Tryz.ntmps87
 go_wp2
 go_loopw [5,8] (λ_ i wr=>∃k:Nat,k<=rs.length/\i=.int .i64 k/\(∀j,j<k->∀z,rs[j]?=some z->z.id≠id)/\Below w.heap.size w wr) (λ_ i _=>rs.length-(intOf i).toNat)
 case atStart=>exact ⟨0,by omega,rfl,by simp,Below.refl _ _⟩
 case round=>
  obtain ⟨k,hk,rfl,d7,a9⟩:=hrel;have HN:=Lib.hid d7;clear d7;have hgr:wr.cell? ⟨g,0,none⟩=some (.int .i64 id):=(a9.cell (p:=⟨g,0,none⟩) aCH).trans hg;by_cases aB:k<rs.length
  ·obtain ⟨x,hx⟩:=jd aB
   obtain ⟨b1,o1,vk1,T1,rfl,-,dE,-,-,aW,bK⟩:=dW k x hx;clear dW;obtain ⟨v0,v1,U0,U1,rfl,-,-,-⟩:=jay dE;have HX:=Lib.hid hx;clear hx;have p0:=(a9.cell (p:=⟨b1,o1+k*8,none⟩) aW).trans (bK 0 _ rfl:w.cell? ⟨b1,o1+k*8,none⟩=_);have p1:=(a9.cell (p:=⟨b1,o1+k*8+1,none⟩) aW).trans (bK 1 _ rfl);have p2:=(a9.cell (p:=⟨b1,o1+k*8+2,none⟩) aW).trans (bK 2 _ rfl);have p3:=(a9.cell (p:=⟨b1,o1+k*8+3,none⟩) aW).trans (bK 3 _ rfl);have p4:=(a9.cell (p:=⟨b1,o1+k*8+4,none⟩) aW).trans (bK 4 _ rfl);have p5:=(a9.cell (p:=⟨b1,o1+k*8+5,none⟩) aW).trans (bK 5 _ rfl);have p6:=(a9.cell (p:=⟨b1,o1+k*8+6,none⟩) aW).trans (bK 6 _ rfl);have p7:=(a9.cell (p:=⟨b1,o1+k*8+7,none⟩) aW).trans (bK 7 _ rfl);clear bK;by_cases he:x.id=id
   ·have hb:(x.id==id)=true:=by simpa using he
    have HE:=Lib.hid he;clear he
    go_wp2_with (go_at_call 88;refine (joR x id _ _ _ _ own ⟨_,rfl,dE.below a9 (aMV _)⟩ hgr).mono ?_;rintro e w2 ⟨rfl,bM⟩)
    go_ret
    exact ⟨jha (jbZ HX.out HE.out HN.out).symm,kq a9 bM⟩
   ·have hb:(x.id==id)=false:=by simpa using he
    have HE:=Lib.hid he;clear he
    go_wp2_with (go_at_call 88;refine (joR x id _ _ _ _ own ⟨_,rfl,dE.below a9 (aMV _)⟩ hgr).mono ?_;rintro e w2 ⟨rfl,bM⟩)
    go_roundw
    case rel=>
     refine ⟨k+1,by omega,by go_num,λj hj z hz=>?_,kq a9 bM⟩
     by_cases mP:j=k
     ·subst mP
      have:=HX.out;rw [hz] at this;cases this;exact HE.out
     ·exact HN.out j (by omega) z hz
    case measure=>simp [intOf];omega
  ·obtain rfl:k=rs.length:=by omega
   clear dW
   go_wp2
   go_ret
   exact ⟨jha (jbF HN.out).symm,a9⟩
theorem jbg (y:Yd) (id:Int) (a:Value) (S:List Nat) (w:World) (own:Bool) (ha:AggRep w own (jb y) a S):
 Calls Tryz.prog 25 #[a,.int .i64 id] w λe w'=>e=.returned (.int .i64 (runAt y id))/\Below w.heap.size w w':=by
 obtain ⟨_,rfl,ha⟩:=ha;obtain ⟨sv,rv,S1,S2,rfl,ah0,ah1,rfl⟩:=zn ha;clear ha ah0;obtain ⟨A,c,rfl,cW,dI,dW⟩:=Rep.open_ (size:=8) (enc:=jc) (λ_=>rfl) (by decide) ah1
 unfold maxLen at dI;have g8:y.aLX.length<=9223372036854775807:=by omega
 clear dW;by_cases h8:8<y.aLX.length
 ·have hr:runAt y id=-1:=by simp [runAt,h8]
  rw [hr];clear hr
  go_enter Tryz.func25,Tryz.ntmps25
  go_wp2
  go_ret
  exact ⟨rfl,((Below.refl _ _).alloc (by simp) _).alloc (by simp) _⟩
 ·have hr:runAt y id=jg8 y.aLX id:=by simp [runAt,h8]
  rw [hr];clear hr
  go_enter Tryz.func25,Tryz.ntmps25
  go_wp2_with (go_at_call 87;refine (jqm y.aLX id _ _ _ _ own (ah1.below (((Below.refl _ _).alloc (by simp) _).alloc (by simp) _) (aMV _)) (by simp [go_sem])).mono ?_;rintro e w2 ⟨rfl,bM⟩)
  go_ret
  exact ⟨rfl,kq (((Below.refl _ _).alloc (by simp) _).alloc (by simp) _) bM⟩
open Go.RowKit Go.ChangeShapes Go.WideShapes Go.Deep Go.ChangeAt
def inR (n:Int):Prop:=-9223372036854775808<=n/\n<=9223372036854775807
def ReadsAs (P:Program) (t:TypeId) {α:Type} (E:α->List D) (W:α->Prop):Prop:=
 ∀(H:Type) (enc:TypeId×Value->H) (w:World) (base:Nat) (spare:Nat->Bool) (held:Bool) (n:Nat) (cs:List Value) (y:DataW H×List MemPlace),
  DataW.trod enc P w base spare held n t cs=some y->∃x,W x/\∃S,RepL w false (E x) cs S
section
variable {P:Program} {t e:TypeId} {α β:Type} {E:α->List D} {E':β->List D} {W:α->Prop} {W':β->Prop}
theorem ReadsAs.map (h:ReadsAs P t E W) (g:α->β) (hE:∀a,E' (g a)=E a) (hW:∀a,W a->W' (g a)):ReadsAs P t E' W':=by
 intro H enc w base spare held n cs y hy;obtain ⟨x,hx,S,hr⟩:=h H enc w base spare held n cs y hy;exact ⟨g x,hW x hx,S,by rw [hE];exact hr⟩
theorem jwg {w:World} {a:Addr} {v:Value} (h:w.cell? a=some v):a=⟨a.block,a.off,none⟩:=by
 obtain ⟨b,o,s⟩:=a;cases s with
 |none=>rfl
 |some s=>simp only [World.cell?] at h;split at h<;>simp at h
theorem jxo {size:Nat} {ty:TypeId} (ht:P.underlying t=some (.slice e)) (h:ReadsAs P e E W) (hc:P.cellsOf e=size) (hl:∀x,(E x).length=size) (_hs:0<size):
 ReadsAs P t (λxs:List α=>[.sl size ty (xs.flatMap E)]) (λxs=>∀x∈xs,W x):=by
 intro H enc w base spare held n cs y hy;rcases open_slice ht hy with ⟨rfl,_⟩|⟨a,len,cap,m,n',D',Pl,rfl,hb,xF,nU,hm,_,hi⟩
 ·have bG:Rep w false (.sl size ty (List.flatMap E [])) (.slice none 0 0) []:=⟨[],[],[],⟨by simp,none,0,0,rfl,by simp,aMV _,aNE _,λ_=>rfl,by simp⟩,RepL.nil_,rfl⟩
  exact ⟨[],by simp,[],RepL.cons_ bG RepL.nil_⟩
 ·have iX:len<=m:=by rw [hm];split<;>omega
  have key:∀k,k<=len->∃(xs:List α) (vs:List Value) (S:List Nat),xs.length=k/\(∀x∈xs,W x)/\RepL w false (xs.flatMap E) vs S/\∀j u,vs[j]?=some u->w.cell? (a.add j)=some u:=by
   intro k
   induction k with
   |zero=>exact λ_=>⟨[],[],[],rfl,by simp,RepL.nil_,by simp⟩
   |succ k ih=>
    intro hk;obtain ⟨xs,vs,S,f8,hW,hr,bU⟩:=ih (by omega)
    obtain ⟨cs',fF,cO⟩:=hi k (by omega)
    obtain ⟨x,hx,S',bE⟩:=h H enc w base spare held n' cs' _ cO;obtain ⟨_,dG,eD⟩:=World.cells?_some fF;rw [hc] at eD dG;have bN:vs.length=k*size:=by rw [RepL.length _ hr,jG hl,f8]
    refine ⟨xs++[x],vs++cs',S++S',by simp [f8],?_,?_,?_⟩
    ·intro z hz
     rcases aMN.1 hz with hz|hz
     ·exact hW z hz
     ·simp at hz;subst hz;exact hx
    ·rw [aOE]
     exact RepL.append_ _ hr (by simpa using bE)
    ·intro j u hu
     by_cases hj:j<vs.length
     ·rw [aPA hj] at hu
      exact bU j u hu
     ·rw [aOA (by omega)] at hu
      have bJ:j-vs.length<cs'.length:=(aMI.1 hu).1;have h2:=eD (j-vs.length) (by omega)
      rw [hu,add_add,show k*size+(j-vs.length)=j by omega] at h2
      exact h2
  obtain ⟨xs,vs,S,f8,hW,hr,bU⟩:=key len (aMV _);have bN:vs.length=len*size:=by rw [RepL.length _ hr,jG hl,f8]
  refine ⟨xs,hW,?_⟩;by_cases aR:vs=[]
  ·subst aR
   refine ⟨S,?_⟩;have bG:Rep w false (.sl size ty (xs.flatMap E)) (.slice (some a) len cap) S:=⟨[],[],S,⟨by simp,some a,len,cap,rfl,bN,xF,nU,(λe=>nomatch e),by simp⟩,hr,rfl⟩
   have:=RepL.cons_ bG (RepL.nil_ (w:=w) (own:=false));simpa using this
  ·obtain ⟨u,us,rfl⟩:=List.exists_cons_of_ne_nil aR
   have h0:=bU 0 u rfl;have ha:a.add 0=a:=by simp [Addr.add]
   rw [ha] at h0;have gT:=jwg h0;have aB:=World.block_lt_of_cell? w _ h0;refine ⟨[a.block]++S,?_⟩
   have bG:Rep w false (.sl size ty (xs.flatMap E)) (.slice (some a) len cap) ([a.block]++S):=by
    refine ⟨u::us,[a.block],S,⟨by simpa using aB,some a,len,cap,rfl,bN,xF,nU,(λe=>nomatch e),λ_=>⟨a.block,a.off,by rw [<-gT],rfl,λj v hv=>?_⟩⟩,hr,rfl⟩
    have:=bU j v hv;rw [gT] at this
    rwa [Addr.add_mid] at this
   have:=RepL.cons_ bG (RepL.nil_ (w:=w) (own:=false));simpa using this
end
def jeH:C:=iS [aN 6 0] (.seq (iS [aM 7 2,aM 8 1,aP 9 .lss 3 7 8,aM 10 9,iB 11 10 false (iM 0),iB 12 10 false (iM 1),iB 13 10 false (iP .lss 3 11 12),iA 14 (iY 10 (oT) (.t 13))] (iD 14 (iS [aM 15 1,aM 6 15] .ret) .skip)) (.seq (iS [aM 16 0,aM 17 2,aP 18 .gtr 3 16 17] (iD 18 (iS [aM 19 2,aM 6 19] .ret) .skip)) (iS [aM 20 0,aM 6 20] .ret)))
theorem jhK:fnC Tryz.prog Tryz.f134=some (jeH,[.t 6],21):=by kernel_rfl
def jeT:C:=iS [aN 6 0] (.seq (iS [aM 7 2,aM 8 1,aP 9 .lss 3 7 8,aM 10 9,iB 11 10 false (iM 0),iB 12 10 false (iM 1),iB 13 10 false (iP .lss 3 11 12),iA 14 (iY 10 (oT) (.t 13))] (iD 14 (iS [aM 15 1,aM 6 15] .ret) .skip)) (iS [aM 16 0,aM 17 2,iA 18 (.mm false (.t 16) (.t 17)),aM 6 18] .ret))
theorem jhW:fnC Tryz.prog Tryz.f83=some (jeT,[.t 6],19):=by kernel_rfl
def jcr:C:=iS [iA 4 (.mov (.c (.slice none 0 0)))] (iS [aM 8 0,iA 9 (.call 134 [.t 8,oI 0,oI 3]),aM 0 9] (.seq (iS [aM 10 1,aQ 11 .lss 3 10 0] (iD 11 (.reg [aN 1 0]) .skip)) (iS [iA 12 (.bsl 3 1 0 [] []),aM 5 12] (.seq (iS [aN 6 1] (.blk 0 (.loop (.seq (iS [aM 13 6,aQ 14 .lss 3 13 4] (iD 14 .skip (.exit 0))) (.seq (.blk 1 (.reg [aM 17 5,aM 18 0,aM 19 6,aP 20 .add 3 18 19,aQ 21 .rem 3 20 4,iA 22 (wAW [(0,1,.t 21)]),iA 23 (wA3 17 22),aM 5 23])) (.reg [aM 15 6,aQ 16 .add 3 15 1,aM 6 16])))))) (iS [aM 24 1,aM 25 5,aG 26 25,aP 27 .rem 3 24 26,aM 7 27] (.seq (.dreg (tA 1 29 (iM 5) (tA 2 30 (iM 7) (tA 3 31 (.sl 1 (.t 29) (some (.t 30)) none) (tA 5 33 (iM 5) (tA 6 34 (iM 7) (tA 7 35 (.sl 1 (.t 33) none (some (.t 34))) (tC 28 (.bsl 3 1 0 [] []) [7,6,5,3,2,1] (tC 32 (wA3 28 31) [7,6,5] (tC 36 (wA3 32 35) [] (tA 9 4 (iM 36) .done) .stop) .stop) .stop)))))))) .ret))))))
theorem jff:fnC Tryz.prog Tryz.f69=some (jcr,[.t 4],37):=by kernel_rfl
def jcy:C:=iS [iA 4 (.mov (.c (.slice none 0 0)))] (iS [aM 7 0,iA 8 (.call 83 [.t 7,oI 0,oI 3]),aM 0 8] (iS [iA 5 (.mov (.c (.slice none 0 0)))] (.seq (iS [aN 6 0] (.blk 0 (.loop (.seq (iS [aM 9 6,aQ 10 .lss 3 9 3] (iD 10 .skip (.exit 0))) (.seq (.blk 1 (.reg [aM 13 5,aM 14 0,aQ 15 .add 3 14 1,aM 16 1,iA 17 (.mm true (.t 16) (oI 0)),aQ 18 .rem 3 17 3,aM 19 6,aP 20 .add 3 18 19,aQ 21 .rem 3 20 3,aP 22 .add 3 15 21,aQ 23 .rem 3 22 4,iA 24 (wAW [(0,1,.t 23)]),iA 25 (wA3 13 24),aM 5 25])) (.reg [aM 11 6,aQ 12 .add 3 11 1,aM 6 12])))))) (iS [aM 26 5,aM 4 26] .ret))))
theorem jfm:fnC Tryz.prog Tryz.f19=some (jcy,[.t 4],27):=by kernel_rfl
def brI (n a b:Int):Int:=if b<a\/n<a then a else if n>b then b else n
theorem vN (n a b:Int):kg Tryz.prog 134 [.c (.val (.int .i64 n)),.c (.val (.int .i64 a)),.c (.val (.int .i64 b))] (.c (.val (.int .i64 (brI n a b)))):=by
 refine je5 Tryz.func134 jhK (by simp) ?_
 unfold jeH;by_cases h1:b<a
 ·simp only [go_sem,h1]
  simp [brI,h1]
 ·by_cases h2:n<a
  ·simp only [go_sem,h1,h2]
   simp [brI,h1,h2]
  ·by_cases h3:b<n
   ·simp only [go_sem,h1,h2,h3]
    simp [brI,h1,h2,h3]
   ·simp only [go_sem,h1,h2,h3]
    simp [brI,h1,h2,h3]
theorem jk8 (n a b:Int):kg Tryz.prog 83 [.c (.val (.int .i64 n)),.c (.val (.int .i64 a)),.c (.val (.int .i64 b))] (.c (.val (.int .i64 (brI n a b)))):=by
 refine je5 Tryz.func83 jhW (by simp) ?_
 unfold jeT;by_cases h1:b<a
 ·simp only [go_sem,h1]
  simp [brI,h1]
 ·by_cases h2:n<a
  ·simp only [go_sem,h1,h2]
   simp [brI,h1,h2]
  ·simp only [go_sem,h1,h2]
   simp only [brI,h1,h2,or_self,if_false]
def jeX (cE aMB:Int):List Int:=
 let h:=brI cE 0 3
 let k:=(if aMB<0 then 0 else aMB).tmod 3
 [(h+1+k.tmod 3).tmod 4,(h+1+(k+1).tmod 3).tmod 4,(h+1+(k+2).tmod 3).tmod 4]
theorem jC6 (n:Int):brI n 0 3=0\/brI n 0 3=1\/brI n 0 3=2\/brI n 0 3=3:=by
 unfold brI;split
 ·omega
 ·split<;>omega
theorem jwS {n:Int} (h:0<=n):n.tmod 3=0\/n.tmod 3=1\/n.tmod 3=2:=by
 rw [aNU h];omega
theorem jqN (cE aMB h d:Int) (hh:brI cE 0 3=h) (hd:(if aMB<0 then 0 else aMB)=d) (hk:0<=h/\h<=3):(d.tmod 3=0->jeX cE aMB=[(h+1).tmod 4,(h+2).tmod 4,(h+3).tmod 4])/\(d.tmod 3=1->jeX cE aMB=[(h+2).tmod 4,(h+3).tmod 4,(h+1).tmod 4])/\(d.tmod 3=2->jeX cE aMB=[(h+3).tmod 4,(h+1).tmod 4,(h+2).tmod 4]):=by
 have e1:h+1+1=h+2:=by omega
 have e2:h+1+2=h+3:=by omega
 have e0:h+1+0=h+1:=by omega
 refine ⟨λh3=>?_,λh3=>?_,λh3=>?_⟩<;>simp [jeX,hh,hd,h3,e0,e1,e2]
theorem jy8 (n:Int):0<=brI n 0 3/\brI n 0 3<=3:=by have:=jC6 n;omega
theorem jiu (cE aMB:Int):kg Tryz.prog 69 [.c (.val (.int .i64 cE)),.c (.val (.int .i64 aMB))] (.c (je (jeX cE aMB))):=by
 refine je5 Tryz.func69 jff (by simp) ?_
 unfold jcr;simp only [go_sem];refine jn (vN cE 0 3) (by simp only [go_sem]) λη=>?_
 obtain ⟨d,hd,hdk⟩:∃d:Int,(if aMB<0 then 0 else aMB)=d/\0<=d:=⟨_,rfl,by split<;>omega⟩
 have hk:=jy8 cE;have bN:=jqN cE aMB _ d rfl hd hk;have h3:=jwS hdk;generalize brI cE 0 3=h at*;have w1:IntKind.i64.wrap (h+1)=h+1:=jfv _ (by omega) (by omega)
 have w2:IntKind.i64.wrap (h+2)=h+2:=jfv _ (by omega) (by omega)
 have w3:IntKind.i64.wrap (h+3)=h+3:=jfv _ (by omega) (by omega)
 obtain ⟨v0,v1,v2⟩:=bN;by_cases aK:aMB<0
 ·rw [if_pos aK] at hd
  subst hd;rw [v0 (by decide)]
  simp only [go_sem,aK];intro dB;refine jab 3 ?_;simp only [go_sem,jfv,w1,w2,w3,D.len,maxLen];intros;rfl
 ·rw [if_neg aK] at hd
  subst hd;rcases h3 with h3|h3|h3
  ·rw [v0 h3]
   simp only [go_sem,aK];intro dB;refine jab 3 ?_;simp only [go_sem,jfv,w1,w2,w3,D.len,maxLen,h3];intros;rfl
  ·rw [v1 h3]
   simp only [go_sem,aK];intro dB;refine jab 3 ?_;simp only [go_sem,jfv,w1,w2,w3,D.len,maxLen,h3];intros;rfl
  ·rw [v2 h3]
   simp only [go_sem,aK];intro dB;refine jab 3 ?_;simp only [go_sem,jfv,w1,w2,w3,D.len,maxLen,h3];intros;rfl
theorem jiw (cE aMB:Int):kg Tryz.prog 19 [.c (.val (.int .i64 cE)),.c (.val (.int .i64 aMB))] (.c (je (jeX cE aMB))):=by
 refine je5 Tryz.func19 jfm (by simp) ?_
 unfold jcy;simp only [go_sem];refine jn (jk8 cE 0 3) (by simp only [go_sem]) λη=>?_
 obtain ⟨d,hd,hdk⟩:∃d:Int,(if aMB<0 then 0 else aMB)=d/\0<=d:=⟨_,rfl,by split<;>omega⟩
 have hk:=jy8 cE;have bN:=jqN cE aMB _ d rfl hd hk;have h3:=jwS hdk;generalize brI cE 0 3=h at*;have w1:IntKind.i64.wrap (h+1)=h+1:=jfv _ (by omega) (by omega)
 have w0:IntKind.i64.wrap (h+1+0)=h+1:=by rw [jfv _ (by omega) (by omega)];omega
 have w2:IntKind.i64.wrap (h+1+1)=h+2:=by rw [jfv _ (by omega) (by omega)];omega
 have w3:IntKind.i64.wrap (h+1+2)=h+3:=by rw [jfv _ (by omega) (by omega)];omega
 obtain ⟨v0,v1,v2⟩:=bN;rcases h3 with h3|h3|h3
 ·rw [v0 h3]
  simp only [go_sem];refine jab 3 ?_;simp only [go_sem,jfv,w0,w1,w2,w3,D.len,maxLen,hd,h3];intros;rfl
 ·rw [v1 h3]
  simp only [go_sem];refine jab 3 ?_;simp only [go_sem,jfv,w0,w1,w2,w3,D.len,maxLen,hd,h3];intros;rfl
 ·rw [v2 h3]
  simp only [go_sem];refine jab 3 ?_;simp only [go_sem,jfv,w0,w1,w2,w3,D.len,maxLen,hd,h3];intros;rfl
open Go.ChangeShapes Go.WideShapes Go.ChangeAt Go.RowKit
theorem own:ownKnob Tryz.prog.godebug=none:=by kernel_rfl
theorem laid:laidOutB Tryz.prog=true:=by kernel_rfl
section
variable {H:Type} {enc:TypeId×Value->H} {P:Program}
theorem jlL {f:Func} {s:ChangeSpec} {apart jP rK again:Bool} {W W':World} {args:Array Value} {v:Value} {ds gs:List (DataW H)} {before pa pv:List MemPlace}
 (hW:DataW.Whole enc P f.params.toList s.vars apart W args.toList ds gs before)
 (pX:∀(b:Nat) (sp:Nat->Bool) (hd:Bool),DataW.TrodAll enc P W' b sp hd f.resultTypes.toList (v.resultList f.resultTypes.size) (s.fn H (ds++gs)).results [])
 (cF:∀sp:Nat->Bool,(∀p∈before,sp p.block=true)->DataW.TrodAll enc P W' 0 sp true f.params.toList args.toList (s.fn H (ds++gs)).args pa)
 (rU:∀sp:Nat->Bool,(∀p∈before,sp p.block=true)->DataW.TrodVars enc P W' sp s.vars (s.fn H (ds++gs)).vars pv)
 (rZ:before=pa++pv) (hb:Below W.heap.size W W')
 (aC:∀(j:Nat) (t:TypeId) (r:Value),f.resultTypes[j]?=some t->(v.resultList f.resultTypes.size)[j]?=some r->Value.okWide P W' .any 0 t r):
 s.post enc P f apart jP rK again W args v W':=by
 have aB:∀p∈before,p.block<W.heap.size:=λp hp=>hW.lt p hp
 have oK:∀p∈before,(λb=>decide (b<W.heap.size)) p.block=true:=λp hp=>by simpa using aB p hp
 refine ⟨ds,gs,before,[],pa,pv,hW,pX _ _ _,cF _ oK,rU _ oK,World.keptBut_mono (λp hp=>⟨hp,?_⟩) (hb.frame (· ∈before)),λ_=>?_⟩
 ·rw [rZ,aMN] at hp
  exact Or.inr hp
 ·obtain ⟨_,_,_,_,_,hz,hn⟩:=hW
  refine ⟨aC,_,_,([]++pa)++pv,⟨[]++pa,pv,trodAll_append (cF _ (λ_ _=>rfl)) (pX _ _ _),rU _ (λ_ _=>rfl),rfl,?_,?_⟩,?_⟩
  ·intro b off hp
   have dC:MemPlace.cell b off∈before:=by rw [rZ];simpa using hp
   rw [hb.frozen (aB _ dC)];exact hz b off dC
  ·intro ha
   have:=hn ha;rw [rZ] at this;simpa using this
  ·intro p hp _
   rw [rZ];simpa using hp
theorem jpt {t:TypeId} (hl:laidOutB P=true) (hr:P.readableRec t=true) (bX:t<P.types.size) {W W':World} {v:Value} {d:DataW H} {ps:List MemPlace} {sp:Nat->Bool}
 (h:DataW.Trod enc P W 0 (λ_=>true) true t v d ps) (hb:Below W.heap.size W W') (aB:∀x∈ps,x.block<W.heap.size) (gT:∀x∈ps,sp x.block=true):
 DataW.Trod enc P W' 0 sp true t v d ps:=
 WideElems.Trod_stays hl hr bX h (λx hx=>hb.same (aB x hx)) (λx hx=>gT x hx)
end
theorem ju9 {H:Type} {enc:TypeId×Value->H} {P:Program} {t e:TypeId} {α:Type} {E:α->D} {X:α->Prop} (nS:ReadsAs P t (λx=>[E x]) X) (ht:P.underlying t=some (.slice e))
 {W:World} {v:Value} {d:DataW H} {p:List MemPlace} {base:Nat} {spare:Nat->Bool} {held:Bool} {r:_root_.Go.Reach} {b0:Nat} (hv:Value.okWide P W r b0 t v) (h:DataW.Trod enc P W base spare held t v d p):
 ∃x,X x/\∃S,Rep W false (E x) v S:=by
 obtain ⟨a,len,cap,rfl⟩:=okWide_slice ht hv;obtain ⟨fuel,hf⟩:=h;obtain ⟨x,hx,S,hr⟩:=nS _ _ _ _ _ _ _ _ _ hf;obtain ⟨u,us,S1,S2,h1,rfl,h2,rfl,rfl⟩:=hr;have dN:[Value.slice a len cap]=[u]:=h1;cases dN;exact ⟨x,hx,S1,h2⟩
theorem joE {P:Program} {f:FuncId} {vs:List View} {args:List Value} {w:World} (h:kg P f vs (.c (.val (.bool true)))) (hv:jaa w vs args):
 Calls P f args.toArray w λe w'=>e=.returned (.bool true)/\Below w.heap.size w w':=
 (h.2 w args hv).mono λe w' ⟨v,S,he,hr,_,hb⟩=>⟨by rw [he,show v=_ from hr.1],hb⟩
