/- Parts. -/
import Derived.Test.YtmnpailnelmpiaaGreatQE4h
import Derived.Test.YtmnpailnelmpiaaGreatQE5
set_option linter.unusedSimpArgs false
set_option linter.unusedVariables false
namespace Go.Proofs.YtmnpailnelmpiaaGreat
open Go.RowKit Go.Sort
section
variable {P:Program} {β:Nat} {s:St} {d:Option Nat} {g:Option (Nat×Bool)} {K:St→Prop} {Q:Ex→St→Prop}
def jhx (o:Option (D×jp)) (k:D→jp→Prop):Prop:=match o with
 |some (d,η)=>k d η
 |none=>False
def jo6 (o:Option D) (k:D→Prop):Prop:=match o with
 |some d=>k d
 |none=>False
theorem ownK_ (d:D) (η:jp) (k:D→jp→Prop):jhx (some (d,η)) k=k d η:=(rfl)
theorem getK_ (d:D) (k:D→Prop):jo6 (some d) k=k d:=(rfl)
theorem jdb (o:Option (D×jp)) (k:D→jp→Prop):(∃d η,o=some (d,η)∧k d η)=jhx o k:=by
 cases o with
 |none=>simp [jhx]
 |some p=>
  obtain ⟨d,η⟩:=p
  apply propext
  constructor
  ·rintro ⟨_,_,h,h2⟩;cases h;exact h2
  ·intro h;exact ⟨d,η,rfl,h⟩
theorem jb4 (d:D):D.get [] d=some d:=by cases d<;>rfl
theorem jxx (k c:Nat) (p:List Nat) (x:Value) (R:D→Prop):(∃d,Is s (.h k c p x) d∧R d)=jhx ((s.o k).own c) fun d0 η=>η p=x∧jo6 (D.get p d0) fun d=>d.isSl=true∧R d:=by
 apply propext
 rw [←jdb];constructor
 ·rintro ⟨d,⟨d0,η,h1,h2,h3,h4⟩,h5⟩;exact ⟨d0,η,h1,h2,by rw [h3];exact ⟨h4,h5⟩⟩
 ·rintro ⟨d0,η,h1,h2,h3⟩
  cases h:D.get p d0 with
  |none=>rw [h] at h3;exact h3.elim
  |some d=>rw [h] at h3;exact ⟨d,⟨d0,η,h1,h2,h,h3.1⟩,h3.2⟩
theorem jsn (d:D) (η:jp):(Ob.loose d η).own 0=some (d,η):=(rfl)
def jxb:Option Cell→Option (D×jp)
 |some (.own d η)=>some (d,η)
 |_=>none
theorem jnH (b ty:Nat) (cs:List Cell) (c:Nat):(Ob.box b ty cs).own c=jxb cs[c]?:=by
 simp only [Ob.own,jxb];split<;>simp_all
theorem ownC_ (d:D) (η:jp):jxb (some (.own d η))=some (d,η):=(rfl)
theorem rm_o (k c n:Nat):(s.rm k c).o n=if n=k then (s.o k).rm c else s.o n:=(rfl)
theorem rm_t (k c n:Nat):(s.rm k c).t n=s.t n:=(rfl)
theorem jp9 (d:D) (η:jp):(Ob.loose d η).rm 0=.none:=(rfl)
theorem juO (b ty:Nat) (cs:List Cell) (c:Nat):(Ob.box b ty cs).rm c=.box b ty (rmC cs c cs[c]?):=(rfl)
theorem jw2 (cs:List Cell) (c:Nat) (d:D) (η:jp):rmC cs c (some (.own d η))=cs.set c (.a (.v (η []))):=(rfl)
theorem ju0 (k c:Nat) (p:List Nat) (x:Value):jxr d s K false (.c (.h k c p x))=jhx ((s.o k).own c) fun d0 η=>η p=x∧jo6 (D.get p d0) fun dd=>dd.isSl=true∧0<dd.size∧K (s.put d (.c (.v (.int .i64 dd.len)))):=by
 rw [jzN,jxx]
theorem jxG (size k c:Nat) (p:List Nat) (hx:Value) (kk:IntKind) (n:Int):iaK d s K size (.c (.h k c p hx)) (.c (.v (.int kk n)))=((0≤n∧jhx ((s.o k).own c) fun d0 η=>η p=hx∧jo6 (D.get p d0) fun dd=>dd.isSl=true∧dd.size=size∧n.toNat<dd.len)∧K (s.put d (.c (.ep k c p (n.toNat*size) hx)))):=by
 rw [iaK_h,jxx]
theorem jxs (agg:Bool) (n k c:Nat) (p:List Nat) (i:Nat) (x:Value):ldK d s K agg n (.c (.ep k c p i x))=jhx ((s.o k).own c) fun d0 η=>η p=x∧jo6 (D.get p d0) fun dd=>dd.isSl=true∧i+n≤dd.cells.length∧ldV agg (jfL k c p η i ((dd.cells.drop i).take n)) fun v=>K (s.put d v):=by
 apply propext
 rw [←jdb];simp only [ldK];constructor
 ·rintro ⟨d0,η,dd,h1,h2,h3,h4⟩;exact ⟨d0,η,h1,h2,by rw [h3];exact h4⟩
 ·rintro ⟨d0,η,h1,h2,h3⟩
  cases h:D.get p d0 with
  |none=>rw [h] at h3;exact h3.elim
  |some dd=>rw [h] at h3;exact ⟨d0,η,dd,h1,h2,h,h3⟩
theorem jt7 (k c:Nat) (x:Value) (l:List A0) (R:List Cell→St→Prop):kF s (.h k c [] x::l) R=jhx ((s.o k).own c) fun d η=>η []=x∧kF (s.rm k c) l (fun cs s'=>R (.own d η::cs) s'):=by
 rw [jyv,jdb]
def jbr (a:AV) (n:Nat) (k:List A0→Prop):Prop:=∃l,a.cells=some l∧l.length=n∧k l
theorem jtn (l:List A0) (n:Nat) (k:List A0→Prop):jbr (.agg l) n k=(l.length=n∧k l):=by simp [jbr,AV.cells]
theorem jx7 (a:A0) (n:Nat) (k:List A0→Prop):jbr (.c a) n k=(a.c1=true∧1=n∧k [a]):=by
 simp only [jbr,AV.cells];cases h:a.c1<;>simp
def jwc (s:St):List (Nat×Nat×X)→(List A0→Prop)→Prop
 |[],k=>k []
 |(_,size,x)::ps,k=>jbr (s.ev x) size fun l=>jwc s ps fun r=>k (l++r)
theorem jtp:∀(ps:List (Nat×Nat×X)) (k:List A0→Prop),(∃l,jqQ s ps=some l∧k l)=jwc s ps k
 |[],k=>by simp [jqQ,jwc]
 |(o,size,x)::ps,k=>by
  apply propext
  simp only [jwc,jbr,jqQ];constructor
  ·rintro ⟨l,h1,h2⟩
   split at h1
   ·rename_i l1 r h3 h4
    split at h1
    ·rename_i h5
     simp at h1;subst h1;refine ⟨l1,h3,h5,?_⟩;rw [←jtp ps];exact ⟨r,h4,h2⟩
    ·simp at h1
   ·simp at h1
  ·rintro ⟨l1,h3,h5,h6⟩
   rw [←jtp ps] at h6;obtain ⟨r,h7,h8⟩:=h6;exact ⟨l1++r,by rw [h3,h7];simp [h5],h8⟩
theorem jx8 (k:List A0→Prop):jwc s [] k=k []:=(rfl)
theorem jvv (o size:Nat) (x:X) (ps:List (Nat×Nat×X)) (k:List A0→Prop):jwc s ((o,size,x)::ps) k=jbr (s.ev x) size fun l=>jwc s ps fun r=>k (l++r):=(rfl)
def jmG (s:St):List A0→List (Nat×Nat×X)→(List A0→Prop)→Prop
 |cs,[],k=>k cs
 |cs,(off,size,x)::ps,k=>jbr (s.ev x) size fun l=>off+size≤cs.length∧jmG s (ku cs off l) ps k
theorem jn7:∀(ps:List (Nat×Nat×X)) (cs:List A0) (k:List A0→Prop),(∃l,jgK s cs ps=some l∧k l)=jmG s cs ps k
 |[],cs,k=>by simp [jgK,jmG]
 |(o,size,x)::ps,cs,k=>by
  apply propext
  simp only [jmG,jbr,jgK];constructor
  ·rintro ⟨l,h1,h2⟩
   split at h1
   ·rename_i l1 h3
    split at h1
    ·rename_i h5
     exact ⟨l1,h3,h5.1,h5.2,by rw [←jn7 ps];exact ⟨l,h1,h2⟩⟩
    ·simp at h1
   ·simp at h1
  ·rintro ⟨l1,h3,h5,h6,h7⟩
   rw [←jn7 ps] at h7;obtain ⟨r,h8,h9⟩:=h7;exact ⟨r,by rw [h3];simp [h5,h6,h8],h9⟩
theorem jvi (cs:List A0) (k:List A0→Prop):jmG s cs [] k=k cs:=(rfl)
theorem jsY (cs:List A0) (off size:Nat) (x:X) (ps:List (Nat×Nat×X)) (k:List A0→Prop):jmG s cs ((off,size,x)::ps) k=jbr (s.ev x) size fun l=>off+size≤cs.length∧jmG s (ku cs off l) ps k:=(rfl)
theorem jwU (zs:List Value) (ps:List (Nat×Nat×X)):qU P β ⟨d,g,.bld zs ps⟩ s K=jmG s (zs.map .v) ps fun l=>K (s.put d (.agg l)):=by
 have e:=jlc (P:=P) (β:=β) (s:=s) (d:=d) (g:=g) (K:=K) (i:=.bld zs ps) (G:=fun av=>∃l,jgK s (zs.map .v) ps=some l∧av=.agg l) rfl (by
  intro _ _ av os;simp only [Gen];constructor
  ·rintro ⟨l,h1,h2,h3⟩;exact ⟨⟨l,h1,h2⟩,h3⟩
  ·rintro ⟨⟨l,h1,h2⟩,h3⟩;exact ⟨l,h1,h2,h3⟩)
 rw [e,←jn7]
 apply propext
 constructor
 ·rintro ⟨_,⟨l,h1,rfl⟩,h2⟩;exact ⟨l,h1,h2⟩
 ·rintro ⟨l,h1,h2⟩;exact ⟨_,⟨l,h1,rfl⟩,h2⟩
def jq1 (ks:List (Option (Nat×Nat))) (cs:List Cell) (k:List D→Prop):Prop:=∃ds,zG ks cs=some ds∧k ds
theorem jx4 (ks:List (Option (Nat×Nat))) (k:List D→Prop):jq1 ks [] k=k []:=by simp [jq1,zG]
theorem dat_v (ks:List (Option (Nat×Nat))) (x:Value) (l:List Cell) (k:List D→Prop):jq1 ks (.a (.v x)::l) k=jq1 ks.tail l fun r=>k (jqg (ks.head?.getD none) x::r):=by
 simp only [jq1,zG];cases zG ks.tail l<;>simp
theorem jx3 (ks:List (Option (Nat×Nat))) (dd:D) (η:jp) (l:List Cell) (k:List D→Prop):jq1 ks (.own dd η::l) k=jq1 ks.tail l fun r=>k (dd::r):=by
 simp only [jq1,zG];cases zG ks.tail l<;>simp
theorem jzH (x:Value):jqg none x=.val x:=(rfl)
theorem jwS (e size n:Nat) (ks:List (Option (Nat×Nat))) (ps:List (Nat×Nat×X)):qU P β ⟨d,g,.bsl e size n ks ps⟩ s K=jwc s ps fun l=>kF s l fun cs s'=>jq1 ks cs fun ds=>∀η,K ((s'.addO [(100*(β+d.getD 0),.loose (.sl size e ds) η)]).put d (.c (.h (100*(β+d.getD 0)) 0 [] (η [])))):=by
 rw [←jtp];rfl
theorem jrX (ty:Nat) (zs:List Value):qU P β ⟨d,g,.alloc ty zs⟩ s K=∀b,K ((s.addO [(100*(β+d.getD 0),.box b ty (zs.map fun z=>.a (.v z)))]).put d (.c (.bp (100*(β+d.getD 0)) 0 b))):=by
 apply propext
 constructor
 ·rintro ⟨_,h⟩ b
  obtain ⟨_,_,⟨rfl,rfl⟩,h2⟩:=h ⟨b,fun _ _=>undef⟩
  exact h2
 ·intro h
  exact ⟨.c (.val undef),fun st=>⟨_,_,⟨rfl,rfl⟩,h st.blk⟩⟩
def obK (o:Ob) (b:Nat) (k:Nat→List Cell→Prop):Prop:=match o with
 |.box b' ty ds=>b'=b∧k ty ds
 |_=>False
theorem obK_ (b b' ty:Nat) (ds:List Cell) (k:Nat→List Cell→Prop):obK (.box b' ty ds) b k=(b'=b∧k ty ds):=(rfl)
theorem jzF (o:Ob) (b:Nat) (k:Nat→List Cell→Prop):(∃ty ds,o=.box b ty ds∧k ty ds)=obK o b k:=by
 cases o with
 |box b' ty ds=>
  simp only [obK]
  apply propext
  constructor
  ·rintro ⟨_,_,h,h2⟩;cases h;exact ⟨by trivial,h2⟩
  ·rintro ⟨rfl,h2⟩;exact ⟨_,_,rfl,h2⟩
 |_=>simp [obK]
def stA (s':St) (K:St→Prop) (n:Nat) (ks:List (Option (Nat×Nat))) (cs:List Cell):AV→Prop
 |.c (.bp g c b)=>obK (s'.o g) b fun ty ds=>c+n≤ds.length∧K (s'.setO g (.box b ty (ku ds c cs)))
 |.c (.ep g c p k hx)=>0<n∧jq1 ks cs fun ds=>jhx ((s'.o g).own c) fun d0 η=>η p=hx∧jo6 (D.get p d0) fun dd=>dd.isSl=true∧k+n≤dd.cells.length∧
  stH (jU ds&&jU ((dd.cells.drop k).take n)) p k n η fun η'=>K (s'.setO g ((s'.o g).putOwn c (D.put p k ds d0) η'))
 |_=>False
theorem jyB (s':St) (n k c b:Nat) (ks:List (Option (Nat×Nat))) (cs:List Cell):stA s' K n ks cs (.c (.bp k c b))=obK (s'.o k) b fun ty ds=>c+n≤ds.length∧K (s'.setO k (.box b ty (ku ds c cs))):=(rfl)
theorem jyA (s':St) (n k c i:Nat) (p:List Nat) (hx:Value) (ks:List (Option (Nat×Nat))) (cs:List Cell):stA s' K n ks cs (.c (.ep k c p i hx))=(0<n∧jq1 ks cs fun ds=>jhx ((s'.o k).own c) fun d0 η=>η p=hx∧jo6 (D.get p d0) fun dd=>dd.isSl=true∧i+n≤dd.cells.length∧
 stH (jU ds&&jU ((dd.cells.drop i).take n)) p i n η fun η'=>K (s'.setO k ((s'.o k).putOwn c (D.put p i ds d0) η'))):=rfl
theorem jyU (n:Nat) (ks:List (Option (Nat×Nat))) (a x:X):qU P β ⟨none,g,.st n ks a x⟩ s K=jbr (s.ev x) n fun l=>kF s l fun cs s'=>stA s' K n ks cs (s.ev a):=by
 have e:qU P β ⟨none,g,.st n ks a x⟩ s K=((none:Option Nat)=none∧∃l,(s.ev x).cells=some l∧l.length=n∧kF s l fun cs s'=>match s.ev a with
  |.c (.bp g c b)=>∃ty ds,s'.o g=.box b ty ds∧c+n≤ds.length∧K (s'.setO g (.box b ty (ku ds c cs)))
  |.c (.ep g c p k hx)=>0<n∧∃ds,zG ks cs=some ds∧∃d0 η dd,(s'.o g).own c=some (d0,η)∧η p=hx∧D.get p d0=some dd∧dd.isSl=true∧k+n≤dd.cells.length∧
   stH (jU ds&&jU ((dd.cells.drop k).take n)) p k n η fun η'=>K (s'.setO g ((s'.o g).putOwn c (D.put p k ds d0) η'))
  |_=>False):=rfl
 rw [e];simp only [true_and,jbr]
 congr 1
 funext l
 congr 2
 congr 1
 funext cs s'
 cases hv:s.ev a with
 |c y=>
  cases y with
  |bp g c b=>simp only [stA,←jzF]
  |ep g c p k hx=>
   simp only [stA,jq1]
   apply propext
   constructor
   ·rintro ⟨h0,ds,h1,d0,η,dd,h2,h3,h4,h5,h6,h7⟩
    exact ⟨h0,ds,h1,by rw [←jdb];exact ⟨d0,η,h2,h3,by rw [h4];exact ⟨h5,h6,h7⟩⟩⟩
   ·rintro ⟨h0,ds,h1,h2⟩
    rw [←jdb] at h2;obtain ⟨d0,η,h3,h4,h5⟩:=h2;cases hg:D.get p d0 with
    |none=>rw [hg] at h5;exact h5.elim
    |some dd=>rw [hg] at h5;exact ⟨h0,ds,h1,d0,η,dd,h3,h4,hg,h5⟩
  |_=>simp [stA]
 |_=>simp [stA]
theorem jlY (d0 d1:D) (η η':jp):(Ob.loose d0 η).putOwn 0 d1 η'=.loose d1 η':=(rfl)
theorem jp1 (b ty:Nat) (cs:List Cell) (c:Nat) (d1:D) (η':jp):(Ob.box b ty cs).putOwn c d1 η'=.box b ty (cs.set c (.own d1 η')):=(rfl)
theorem jrN {α:Type} (l:List α) (c:Nat):ku l c []=l:=(rfl)
theorem jpO {α:Type} (l:List α) (c:Nat) (x:α) (r:List α):ku l c (x::r)=ku (l.set c x) (c+1) r:=(rfl)
theorem jwW (e size bytes:Nat) (x y:X):qU P β ⟨d,g,.app e size bytes x y⟩ s K=jtN s size (s.ev y) fun ys s1=>jhg s1 e size (s.ev x) fun xs s2=>xs.length/size+ys.length/size≤maxLen∧(xs.length/size+ys.length/size)*bytes≤140737488355328∧
 ∀η,K ((s2.addO [(100*(β+d.getD 0),.loose (.sl size e (xs++ys)) η)]).put d (.c (.h (100*(β+d.getD 0)) 0 [] (η [])))):=rfl
theorem jyC (size:Nat) (dd:D) (R:List D→St→Prop):jtN s size (.c (.ro dd)) R=(dd.isSl=true∧dd.size=size∧jU dd.cells=true∧R dd.cells s):=(rfl)
theorem src_h (size k c:Nat) (p:List Nat) (x:Value) (R:List D→St→Prop):jtN s size (.c (.h k c p x)) R=jhx ((s.o k).own c) fun d0 η=>η p=x∧jo6 (D.get p d0) fun dd=>dd.isSl=true∧dd.size=size∧(if jU dd.cells=true then R dd.cells s else p=[]∧jiX dd.cells=true∧R dd.cells (s.rm k c)):=by
 rw [←jxx];rfl
theorem jvs (e size:Nat) (R:List D→St→Prop):jhg s e size (.c (.v (.slice none 0 0))) R=R [] s:=(rfl)
def slK (dd:D) (e size:Nat) (k:List D→Prop):Prop:=∃cs,dd=.sl size e cs∧k cs
theorem jwE (e size e' size':Nat) (cs:List D) (k:List D→Prop):slK (.sl size' e' cs) e size k=((size'=size∧e'=e)∧k cs):=by
 simp only [slK]
 apply propext
 constructor
 ·rintro ⟨_,h,h2⟩;cases h;exact ⟨⟨by trivial,by trivial⟩,h2⟩
 ·rintro ⟨⟨rfl,rfl⟩,h⟩;exact ⟨_,rfl,h⟩
theorem jAf (e size k c:Nat) (x:Value) (R:List D→St→Prop):jhg s e size (.c (.h k c [] x)) R=jhx ((s.o k).own c) fun d0 η=>slK d0 e size fun cs=>η []=x∧R cs (s.rm k c):=by
 apply propext
 rw [←jdb];simp only [jhg,slK];constructor
 ·rintro ⟨_,cs,η,h1,h2,h3⟩;exact ⟨_,η,h1,cs,rfl,h2,h3⟩
 ·rintro ⟨_,η,h1,cs,rfl,h2,h3⟩;exact ⟨trivial,cs,η,h1,h2,h3⟩
theorem jsU:jU []=true:=(rfl)
theorem jqG (u:Value) (l:List D):jU (.val u::l)=(u.oneCell'&&jU l):=(rfl)
theorem vu:∀(l m:List D),jU (l++m)=(jU l&&jU m)
 |[],_=>by simp [jU]
 |.val u::l,m=>by simp [jU,vu l m,Bool.and_assoc]
 |.sl _ _ _::l,m=>by simp [jU]
theorem jrV {e size bytes:Nat} {zs:List D} {l c:X}:qU P β ⟨d,g,.mks e size bytes zs l c⟩ s K=∃(k k':IntKind) (n:Nat),s.ev l=.c (.v (.int k (n:Int)))∧s.ev c=.c (.v (.int k' (n:Int)))∧bytes*n≤281474976710656∧n≤maxLen∧
 ∀η,K ((s.addO [(100*(β+d.getD 0),.loose (.sl size e ((List.replicate n zs).flatten)) η)]).put d (.c (.h (100*(β+d.getD 0)) 0 [] (η [])))):=by
 apply propext
 constructor
 ·rintro ⟨_,h⟩
  obtain ⟨_,_,⟨k,k',n,h1,h2,h3,h4,rfl,rfl⟩,_⟩:=h ⟨0,fun _ _=>undef⟩
  refine ⟨k,k',n,h1,h2,h3,h4,fun η=>?_⟩
  obtain ⟨_,_,⟨k1,k1',n1,h1',h2',_,_,rfl,rfl⟩,h6⟩:=h ⟨0,fun _=>η⟩
  rw [h1] at h1';cases h1';exact h6
 ·rintro ⟨k,k',n,h1,h2,h3,h4,h5⟩
  exact ⟨.c (.val undef),fun st=>⟨_,_,⟨k,k',n,h1,h2,h3,h4,rfl,rfl⟩,h5 (st.η 0)⟩⟩
def bnd (s:St) (x:Option X) (dflt:Nat) (k:Nat→Prop):Prop:=match x with
 |none=>k dflt
 |some x=>∃kk n,s.ev x=.c (.v (.int kk n))∧0≤n∧k n.toNat
def bndA (a:AV) (k:Nat→Prop):Prop:=match a with
 |.c (.v (.int _ n))=>0≤n∧k n.toNat
 |_=>False
theorem bndA_ (kk:IntKind) (n:Int) (k:Nat→Prop):bndA (.c (.v (.int kk n))) k=(0≤n∧k n.toNat):=(rfl)
theorem bnd_n (dflt:Nat) (k:Nat→Prop):bnd s none dflt k=k dflt:=(rfl)
theorem bnd_s (x:X) (dflt:Nat) (k:Nat→Prop):bnd s (some x) dflt k=bndA (s.ev x) k:=by
 simp only [bnd]
 apply propext
 constructor
 ·rintro ⟨kk,n,h1,h2⟩;rw [h1];exact h2
 ·intro h
  unfold bndA at h;split at h
  ·rename_i kk n he;exact ⟨kk,n,he,h⟩
  ·exact h.elim
theorem jiP (x:Option X) (dflt:Nat) (R:Nat→Prop):(∃l,jfp s x dflt l∧R l)=bnd s x dflt R:=by
 apply propext
 cases x with
 |none=>constructor
        ·rintro ⟨l,rfl,h⟩;exact h
        ·intro h;exact ⟨_,rfl,h⟩
 |some x=>
  constructor
  ·rintro ⟨l,⟨k,h1⟩,h2⟩;exact ⟨k,l,h1,Int.natCast_nonneg _,by simpa using h2⟩
  ·rintro ⟨k,n,h1,h2,h3⟩;exact ⟨n.toNat,⟨k,by rw [h1,Int.toNat_of_nonneg h2]⟩,h3⟩
def slA (d:Option Nat) (s:St) (K:St→Prop) (size:Nat) (lo hi:Option X):AV→Prop
 |.c (.v (.string b))=>size=0∧bnd s lo 0 fun l=>bnd s hi b.size fun h=>(l≤h∧h≤b.size)∧K (s.put d (.c (.v (.string (b.extract l h)))))
 |.c (.ro dd)=>(0<size∧dd.isSl=true∧dd.size=size)∧bnd s lo 0 fun l=>bnd s hi dd.len fun h=>(l≤h∧h≤dd.len)∧K (s.put d (.c (.ro (dd.sub l h))))
 |.c (.h k c p x)=>0<size∧jhx ((s.o k).own c) fun d0 η=>η p=x∧jo6 (D.get p d0) fun dd=>(dd.isSl=true∧dd.size=size)∧bnd s lo 0 fun l=>bnd s hi dd.len fun h=>(l≤h∧h≤dd.len)∧K (s.put d (.c (.hs k c p x size l (h-l))))
 |.c (.hs k c p x sz lo0 m)=>((∃dd,Is s (.hs k c p x sz lo0 m) dd)∧sz=size)∧bnd s lo 0 fun l=>bnd s hi m fun h=>(l≤h∧h≤m)∧K (s.put d (.c (.hs k c p x size (lo0+l) (h-l))))
 |_=>False
theorem jyV (size:Nat) (x:X) (lo hi:Option X):qU P β ⟨d,g,.sl size x lo hi⟩ s K=slA d s K size lo hi (s.ev x):=by
 have e:=jlc (P:=P) (β:=β) (s:=s) (d:=d) (g:=g) (K:=K) (i:=.sl size x lo hi) (G:=fun av=>∃l h,jfp s lo 0 l∧l≤h∧(match s.ev x with
  |.c (.v (.string b))=>size=0∧jfp s hi b.size h∧h≤b.size∧av=.c (.v (.string (b.extract l h)))
  |.c (.ro d)=>0<size∧d.isSl=true∧d.size=size∧jfp s hi d.len h∧h≤d.len∧av=.c (.ro (d.sub l h))
  |.c (.h g c p hx)=>0<size∧(∃d,Is s (.h g c p hx) d∧d.size=size∧jfp s hi d.len h∧h≤d.len)∧av=.c (.hs g c p hx size l (h-l))
  |.c (.hs g c p hx sz lo m)=>(∃d,Is s (.hs g c p hx sz lo m) d)∧sz=size∧jfp s hi m h∧h≤m∧av=.c (.hs g c p hx size (lo+l) (h-l))
  |_=>False)) rfl (by
  intro _ _ av os;simp only [Gen];constructor
  ·rintro ⟨l,h,h1,h2,h3,h4⟩;exact ⟨⟨l,h,h1,h2,h3⟩,h4⟩
  ·rintro ⟨⟨l,h,h1,h2,h3⟩,h4⟩;exact ⟨l,h,h1,h2,h3,h4⟩)
 rw [e]
 apply propext
 cases hv:s.ev x with
 |c y=>
  cases y with
  |v u=>
   cases u with
   |string b=>
    simp only [slA,←jiP];constructor
    ·rintro ⟨_,⟨l,h,h1,h2,h3,h4,h5,rfl⟩,h6⟩;exact ⟨h3,l,h1,h,h4,⟨h2,h5⟩,h6⟩
    ·rintro ⟨h3,l,h1,h,h4,⟨h2,h5⟩,h6⟩;exact ⟨_,⟨l,h,h1,h2,h3,h4,h5,rfl⟩,h6⟩
   |_=>simp [slA]
  |ro dd=>
   simp only [slA,←jiP];constructor
   ·rintro ⟨_,⟨l,h,h1,h2,h3,h4,h5,h6,h7,rfl⟩,h8⟩;exact ⟨⟨h3,h4,h5⟩,l,h1,h,h6,⟨h2,h7⟩,h8⟩
   ·rintro ⟨⟨h3,h4,h5⟩,l,h1,h,h6,⟨h2,h7⟩,h8⟩;exact ⟨_,⟨l,h,h1,h2,h3,h4,h5,h6,h7,rfl⟩,h8⟩
  |h k c p hx=>
   simp only [slA];constructor
   ·rintro ⟨_,⟨l,h,h1,h2,h3,⟨dd,⟨d0,η,k1,k2,k3,k4⟩,k5,k6,k7⟩,rfl⟩,h8⟩
    refine ⟨h3,?_⟩;rw [←jdb];refine ⟨d0,η,k1,k2,?_⟩;rw [k3];refine ⟨⟨k4,k5⟩,?_⟩;rw [←jiP];refine ⟨l,h1,?_⟩;rw [←jiP];exact ⟨h,k6,⟨h2,k7⟩,h8⟩
   ·rintro ⟨h3,h4⟩
    rw [←jdb] at h4;obtain ⟨d0,η,k1,k2,k3⟩:=h4;cases hg:D.get p d0 with
    |none=>rw [hg] at k3;exact k3.elim
    |some dd=>
     rw [hg] at k3;obtain ⟨⟨k4,k5⟩,k6⟩:=k3;rw [←jiP] at k6;obtain ⟨l,h1,k7⟩:=k6;rw [←jiP] at k7;obtain ⟨h,k8,⟨h2,k9⟩,h8⟩:=k7;exact ⟨_,⟨l,h,h1,h2,h3,⟨dd,⟨d0,η,k1,k2,hg,k4⟩,k5,k8,k9⟩,rfl⟩,h8⟩
  |hs k c p hx sz lo0 m=>
   simp only [slA,←jiP];constructor
   ·rintro ⟨_,⟨l,h,h1,h2,h3,h4,h5,h6,rfl⟩,h7⟩;exact ⟨⟨h3,h4⟩,l,h1,h,h5,⟨h2,h6⟩,h7⟩
   ·rintro ⟨⟨h3,h4⟩,l,h1,h,h5,⟨h2,h6⟩,h7⟩;exact ⟨_,⟨l,h,h1,h2,h3,h4,h5,h6,rfl⟩,h7⟩
  |_=>simp [slA]
 |_=>simp [slA]
theorem jyE (size:Nat) (lo hi:Option X) (dd:D):slA d s K size lo hi (.c (.ro dd))=((0<size∧dd.isSl=true∧dd.size=size)∧bnd s lo 0 fun l=>bnd s hi dd.len fun h=>(l≤h∧h≤dd.len)∧K (s.put d (.c (.ro (dd.sub l h))))):=(rfl)
theorem slA_h (size:Nat) (lo hi:Option X) (k c:Nat) (p:List Nat) (x:Value):slA d s K size lo hi (.c (.h k c p x))=(0<size∧jhx ((s.o k).own c) fun d0 η=>η p=x∧jo6 (D.get p d0) fun dd=>(dd.isSl=true∧dd.size=size)∧bnd s lo 0 fun l=>bnd s hi dd.len fun h=>(l≤h∧h≤dd.len)∧K (s.put d (.c (.hs k c p x size l (h-l))))):=(rfl)
theorem is_hs (k c:Nat) (p:List Nat) (x:Value) (sz lo n:Nat) (R:D→Prop):(∃d,Is s (.hs k c p x sz lo n) d∧R d)=jhx ((s.o k).own c) fun d0 η=>η p=x∧jo6 (D.get p d0) fun dd=>(dd.isSl=true∧dd.size=sz∧0<sz∧lo+n≤dd.len)∧R (dd.sub lo (lo+n)):=by
 apply propext
 rw [←jdb];constructor
 ·rintro ⟨d,⟨d0,η,dd,h1,h2,h3,h4,h5,h6,h7,rfl⟩,h8⟩;exact ⟨d0,η,h1,h2,by rw [h3];exact ⟨⟨h4,h5,h6,h7⟩,h8⟩⟩
 ·rintro ⟨d0,η,h1,h2,h3⟩
  cases h:D.get p d0 with
  |none=>rw [h] at h3;exact h3.elim
  |some dd=>rw [h] at h3;obtain ⟨⟨h4,h5,h6,h7⟩,h8⟩:=h3;exact ⟨_,⟨d0,η,dd,h1,h2,h,h4,h5,h6,h7,rfl⟩,h8⟩
theorem jyD (size k c:Nat) (p:List Nat) (x:Value) (sz lo n:Nat) (R:List D→St→Prop):jtN s size (.c (.hs k c p x sz lo n)) R=jhx ((s.o k).own c) fun d0 η=>η p=x∧jo6 (D.get p d0) fun dd=>(dd.isSl=true∧dd.size=sz∧0<sz∧lo+n≤dd.len)∧(dd.sub lo (lo+n)).size=size∧jU (dd.sub lo (lo+n)).cells=true∧R (dd.sub lo (lo+n)).cells s:=
 is_hs (s:=s) k c p x sz lo n fun d=>d.size=size∧jU d.cells=true∧R d.cells s
theorem jzX (size k c:Nat) (p:List Nat) (hx:Value) (sz lo m:Nat) (kk:IntKind) (n:Int):iaK d s K size (.c (.hs k c p hx sz lo m)) (.c (.v (.int kk n)))=((0≤n∧(∃dd,Is s (.hs k c p hx sz lo m) dd)∧sz=size∧n.toNat<m)∧K (s.put d (.c (.ep k c p ((lo+n.toNat)*size) hx)))):=(rfl)
theorem ret_r (rs:List R) (rt:RT):jvV rs rt .ret s=jvI rs rt s:=(rfl)
def St.n (s:St) (i:Nat):Nat:=match s.t i with|.c (.v (.int _ n))=>n.toNat|_=>0
theorem jdJ {i:Nat} {k:IntKind} {n:Int} (h:s.t i=.c (.v (.int k n))):s.n i=n.toNat:=by simp [St.n,h]
theorem jo {x:Int} (h:-9223372036854775808≤x) (h':x<9223372036854775808):IntKind.i64.wrap x=x:=IntWalk.i64_in _ (by omega)
theorem is_v (x:Value):Is s (.v x) (.val x)=True:=by simp [Is]
theorem is_ro (d:D):Is s (.ro d) d=True:=by simp [Is]
theorem jv3 (size:Nat) (ty:TypeId):Is s (.v (.slice none 0 0)) (.sl size ty [])=True:=by simp [Is]
theorem jxy:IsL s [] []=True:=(rfl)
theorem ju4 (a:A0) (l:List A0) (d:D) (ds:List D):IsL s (a::l) (d::ds)=(Is s a d∧IsL s l ds):=(rfl)
theorem jvF:zC s [] []=True:=(rfl)
theorem jtE (a:AV) (l:List AV) (v:View) (vs:List View):zC s (a::l) (v::vs)=(jjy s a v∧zC s l vs):=(rfl)
theorem arg_c (a:A0) (d:D):jjy s (.c a) (.c d)=Is s a d:=(rfl)
theorem jyc (l:List A0) (ds:List D):jjy s (.agg l) (.agg ds)=IsL s l ds:=(rfl)
theorem jyb (a:A0) (ds:List D):jjy s (.c a) (.ptr ds)=Ptr s a ds:=(rfl)
theorem jAw (f:Nat) (caps:List A0) (caps':List (List D)):jjy s (.fn f caps) (.fn f caps')=jvJ s caps caps':=by simp [jjy]
theorem juF:jvJ s [] []=True:=(rfl)
theorem jse (a:A0) (l:List A0) (d:List D) (ds:List (List D)):jvJ s (a::l) (d::ds)=(Ptr s a d∧jvJ s l ds):=(rfl)
theorem jzr (ds:List D):Ptr s (.rp ds) ds=True:=by simp [Ptr]
theorem is_h0 (k c:Nat) (x:Value) (d:D):Is s (.h k c [] x) d=jhx ((s.o k).own c) fun d0 η=>d0=d∧η []=x∧d.isSl=true:=by
 apply propext
 rw [←jdb];simp only [Is,jb4];constructor
 ·rintro ⟨d0,η,h1,h2,h3,h4⟩;cases h3;exact ⟨_,η,h1,rfl,h2,h4⟩
 ·rintro ⟨_,η,h1,rfl,h2,h3⟩;exact ⟨_,η,h1,h2,rfl,h3⟩
theorem jhD {k c:Nat} {x:Value} {ty:Nat} {cs:List D} {η:jp} {bs:List UInt8} (h1:(s.o k).own c=some (.sl 1 ty cs,η)) (h2:η []=x) (h3:cs=bs.map jaM) (hk:K (s.put d (.c (.v (.string ⟨bs.toArray⟩))))):cvK d s K .text (.c (.h k c [] x)):=by
 subst h3;exact ⟨_,⟨_,ty,bs,rfl,⟨_,η,h1,h2,jb4 _,rfl⟩,rfl⟩,hk⟩
end
theorem jvq (s:Nat) (t:TypeId) (cs:List D):(D.sl s t cs).size=s:=(rfl)
theorem jth (s:Nat) (t:TypeId) (cs:List D):(D.sl s t cs).cells=cs:=(rfl)
theorem jAa (s:Nat) (t:TypeId) (cs:List D):(D.sl s t cs).isSl=true:=(rfl)
theorem jx0 (s:Nat) (t:TypeId) (cs:List D) (g:Nat) (η:jp):(D.sl s t cs).obj g η=[(g,.loose (.sl s t cs) η)]:=(rfl)
theorem jAc (v:Value) (g:Nat) (η:jp):(D.val v).obj g η=[]:=(rfl)
theorem jxZ (s:Nat) (t:TypeId) (cs:List D) (g c:Nat) (p:List Nat) (η:jp):(D.sl s t cs).toOwn g c p η=.h g c p (η p):=(rfl)
theorem jAb (v:Value) (g c:Nat) (p:List Nat) (η:jp):(D.val v).toOwn g c p η=.v v:=(rfl)
theorem jxX (s:Nat) (t:TypeId) (cs:List D) (l h:Nat):(D.sl s t cs).sub l h=.sl s t ((cs.drop (l*s)).take ((h-l)*s)):=(rfl)
attribute [go_sem] jvq jth jAa jx0 jAc jxZ jAb jxX jwp jwZ jwX jwY jy2 jy3 jy4 jy5 jy6 jzg jzh jzi jzj jsE jqt jsF jqu jxu jxv jwH jrR I.looks AV.looks A0.looks AV.ids A0.ids List.flatMap_cons List.flatMap_nil List.append_nil List.contains_cons List.contains_nil Bool.or_false Bool.or_true Bool.or_self Bool.false_or Bool.true_or ite_true ite_false jyV jyE slA_h bnd_n bnd_s bndA_ jyD jzX jzH jlY jp1 List.tail_cons List.head?_cons Nat.zero_add jtW jyp jm9 jvK jtX jwo jq5 jq6 thn_n thn_e thn_r blk_n blk_r blk_e jut jrW jwM jwN jwO jwP jwI jus jzt jy0 jz2 jz4 jz3 jyX jzO jzP jxs ldB_ ldV_t ldV_f jyY jzW jxG jwK jxq juZ ju1 ju0 jwV jAo jvA jyT jws jy1 jx5 jyW mmK_ jwQ extK_ jz5 jz6 jur jyP jwT jvx jAm jwS jwU jrX jyU jyB jwW jyC src_h jvs jAf jwE ownK_ getK_ jb4 jsn jnH ownC_ rm_o rm_t jp9 juO jw2 obK_ jtn jx7 jx8 jvv jvi jsY jx4 dat_v jx3 jrN jpO jsU jqG vu jt8 jyu jwv jt7 one_i one_b one_s one_n A0.c1 ev_t ev_i ev_b ev_s ev_n put_t put_o jyR jyS jvG jtL jzR jzS View.av jy7 ju6 jex jdR ret_r is_v is_ro jv3 jxy ju4 jvF jtE arg_c jyc jyb jAw juF jse jzr is_h0 RT.flat jji RT.av jzx jAE List.map_cons List.map_nil List.length_cons List.length_nil List.take_succ_cons List.take_zero List.drop_succ_cons List.drop_zero List.getElem?_cons_zero List.getElem?_cons_succ List.set_cons_zero List.set_cons_succ List.cons_append List.nil_append Option.getD_some Nat.lt_add_one and_true true_and and_self forall_const imp_self implies_true ge_iff_le gt_iff_lt decide_true decide_false Bool.not_true Bool.not_false Bool.and_self Bool.false_eq_true Int.toNat_natCast Int.natCast_nonneg not_false_eq_true ne_eq
attribute [go_sem_proc] Nat.reduceEqDiff Nat.reduceMul Nat.reduceAdd Nat.reduceLeDiff Nat.reduceLT Nat.reduceBEq Nat.reduceSub reduceCtorEq Int.reduceEq
attribute [go_sem_proc↓] reduceIte
end Go.Proofs.YtmnpailnelmpiaaGreat
