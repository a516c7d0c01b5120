/- Parts. -/
import Derived.Test.YtmnpailnelmpiaaGreatQE4h
import Derived.Test.YtmnpailnelmpiaaGreatQE5
set_option linter.unusedSimpArgs false
set_option linter.unusedVariables false
namespace Go.Proofs.YtmnpailnelmpiaaGreat
open Go.RowKit Go.Sort
section
variable {P:Program} {β:Nat} {s:St} {d:Option Nat} {g:Option (Nat×Bool)} {K:St→Prop} {Q:Ex→St→Prop}
def jhP (o:Option (D×jp)) (k:D→jp→Prop):Prop:=match o with
 |some (d,η)=>k d η
 |none=>False
def jpg (o:Option D) (k:D→Prop):Prop:=match o with
 |some d=>k d
 |none=>False
theorem ownK_ (d:D) (η:jp) (k:D→jp→Prop):jhP (some (d,η)) k=k d η:=(rfl)
theorem getK_ (d:D) (k:D→Prop):jpg (some d) k=k d:=(rfl)
theorem jdi (o:Option (D×jp)) (k:D→jp→Prop):(∃d η,o=some (d,η)∧k d η)=jhP o k:=by
 cases o with
 |none=>simp [jhP]
 |some p=>
  obtain ⟨d,η⟩:=p
  apply propext
  constructor
  ·rintro ⟨_,_,h,h2⟩;cases h;exact h2
  ·intro h;exact ⟨d,η,rfl,h⟩
theorem jcb (d:D):D.get [] d=some d:=by cases d<;>rfl
theorem jx1 (k c:Nat) (p:List Nat) (x:Value) (R:D→Prop):(∃d,Is s (.h k c p x) d∧R d)=jhP ((s.o k).own c) fun d0 η=>η p=x∧jpg (D.get p d0) fun d=>d.isSl=true∧R d:=by
 apply propext
 rw [←jdi];constructor
 ·rintro ⟨d,⟨d0,η,h1,h2,h3,h4⟩,h5⟩;exact ⟨d0,η,h1,h2,by rw [h3];exact ⟨h4,h5⟩⟩
 ·rintro ⟨d0,η,h1,h2,h3⟩
  cases h:D.get p d0 with
  |none=>rw [h] at h3;exact h3.elim
  |some d=>rw [h] at h3;exact ⟨d,⟨d0,η,h1,h2,h,h3.1⟩,h3.2⟩
theorem jsI (d:D) (η:jp):(Ob.loose d η).own 0=some (d,η):=(rfl)
def jxF:Option Cell→Option (D×jp)
 |some (.own d η)=>some (d,η)
 |_=>none
theorem jnP (b ty:Nat) (cs:List Cell) (c:Nat):(Ob.box b ty cs).own c=jxF cs[c]?:=by
 simp only [Ob.own,jxF];split<;>simp_all
theorem ownC_ (d:D) (η:jp):jxF (some (.own d η))=some (d,η):=(rfl)
theorem rm_o (k c n:Nat):(s.rm k c).o n=if n=k then (s.o k).rm c else s.o n:=(rfl)
theorem rm_t (k c n:Nat):(s.rm k c).t n=s.t n:=(rfl)
theorem jql (d:D) (η:jp):(Ob.loose d η).rm 0=.none:=(rfl)
theorem jvh (b ty:Nat) (cs:List Cell) (c:Nat):(Ob.box b ty cs).rm c=.box b ty (rmC cs c cs[c]?):=(rfl)
theorem jxw (cs:List Cell) (c:Nat) (d:D) (η:jp):rmC cs c (some (.own d η))=cs.set c (.a (.v (η []))):=(rfl)
theorem jvt (k c:Nat) (p:List Nat) (x:Value):jxV d s K false (.c (.h k c p x))=jhP ((s.o k).own c) fun d0 η=>η p=x∧jpg (D.get p d0) fun dd=>dd.isSl=true∧0<dd.size∧K (s.put d (.c (.v (.int .i64 dd.len)))):=by
 rw [jAk,jx1]
theorem jya (size k c:Nat) (p:List Nat) (hx:Value) (kk:IntKind) (n:Int):iaK d s K size (.c (.h k c p hx)) (.c (.v (.int kk n)))=((0≤n∧jhP ((s.o k).own c) fun d0 η=>η p=hx∧jpg (D.get p d0) fun dd=>dd.isSl=true∧dd.size=size∧n.toNat<dd.len)∧K (s.put d (.c (.ep k c p (n.toNat*size) hx)))):=by
 rw [iaK_h,jx1]
theorem jxW (agg:Bool) (n k c:Nat) (p:List Nat) (i:Nat) (x:Value):ldK d s K agg n (.c (.ep k c p i x))=jhP ((s.o k).own c) fun d0 η=>η p=x∧jpg (D.get p d0) fun dd=>dd.isSl=true∧i+n≤dd.cells.length∧ldV agg (jfW k c p η i ((dd.cells.drop i).take n)) fun v=>K (s.put d v):=by
 apply propext
 rw [←jdi];simp only [ldK];constructor
 ·rintro ⟨d0,η,dd,h1,h2,h3,h4⟩;exact ⟨d0,η,h1,h2,by rw [h3];exact h4⟩
 ·rintro ⟨d0,η,h1,h2,h3⟩
  cases h:D.get p d0 with
  |none=>rw [h] at h3;exact h3.elim
  |some dd=>rw [h] at h3;exact ⟨d0,η,dd,h1,h2,h,h3⟩
theorem jux (k c:Nat) (x:Value) (l:List A0) (R:List Cell→St→Prop):kI s (.h k c [] x::l) R=jhP ((s.o k).own c) fun d η=>η []=x∧kI (s.rm k c) l (fun cs s'=>R (.own d η::cs) s'):=by
 rw [jyZ,jdi]
def jbA (a:AV) (n:Nat) (k:List A0→Prop):Prop:=∃l,a.cells=some l∧l.length=n∧k l
theorem jtM (l:List A0) (n:Nat) (k:List A0→Prop):jbA (.agg l) n k=(l.length=n∧k l):=by simp [jbA,AV.cells]
theorem jyB (a:A0) (n:Nat) (k:List A0→Prop):jbA (.c a) n k=(a.c1=true∧1=n∧k [a]):=by
 simp only [jbA,AV.cells];cases h:a.c1<;>simp
def jwH (s:St):List (Nat×Nat×X)→(List A0→Prop)→Prop
 |[],k=>k []
 |(_,size,x)::ps,k=>jbA (s.ev x) size fun l=>jwH s ps fun r=>k (l++r)
theorem jtO:∀(ps:List (Nat×Nat×X)) (k:List A0→Prop),(∃l,jq3 s ps=some l∧k l)=jwH s ps k
 |[],k=>by simp [jq3,jwH]
 |(o,size,x)::ps,k=>by
  apply propext
  simp only [jwH,jbA,jq3];constructor
  ·rintro ⟨l,h1,h2⟩
   split at h1
   ·rename_i l1 r h3 h4
    split at h1
    ·rename_i h5
     simp at h1;subst h1;refine ⟨l1,h3,h5,?_⟩;rw [←jtO ps];exact ⟨r,h4,h2⟩
    ·simp at h1
   ·simp at h1
  ·rintro ⟨l1,h3,h5,h6⟩
   rw [←jtO ps] at h6;obtain ⟨r,h7,h8⟩:=h6;exact ⟨l1++r,by rw [h3,h7];simp [h5],h8⟩
theorem jyC (k:List A0→Prop):jwH s [] k=k []:=(rfl)
theorem jvZ (o size:Nat) (x:X) (ps:List (Nat×Nat×X)) (k:List A0→Prop):jwH s ((o,size,x)::ps) k=jbA (s.ev x) size fun l=>jwH s ps fun r=>k (l++r):=(rfl)
def jmP (s:St):List A0→List (Nat×Nat×X)→(List A0→Prop)→Prop
 |cs,[],k=>k cs
 |cs,(off,size,x)::ps,k=>jbA (s.ev x) size fun l=>off+size≤cs.length∧jmP s (kC cs off l) ps k
theorem jog:∀(ps:List (Nat×Nat×X)) (cs:List A0) (k:List A0→Prop),(∃l,jg2 s cs ps=some l∧k l)=jmP s cs ps k
 |[],cs,k=>by simp [jg2,jmP]
 |(o,size,x)::ps,cs,k=>by
  apply propext
  simp only [jmP,jbA,jg2];constructor
  ·rintro ⟨l,h1,h2⟩
   split at h1
   ·rename_i l1 h3
    split at h1
    ·rename_i h5
     exact ⟨l1,h3,h5.1,h5.2,by rw [←jog ps];exact ⟨l,h1,h2⟩⟩
    ·simp at h1
   ·simp at h1
  ·rintro ⟨l1,h3,h5,h6,h7⟩
   rw [←jog ps] at h7;obtain ⟨r,h8,h9⟩:=h7;exact ⟨r,by rw [h3];simp [h5,h6,h8],h9⟩
theorem jvL (cs:List A0) (k:List A0→Prop):jmP s cs [] k=k cs:=(rfl)
theorem jtk (cs:List A0) (off size:Nat) (x:X) (ps:List (Nat×Nat×X)) (k:List A0→Prop):jmP s cs ((off,size,x)::ps) k=jbA (s.ev x) size fun l=>off+size≤cs.length∧jmP s (kC cs off l) ps k:=(rfl)
theorem jxo (zs:List Value) (ps:List (Nat×Nat×X)):qT P β ⟨d,g,.bld zs ps⟩ s K=jmP s (zs.map .v) ps fun l=>K (s.put d (.agg l)):=by
 have e:=jlm (P:=P) (β:=β) (s:=s) (d:=d) (g:=g) (K:=K) (i:=.bld zs ps) (G:=fun av=>∃l,jg2 s (zs.map .v) ps=some l∧av=.agg l) rfl (by
  intro _ _ av os;simp only [Gen];constructor
  ·rintro ⟨l,h1,h2,h3⟩;exact ⟨⟨l,h1,h2⟩,h3⟩
  ·rintro ⟨⟨l,h1,h2⟩,h3⟩;exact ⟨l,h1,h2,h3⟩)
 rw [e,←jog]
 apply propext
 constructor
 ·rintro ⟨_,⟨l,h1,rfl⟩,h2⟩;exact ⟨l,h1,h2⟩
 ·rintro ⟨l,h1,h2⟩;exact ⟨_,⟨l,h1,rfl⟩,h2⟩
def jrd (ks:List (Option (Nat×Nat))) (cs:List Cell) (k:List D→Prop):Prop:=∃ds,zI ks cs=some ds∧k ds
theorem jyy (ks:List (Option (Nat×Nat))) (k:List D→Prop):jrd ks [] k=k []:=by simp [jrd,zI]
theorem dat_v (ks:List (Option (Nat×Nat))) (x:Value) (l:List Cell) (k:List D→Prop):jrd ks (.a (.v x)::l) k=jrd ks.tail l fun r=>k (jqt (ks.head?.getD none) x::r):=by
 simp only [jrd,zI];cases zI ks.tail l<;>simp
theorem jyx (ks:List (Option (Nat×Nat))) (dd:D) (η:jp) (l:List Cell) (k:List D→Prop):jrd ks (.own dd η::l) k=jrd ks.tail l fun r=>k (dd::r):=by
 simp only [jrd,zI];cases zI ks.tail l<;>simp
theorem jAc (x:Value):jqt none x=.val x:=(rfl)
theorem jxm (e size n:Nat) (ks:List (Option (Nat×Nat))) (ps:List (Nat×Nat×X)):qT P β ⟨d,g,.bsl e size n ks ps⟩ s K=jwH s ps fun l=>kI s l fun cs s'=>jrd ks cs fun ds=>∀η,K ((s'.addO [(100*(β+d.getD 0),.loose (.sl size e ds) η)]).put d (.c (.h (100*(β+d.getD 0)) 0 [] (η [])))):=by
 rw [←jtO];rfl
theorem jsf (ty:Nat) (zs:List Value):qT P β ⟨d,g,.alloc ty zs⟩ s K=∀b,K ((s.addO [(100*(β+d.getD 0),.box b ty (zs.map fun z=>.a (.v z)))]).put d (.c (.bp (100*(β+d.getD 0)) 0 b))):=by
 apply propext
 constructor
 ·rintro ⟨_,h⟩ b
  obtain ⟨_,_,⟨rfl,rfl⟩,h2⟩:=h ⟨b,fun _ _=>undef⟩
  exact h2
 ·intro h
  exact ⟨.c (.val undef),fun st=>⟨_,_,⟨rfl,rfl⟩,h st.blk⟩⟩
def obK (o:Ob) (b:Nat) (k:Nat→List Cell→Prop):Prop:=match o with
 |.box b' ty ds=>b'=b∧k ty ds
 |_=>False
theorem obK_ (b b' ty:Nat) (ds:List Cell) (k:Nat→List Cell→Prop):obK (.box b' ty ds) b k=(b'=b∧k ty ds):=(rfl)
theorem jAa (o:Ob) (b:Nat) (k:Nat→List Cell→Prop):(∃ty ds,o=.box b ty ds∧k ty ds)=obK o b k:=by
 cases o with
 |box b' ty ds=>
  simp only [obK]
  apply propext
  constructor
  ·rintro ⟨_,_,h,h2⟩;cases h;exact ⟨by trivial,h2⟩
  ·rintro ⟨rfl,h2⟩;exact ⟨_,_,rfl,h2⟩
 |_=>simp [obK]
def stA (s':St) (K:St→Prop) (n:Nat) (ks:List (Option (Nat×Nat))) (cs:List Cell):AV→Prop
 |.c (.bp g c b)=>obK (s'.o g) b fun ty ds=>c+n≤ds.length∧K (s'.setO g (.box b ty (kC ds c cs)))
 |.c (.ep g c p k hx)=>0<n∧jrd ks cs fun ds=>jhP ((s'.o g).own c) fun d0 η=>η p=hx∧jpg (D.get p d0) fun dd=>dd.isSl=true∧k+n≤dd.cells.length∧
  stH (jW ds&&jW ((dd.cells.drop k).take n)) p k n η fun η'=>K (s'.setO g ((s'.o g).putOwn c (D.put p k ds d0) η'))
 |_=>False
theorem jy5 (s':St) (n k c b:Nat) (ks:List (Option (Nat×Nat))) (cs:List Cell):stA s' K n ks cs (.c (.bp k c b))=obK (s'.o k) b fun ty ds=>c+n≤ds.length∧K (s'.setO k (.box b ty (kC ds c cs))):=(rfl)
theorem jy4 (s':St) (n k c i:Nat) (p:List Nat) (hx:Value) (ks:List (Option (Nat×Nat))) (cs:List Cell):stA s' K n ks cs (.c (.ep k c p i hx))=(0<n∧jrd ks cs fun ds=>jhP ((s'.o k).own c) fun d0 η=>η p=hx∧jpg (D.get p d0) fun dd=>dd.isSl=true∧i+n≤dd.cells.length∧
 stH (jW ds&&jW ((dd.cells.drop i).take n)) p i n η fun η'=>K (s'.setO k ((s'.o k).putOwn c (D.put p i ds d0) η'))):=rfl
theorem jzo (n:Nat) (ks:List (Option (Nat×Nat))) (a x:X):qT P β ⟨none,g,.st n ks a x⟩ s K=jbA (s.ev x) n fun l=>kI s l fun cs s'=>stA s' K n ks cs (s.ev a):=by
 have e:qT P β ⟨none,g,.st n ks a x⟩ s K=((none:Option Nat)=none∧∃l,(s.ev x).cells=some l∧l.length=n∧kI s l fun cs s'=>match s.ev a with
  |.c (.bp g c b)=>∃ty ds,s'.o g=.box b ty ds∧c+n≤ds.length∧K (s'.setO g (.box b ty (kC ds c cs)))
  |.c (.ep g c p k hx)=>0<n∧∃ds,zI ks cs=some ds∧∃d0 η dd,(s'.o g).own c=some (d0,η)∧η p=hx∧D.get p d0=some dd∧dd.isSl=true∧k+n≤dd.cells.length∧
   stH (jW ds&&jW ((dd.cells.drop k).take n)) p k n η fun η'=>K (s'.setO g ((s'.o g).putOwn c (D.put p k ds d0) η'))
  |_=>False):=rfl
 rw [e];simp only [true_and,jbA]
 congr 1
 funext l
 congr 2
 congr 1
 funext cs s'
 cases hv:s.ev a with
 |c y=>
  cases y with
  |bp g c b=>simp only [stA,←jAa]
  |ep g c p k hx=>
   simp only [stA,jrd]
   apply propext
   constructor
   ·rintro ⟨h0,ds,h1,d0,η,dd,h2,h3,h4,h5,h6,h7⟩
    exact ⟨h0,ds,h1,by rw [←jdi];exact ⟨d0,η,h2,h3,by rw [h4];exact ⟨h5,h6,h7⟩⟩⟩
   ·rintro ⟨h0,ds,h1,h2⟩
    rw [←jdi] at h2;obtain ⟨d0,η,h3,h4,h5⟩:=h2;cases hg:D.get p d0 with
    |none=>rw [hg] at h5;exact h5.elim
    |some dd=>rw [hg] at h5;exact ⟨h0,ds,h1,d0,η,dd,h3,h4,hg,h5⟩
  |_=>simp [stA]
 |_=>simp [stA]
theorem jl9 (d0 d1:D) (η η':jp):(Ob.loose d0 η).putOwn 0 d1 η'=.loose d1 η':=(rfl)
theorem jqc (b ty:Nat) (cs:List Cell) (c:Nat) (d1:D) (η':jp):(Ob.box b ty cs).putOwn c d1 η'=.box b ty (cs.set c (.own d1 η')):=(rfl)
theorem jr5 {α:Type} (l:List α) (c:Nat):kC l c []=l:=(rfl)
theorem jpY {α:Type} (l:List α) (c:Nat) (x:α) (r:List α):kC l c (x::r)=kC (l.set c x) (c+1) r:=(rfl)
theorem jxq (e size bytes:Nat) (x y:X):qT P β ⟨d,g,.app e size bytes x y⟩ s K=juc s size (s.ev y) fun ys s1=>jhz s1 e size (s.ev x) fun xs s2=>xs.length/size+ys.length/size≤maxLen∧(xs.length/size+ys.length/size)*bytes≤140737488355328∧
 ∀η,K ((s2.addO [(100*(β+d.getD 0),.loose (.sl size e (xs++ys)) η)]).put d (.c (.h (100*(β+d.getD 0)) 0 [] (η [])))):=rfl
theorem jy6 (size:Nat) (dd:D) (R:List D→St→Prop):juc s size (.c (.ro dd)) R=(dd.isSl=true∧dd.size=size∧jW dd.cells=true∧R dd.cells s):=(rfl)
theorem src_h (size k c:Nat) (p:List Nat) (x:Value) (R:List D→St→Prop):juc s size (.c (.h k c p x)) R=jhP ((s.o k).own c) fun d0 η=>η p=x∧jpg (D.get p d0) fun dd=>dd.isSl=true∧dd.size=size∧(if jW dd.cells=true then R dd.cells s else p=[]∧ji7 dd.cells=true∧R dd.cells (s.rm k c)):=by
 rw [←jx1];rfl
theorem jvW (e size:Nat) (R:List D→St→Prop):jhz s e size (.c (.v (.slice none 0 0))) R=R [] s:=(rfl)
def slK (dd:D) (e size:Nat) (k:List D→Prop):Prop:=∃cs,dd=.sl size e cs∧k cs
theorem jw9 (e size e' size':Nat) (cs:List D) (k:List D→Prop):slK (.sl size' e' cs) e size k=((size'=size∧e'=e)∧k cs):=by
 simp only [slK]
 apply propext
 constructor
 ·rintro ⟨_,h,h2⟩;cases h;exact ⟨⟨by trivial,by trivial⟩,h2⟩
 ·rintro ⟨⟨rfl,rfl⟩,h⟩;exact ⟨_,rfl,h⟩
theorem jAM (e size k c:Nat) (x:Value) (R:List D→St→Prop):jhz s e size (.c (.h k c [] x)) R=jhP ((s.o k).own c) fun d0 η=>slK d0 e size fun cs=>η []=x∧R cs (s.rm k c):=by
 apply propext
 rw [←jdi];simp only [jhz,slK];constructor
 ·rintro ⟨_,cs,η,h1,h2,h3⟩;exact ⟨_,η,h1,cs,rfl,h2,h3⟩
 ·rintro ⟨_,η,h1,cs,rfl,h2,h3⟩;exact ⟨trivial,cs,η,h1,h2,h3⟩
theorem jtg:jW []=true:=(rfl)
theorem jqS (u:Value) (l:List D):jW (.val u::l)=(u.oneCell'&&jW l):=(rfl)
theorem vx:∀(l m:List D),jW (l++m)=(jW l&&jW m)
 |[],_=>by simp [jW]
 |.val u::l,m=>by simp [jW,vx l m,Bool.and_assoc]
 |.sl _ _ _::l,m=>by simp [jW]
theorem jsd {e size bytes:Nat} {zs:List D} {l c:X}:qT P β ⟨d,g,.mks e size bytes zs l c⟩ s K=∃(k k':IntKind) (n:Nat),s.ev l=.c (.v (.int k (n:Int)))∧s.ev c=.c (.v (.int k' (n:Int)))∧bytes*n≤281474976710656∧n≤maxLen∧
 ∀η,K ((s.addO [(100*(β+d.getD 0),.loose (.sl size e ((List.replicate n zs).flatten)) η)]).put d (.c (.h (100*(β+d.getD 0)) 0 [] (η [])))):=by
 apply propext
 constructor
 ·rintro ⟨_,h⟩
  obtain ⟨_,_,⟨k,k',n,h1,h2,h3,h4,rfl,rfl⟩,_⟩:=h ⟨0,fun _ _=>undef⟩
  refine ⟨k,k',n,h1,h2,h3,h4,fun η=>?_⟩
  obtain ⟨_,_,⟨k1,k1',n1,h1',h2',_,_,rfl,rfl⟩,h6⟩:=h ⟨0,fun _=>η⟩
  rw [h1] at h1';cases h1';exact h6
 ·rintro ⟨k,k',n,h1,h2,h3,h4,h5⟩
  exact ⟨.c (.val undef),fun st=>⟨_,_,⟨k,k',n,h1,h2,h3,h4,rfl,rfl⟩,h5 (st.η 0)⟩⟩
def bnd (s:St) (x:Option X) (dflt:Nat) (k:Nat→Prop):Prop:=match x with
 |none=>k dflt
 |some x=>∃kk n,s.ev x=.c (.v (.int kk n))∧0≤n∧k n.toNat
def bndA (a:AV) (k:Nat→Prop):Prop:=match a with
 |.c (.v (.int _ n))=>0≤n∧k n.toNat
 |_=>False
theorem bndA_ (kk:IntKind) (n:Int) (k:Nat→Prop):bndA (.c (.v (.int kk n))) k=(0≤n∧k n.toNat):=(rfl)
theorem bnd_n (dflt:Nat) (k:Nat→Prop):bnd s none dflt k=k dflt:=(rfl)
theorem bnd_s (x:X) (dflt:Nat) (k:Nat→Prop):bnd s (some x) dflt k=bndA (s.ev x) k:=by
 simp only [bnd]
 apply propext
 constructor
 ·rintro ⟨kk,n,h1,h2⟩;rw [h1];exact h2
 ·intro h
  unfold bndA at h;split at h
  ·rename_i kk n he;exact ⟨kk,n,he,h⟩
  ·exact h.elim
theorem ji0 (x:Option X) (dflt:Nat) (R:Nat→Prop):(∃l,jfu s x dflt l∧R l)=bnd s x dflt R:=by
 apply propext
 cases x with
 |none=>constructor
        ·rintro ⟨l,rfl,h⟩;exact h
        ·intro h;exact ⟨_,rfl,h⟩
 |some x=>
  constructor
  ·rintro ⟨l,⟨k,h1⟩,h2⟩;exact ⟨k,l,h1,Int.natCast_nonneg _,by simpa using h2⟩
  ·rintro ⟨k,n,h1,h2,h3⟩;exact ⟨n.toNat,⟨k,by rw [h1,Int.toNat_of_nonneg h2]⟩,h3⟩
def slA (d:Option Nat) (s:St) (K:St→Prop) (size:Nat) (lo hi:Option X):AV→Prop
 |.c (.v (.string b))=>size=0∧bnd s lo 0 fun l=>bnd s hi b.size fun h=>(l≤h∧h≤b.size)∧K (s.put d (.c (.v (.string (b.extract l h)))))
 |.c (.ro dd)=>(0<size∧dd.isSl=true∧dd.size=size)∧bnd s lo 0 fun l=>bnd s hi dd.len fun h=>(l≤h∧h≤dd.len)∧K (s.put d (.c (.ro (dd.sub l h))))
 |.c (.h k c p x)=>0<size∧jhP ((s.o k).own c) fun d0 η=>η p=x∧jpg (D.get p d0) fun dd=>(dd.isSl=true∧dd.size=size)∧bnd s lo 0 fun l=>bnd s hi dd.len fun h=>(l≤h∧h≤dd.len)∧K (s.put d (.c (.hs k c p x size l (h-l))))
 |.c (.hs k c p x sz lo0 m)=>((∃dd,Is s (.hs k c p x sz lo0 m) dd)∧sz=size)∧bnd s lo 0 fun l=>bnd s hi m fun h=>(l≤h∧h≤m)∧K (s.put d (.c (.hs k c p x size (lo0+l) (h-l))))
 |_=>False
theorem jzp (size:Nat) (x:X) (lo hi:Option X):qT P β ⟨d,g,.sl size x lo hi⟩ s K=slA d s K size lo hi (s.ev x):=by
 have e:=jlm (P:=P) (β:=β) (s:=s) (d:=d) (g:=g) (K:=K) (i:=.sl size x lo hi) (G:=fun av=>∃l h,jfu s lo 0 l∧l≤h∧(match s.ev x with
  |.c (.v (.string b))=>size=0∧jfu s hi b.size h∧h≤b.size∧av=.c (.v (.string (b.extract l h)))
  |.c (.ro d)=>0<size∧d.isSl=true∧d.size=size∧jfu s hi d.len h∧h≤d.len∧av=.c (.ro (d.sub l h))
  |.c (.h g c p hx)=>0<size∧(∃d,Is s (.h g c p hx) d∧d.size=size∧jfu s hi d.len h∧h≤d.len)∧av=.c (.hs g c p hx size l (h-l))
  |.c (.hs g c p hx sz lo m)=>(∃d,Is s (.hs g c p hx sz lo m) d)∧sz=size∧jfu s hi m h∧h≤m∧av=.c (.hs g c p hx size (lo+l) (h-l))
  |_=>False)) rfl (by
  intro _ _ av os;simp only [Gen];constructor
  ·rintro ⟨l,h,h1,h2,h3,h4⟩;exact ⟨⟨l,h,h1,h2,h3⟩,h4⟩
  ·rintro ⟨⟨l,h,h1,h2,h3⟩,h4⟩;exact ⟨l,h,h1,h2,h3,h4⟩)
 rw [e]
 apply propext
 cases hv:s.ev x with
 |c y=>
  cases y with
  |v u=>
   cases u with
   |string b=>
    simp only [slA,←ji0];constructor
    ·rintro ⟨_,⟨l,h,h1,h2,h3,h4,h5,rfl⟩,h6⟩;exact ⟨h3,l,h1,h,h4,⟨h2,h5⟩,h6⟩
    ·rintro ⟨h3,l,h1,h,h4,⟨h2,h5⟩,h6⟩;exact ⟨_,⟨l,h,h1,h2,h3,h4,h5,rfl⟩,h6⟩
   |_=>simp [slA]
  |ro dd=>
   simp only [slA,←ji0];constructor
   ·rintro ⟨_,⟨l,h,h1,h2,h3,h4,h5,h6,h7,rfl⟩,h8⟩;exact ⟨⟨h3,h4,h5⟩,l,h1,h,h6,⟨h2,h7⟩,h8⟩
   ·rintro ⟨⟨h3,h4,h5⟩,l,h1,h,h6,⟨h2,h7⟩,h8⟩;exact ⟨_,⟨l,h,h1,h2,h3,h4,h5,h6,h7,rfl⟩,h8⟩
  |h k c p hx=>
   simp only [slA];constructor
   ·rintro ⟨_,⟨l,h,h1,h2,h3,⟨dd,⟨d0,η,k1,k2,k3,k4⟩,k5,k6,k7⟩,rfl⟩,h8⟩
    refine ⟨h3,?_⟩;rw [←jdi];refine ⟨d0,η,k1,k2,?_⟩;rw [k3];refine ⟨⟨k4,k5⟩,?_⟩;rw [←ji0];refine ⟨l,h1,?_⟩;rw [←ji0];exact ⟨h,k6,⟨h2,k7⟩,h8⟩
   ·rintro ⟨h3,h4⟩
    rw [←jdi] at h4;obtain ⟨d0,η,k1,k2,k3⟩:=h4;cases hg:D.get p d0 with
    |none=>rw [hg] at k3;exact k3.elim
    |some dd=>
     rw [hg] at k3;obtain ⟨⟨k4,k5⟩,k6⟩:=k3;rw [←ji0] at k6;obtain ⟨l,h1,k7⟩:=k6;rw [←ji0] at k7;obtain ⟨h,k8,⟨h2,k9⟩,h8⟩:=k7;exact ⟨_,⟨l,h,h1,h2,h3,⟨dd,⟨d0,η,k1,k2,hg,k4⟩,k5,k8,k9⟩,rfl⟩,h8⟩
  |hs k c p hx sz lo0 m=>
   simp only [slA,←ji0];constructor
   ·rintro ⟨_,⟨l,h,h1,h2,h3,h4,h5,h6,rfl⟩,h7⟩;exact ⟨⟨h3,h4⟩,l,h1,h,h5,⟨h2,h6⟩,h7⟩
   ·rintro ⟨⟨h3,h4⟩,l,h1,h,h5,⟨h2,h6⟩,h7⟩;exact ⟨_,⟨l,h,h1,h2,h3,h4,h5,h6,rfl⟩,h7⟩
  |_=>simp [slA]
 |_=>simp [slA]
theorem jy8 (size:Nat) (lo hi:Option X) (dd:D):slA d s K size lo hi (.c (.ro dd))=((0<size∧dd.isSl=true∧dd.size=size)∧bnd s lo 0 fun l=>bnd s hi dd.len fun h=>(l≤h∧h≤dd.len)∧K (s.put d (.c (.ro (dd.sub l h))))):=(rfl)
theorem slA_h (size:Nat) (lo hi:Option X) (k c:Nat) (p:List Nat) (x:Value):slA d s K size lo hi (.c (.h k c p x))=(0<size∧jhP ((s.o k).own c) fun d0 η=>η p=x∧jpg (D.get p d0) fun dd=>(dd.isSl=true∧dd.size=size)∧bnd s lo 0 fun l=>bnd s hi dd.len fun h=>(l≤h∧h≤dd.len)∧K (s.put d (.c (.hs k c p x size l (h-l))))):=(rfl)
theorem is_hs (k c:Nat) (p:List Nat) (x:Value) (sz lo n:Nat) (R:D→Prop):(∃d,Is s (.hs k c p x sz lo n) d∧R d)=jhP ((s.o k).own c) fun d0 η=>η p=x∧jpg (D.get p d0) fun dd=>(dd.isSl=true∧dd.size=sz∧0<sz∧lo+n≤dd.len)∧R (dd.sub lo (lo+n)):=by
 apply propext
 rw [←jdi];constructor
 ·rintro ⟨d,⟨d0,η,dd,h1,h2,h3,h4,h5,h6,h7,rfl⟩,h8⟩;exact ⟨d0,η,h1,h2,by rw [h3];exact ⟨⟨h4,h5,h6,h7⟩,h8⟩⟩
 ·rintro ⟨d0,η,h1,h2,h3⟩
  cases h:D.get p d0 with
  |none=>rw [h] at h3;exact h3.elim
  |some dd=>rw [h] at h3;obtain ⟨⟨h4,h5,h6,h7⟩,h8⟩:=h3;exact ⟨_,⟨d0,η,dd,h1,h2,h,h4,h5,h6,h7,rfl⟩,h8⟩
theorem jy7 (size k c:Nat) (p:List Nat) (x:Value) (sz lo n:Nat) (R:List D→St→Prop):juc s size (.c (.hs k c p x sz lo n)) R=jhP ((s.o k).own c) fun d0 η=>η p=x∧jpg (D.get p d0) fun dd=>(dd.isSl=true∧dd.size=sz∧0<sz∧lo+n≤dd.len)∧(dd.sub lo (lo+n)).size=size∧jW (dd.sub lo (lo+n)).cells=true∧R (dd.sub lo (lo+n)).cells s:=
 is_hs (s:=s) k c p x sz lo n fun d=>d.size=size∧jW d.cells=true∧R d.cells s
theorem jAu (size k c:Nat) (p:List Nat) (hx:Value) (sz lo m:Nat) (kk:IntKind) (n:Int):iaK d s K size (.c (.hs k c p hx sz lo m)) (.c (.v (.int kk n)))=((0≤n∧(∃dd,Is s (.hs k c p hx sz lo m) dd)∧sz=size∧n.toNat<m)∧K (s.put d (.c (.ep k c p ((lo+n.toNat)*size) hx)))):=(rfl)
theorem ret_r (rs:List R) (rt:RT):jwo rs rt .ret s=jwc rs rt s:=(rfl)
def St.n (s:St) (i:Nat):Nat:=match s.t i with|.c (.v (.int _ n))=>n.toNat|_=>0
theorem jdP {i:Nat} {k:IntKind} {n:Int} (h:s.t i=.c (.v (.int k n))):s.n i=n.toNat:=by simp [St.n,h]
theorem jo {x:Int} (h:-9223372036854775808≤x) (h':x<9223372036854775808):IntKind.i64.wrap x=x:=IntWalk.i64_in _ (by omega)
theorem is_v (x:Value):Is s (.v x) (.val x)=True:=by simp [Is]
theorem is_ro (d:D):Is s (.ro d) d=True:=by simp [Is]
theorem jwy (size:Nat) (ty:TypeId):Is s (.v (.slice none 0 0)) (.sl size ty [])=True:=by simp [Is]
theorem jx2:IsL s [] []=True:=(rfl)
theorem jvx (a:A0) (l:List A0) (d:D) (ds:List D):IsL s (a::l) (d::ds)=(Is s a d∧IsL s l ds):=(rfl)
theorem jv9:zE s [] []=True:=(rfl)
theorem jt3 (a:AV) (l:List AV) (v:View) (vs:List View):zE s (a::l) (v::vs)=(jjH s a v∧zE s l vs):=(rfl)
theorem arg_c (a:A0) (d:D):jjH s (.c a) (.c d)=Is s a d:=(rfl)
theorem jyG (l:List A0) (ds:List D):jjH s (.agg l) (.agg ds)=IsL s l ds:=(rfl)
theorem jyF (a:A0) (ds:List D):jjH s (.c a) (.ptr ds)=Ptr s a ds:=(rfl)
theorem jA2 (f:Nat) (caps:List A0) (caps':List (List D)):jjH s (.fn f caps) (.fn f caps')=jwd s caps caps':=by simp [jjH]
theorem ju8:jwd s [] []=True:=(rfl)
theorem jsx (a:A0) (l:List A0) (d:List D) (ds:List (List D)):jwd s (a::l) (d::ds)=(Ptr s a d∧jwd s l ds):=(rfl)
theorem jzW (ds:List D):Ptr s (.rp ds) ds=True:=by simp [Ptr]
theorem is_h0 (k c:Nat) (x:Value) (d:D):Is s (.h k c [] x) d=jhP ((s.o k).own c) fun d0 η=>d0=d∧η []=x∧d.isSl=true:=by
 apply propext
 rw [←jdi];simp only [Is,jcb];constructor
 ·rintro ⟨d0,η,h1,h2,h3,h4⟩;cases h3;exact ⟨_,η,h1,rfl,h2,h4⟩
 ·rintro ⟨_,η,h1,rfl,h2,h3⟩;exact ⟨_,η,h1,h2,rfl,h3⟩
theorem jhU {k c:Nat} {x:Value} {ty:Nat} {cs:List D} {η:jp} {bs:List UInt8} (h1:(s.o k).own c=some (.sl 1 ty cs,η)) (h2:η []=x) (h3:cs=bs.map jaO) (hk:K (s.put d (.c (.v (.string ⟨bs.toArray⟩))))):cvK d s K .text (.c (.h k c [] x)):=by
 subst h3;exact ⟨_,⟨_,ty,bs,rfl,⟨_,η,h1,h2,jcb _,rfl⟩,rfl⟩,hk⟩
end
theorem jvU (s:Nat) (t:TypeId) (cs:List D):(D.sl s t cs).size=s:=(rfl)
theorem jtG (s:Nat) (t:TypeId) (cs:List D):(D.sl s t cs).cells=cs:=(rfl)
theorem jAH (s:Nat) (t:TypeId) (cs:List D):(D.sl s t cs).isSl=true:=(rfl)
theorem jyu (s:Nat) (t:TypeId) (cs:List D) (g:Nat) (η:jp):(D.sl s t cs).obj g η=[(g,.loose (.sl s t cs) η)]:=(rfl)
theorem jAJ (v:Value) (g:Nat) (η:jp):(D.val v).obj g η=[]:=(rfl)
theorem jyt (s:Nat) (t:TypeId) (cs:List D) (g c:Nat) (p:List Nat) (η:jp):(D.sl s t cs).toOwn g c p η=.h g c p (η p):=(rfl)
theorem jAI (v:Value) (g c:Nat) (p:List Nat) (η:jp):(D.val v).toOwn g c p η=.v v:=(rfl)
theorem jyr (s:Nat) (t:TypeId) (cs:List D) (l h:Nat):(D.sl s t cs).sub l h=.sl s t ((cs.drop (l*s)).take ((h-l)*s)):=(rfl)
attribute [go_sem] jvU jtG jAH jyu jAJ jyt jAI jyr jwU jxt jxr jxs jzw jzx jzy jzz jzA jzK jzL jzM jzN js0 jqF js1 jqG jxY jxZ jxb jr9 I.looks AV.looks A0.looks AV.ids A0.ids List.flatMap_cons List.flatMap_nil List.append_nil List.contains_cons List.contains_nil Bool.or_false Bool.or_true Bool.or_self Bool.false_or Bool.true_or ite_true ite_false jzp jy8 slA_h bnd_n bnd_s bndA_ jy7 jAu jAc jl9 jqc List.tail_cons List.head?_cons Nat.zero_add jul jyT jrg jwe jum jwT jri jrj thn_n thn_e thn_r blk_n blk_r blk_e juU jse jxg jxh jxi jxj jxc juT jzY jzu jAz jAB jAA jzr jAl jAm jxW ldB_ ldV_t ldV_f jzs jAt jya jxe jxU jvs jvu jvt jxp jAU jv4 jzn jwX jzv jyz jzq mmK_ jxk extK_ jAC jAD juS jzj jxn jv1 jAS jxm jxo jsf jzo jy5 jxq jy6 src_h jvW jAM jw9 ownK_ getK_ jcb jsI jnP ownC_ rm_o rm_t jql jvh jxw obK_ jtM jyB jyC jvZ jvL jtk jyy dat_v jyx jr5 jpY jtg jqS vx juy jyY jw0 jux one_i one_b one_s one_n A0.c1 ev_t ev_i ev_b ev_s ev_n put_t put_o jzl jzm jwa jua jAo jAp View.av jzB jvz jeC jdW ret_r is_v is_ro jwy jx2 jvx jv9 jt3 arg_c jyG jyF jA2 ju8 jsx jzW is_h0 RT.flat jjs RT.av jz2 jBa List.map_cons List.map_nil List.length_cons List.length_nil List.take_succ_cons List.take_zero List.drop_succ_cons List.drop_zero List.getElem?_cons_zero List.getElem?_cons_succ List.set_cons_zero List.set_cons_succ List.cons_append List.nil_append Option.getD_some Nat.lt_add_one and_true true_and and_self forall_const imp_self implies_true ge_iff_le gt_iff_lt decide_true decide_false Bool.not_true Bool.not_false Bool.and_self Bool.false_eq_true Int.toNat_natCast Int.natCast_nonneg not_false_eq_true ne_eq
attribute [go_sem_proc] Nat.reduceEqDiff Nat.reduceMul Nat.reduceAdd Nat.reduceLeDiff Nat.reduceLT Nat.reduceBEq Nat.reduceSub reduceCtorEq Int.reduceEq
attribute [go_sem_proc↓] reduceIte
end Go.Proofs.YtmnpailnelmpiaaGreat
