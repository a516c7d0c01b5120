/- Parts. -/
import Derived.Test.YtmnpailnelmpiaaQE4h
import Derived.Test.YtmnpailnelmpiaaQE5
set_option linter.unusedSimpArgs false
set_option linter.unusedVariables false
namespace Go.Proofs.Ytmnpailnelmpiaa
open Go.RowKit Go.Sort
section
variable {P:Program} {β:Nat} {s:St} {d:Option Nat} {g:Option (Nat×Bool)} {K:St→Prop} {Q:Ex→St→Prop}
def jh8 (o:Option (D×jm)) (k:D→jm→Prop):Prop:=match o with
 |some (d,η)=>k d η
 |none=>False
def jkF (o:Option D) (k:D→Prop):Prop:=match o with
 |some d=>k d
 |none=>False
theorem ownK_ (d:D) (η:jm) (k:D→jm→Prop):jh8 (some (d,η)) k=k d η:=(rfl)
theorem juP (d:D) (k:D→Prop):jkF (some d) k=k d:=(rfl)
theorem jas (o:Option (D×jm)) (k:D→jm→Prop):(∃d η,o=some (d,η)∧k d η)=jh8 o k:=by
 cases o with
 |none=>simp [jh8]
 |some p=>
  obtain ⟨d,η⟩:=p
  apply propext
  constructor
  ·rintro ⟨_,_,h,h2⟩;cases h;exact h2
  ·intro h;exact ⟨d,η,rfl,h⟩
theorem jjL (d:D):D.get [] d=some d:=by cases d<;>rfl
theorem jsn (k c:Nat) (p:List Nat) (x:Value) (R:D→Prop):(∃d,Is s (.h k c p x) d∧R d)=jh8 ((s.o k).own c) fun d0 η=>η p=x∧jkF (D.get p d0) fun d=>d.isSl=true∧R d:=by
 apply propext
 rw [←jas];constructor
 ·rintro ⟨d,⟨d0,η,h1,h2,h3,h4⟩,h5⟩;exact ⟨d0,η,h1,h2,by rw [h3];exact ⟨h4,h5⟩⟩
 ·rintro ⟨d0,η,h1,h2,h3⟩
  cases h:D.get p d0 with
  |none=>rw [h] at h3;exact h3.elim
  |some d=>rw [h] at h3;exact ⟨d,⟨d0,η,h1,h2,h,h3.1⟩,h3.2⟩
theorem jnC (d:D) (η:jm):(Ob.loose d η).own 0=some (d,η):=(rfl)
def jr2:Option Cell→Option (D×jm)
 |some (.own d η)=>some (d,η)
 |_=>none
theorem jji (b ty:Nat) (cs:List Cell) (c:Nat):(Ob.box b ty cs).own c=jr2 cs[c]?:=by
 simp only [Ob.own,jr2];split<;>simp_all
theorem ownC_ (d:D) (η:jm):jr2 (some (.own d η))=some (d,η):=(rfl)
theorem rm_o (k c n:Nat):(s.rm k c).o n=if n=k then (s.o k).rm c else s.o n:=(rfl)
theorem rm_t (k c n:Nat):(s.rm k c).t n=s.t n:=(rfl)
theorem jlB (d:D) (η:jm):(Ob.loose d η).rm 0=.none:=(rfl)
theorem jpN (b ty:Nat) (cs:List Cell) (c:Nat):(Ob.box b ty cs).rm c=.box b ty (rmC cs c cs[c]?):=(rfl)
theorem jrU (cs:List Cell) (c:Nat) (d:D) (η:jm):rmC cs c (some (.own d η))=cs.set c (.a (.v (η []))):=(rfl)
theorem jp2 (k c:Nat) (p:List Nat) (x:Value):jsi d s K false (.c (.h k c p x))=jh8 ((s.o k).own c) fun d0 η=>η p=x∧jkF (D.get p d0) fun dd=>dd.isSl=true∧0<dd.size∧K (s.put d (.c (.v (.int .i64 dd.len)))):=by
 rw [juH,jsn]
theorem jsu (size k c:Nat) (p:List Nat) (hx:Value) (kk:IntKind) (n:Int):iaK d s K size (.c (.h k c p hx)) (.c (.v (.int kk n)))=((0≤n∧jh8 ((s.o k).own c) fun d0 η=>η p=hx∧jkF (D.get p d0) fun dd=>dd.isSl=true∧dd.size=size∧n.toNat<dd.len)∧K (s.put d (.c (.ep k c p (n.toNat*size) hx)))):=by
 rw [iaK_h,jsn]
theorem jsj (agg:Bool) (n k c:Nat) (p:List Nat) (i:Nat) (x:Value):ldK d s K agg n (.c (.ep k c p i x))=jh8 ((s.o k).own c) fun d0 η=>η p=x∧jkF (D.get p d0) fun dd=>dd.isSl=true∧i+n≤dd.cells.length∧ldV agg (jdg k c p η i ((dd.cells.drop i).take n)) fun v=>K (s.put d v):=by
 apply propext
 rw [←jas];simp only [ldK];constructor
 ·rintro ⟨d0,η,dd,h1,h2,h3,h4⟩;exact ⟨d0,η,h1,h2,by rw [h3];exact h4⟩
 ·rintro ⟨d0,η,h1,h2,h3⟩
  cases h:D.get p d0 with
  |none=>rw [h] at h3;exact h3.elim
  |some dd=>rw [h] at h3;exact ⟨d0,η,dd,h1,h2,h,h3⟩
theorem jpb (k c:Nat) (x:Value) (l:List A0) (R:List Cell→St→Prop):ka s (.h k c [] x::l) R=jh8 ((s.o k).own c) fun d η=>η []=x∧ka (s.rm k c) l (fun cs s'=>R (.own d η::cs) s'):=by
 rw [jto,jas]
def zV (a:AV) (n:Nat) (k:List A0→Prop):Prop:=∃l,a.cells=some l∧l.length=n∧k l
theorem jos (l:List A0) (n:Nat) (k:List A0→Prop):zV (.agg l) n k=(l.length=n∧k l):=by simp [zV,AV.cells]
theorem jsT (a:A0) (n:Nat) (k:List A0→Prop):zV (.c a) n k=(a.c1=true∧1=n∧k [a]):=by
 simp only [zV,AV.cells];cases h:a.c1<;>simp
def jq5 (s:St):List (Nat×Nat×X)→(List A0→Prop)→Prop
 |[],k=>k []
 |(_,size,x)::ps,k=>zV (s.ev x) size fun l=>jq5 s ps fun r=>k (l++r)
theorem jot:∀(ps:List (Nat×Nat×X)) (k:List A0→Prop),(∃l,jme s ps=some l∧k l)=jq5 s ps k
 |[],k=>by simp [jme,jq5]
 |(o,size,x)::ps,k=>by
  apply propext
  simp only [jq5,zV,jme];constructor
  ·rintro ⟨l,h1,h2⟩
   split at h1
   ·rename_i l1 r h3 h4
    split at h1
    ·rename_i h5
     simp at h1;subst h1;refine ⟨l1,h3,h5,?_⟩;rw [←jot ps];exact ⟨r,h4,h2⟩
    ·simp at h1
   ·simp at h1
  ·rintro ⟨l1,h3,h5,h6⟩
   rw [←jot ps] at h6;obtain ⟨r,h7,h8⟩:=h6;exact ⟨l1++r,by rw [h3,h7];simp [h5],h8⟩
theorem jsU (k:List A0→Prop):jq5 s [] k=k []:=(rfl)
theorem jqx (o size:Nat) (x:X) (ps:List (Nat×Nat×X)) (k:List A0→Prop):jq5 s ((o,size,x)::ps) k=zV (s.ev x) size fun l=>jq5 s ps fun r=>k (l++r):=(rfl)
def jiv (s:St):List A0→List (Nat×Nat×X)→(List A0→Prop)→Prop
 |cs,[],k=>k cs
 |cs,(off,size,x)::ps,k=>zV (s.ev x) size fun l=>off+size≤cs.length∧jiv s (kD cs off l) ps k
theorem jjR:∀(ps:List (Nat×Nat×X)) (cs:List A0) (k:List A0→Prop),(∃l,jd4 s cs ps=some l∧k l)=jiv s cs ps k
 |[],cs,k=>by simp [jd4,jiv]
 |(o,size,x)::ps,cs,k=>by
  apply propext
  simp only [jiv,zV,jd4];constructor
  ·rintro ⟨l,h1,h2⟩
   split at h1
   ·rename_i l1 h3
    split at h1
    ·rename_i h5
     exact ⟨l1,h3,h5.1,h5.2,by rw [←jjR ps];exact ⟨l,h1,h2⟩⟩
    ·simp at h1
   ·simp at h1
  ·rintro ⟨l1,h3,h5,h6,h7⟩
   rw [←jjR ps] at h7;obtain ⟨r,h8,h9⟩:=h7;exact ⟨r,by rw [h3];simp [h5,h6,h8],h9⟩
theorem jqi (cs:List A0) (k:List A0→Prop):jiv s cs [] k=k cs:=(rfl)
theorem jn8 (cs:List A0) (off size:Nat) (x:X) (ps:List (Nat×Nat×X)) (k:List A0→Prop):jiv s cs ((off,size,x)::ps) k=zV (s.ev x) size fun l=>off+size≤cs.length∧jiv s (kD cs off l) ps k:=(rfl)
theorem jrL (zs:List Value) (ps:List (Nat×Nat×X)):qb P β ⟨d,g,.bld zs ps⟩ s K=jiv s (zs.map .v) ps fun l=>K (s.put d (.agg l)):=by
 have e:=jhf (P:=P) (β:=β) (s:=s) (d:=d) (g:=g) (K:=K) (i:=.bld zs ps) (G:=fun av=>∃l,jd4 s (zs.map .v) ps=some l∧av=.agg l) rfl (by
  intro _ _ av os;simp only [Gen];constructor
  ·rintro ⟨l,h1,h2,h3⟩;exact ⟨⟨l,h1,h2⟩,h3⟩
  ·rintro ⟨⟨l,h1,h2⟩,h3⟩;exact ⟨l,h1,h2,h3⟩)
 rw [e,←jjR]
 apply propext
 constructor
 ·rintro ⟨_,⟨l,h1,rfl⟩,h2⟩;exact ⟨l,h1,h2⟩
 ·rintro ⟨l,h1,h2⟩;exact ⟨_,⟨l,h1,rfl⟩,h2⟩
def jmp (ks:List (Option (Nat×Nat))) (cs:List Cell) (k:List D→Prop):Prop:=∃ds,vf ks cs=some ds∧k ds
theorem jsR (ks:List (Option (Nat×Nat))) (k:List D→Prop):jmp ks [] k=k []:=by simp [jmp,vf]
theorem dat_v (ks:List (Option (Nat×Nat))) (x:Value) (l:List Cell) (k:List D→Prop):jmp ks (.a (.v x)::l) k=jmp ks.tail l fun r=>k (jtb (ks.head?.getD none) x::r):=by
 simp only [jmp,vf];cases vf ks.tail l<;>simp
theorem jsQ (ks:List (Option (Nat×Nat))) (dd:D) (η:jm) (l:List Cell) (k:List D→Prop):jmp ks (.own dd η::l) k=jmp ks.tail l fun r=>k (dd::r):=by
 simp only [jmp,vf];cases vf ks.tail l<;>simp
theorem juB (x:Value):jtb none x=.val x:=(rfl)
theorem jrJ (e size n:Nat) (ks:List (Option (Nat×Nat))) (ps:List (Nat×Nat×X)):qb P β ⟨d,g,.bsl e size n ks ps⟩ s K=jq5 s ps fun l=>ka s l fun cs s'=>jmp ks cs fun ds=>∀η,K ((s'.addO [(100*(β+d.getD 0),.loose (.sl size e ds) η)]).put d (.c (.h (100*(β+d.getD 0)) 0 [] (η [])))):=by
 rw [←jot];rfl
theorem jnc (ty:Nat) (zs:List Value):qb P β ⟨d,g,.alloc ty zs⟩ s K=∀b,K ((s.addO [(100*(β+d.getD 0),.box b ty (zs.map fun z=>.a (.v z)))]).put d (.c (.bp (100*(β+d.getD 0)) 0 b))):=by
 apply propext
 constructor
 ·rintro ⟨_,h⟩ b
  obtain ⟨_,_,⟨rfl,rfl⟩,h2⟩:=h ⟨b,fun _ _=>undef⟩
  exact h2
 ·intro h
  exact ⟨.c (.val undef),fun st=>⟨_,_,⟨rfl,rfl⟩,h st.blk⟩⟩
def obK (o:Ob) (b:Nat) (k:Nat→List Cell→Prop):Prop:=match o with
 |.box b' ty ds=>b'=b∧k ty ds
 |_=>False
theorem obK_ (b b' ty:Nat) (ds:List Cell) (k:Nat→List Cell→Prop):obK (.box b' ty ds) b k=(b'=b∧k ty ds):=(rfl)
theorem ob_ex (o:Ob) (b:Nat) (k:Nat→List Cell→Prop):(∃ty ds,o=.box b ty ds∧k ty ds)=obK o b k:=by
 cases o with
 |box b' ty ds=>
  simp only [obK]
  apply propext
  constructor
  ·rintro ⟨_,_,h,h2⟩;cases h;exact ⟨by trivial,h2⟩
  ·rintro ⟨rfl,h2⟩;exact ⟨_,_,rfl,h2⟩
 |_=>simp [obK]
def stA (s':St) (K:St→Prop) (n:Nat) (ks:List (Option (Nat×Nat))) (cs:List Cell):AV→Prop
 |.c (.bp g c b)=>obK (s'.o g) b fun ty ds=>c+n≤ds.length∧K (s'.setO g (.box b ty (kD ds c cs)))
 |.c (.ep g c p k hx)=>0<n∧jmp ks cs fun ds=>jh8 ((s'.o g).own c) fun d0 η=>η p=hx∧jkF (D.get p d0) fun dd=>dd.isSl=true∧k+n≤dd.cells.length∧
  stH (kq ds&&kq ((dd.cells.drop k).take n)) p k n η fun η'=>K (s'.setO g ((s'.o g).putOwn c (D.put p k ds d0) η'))
 |_=>False
theorem jtr (s':St) (n k c b:Nat) (ks:List (Option (Nat×Nat))) (cs:List Cell):stA s' K n ks cs (.c (.bp k c b))=obK (s'.o k) b fun ty ds=>c+n≤ds.length∧K (s'.setO k (.box b ty (kD ds c cs))):=(rfl)
theorem jtq (s':St) (n k c i:Nat) (p:List Nat) (hx:Value) (ks:List (Option (Nat×Nat))) (cs:List Cell):stA s' K n ks cs (.c (.ep k c p i hx))=(0<n∧jmp ks cs fun ds=>jh8 ((s'.o k).own c) fun d0 η=>η p=hx∧jkF (D.get p d0) fun dd=>dd.isSl=true∧i+n≤dd.cells.length∧
 stH (kq ds&&kq ((dd.cells.drop i).take n)) p i n η fun η'=>K (s'.setO k ((s'.o k).putOwn c (D.put p i ds d0) η'))):=rfl
theorem jtL (n:Nat) (ks:List (Option (Nat×Nat))) (a x:X):qb P β ⟨none,g,.st n ks a x⟩ s K=zV (s.ev x) n fun l=>ka s l fun cs s'=>stA s' K n ks cs (s.ev a):=by
 have e:qb P β ⟨none,g,.st n ks a x⟩ s K=((none:Option Nat)=none∧∃l,(s.ev x).cells=some l∧l.length=n∧ka s l fun cs s'=>match s.ev a with
  |.c (.bp g c b)=>∃ty ds,s'.o g=.box b ty ds∧c+n≤ds.length∧K (s'.setO g (.box b ty (kD ds c cs)))
  |.c (.ep g c p k hx)=>0<n∧∃ds,vf ks cs=some ds∧∃d0 η dd,(s'.o g).own c=some (d0,η)∧η p=hx∧D.get p d0=some dd∧dd.isSl=true∧k+n≤dd.cells.length∧
   stH (kq ds&&kq ((dd.cells.drop k).take n)) p k n η fun η'=>K (s'.setO g ((s'.o g).putOwn c (D.put p k ds d0) η'))
  |_=>False):=rfl
 rw [e];simp only [true_and,zV]
 congr 1
 funext l
 congr 2
 congr 1
 funext cs s'
 cases hv:s.ev a with
 |c y=>
  cases y with
  |bp g c b=>simp only [stA,←ob_ex]
  |ep g c p k hx=>
   simp only [stA,jmp]
   apply propext
   constructor
   ·rintro ⟨h0,ds,h1,d0,η,dd,h2,h3,h4,h5,h6,h7⟩
    exact ⟨h0,ds,h1,by rw [←jas];exact ⟨d0,η,h2,h3,by rw [h4];exact ⟨h5,h6,h7⟩⟩⟩
   ·rintro ⟨h0,ds,h1,h2⟩
    rw [←jas] at h2;obtain ⟨d0,η,h3,h4,h5⟩:=h2;cases hg:D.get p d0 with
    |none=>rw [hg] at h5;exact h5.elim
    |some dd=>rw [hg] at h5;exact ⟨h0,ds,h1,d0,η,dd,h3,h4,hg,h5⟩
  |_=>simp [stA]
 |_=>simp [stA]
theorem jhV (d0 d1:D) (η η':jm):(Ob.loose d0 η).putOwn 0 d1 η'=.loose d1 η':=(rfl)
theorem jlt (b ty:Nat) (cs:List Cell) (c:Nat) (d1:D) (η':jm):(Ob.box b ty cs).putOwn c d1 η'=.box b ty (cs.set c (.own d1 η')):=(rfl)
theorem jm4 {α:Type} (l:List α) (c:Nat):kD l c []=l:=(rfl)
theorem jlm {α:Type} (l:List α) (c:Nat) (x:α) (r:List α):kD l c (x::r)=kD (l.set c x) (c+1) r:=(rfl)
theorem jrO (e size bytes:Nat) (x y:X):qb P β ⟨d,g,.app e size bytes x y⟩ s K=joY s size (s.ev y) fun ys s1=>jbZ s1 e size (s.ev x) fun xs s2=>xs.length/size+ys.length/size≤maxLen∧(xs.length/size+ys.length/size)*bytes≤140737488355328∧
 ∀η,K ((s2.addO [(100*(β+d.getD 0),.loose (.sl size e (xs++ys)) η)]).put d (.c (.h (100*(β+d.getD 0)) 0 [] (η [])))):=rfl
theorem jkn (e:Nat) (x y:X):qb P β ⟨d,g,.apps e x y⟩ s K=∃b,s.ev y=.c (.v (.string b))∧jbZ s e 1 (s.ev x) fun xs s2=>xs.length+b.size≤140737488355328∧
 ∀η,K ((s2.addO [(100*(β+d.getD 0),.loose (.sl 1 e (xs++strCells b)) η)]).put d (.c (.h (100*(β+d.getD 0)) 0 [] (η [])))):=rfl
theorem jtu (size:Nat) (dd:D) (R:List D→St→Prop):joY s size (.c (.ro dd)) R=(dd.isSl=true∧dd.size=size∧kq dd.cells=true∧R dd.cells s):=(rfl)
theorem src_h (size k c:Nat) (p:List Nat) (x:Value) (R:List D→St→Prop):joY s size (.c (.h k c p x)) R=jh8 ((s.o k).own c) fun d0 η=>η p=x∧jkF (D.get p d0) fun dd=>dd.isSl=true∧dd.size=size∧(if kq dd.cells=true then R dd.cells s else p=[]∧jjm dd.cells=true∧R dd.cells (s.rm k c)):=by
 rw [←jsn];rfl
theorem jqt (e size:Nat) (R:List D→St→Prop):jbZ s e size (.c (.v (.slice none 0 0))) R=R [] s:=(rfl)
def slK (dd:D) (e size:Nat) (k:List D→Prop):Prop:=∃cs,dd=.sl size e cs∧k cs
theorem joS (e size e' size':Nat) (cs:List D) (k:List D→Prop):slK (.sl size' e' cs) e size k=((size'=size∧e'=e)∧k cs):=by
 simp only [slK]
 apply propext
 constructor
 ·rintro ⟨_,h,h2⟩;cases h;exact ⟨⟨by trivial,by trivial⟩,h2⟩
 ·rintro ⟨⟨rfl,rfl⟩,h⟩;exact ⟨_,rfl,h⟩
theorem ju7 (e size k c:Nat) (x:Value) (R:List D→St→Prop):jbZ s e size (.c (.h k c [] x)) R=jh8 ((s.o k).own c) fun d0 η=>slK d0 e size fun cs=>η []=x∧R cs (s.rm k c):=by
 apply propext
 rw [←jas];simp only [jbZ,slK];constructor
 ·rintro (⟨_,cs,η,h1,h2,h3⟩|⟨_,h,_⟩)
  ·exact ⟨_,η,h1,cs,rfl,h2,h3⟩
  ·cases h
 ·rintro ⟨_,η,h1,cs,rfl,h2,h3⟩;exact .inl ⟨trivial,cs,η,h1,h2,h3⟩
def slkK (s:St) (g c k e size:Nat) (x:Value) (R:List D→St→Prop) (η:jm):D→Prop
 |.sl sz tyo ds0=>jkF ds0[k]? fun dd=>slK dd e size fun cs=>η [k]=x∧∀η',η' []=η []→R cs (s.setO g ((s.o g).putOwn c (.sl sz tyo (ds0.set k (.val x))) η'))
 |.val _=>False
theorem jpj (g c k e size:Nat) (x:Value) (R:List D→St→Prop) (η:jm) (sz tyo:Nat) (ds0:List D):slkK s g c k e size x R η (.sl sz tyo ds0)=jkF ds0[k]? fun dd=>slK dd e size fun cs=>η [k]=x∧∀η',η' []=η []→R cs (s.setO g ((s.o g).putOwn c (.sl sz tyo (ds0.set k (.val x))) η')):=(rfl)
theorem jsP (e size g c k:Nat) (x:Value) (R:List D→St→Prop):jbZ s e size (.c (.h g c [k] x)) R=jh8 ((s.o g).own c) fun d0 η=>slkK s g c k e size x R η d0:=by
 apply propext
 rw [←jas];simp only [jbZ];constructor
 ·rintro (⟨h,_⟩|⟨k',h,sz,tyo,ds0,cs,η,h1,h2,h3,h4⟩)
  ·cases h
  ·cases h
   refine ⟨_,η,h1,?_⟩;rw [jpj,h2];exact ⟨cs,rfl,h3,h4⟩
 ·rintro ⟨d0,η,h1,h2⟩
  cases d0 with
  |val _=>exact h2.elim
  |sl sz tyo ds0=>
   rw [jpj] at h2;cases hk:ds0[k]? with
   |none=>rw [hk] at h2;exact absurd h2 (by simp [jkF])
   |some dd=>
    rw [hk] at h2;obtain ⟨cs,rfl,h3,h4⟩:=h2;exact .inr ⟨k,rfl,sz,tyo,ds0,cs,η,h1,hk,h3,h4⟩
theorem jn5:kq []=true:=(rfl)
theorem jl6 (u:Value) (l:List D):kq (.val u::l)=(u.oneCell'&&kq l):=(rfl)
theorem jay:∀(l m:List D),kq (l++m)=(kq l&&kq m)
 |[],_=>by simp [kq]
 |.val u::l,m=>by simp [kq,jay l m,Bool.and_assoc]
 |.sl _ _ _::l,m=>by simp [kq]
theorem ji5 {e size bytes:Nat} {zs:List D} {l c:X}:qb P β ⟨d,g,.mks e size bytes zs l c⟩ s K=∃(k k':IntKind) (n:Nat),s.ev l=.c (.v (.int k (n:Int)))∧s.ev c=.c (.v (.int k' (n:Int)))∧bytes*n≤281474976710656∧n≤maxLen∧
 ∀η,K ((s.addO [(100*(β+d.getD 0),.loose (.sl size e ((List.replicate n zs).flatten)) η)]).put d (.c (.h (100*(β+d.getD 0)) 0 [] (η [])))):=by
 apply propext
 constructor
 ·rintro ⟨_,h⟩
  obtain ⟨_,_,⟨k,k',n,h1,h2,h3,h4,rfl,rfl⟩,_⟩:=h ⟨0,fun _ _=>undef⟩
  refine ⟨k,k',n,h1,h2,h3,h4,fun η=>?_⟩
  obtain ⟨_,_,⟨k1,k1',n1,h1',h2',_,_,rfl,rfl⟩,h6⟩:=h ⟨0,fun _=>η⟩
  rw [h1] at h1';cases h1';exact h6
 ·rintro ⟨k,k',n,h1,h2,h3,h4,h5⟩
  exact ⟨.c (.val undef),fun st=>⟨_,_,⟨k,k',n,h1,h2,h3,h4,rfl,rfl⟩,h5 (st.η 0)⟩⟩
def bnd (s:St) (x:Option X) (dflt:Nat) (k:Nat→Prop):Prop:=match x with
 |none=>k dflt
 |some x=>∃kk n,s.ev x=.c (.v (.int kk n))∧0≤n∧k n.toNat
def bndA (a:AV) (k:Nat→Prop):Prop:=match a with
 |.c (.v (.int _ n))=>0≤n∧k n.toNat
 |_=>False
theorem bndA_ (kk:IntKind) (n:Int) (k:Nat→Prop):bndA (.c (.v (.int kk n))) k=(0≤n∧k n.toNat):=(rfl)
theorem bnd_n (dflt:Nat) (k:Nat→Prop):bnd s none dflt k=k dflt:=(rfl)
theorem bnd_s (x:X) (dflt:Nat) (k:Nat→Prop):bnd s (some x) dflt k=bndA (s.ev x) k:=by
 simp only [bnd]
 apply propext
 constructor
 ·rintro ⟨kk,n,h1,h2⟩;rw [h1];exact h2
 ·intro h
  unfold bndA at h;split at h
  ·rename_i kk n he;exact ⟨kk,n,he,h⟩
  ·exact h.elim
theorem jfC (x:Option X) (dflt:Nat) (R:Nat→Prop):(∃l,jcU s x dflt l∧R l)=bnd s x dflt R:=by
 apply propext
 cases x with
 |none=>constructor
        ·rintro ⟨l,rfl,h⟩;exact h
        ·intro h;exact ⟨_,rfl,h⟩
 |some x=>
  constructor
  ·rintro ⟨l,⟨k,h1⟩,h2⟩;exact ⟨k,l,h1,Int.natCast_nonneg _,by simpa using h2⟩
  ·rintro ⟨k,n,h1,h2,h3⟩;exact ⟨n.toNat,⟨k,by rw [h1,Int.toNat_of_nonneg h2]⟩,h3⟩
def slA (d:Option Nat) (s:St) (K:St→Prop) (size:Nat) (lo hi:Option X):AV→Prop
 |.c (.v (.string b))=>size=0∧bnd s lo 0 fun l=>bnd s hi b.size fun h=>(l≤h∧h≤b.size)∧K (s.put d (.c (.v (.string (b.extract l h)))))
 |.c (.ro dd)=>(0<size∧dd.isSl=true∧dd.size=size)∧bnd s lo 0 fun l=>bnd s hi dd.len fun h=>(l≤h∧h≤dd.len)∧K (s.put d (.c (.ro (dd.sub l h))))
 |.c (.h k c p x)=>0<size∧jh8 ((s.o k).own c) fun d0 η=>η p=x∧jkF (D.get p d0) fun dd=>(dd.isSl=true∧dd.size=size)∧bnd s lo 0 fun l=>bnd s hi dd.len fun h=>(l≤h∧h≤dd.len)∧K (s.put d (.c (.hs k c p x size l (h-l))))
 |.c (.hs k c p x sz lo0 m)=>((∃dd,Is s (.hs k c p x sz lo0 m) dd)∧sz=size)∧bnd s lo 0 fun l=>bnd s hi m fun h=>(l≤h∧h≤m)∧K (s.put d (.c (.hs k c p x size (lo0+l) (h-l))))
 |_=>False
theorem jtM (size:Nat) (x:X) (lo hi:Option X):qb P β ⟨d,g,.sl size x lo hi⟩ s K=slA d s K size lo hi (s.ev x):=by
 have e:=jhf (P:=P) (β:=β) (s:=s) (d:=d) (g:=g) (K:=K) (i:=.sl size x lo hi) (G:=fun av=>∃l h,jcU s lo 0 l∧l≤h∧(match s.ev x with
  |.c (.v (.string b))=>size=0∧jcU s hi b.size h∧h≤b.size∧av=.c (.v (.string (b.extract l h)))
  |.c (.ro d)=>0<size∧d.isSl=true∧d.size=size∧jcU s hi d.len h∧h≤d.len∧av=.c (.ro (d.sub l h))
  |.c (.h g c p hx)=>0<size∧(∃d,Is s (.h g c p hx) d∧d.size=size∧jcU s hi d.len h∧h≤d.len)∧av=.c (.hs g c p hx size l (h-l))
  |.c (.hs g c p hx sz lo m)=>(∃d,Is s (.hs g c p hx sz lo m) d)∧sz=size∧jcU s hi m h∧h≤m∧av=.c (.hs g c p hx size (lo+l) (h-l))
  |_=>False)) rfl (by
  intro _ _ av os;simp only [Gen];constructor
  ·rintro ⟨l,h,h1,h2,h3,h4⟩;exact ⟨⟨l,h,h1,h2,h3⟩,h4⟩
  ·rintro ⟨⟨l,h,h1,h2,h3⟩,h4⟩;exact ⟨l,h,h1,h2,h3,h4⟩)
 rw [e]
 apply propext
 cases hv:s.ev x with
 |c y=>
  cases y with
  |v u=>
   cases u with
   |string b=>
    simp only [slA,←jfC];constructor
    ·rintro ⟨_,⟨l,h,h1,h2,h3,h4,h5,rfl⟩,h6⟩;exact ⟨h3,l,h1,h,h4,⟨h2,h5⟩,h6⟩
    ·rintro ⟨h3,l,h1,h,h4,⟨h2,h5⟩,h6⟩;exact ⟨_,⟨l,h,h1,h2,h3,h4,h5,rfl⟩,h6⟩
   |_=>simp [slA]
  |ro dd=>
   simp only [slA,←jfC];constructor
   ·rintro ⟨_,⟨l,h,h1,h2,h3,h4,h5,h6,h7,rfl⟩,h8⟩;exact ⟨⟨h3,h4,h5⟩,l,h1,h,h6,⟨h2,h7⟩,h8⟩
   ·rintro ⟨⟨h3,h4,h5⟩,l,h1,h,h6,⟨h2,h7⟩,h8⟩;exact ⟨_,⟨l,h,h1,h2,h3,h4,h5,h6,h7,rfl⟩,h8⟩
  |h k c p hx=>
   simp only [slA];constructor
   ·rintro ⟨_,⟨l,h,h1,h2,h3,⟨dd,⟨d0,η,k1,k2,k3,k4⟩,k5,k6,k7⟩,rfl⟩,h8⟩
    refine ⟨h3,?_⟩;rw [←jas];refine ⟨d0,η,k1,k2,?_⟩;rw [k3];refine ⟨⟨k4,k5⟩,?_⟩;rw [←jfC];refine ⟨l,h1,?_⟩;rw [←jfC];exact ⟨h,k6,⟨h2,k7⟩,h8⟩
   ·rintro ⟨h3,h4⟩
    rw [←jas] at h4;obtain ⟨d0,η,k1,k2,k3⟩:=h4;cases hg:D.get p d0 with
    |none=>rw [hg] at k3;exact k3.elim
    |some dd=>
     rw [hg] at k3;obtain ⟨⟨k4,k5⟩,k6⟩:=k3;rw [←jfC] at k6;obtain ⟨l,h1,k7⟩:=k6;rw [←jfC] at k7;obtain ⟨h,k8,⟨h2,k9⟩,h8⟩:=k7;exact ⟨_,⟨l,h,h1,h2,h3,⟨dd,⟨d0,η,k1,k2,hg,k4⟩,k5,k8,k9⟩,rfl⟩,h8⟩
  |hs k c p hx sz lo0 m=>
   simp only [slA,←jfC];constructor
   ·rintro ⟨_,⟨l,h,h1,h2,h3,h4,h5,h6,rfl⟩,h7⟩;exact ⟨⟨h3,h4⟩,l,h1,h,h5,⟨h2,h6⟩,h7⟩
   ·rintro ⟨⟨h3,h4⟩,l,h1,h,h5,⟨h2,h6⟩,h7⟩;exact ⟨_,⟨l,h,h1,h2,h3,h4,h5,h6,rfl⟩,h7⟩
  |_=>simp [slA]
 |_=>simp [slA]
theorem jru (size:Nat) (lo hi:Option X) (b:ByteArray):slA d s K size lo hi (.c (.v (.string b)))=(size=0∧bnd s lo 0 fun l=>bnd s hi b.size fun h=>(l≤h∧h≤b.size)∧K (s.put d (.c (.v (.string (b.extract l h)))))):=(rfl)
theorem jtv (size:Nat) (lo hi:Option X) (dd:D):slA d s K size lo hi (.c (.ro dd))=((0<size∧dd.isSl=true∧dd.size=size)∧bnd s lo 0 fun l=>bnd s hi dd.len fun h=>(l≤h∧h≤dd.len)∧K (s.put d (.c (.ro (dd.sub l h))))):=(rfl)
theorem jtw (size:Nat) (lo hi:Option X) (k c:Nat) (p:List Nat) (x:Value) (sz lo0 m:Nat):slA d s K size lo hi (.c (.hs k c p x sz lo0 m))=(((∃dd,Is s (.hs k c p x sz lo0 m) dd)∧sz=size)∧bnd s lo 0 fun l=>bnd s hi m fun h=>(l≤h∧h≤m)∧K (s.put d (.c (.hs k c p x size (lo0+l) (h-l))))):=(rfl)
theorem is_hs (k c:Nat) (p:List Nat) (x:Value) (sz lo n:Nat) (R:D→Prop):(∃d,Is s (.hs k c p x sz lo n) d∧R d)=jh8 ((s.o k).own c) fun d0 η=>η p=x∧jkF (D.get p d0) fun dd=>(dd.isSl=true∧dd.size=sz∧0<sz∧lo+n≤dd.len)∧R (dd.sub lo (lo+n)):=by
 apply propext
 rw [←jas];constructor
 ·rintro ⟨d,⟨d0,η,dd,h1,h2,h3,h4,h5,h6,h7,rfl⟩,h8⟩;exact ⟨d0,η,h1,h2,by rw [h3];exact ⟨⟨h4,h5,h6,h7⟩,h8⟩⟩
 ·rintro ⟨d0,η,h1,h2,h3⟩
  cases h:D.get p d0 with
  |none=>rw [h] at h3;exact h3.elim
  |some dd=>rw [h] at h3;obtain ⟨⟨h4,h5,h6,h7⟩,h8⟩:=h3;exact ⟨_,⟨d0,η,dd,h1,h2,h,h4,h5,h6,h7,rfl⟩,h8⟩
theorem jsh (k c:Nat) (p:List Nat) (x:Value) (sz lo n:Nat):jsi d s K false (.c (.hs k c p x sz lo n))=((∃dd,Is s (.hs k c p x sz lo n) dd)∧K (s.put d (.c (.v (.int .i64 n))))):=by
 rw [jp3]
 apply propext
 constructor
 ·rintro ⟨_,⟨h1,rfl⟩,h2⟩;exact ⟨h1,h2⟩
 ·rintro ⟨h1,h2⟩;exact ⟨_,⟨h1,rfl⟩,h2⟩
theorem juO (size k c:Nat) (p:List Nat) (hx:Value) (sz lo m:Nat) (kk:IntKind) (n:Int):iaK d s K size (.c (.hs k c p hx sz lo m)) (.c (.v (.int kk n)))=((0≤n∧(∃dd,Is s (.hs k c p hx sz lo m) dd)∧sz=size∧n.toNat<m)∧K (s.put d (.c (.ep k c p ((lo+n.toNat)*size) hx)))):=(rfl)
theorem ret_r (rs:List R) (rt:RT):jta rs rt .ret s=joO rs rt s:=(rfl)
def St.n (s:St) (i:Nat):Nat:=match s.t i with|.c (.v (.int _ n))=>n.toNat|_=>0
theorem zB {i:Nat} {k:IntKind} {n:Int} (h:s.t i=.c (.v (.int k n))):s.n i=n.toNat:=by simp [St.n,h]
theorem ji {x:Int} (h:-9223372036854775808≤x) (h':x<9223372036854775808):IntKind.i64.wrap x=x:=IntWalk.i64_in _ (by omega)
theorem is_v (x:Value):Is s (.v x) (.val x)=True:=by simp [Is]
theorem is_ro (d:D):Is s (.ro d) d=True:=by simp [Is]
theorem jqZ (size:Nat) (ty:TypeId):Is s (.v (.slice none 0 0)) (.sl size ty [])=True:=by simp [Is]
theorem jso:IsL s [] []=True:=(rfl)
theorem jp4 (a:A0) (l:List A0) (d:D) (ds:List D):IsL s (a::l) (d::ds)=(Is s a d∧IsL s l ds):=(rfl)
theorem jqI:vG s [] []=True:=(rfl)
theorem joF (a:AV) (l:List AV) (v:View) (vs:List View):vG s (a::l) (v::vs)=(jj5 s a v∧vG s l vs):=(rfl)
theorem arg_c (a:A0) (d:D):jj5 s (.c a) (.c d)=Is s a d:=(rfl)
theorem jsX (l:List A0) (ds:List D):jj5 s (.agg l) (.agg ds)=IsL s l ds:=(rfl)
theorem is_h0 (k c:Nat) (x:Value) (d:D):Is s (.h k c [] x) d=jh8 ((s.o k).own c) fun d0 η=>d0=d∧η []=x∧d.isSl=true:=by
 apply propext
 rw [←jas];simp only [Is,jjL];constructor
 ·rintro ⟨d0,η,h1,h2,h3,h4⟩;cases h3;exact ⟨_,η,h1,rfl,h2,h4⟩
 ·rintro ⟨_,η,h1,rfl,h2,h3⟩;exact ⟨_,η,h1,h2,rfl,h3⟩
theorem zK {k c:Nat} {x:Value} {ty:Nat} {cs:List D} {η:jm} {bs:List UInt8} (h1:(s.o k).own c=some (.sl 1 ty cs,η)) (h2:η []=x) (h3:cs=bs.map kR) (hk:K (s.put d (.c (.v (.string ⟨bs.toArray⟩))))):cvK d s K .text (.c (.h k c [] x)):=by
 subst h3;exact ⟨_,⟨_,ty,bs,rfl,⟨_,η,h1,h2,jjL _,rfl⟩,rfl⟩,hk⟩
end
theorem jqs (s:Nat) (t:TypeId) (cs:List D):(D.sl s t cs).size=s:=(rfl)
theorem jom (s:Nat) (t:TypeId) (cs:List D):(D.sl s t cs).cells=cs:=(rfl)
theorem ju4 (s:Nat) (t:TypeId) (cs:List D):(D.sl s t cs).isSl=true:=(rfl)
theorem ju6 (v:Value) (g:Nat) (η:jm):(D.val v).obj g η=[]:=(rfl)
theorem ju5 (v:Value) (g c:Nat) (p:List Nat) (η:jm):(D.val v).toOwn g c p η=.v v:=(rfl)
attribute [go_sem] jqs jom ju4 ju6 ju5 jrg jrR jrP jrQ jtS jtT jtU jtV jtW jt9 jua jub juc jnR jlU jnS jlV jsk jsl jrA jm8 I.looks AV.looks A0.looks AV.ids A0.ids List.flatMap_cons List.flatMap_nil List.append_nil List.contains_cons List.contains_nil Bool.or_false Bool.or_true Bool.or_self Bool.false_or Bool.true_or ite_true ite_false jtM jru jtv jtw bnd_n bnd_s bndA_ jsh juO juB jhV jlt List.tail_cons List.head?_cons Nat.zero_add jo5 jtf jgA jqL jo6 jrf jmt jmu thn_n thn_e thn_r blk_n blk_r blk_e jps jnb jrE jrF jrG jrH jrB jpr jun jtQ juU juW juV jtN juI juJ jsj ldB_ ldV_t ldV_f jtO juN jsu jrC jsg jp1 jp2 jrM jva jqD jqC joy jrN beqK_ jtK jrk jtR jsS jrI extK_ juX juY jpq jtE jrK jqz jrJ jrL jnc jtL jtr jrO jtu src_h jqt ju7 jsP jpj joS ownK_ juP jjL jnC jji ownC_ rm_o rm_t jlB jpN jrU obK_ jos jsT jsU jqx jqi jn8 jsR dat_v jsQ jm4 jlm jn5 jl6 jay jkc jtn jrm jpb one_i one_b one_s one_n A0.c1 ev_t ev_i ev_b ev_s ev_n put_t put_o jtI jtJ jqJ joL juL juM View.av jtY jp8 zU jce ret_r is_v is_ro jqZ jso jp4 jqI joF arg_c jsX is_h0 RT.flat jg1 RT.av juq jvo List.map_cons List.map_nil List.length_cons List.length_nil List.take_succ_cons List.take_zero List.drop_succ_cons List.drop_zero List.getElem?_cons_zero List.getElem?_cons_succ List.set_cons_zero List.set_cons_succ List.cons_append List.nil_append Option.getD_some Nat.lt_add_one and_true true_and and_self forall_const imp_self implies_true ge_iff_le gt_iff_lt decide_true decide_false Bool.not_true Bool.not_false Bool.and_self Bool.false_eq_true Int.toNat_natCast Int.natCast_nonneg not_false_eq_true ne_eq
attribute [go_sem_proc] Nat.reduceEqDiff Nat.reduceMul Nat.reduceAdd Nat.reduceLeDiff Nat.reduceLT Nat.reduceBEq Nat.reduceSub reduceCtorEq Int.reduceEq
attribute [go_sem_proc↓] reduceIte
end Go.Proofs.Ytmnpailnelmpiaa
