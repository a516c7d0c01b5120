/- Parts. -/
import Derived.Test.YtmnpailnelmpiaaQData
import Derived.Test.YtmnpailnelmpiaaQE1
set_option linter.unusedSimpArgs false
set_option linter.unusedVariables false
namespace Go.Proofs.Ytmnpailnelmpiaa
open Go.RowKit Go.Sort
def jaz:Value→Nat→Addr
 |.slice (some a) _ _,k=>⟨a.block,a.off+k,none⟩
 |_,k=>⟨0,k,none⟩
def joY (x:Value) (size lo n:Nat):Value:=match x with
 |.slice A _ c=>.slice (if c=lo then A else A.map (·.add (lo*size))) n (c-lo)
 |_=>undef
def A0Rel (B:Nat) (w:World):A0→Value→Prop
 |.v x,u=>u=x
 |.ro d,u=>d.isSl=true∧∃S,Rep w false d u S∧∀b∈S,b<B
 |.rp ds,u=>∃b o us S,u=.pointer (some ⟨b,o,none⟩)∧RepL w false ds us S∧(∀x∈S,x<B)∧(ds≠ []→b<B)∧∀j x,us[j]?=some x→w.cell? ⟨b,o+j,none⟩=some x
 |.h _ _ _ x,u=>u=x∧x.oneCell'=true
 |.bp _ c b,u=>u=.pointer (some ⟨b,c,none⟩)
 |.ep _ _ _ i x,u=>u=.pointer (some (jaz x i))
 |.un,u=>u.oneCell'=true
 |.hs _ _ _ x size lo n,u=>(u=joY x size lo n∨0<lo∧n=0∧∃A,u=.slice A 0 0)∧u.oneCell'=true
def A0RelL (B:Nat) (w:World):List A0→List Value→Prop
 |[],us=>us=[]
 |a::l,us=>∃u us',us=u::us'∧A0Rel B w a u∧A0RelL B w l us'
def TRelL (B:Nat) (w:World):List (Bool×List A0)→List Value→Prop
 |[],us=>us=[]
 |(b,az)::l,us=>∃u us' xs,us=u::us'∧A0RelL B w az xs∧(if b then u=.agg xs.toArray else xs=[u])∧TRelL B w l us'
def VRel (B:Nat) (w:World):AV→Value→Prop
 |.c a,u=>A0Rel B w a u
 |.agg l,u=>∃us:List Value,u=.agg us.toArray∧A0RelL B w l us
 |.fn f caps,u=>∃us:List Value,u=.func (.func f) #[] us.toArray∧A0RelL B w caps us
 |.tup l,u=>∃us:List Value,u=.tuple us.toArray∧TRelL B w l us
 |.unk,_=>True
def hdr (w:World):List Nat→D→Value→Value
 |[],.sl _ _ _,u=>u
 |i::p,.sl _ _ cs,.slice (some a) _ _=>match cs[i]? with
  |some d=>hdr w p d ((w.cell? ⟨a.block,a.off+i,none⟩).getD undef)
  |none=>undef
 |_,_,_=>undef
def CRel (B:Nat) (w:World):List Cell→List Value→List Nat→Prop
 |[],us,S=>us=[]∧S=[]
 |.a x::l,us,S=>∃u us',us=u::us'∧A0Rel B w x u∧CRel B w l us' S
 |.own d η::l,us,S=>∃u us' S1 S2,us=u::us'∧S=S1++S2∧d.isSl=true∧Rep w true d u S1∧(∀p,η p=hdr w p d u)∧CRel B w l us' S2
def ORel (B:Nat) (w:World):Ob→List Nat→Prop
 |.none,S=>S=[]
 |.loose d η,S=>d.isSl=true∧∃u,Rep w true d u S∧∀p,η p=hdr w p d u
 |.box b ty cs,S=>∃us S1,w.heap[b]?=some (.cells us.toArray ty (0,0))∧CRel B w cs us S1∧S=b::S1
structure RelF (B:Nat) (w0:World) (N:Nat) (s:St) (a:Act) (w:World) (F:Nat→List Nat):Prop where
 below:Below B w0 w
 hB:B≤w0.heap.size
 df:a.defers=[]
 sz:a.tmps.size=N
 sl:∀n,VRel B w (s.t n) (a.tmps.getD n undef)
 ob:∀g,ORel B w (s.o g) (F g)
 fr:∀g,Fresh B (F g)
 dj:∀g g',g≠g'→∀b∈F g,b∉F g'
section
variable {B:Nat} {w w' w0:World}
theorem qW {own:Bool} {size:Nat} {ty:TypeId} {cs:List D} {v:Value} {S:List Nat} (h:Rep w own (.sl size ty cs) v S):∃A n c,v=.slice A n c:=by
 obtain ⟨vs,T,S',hr,_,_⟩:=h;obtain ⟨_,A,n,c,rfl,_⟩:=hr.ro;exact ⟨A,n,c,rfl⟩
theorem A0Rel.mono (hb:Below B w w'):∀{a:A0} {u:Value},A0Rel B w a u→A0Rel B w' a u
 |.v _,_,h=>h
 |.ro _,_,⟨h1,S,h2,h3⟩=>⟨h1,S,Rep.keep _ h2 fun b hs=>hb.block b (h3 b hs),h3⟩
 |.rp ds,_,⟨b,o,us,S,h1,h2,h3,h4,h5⟩=>⟨b,o,us,S,h1,RepL.keep _ h2 fun b hs=>hb.block b (h3 b hs),h3,h4,fun j x hx=>by
  have hne:ds≠ []:=fun e=>by subst e;obtain ⟨rfl,_⟩:=h2;simp at hx
  rw [hb.cell (p:=⟨b,o+j,none⟩) (h4 hne)];exact h5 j x hx⟩
 |.h _ _ _ _,_,h=>h
 |.bp _ _ _,_,h=>h
 |.ep _ _ _ _ _,_,h=>h
 |.un,_,h=>h
 |.hs _ _ _ _ _ _ _,_,h=>h
theorem A0RelL.mono (hb:Below B w w'):∀{l:List A0} {us:List Value},A0RelL B w l us→A0RelL B w' l us
 |[],_,h=>h
 |_::_,_,⟨u,us',h1,h2,h3⟩=>⟨u,us',h1,h2.mono hb,A0RelL.mono hb h3⟩
theorem TRelL.mono (hb:Below B w w'):∀{l:List (Bool×List A0)} {us:List Value},TRelL B w l us→TRelL B w' l us
 |[],_,h=>h
 |(_,_)::_,_,⟨u,us',xs,h1,h2,h3,h4⟩=>⟨u,us',xs,h1,h2.mono hb,h3,TRelL.mono hb h4⟩
theorem VRel.mono (hb:Below B w w'):∀{v:AV} {u:Value},VRel B w v u→VRel B w' v u
 |.c _,_,h=>A0Rel.mono hb h
 |.agg _,_,⟨us,h1,h2⟩=>⟨us,h1,h2.mono hb⟩
 |.fn _ _,_,⟨us,h1,h2⟩=>⟨us,h1,h2.mono hb⟩
 |.tup _,_,⟨us,h1,h2⟩=>⟨us,h1,h2.mono hb⟩
 |.unk,_,h=>h
theorem A0Rel.one:∀{a:A0} {u:Value},A0Rel B w a u→a.one=true→u.oneCell'=true
 |.v _,_,h,h'=>by rw [show _=_ from h];exact h'
 |.ro d,u,⟨h1,S,h2,_⟩,_=>by
  cases d with
  |val _=>cases h1
  |sl size ty cs=>obtain ⟨A,n,c,rfl⟩:=qW h2;rfl
 |.rp _,_,⟨_,_,_,_,h,_⟩,_=>by rw [h];rfl
 |.h _ _ _ _,_,⟨h,h'⟩,_=>by rw [h];exact h'
 |.bp _ _ _,_,h,_=>by rw [show _=_ from h];rfl
 |.ep _ _ _ _ _,_,h,_=>by rw [show _=_ from h];rfl
 |.un,_,h,_=>h
 |.hs _ _ _ _ _ _ _,_,⟨_,h⟩,_=>h
theorem A0Rel.c1:∀{a:A0} {u:Value},A0Rel B w a u→a.c1=true→u.oneCell'=true
 |.v _,_,h,h'=>by rw [show _=_ from h];exact h'
 |.ro _,_,h,_=>h.one rfl
 |.rp _,_,h,_=>h.one rfl
 |.h _ _ _ _,_,⟨h,h'⟩,_=>by rw [h];exact h'
 |.bp _ _ _,_,h,_=>h.one rfl
 |.ep _ _ _ _ _,_,h,_=>h.one rfl
 |.un,_,h,_=>h
 |.hs _ _ _ _ _ _ _,_,⟨_,h⟩,_=>h
theorem jrV {u:Value} (h:u.oneCell'=true):u.cells=#[u]:=by cases u<;>first|rfl|cases h
theorem VRel.cells:∀{v:AV} {u:Value} {l:List A0},VRel B w v u→v.cells=some l→∃us:List Value,u.cells=us.toArray∧A0RelL B w l us
 |.c a,u,l,h,hl=>by
  simp only [AV.cells] at hl;split at hl
  ·simp at hl;subst hl
   exact ⟨[u],jrV (A0Rel.c1 h (by assumption)),u,[],rfl,h,rfl⟩
  ·simp at hl
 |.agg l',_,l,⟨us,h1,h2⟩,hl=>by
  simp [AV.cells] at hl;subst hl;exact ⟨us,by rw [h1];rfl,h2⟩
 |.fn _ _,_,_,_,hl=>by simp [AV.cells] at hl
 |.tup _,_,_,_,hl=>by simp [AV.cells] at hl
 |.unk,_,_,_,hl=>by simp [AV.cells] at hl
theorem A0RelL.len:∀{l:List A0} {us:List Value},A0RelL B w l us→us.length=l.length
 |[],_,h=>by rw [show _=_ from h];rfl
 |_::_,_,⟨_,_,h1,_,h3⟩=>by subst h1;simp [A0RelL.len h3]
theorem RepL.nth {own:Bool}:∀{cs:List D} {vs:List Value} {S:List Nat} {i:Nat} {d:D},RepL w own cs vs S→cs[i]?=some d→∃v S1,vs[i]?=some v∧Rep w own d v S1∧∀s∈S1,s∈S
 |[],_,_,_,_,_,h=>by simp at h
 |_::_,_,_,0,_,⟨v,vs',S1,S2,h1,h2,h3,h4⟩,h=>by
  simp at h;subst h;exact ⟨v,S1,by rw [h1];rfl,h3,fun s hs=>by rw [h2];simp [hs]⟩
 |_::cs,_,_,i+1,_,⟨v,vs',S1,S2,h1,h2,h3,h4⟩,h=>by
  simp at h;obtain ⟨v',S',h5,h6,h7⟩:=RepL.nth h4 h;exact ⟨v',S',by rw [h1];simpa using h5,h6,fun s hs=>by rw [h2];simp [h7 s hs]⟩
theorem kY {size:Nat} {ty:TypeId} {vs:List Value} {u:Value} {T:List Nat} (h:RowAt w true size ty vs u T):(u=.slice none 0 0∧vs=[])∨∃g n c,u=.slice (some ⟨g,0,none⟩) n c∧T=[g]∧vs.length=n*size∧(∀j v,vs[j]?=some v→w.cell? ⟨g,j,none⟩=some v)∧∀j,w.frozen? ⟨g,j,none⟩=false:=by
 obtain ⟨n,h,rfl⟩:=h;have h1:=h.1;rcases h.2 with ⟨rfl,h0⟩|⟨g,cap,cur,rfl,hb,hg,hr⟩
 ·subst h0;exact .inl ⟨rfl,List.eq_nil_of_length_eq_zero (by simpa using h1)⟩
 ·refine .inr ⟨g,n,cap,rfl,rfl,h1,fun j v hv=>?_,h.frozenAt⟩
  have:=h.cells (g:=g) rfl j v hv;have e:(⟨g,0,none⟩:Addr).add j=⟨g,j,none⟩:=by unfold Addr.add;split<;>simp_all
  rwa [e] at this
theorem jb7:∀(p:List Nat) {d:D} {u:Value} {S:List Nat},Rep w true d u S→(∀b∈S,w'.heap[b]?=w.heap[b]?)→hdr w' p d u=hdr w p d u
 |[],.sl _ _ _,_,_,_,_=>rfl
 |[],.val _,_,_,_,_=>rfl
 |i::p,.val _,_,_,_,_=>rfl
 |i::p,.sl size ty cs,u,S,⟨vs,T,S',h1,h2,h3⟩,hk=>by
  rcases kY h1 with ⟨rfl,_⟩|⟨g,n,c,rfl,rfl,h4,h5,_⟩
  ·rfl
  ·simp only [hdr]
   cases hc:cs[i]? with
   |none=>rfl
   |some d=>
    obtain ⟨v,S1,h6,h7,h8⟩:=RepL.nth h2 hc;have e1:w.cell? ⟨g,0+i,none⟩=some v:=by rw [Nat.zero_add];exact h5 i v h6
    have e2:w'.cell? ⟨g,0+i,none⟩=some v:=by
     rw [World.cell?_of_block (w:=w) (a:=⟨g,0+i,none⟩) (hk g (by rw [h3];simp))];exact e1
    simp only [e1,e2,Option.getD_some];exact jb7 p h7 fun b hb=>hk b (by rw [h3];simp [h8 b hb])
theorem jrz:∀(p:List Nat) {d d':D} {u:Value} {S:List Nat},Rep w true d u S→D.get p d=some d'→d'.isSl=true→∃S',Rep w true d' (hdr w p d u) S'∧∀s∈S',s∈S
 |[],.sl _ _ _,_,_,S,h,hg,_=>by simp [D.get] at hg;subst hg;exact ⟨S,h,fun _ h=>h⟩
 |[],.val _,_,_,_,_,hg,hs=>by simp [D.get] at hg;subst hg;cases hs
 |i::p,.val _,_,_,_,_,hg,_=>by simp [D.get] at hg
 |i::p,.sl size ty cs,d',u,S,⟨vs,T,S',h1,h2,h3⟩,hg,hs=>by
  simp only [D.get] at hg;cases hc:cs[i]? with
  |none=>rw [hc] at hg;simp at hg
  |some d=>
   rw [hc] at hg;obtain ⟨v,S1,h6,h7,h8⟩:=RepL.nth h2 hc;rcases kY h1 with ⟨rfl,rfl⟩|⟨g,n,c,rfl,rfl,h4,h5,_⟩
   ·simp at h6
   ·simp only [hdr,hc,Nat.zero_add,h5 i v h6,Option.getD_some]
    obtain ⟨S2,h9,h10⟩:=jrz p h7 hg hs;exact ⟨S2,h9,fun s hs=>by rw [h3];simp [h8 s (h10 s hs)]⟩
theorem vL {d:D} {u:Value} (h:d.isSl=true):hdr w [] d u=u:=by cases d<;>first|rfl|cases h
theorem CRel.keep (hb:Below B w w'):∀{cs:List Cell} {us:List Value} {S:List Nat},CRel B w cs us S→(∀b∈S,w'.heap[b]?=w.heap[b]?)→CRel B w' cs us S
 |[],_,_,h,_=>h
 |.a _::_,_,_,⟨u,us',h1,h2,h3⟩,hk=>⟨u,us',h1,h2.mono hb,CRel.keep hb h3 hk⟩
 |.own _ _::_,_,_,⟨u,us',S1,S2,h1,h2,h3,h4,h5,h6⟩,hk=>⟨u,us',S1,S2,h1,h2,h3,Rep.keep _ h4 fun b hs=>hk b (by rw [h2];simp [hs]),
  fun p=>by rw [jb7 p h4 fun b hs=>hk b (by rw [h2];simp [hs])];exact h5 p,CRel.keep hb h6 fun b hs=>hk b (by rw [h2];simp [hs])⟩
theorem CRel.lt:∀{cs:List Cell} {us:List Value} {S:List Nat},CRel B w cs us S→∀b∈S,b<w.heap.size
 |[],_,_,⟨_,h⟩,b,hb=>by rw [h] at hb;simp at hb
 |.a _::_,_,_,⟨_,_,_,_,h⟩,b,hb=>CRel.lt h b hb
 |.own _ _::_,_,_,⟨u,us',S1,S2,_,h2,_,h4,_,h6⟩,b,hb=>by
  rw [h2] at hb;rcases List.mem_append.1 hb with hb|hb
  ·exact Rep.lt _ h4 b hb
  ·exact CRel.lt h6 b hb
theorem CRel.len:∀{cs:List Cell} {us:List Value} {S:List Nat},CRel B w cs us S→us.length=cs.length
 |[],_,_,⟨h,_⟩=>by rw [h];rfl
 |.a _::_,_,_,⟨_,_,h1,_,h3⟩=>by subst h1;simp [CRel.len h3]
 |.own _ _::_,_,_,⟨_,_,_,_,h1,_,_,_,_,h6⟩=>by subst h1;simp [CRel.len h6]
theorem ORel.keep (hb:Below B w w'):∀{ob:Ob} {S:List Nat},ORel B w ob S→(∀b∈S,w'.heap[b]?=w.heap[b]?)→ORel B w' ob S
 |.none,_,h,_=>h
 |.loose _ _,_,⟨h0,u,h1,h2⟩,hk=>⟨h0,u,Rep.keep _ h1 hk,fun p=>by rw [jb7 p h1 hk];exact h2 p⟩
 |.box b _ _,_,⟨us,S1,h1,h2,h3⟩,hk=>⟨us,S1,(hk b (by rw [h3];simp)).trans h1,h2.keep hb fun x hx=>hk x (by rw [h3];simp [hx]),h3⟩
theorem ORel.lt:∀{ob:Ob} {S:List Nat},ORel B w ob S→∀b∈S,b<w.heap.size
 |.none,_,h,b,hb=>by rw [show _=_ from h] at hb;simp at hb
 |.loose _ _,_,⟨_,u,h1,_⟩,b,hb=>Rep.lt _ h1 b hb
 |.box b' _ _,_,⟨us,S1,h1,h2,h3⟩,b,hb=>by
  rw [h3] at hb;rcases List.mem_cons.1 hb with rfl|hb
  ·exact zX h1
  ·exact h2.lt b hb
theorem ORel.own:∀{ob:Ob} {S:List Nat} {c:Nat} {d:D} {η:jm},ORel B w ob S→ob.own c=some (d,η)→∃u S',d.isSl=true∧Rep w true d u S'∧(∀p,η p=hdr w p d u)∧∀s∈S',s∈S
 |.none,_,_,_,_,_,h=>by simp [Ob.own] at h
 |.loose d' η',S,0,d,η,⟨h0,u,h1,h2⟩,h=>by simp [Ob.own] at h;obtain ⟨rfl,rfl⟩:=h;exact ⟨u,S,h0,h1,h2,fun _ h=>h⟩
 |.loose _ _,_,c+1,_,_,_,h=>by simp [Ob.own] at h
 |.box b ty cs,S,c,d,η,⟨us,S1,h1,h2,h3⟩,h=>by
  have:∀{cs:List Cell} {us:List Value} {S1:List Nat} {c:Nat},CRel B w cs us S1→cs[c]?=some (.own d η)→∃u S',d.isSl=true∧Rep w true d u S'∧(∀p,η p=hdr w p d u)∧∀s∈S',s∈S1:=by
   intro cs
   induction cs with
   |nil=>intro _ _ _ _ h;simp at h
   |cons x l ih=>
    intro us S1 c hr hc;cases x with
    |a x=>
     obtain ⟨u,us',rfl,_,h5⟩:=hr;cases c with
     |zero=>simp at hc
     |succ c=>exact ih h5 (by simpa using hc)
    |own d' η'=>
     obtain ⟨u,us',S2,S3,rfl,rfl,k0,k1,k2,k3⟩:=hr;cases c with
     |zero=>simp at hc;obtain ⟨rfl,rfl⟩:=hc;exact ⟨u,S2,k0,k1,k2,fun s hs=>by simp [hs]⟩
     |succ c=>
      obtain ⟨u',S',k4,k5,k6,k7⟩:=ih k3 (by simpa using hc)
      exact ⟨u',S',k4,k5,k6,fun s hs=>by simp [k7 s hs]⟩
  simp only [Ob.own] at h;split at h
  ·rename_i d' η' hc
   simp at h;obtain ⟨rfl,rfl⟩:=h;obtain ⟨u,S',k1,k2,k3,k4⟩:=this h2 hc;exact ⟨u,S',k1,k2,k3,fun s hs=>by rw [h3];simp [k4 s hs]⟩
  ·simp at h
variable {N:Nat} {s:St} {a:Act} {F:Nat→List Nat}
theorem RelF.world (h:RelF B w0 N s a w F) (hb:Below w.heap.size w w'):RelF B w0 N s a w' F:=by
 have hB:B≤w.heap.size:=Nat.le_trans h.hB h.below.size;have hb':=hb.mono hB;exact ⟨h.below.trans hb',h.hB,h.df,h.sz,fun n=>(h.sl n).mono hb',fun g=>(h.ob g).keep hb' fun b hs=>hb.block b ((h.ob g).lt b hs),h.fr,h.dj⟩
theorem RelF.put (h:RelF B w0 N s a w F) {v:AV} {u:Value} (hv:VRel B w v u) {d:Option Nat} (hd:∀k,d=some k→k<N):RelF B w0 N (s.put d v) (a.put d u) w F:=by
 cases d with
 |none=>exact h
 |some k=>
  have hk:=hd k rfl;refine ⟨h.below,h.hB,h.df,by simp [Act.put,h.sz],fun n=>?_,h.ob,h.fr,h.dj⟩
  simp only [St.put,Act.put];by_cases hn:n=k
  ·subst hn
   rw [if_pos rfl];simp [Array.getD_eq_getD_getElem?,h.sz,hk];exact hv
  ·rw [if_neg hn]
   simp [Array.getD_eq_getD_getElem?,Array.getElem?_setIfInBounds_ne (Ne.symm hn)];simpa [Array.getD_eq_getD_getElem?] using h.sl n
theorem RelF.setO (h:RelF B w0 N s a w F) {g:Nat} {ob:Ob} {S:List Nat} (ho:ORel B w ob S) (hf:Fresh B S) (hd:∀g',g'≠g→∀b∈S,b∉F g'):
 RelF B w0 N (s.setO g ob) a w (fun k=>if k=g then S else F k):=by
 refine ⟨h.below,h.hB,h.df,h.sz,h.sl,fun k=>?_,fun k=>?_,fun k k' hne b hb hb'=>?_⟩
 ·simp only [St.setO];split
  ·exact ho
  ·exact h.ob k
 ·split
  ·exact hf
  ·exact h.fr k
 ·have hb1:b∈(if k=g then S else F k):=hb
  have hb2:b∈(if k'=g then S else F k'):=hb'
  split at hb1<;>split at hb2
  ·omega
  ·exact hd k' (by omega) b hb1 hb2
  ·exact hd k (by omega) b hb2 hb1
  ·exact h.dj k k' hne b hb1 hb2
def ja0 (B:Nat) (w:World):List (Nat×Ob)→List Nat→Prop
 |[],S=>S=[]
 |(_,ob)::l,S=>∃S1 S2,S=S1++S2∧ORel B w ob S1∧ja0 B w l S2
theorem RelF.addO:∀{os:List (Nat×Ob)} {s:St} {S:List Nat} {F:Nat→List Nat},RelF B w0 N s a w F→ja0 B w os S→Fresh B S→(∀g,∀b∈S,b∉F g)→∃F',RelF B w0 N (s.addO os) a w F'
 |[],s,S,F,h,_,_,_=>⟨F,h⟩
 |(g,ob)::os,s,S,F,h,⟨S1,S2,hS,ho,hn⟩,hf,hd=>by
  subst hS;have h1:=h.setO (g:=g) ho hf.left fun g' _ b hb=>hd g' b (by simp [hb])
  have h2:=RelF.addO h1 hn hf.right (fun k b hb=>by
   by_cases hk:k=g
   ·rw [if_pos hk];exact fun hb'=>hf.apart b hb' hb
   ·rw [if_neg hk];exact hd k b (by simp [hb]))
  exact h2
theorem RelF.rm (h:RelF B w0 N s a w F) {g c:Nat} {d:D} {η:jm} (ho:(s.o g).own c=some (d,η)):
 ∃u S F',d.isSl=true∧Rep w true d u S∧(∀p,η p=hdr w p d u)∧Fresh B S∧RelF B w0 N (s.rm g c) a w F'∧(∀g',∀b∈S,b∉F' g')∧(∀b∈S,b∈F g)∧∀g' b,b∈F' g'→b∈F g':=by
 have hog:=h.ob g;have hfg:=h.fr g;unfold St.rm;cases hob:s.o g with
 |none=>rw [hob] at ho;simp [Ob.own] at ho
 |loose d' η'=>
  rw [hob] at ho hog;cases c with
  |succ c=>simp [Ob.own] at ho
  |zero=>
   simp [Ob.own] at ho;obtain ⟨rfl,rfl⟩:=ho;obtain ⟨h0,u,h1,h2⟩:=hog;refine ⟨u,F g,_,h0,h1,h2,hfg,h.setO (S:=[]) (ob:=(Ob.loose d' η').rm 0) (by simp [Ob.rm,ORel]) (Fresh.nil _) (by simp),fun g' b hb hb'=>?_,fun _ h=>h,fun g' b hb=>?_⟩
   ·split at hb'
    ·simp at hb'
    ·exact h.dj g g' (by omega) b hb hb'
   ·split at hb
    ·simp at hb
    ·exact hb
 |box b ty cs=>
  rw [hob] at ho hog;obtain ⟨us,S1,h1,h2,h3⟩:=hog
  have key:∀{cs:List Cell} {us:List Value} {S1:List Nat} {c:Nat},CRel B w cs us S1→S1.Nodup→cs[c]?=some (.own d η)→
   ∃u S S',d.isSl=true∧Rep w true d u S∧(∀p,η p=hdr w p d u)∧CRel B w (cs.set c (.a (.v (η [])))) us S'∧(∀x,x∈S1↔x∈S∨x∈S')∧S'.Nodup∧S.Nodup∧∀x∈S,x∉S':=by
   intro cs
   induction cs with
   |nil=>intro _ _ _ _ _ h;simp at h
   |cons x l ih=>
    intro us S1 c hr hnd hc;cases x with
    |a x=>
     obtain ⟨u,us',rfl,k1,k2⟩:=hr;cases c with
     |zero=>simp at hc
     |succ c=>
      obtain ⟨u',S,S',j1,j2,j3,j4,j5,j6,j7,j8⟩:=ih k2 hnd (by simpa using hc)
      exact ⟨u',S,S',j1,j2,j3,⟨u,us',rfl,k1,j4⟩,j5,j6,j7,j8⟩
    |own d' η'=>
     obtain ⟨u,us',S2,S3,rfl,rfl,k0,k1,k2,k3⟩:=hr;have hnd':=List.nodup_append.1 hnd;cases c with
     |zero=>
      simp at hc;obtain ⟨rfl,rfl⟩:=hc;refine ⟨u,S2,S3,k0,k1,k2,⟨u,us',rfl,?_,k3⟩,fun x=>List.mem_append,hnd'.2.1,hnd'.1,fun x hx hx'=>hnd'.2.2 x hx x hx' rfl⟩
      show u=η' [];rw [k2,vL k0]
     |succ c=>
      obtain ⟨u',S,S',j1,j2,j3,j4,j5,j6,j7,j8⟩:=ih k3 hnd'.2.1 (by simpa using hc)
      refine ⟨u',S,S2++S',j1,j2,j3,⟨u,us',S2,S',rfl,rfl,k0,k1,k2,j4⟩,fun x=>?_,List.nodup_append.2 ⟨hnd'.1,j6,fun a ha b hb e=>hnd'.2.2 a ha b ((j5 b).2 (.inr hb)) e⟩,j7,fun x hx hx'=>?_⟩
      ·rw [List.mem_append,List.mem_append,j5];grind
      ·rcases List.mem_append.1 hx' with hx'|hx'
       ·exact hnd'.2.2 x hx' x ((j5 x).2 (.inl hx)) rfl
       ·exact j8 x hx hx'
  have hc:cs[c]?=some (.own d η):=by
   simp only [Ob.own] at ho;split at ho
   ·simp at ho;obtain ⟨rfl,rfl⟩:=ho;assumption
   ·simp at ho
  have hnd:(b::S1).Nodup:=by rw [←h3];exact hfg.1
  obtain ⟨u,S,S',j1,j2,j3,j4,j5,j6,j7,j8⟩:=key h2 (List.nodup_cons.1 hnd).2 hc;have hS:∀x∈S,x∈F g:=fun x hx=>by rw [h3];simp [(j5 x).2 (.inl hx)]
  have hS':∀x∈b::S',x∈F g:=fun x hx=>by
   rw [h3];rcases List.mem_cons.1 hx with rfl|hx
   ·simp
   ·simp [(j5 x).2 (.inr hx)]
  have hbS':b∉S':=fun hb=>(List.nodup_cons.1 hnd).1 ((j5 b).2 (.inr hb))
  have hrm:(Ob.box b ty cs).rm c=.box b ty (cs.set c (.a (.v (η [])))):=by simp only [Ob.rm,hc,rmC]
  refine ⟨u,S,_,j1,j2,j3,⟨j7,fun x hx=>hfg.2 x (hS x hx)⟩,h.setO (S:=b::S') (ob:=(Ob.box b ty cs).rm c) (by rw [hrm];exact ⟨us,S',h1,j4,rfl⟩) ⟨List.nodup_cons.2 ⟨hbS',j6⟩,fun x hx=>hfg.2 x (hS' x hx)⟩ (fun g' hg x hx=>h.dj g g' (Ne.symm hg) x (hS' x hx)),fun g' x hx hx'=>?_,hS,fun g' x hx=>?_⟩
  ·split at hx'
   ·rcases List.mem_cons.1 hx' with rfl|hx'
    ·exact (List.nodup_cons.1 hnd).1 ((j5 x).2 (.inl hx))
    ·exact j8 x hx hx'
   ·exact h.dj g g' (by omega) x (hS x hx) hx'
  ·split at hx
   ·rename_i e;subst e;exact hS' x hx
   ·exact hx
end
def jib (B:Nat) (w:World):List AV→List Value→Prop
 |[],xs=>xs=[]
 |a::l,xs=>∃x xs',xs=x::xs'∧VRel B w a x∧jib B w l xs'
abbrev St.only (o:Nat→Ob):St:=⟨fun _=>.unk,o⟩
def Act.bare:Act:={tmps:=#[],defers:=[]}
def Turns (P:Program) (f:FuncId) (args:List AV) (o:Nat→Ob) (R:RT→(Nat→Ob)→Prop):Prop:=
 jmo P f∧∀(B:Nat) (w:World) (F:Nat→List Nat) (xs:List Value),RelF B w 0 (.only o) Act.bare w F→jib B w args xs→
  Calls P f xs.toArray w fun e w'=>∃v rt o' S F',e=.returned v∧RelF B w 0 (.only o') Act.bare w' F'∧joN w' rt v S∧Fresh B S∧(∀g,∀b∈S,b∉F' g)∧R rt o'
def Inl (P:Program) (f:FuncId) (args:List AV) (o:Nat→Ob) (R:AV→(Nat→Ob)→Prop):Prop:=
 jmo P f∧∀(B:Nat) (w:World) (F:Nat→List Nat) (xs:List Value),RelF B w 0 (.only o) Act.bare w F→jib B w args xs→
  Calls P f xs.toArray w fun e w'=>∃v av o',∃F':Nat→List Nat,e=.returned v∧RelF B w 0 (.only o') Act.bare w' F'∧VRel B w' av v∧R av o'
def D.put:List Nat→Nat→List D→D→D
 |[],i,ds,.sl size ty cs=>.sl size ty (kC cs i ds)
 |k::p,i,ds,.sl size ty cs=>.sl size ty (match cs[k]? with
  |some d=>cs.set k (D.put p i ds d)
  |none=>cs)
 |_,_,_,.val u=>.val u
def jnr (p:List Nat) (i n:Nat) (q:List Nat):Prop:=∃j r,q=p++j::r∧i≤j∧j<i+n
def stH (flat:Bool) (p:List Nat) (k n:Nat) (η:jm) (K:jm→Prop):Prop:=match flat with
 |true=>K η
 |false=>∀η',(∀q,¬jnr p k n q→η' q=η q)→K η'
theorem jnE {flat:Bool} {p:List Nat} {k n:Nat} {η:jm} {K K':jm→Prop} (h:∀η',K η'→K' η') (hk:stH flat p k n η K):stH flat p k n η K':=by
 cases flat with
 |true=>exact h _ hk
 |false=>exact fun η' hη=>h _ (hk η' hη)
theorem jvD {flat:Bool} {p:List Nat} {k n:Nat} {η η':jm} {K:jm→Prop} (hk:stH flat p k n η K) (h:∀q,¬jnr p k n q→η' q=η q) (hf:flat=true→η'=η):K η':=by
 cases flat with
 |true=>rw [hf rfl];exact hk
 |false=>exact hk η' h
def qC (P:Program) (β:Nat) (i:Ins) (s:St) (K:St→Prop):Prop:=match i.i with
 |.box ty n x=>∃l,(s.ev x).cells=some l∧l.length=n∧kM s l fun cs s'=>∀b,K ((s'.addO [(100*(β+i.d.getD 0),.box b ty cs)]).put i.d (.c (.bp (100*(β+i.d.getD 0)) 0 b)))
 |.bsl e size _ ks ps=>∃l,jqf s ps=some l∧kM s l fun cs s'=>∃ds,vN ks cs=some ds∧∀η,K ((s'.addO [(100*(β+i.d.getD 0),.loose (.sl size e ds) η)]).put i.d (.c (.h (100*(β+i.d.getD 0)) 0 [] (η []))))
 |.st n ks a x=>i.d=none∧∃l,(s.ev x).cells=some l∧l.length=n∧kM s l fun cs s'=>match s.ev a with
  |.c (.bp g c b)=>∃ty ds,s'.o g=.box b ty ds∧c+n≤ds.length∧K (s'.setO g (.box b ty (kC ds c cs)))
  |.c (.ep g c p k hx)=>0<n∧∃ds,vN ks cs=some ds∧∃d0 η dd,(s'.o g).own c=some (d0,η)∧η p=hx∧D.get p d0=some dd∧dd.isSl=true∧k+n≤dd.cells.length∧
   stH (kf ds&&kf ((dd.cells.drop k).take n)) p k n η fun η'=>K (s'.setO g ((s'.o g).putOwn c (D.put p k ds d0) η'))
  |_=>False
 |.app e size bytes x y=>jtF s size (s.ev y) fun ys s1=>jfI s1 e size (s.ev x) fun xs s2=>xs.length/size+ys.length/size≤maxLen∧(xs.length/size+ys.length/size)*bytes≤140737488355328∧
  ∀η,K ((s2.addO [(100*(β+i.d.getD 0),.loose (.sl size e (xs++ys)) η)]).put i.d (.c (.h (100*(β+i.d.getD 0)) 0 [] (η []))))
 |.apps e x y=>∃b,s.ev y=.c (.v (.string b))∧jfI s e 1 (s.ev x) fun xs s2=>xs.length+b.size≤140737488355328∧
  ∀η,K ((s2.addO [(100*(β+i.d.getD 0),.loose (.sl 1 e (xs++strCells b)) η)]).put i.d (.c (.h (100*(β+i.d.getD 0)) 0 [] (η []))))
 |.clr size zs x=>i.d=none∧match s.ev x with
  |.c (.v (.slice none 0 0))=>K s
  |.c (.hs g c p hx sz lo n)=>sz=size∧0<n∧∃d0 η dd,(s.o g).own c=some (d0,η)∧η p=hx∧D.get p d0=some dd∧dd.isSl=true∧dd.size=sz∧lo+n≤dd.len∧
   stH (kf (List.replicate n zs).flatten&&kf ((dd.cells.drop (lo*sz)).take (n*sz))) p (lo*sz) (n*sz) η fun η'=>K (s.setO g ((s.o g).putOwn c (D.put p (lo*sz) (List.replicate n zs).flatten d0) η'))
  |_=>False
 |.call f args=>(∃rt,∀st,∃av os,Gen P s (β+i.d.getD 0) rt st (.call f args) av os∧K ((s.addO os).put i.d av))∨
  (Turns P f (args.map s.ev) s.o fun rt o'=>∀η:Nat→jm,K (((⟨s.t,o'⟩:St).addO (jkI (100*(β+i.d.getD 0)) η 0 rt.flat)).put i.d (rt.av (100*(β+i.d.getD 0)) η)))∨
  Inl P f (args.map s.ev) s.o fun av o'=>K (St.put ⟨s.t,o'⟩ i.d av)
 |.callv x args=>(∃rt,∀st,∃av os,Gen P s (β+i.d.getD 0) rt st (.callv x args) av os∧K ((s.addO os).put i.d av))∨
  ∃f caps,s.ev x=.fn f caps∧Turns P f (args.map s.ev++caps.map .c) s.o fun rt o'=>∀η:Nat→jm,K (((⟨s.t,o'⟩:St).addO (jkI (100*(β+i.d.getD 0)) η 0 rt.flat)).put i.d (rt.av (100*(β+i.d.getD 0)) η))
 |j=>∃rt,∀st,∃av os,Gen P s (β+i.d.getD 0) rt st j av os∧K ((s.addO os).put i.d av)
def qN (s:St):Option (Nat×Bool)→Option Bool
 |none=>some true
 |some (t,want)=>match s.t t with
  |.c (.v (.bool b))=>some (b==want)
  |.c (.v _)=>some false
  |_=>none
def jeF (P:Program) (β:Nat):List Ins→St→(St→Prop)→Prop
 |[],s,K=>K s
 |i::l,s,K=>match qN s i.g with
  |some true=>qC P β i s fun s'=>jeF P β l s' K
  |some false=>jeF P β l (s.put i.d (.c (.v undef))) K
  |none=>False
def A0.ids:A0→List Nat
 |.h g _ _ _=>[g]
 |.hs g _ _ _ _ _ _=>[g]
 |.bp g _ _=>[g]
 |.ep g _ _ _ _=>[g]
 |_=>[]
def AV.ids:AV→List Nat
 |.c a=>a.ids
 |.agg l=>l.flatMap A0.ids
 |.fn _ l=>l.flatMap A0.ids
 |_=>[]
inductive Lk where
 |ob (g:Nat)
 |cs (g c n:Nat)
def A0.looks (n:Nat):A0→List Lk
 |.h g _ _ _=>[.ob g]
 |.hs g _ _ _ _ _ _=>[.ob g]
 |.bp g c _=>[.cs g c n]
 |.ep g _ _ _ _=>[.ob g]
 |.v _=>[]
 |.ro _=>[]
 |.rp _=>[]
 |.un=>[]
def AV.looks (n:Nat):AV→List Lk
 |.c a=>a.looks n
 |.agg _=>[]
 |.fn _ _=>[]
 |.tup _=>[]
 |.unk=>[]
def I.looks (s:St):I→List Lk
 |.ld _ n x=>(s.ev x).looks n
 |.ia _ x _=>(s.ev x).ids.map .ob
 |.cv _ _ x=>(s.ev x).ids.map .ob
 |.len _ x=>(s.ev x).ids.map .ob
 |.sl _ x _ _=>(s.ev x).ids.map .ob
 |_=>[]
def jrc (g c n:Nat):Ob→Ob→Prop
 |.box b ty cs,.box b' ty' cs'=>b=b'∧ty=ty'∧cs.length=cs'.length∧jdS g c ((cs.drop c).take n)=jdS g c ((cs'.drop c).take n)
 |ob,ob'=>ob=ob'
def jof (s s':St):Lk→Prop
 |.ob g=>s'.o g=s.o g
 |.cs g c n=>jrc g c n (s'.o g) (s.o g)
def jm6 (s s':St):List Lk→Prop
 |[]=>True
 |k::l=>jof s s' k∧jm6 s s' l
theorem jg6 (g c n:Nat) (ob:Ob):jrc g c n ob ob:=by cases ob<;>first|rfl|exact ⟨rfl,rfl,rfl,rfl⟩
theorem jke {s:St} {d:Option Nat} {v:AV} {k:Lk}:jof s (s.put d v) k:=by cases k<;>cases d<;>first|rfl|exact jg6 _ _ _ _
theorem kept_put2 {s s2:St} {d:Option Nat} {v:AV} {k:Lk}:jof (s.put d v) (s2.put d v) k↔jof s s2 k:=by cases k<;>cases d<;>exact Iff.rfl
theorem jsf {s:St} {d:Option Nat} {v:AV} {k:Lk}:jof (s.put d v) s k:=by cases k<;>cases d<;>first|rfl|exact jg6 _ _ _ _
def jkf (s s':St) (chk:List Nat):List (Nat×List Lk)→Prop
 |[]=>True
 |(p,ids)::l=>(if chk.contains p then jm6 s s' ids else True)∧jkf s s' chk l
def vc (P:Program) (β:Nat):T→List (Nat×List Lk)→St→(St→Prop)→Prop
 |.done,_,s,K=>K s
 |.stop,_,_,_=>True
 |.pure p i t,l,s,K=>match qN s i.g with
  |some true=>qC P β i s fun s'=>vc P β t ((p,i.i.looks s)::l) s' K
  |some false=>vc P β t l (s.put i.d (.c (.v undef))) K
  |none=>False
 |.alt i chk t rest,l,s,K=>(match qN s i.g with
  |some true=>qC P β i s fun s'=>jkf s s' chk l∧vc P β t l s' K
  |some false=>vc P β t l (s.put i.d (.c (.v undef))) K
  |none=>False)∧vc P β rest l s K
def Wk (s s':St):Prop:=∀(B N:Nat) (w0 w:World) (a:Act) (F:Nat→List Nat),RelF B w0 N s a w F→∃F':Nat→List Nat,RelF B w0 N s' a w F'∧∀g,∀b∈F' g,∃g',b∈F g'
def WkK (s:St) (K:St→Prop):Prop:=∀(B N:Nat) (w0 w:World) (a:Act) (F:Nat→List Nat),RelF B w0 N s a w F→∃(s':St) (F':Nat→List Nat),RelF B w0 N s' a w F'∧K s'
inductive Ex where
 |normal
 |exit (id:Nat)
 |ret
def Ex.thn (next:St→Prop) (Q:Ex→St→Prop):Ex→St→Prop
 |.normal,s=>next s
 |.exit id,s=>Q (.exit id) s
 |.ret,s=>Q .ret s
def Ex.inBlk (id:Nat) (Q:Ex→St→Prop):Ex→St→Prop
 |.exit id',s=>if id'=id then Q .normal s else Q (.exit id') s
 |.normal,s=>Q .normal s
 |.ret,s=>Q .ret s
def wpC (P:Program) (β:Nat):C→(Ex→St→Prop)→St→Prop
 |.skip,Q,s=>Q .normal s
 |.reg is,Q,s=>jeF P β is s (Q .normal)
 |.dreg t,Q,s=>vc P β t [] s (Q .normal)
 |.seq a b,Q,s=>wpC P β a (Ex.thn (wpC P β b Q) Q) s
 |.cond x a b,Q,s=>∃t,s.ev x=.c (.v (.bool t))∧(t=true→wpC P β a Q s)∧(t=false→wpC P β b Q s)
 |.blk id a,Q,s=>wpC P β a (Ex.inBlk id Q) s
 |.loop a,Q,s=>∃(ι:Type) (mk:ι→St) (J:ι→Prop) (μ:ι→Nat),(∃i,J i∧Wk s (mk i))∧∀i,J i→wpC P β a (Ex.thn (fun s'=>∃i',J i'∧Wk s' (mk i')∧μ i'<μ i) Q) (mk i)
 |.gh a,Q,s=>WkK s (wpC P β a Q)
 |.exit id,Q,s=>Q (.exit id) s
 |.ret,Q,s=>Q .ret s
def jwY (rs:List R) (rt:RT):Ex→St→Prop
 |.exit _,_=>False
 |_,s=>jqv rs rt s
def St.start (args:List AV) (o:Nat→Ob):St:=⟨fun n=>(args[n]?).getD .unk,o⟩
def jtI (rs:List R) (K:AV→(Nat→Ob)→Prop) (s:St):Prop:=jgK s rs fun ps=>match ps with
 |[(true,l)]=>K (.agg l) s.o
 |[(false,[a])]=>K (.c a) s.o
 |[]=>K (.tup []) s.o
 |p::q::r=>K (.tup (p::q::r)) s.o
 |_=>False
def inlE (rs:List R) (K:AV→(Nat→Ob)→Prop):Ex→St→Prop
 |.exit _,_=>False
 |_,s=>jtI rs K s
section
variable {P:Program} {β:Nat} {s:St} {K:St→Prop} {Q:Ex→St→Prop} {d:Option Nat} {g:Option (Nat×Bool)}
theorem ev_t (n:Nat):s.ev (.t n)=s.t n:=(rfl)
theorem ev_i (k:IntKind) (n:Int):s.ev (.c (.int k n))=.c (.v (.int k n)):=(rfl)
theorem ev_b (b:Bool):s.ev (.c (.bool b))=.c (.v (.bool b)):=(rfl)
theorem ev_s (b:ByteArray):s.ev (.c (.string b))=.c (.v (.string b)):=(rfl)
theorem ev_n:s.ev (.c (.slice none 0 0))=.c (.v (.slice none 0 0)):=(rfl)
theorem put_t (k n:Nat) (v:AV):(s.put (some k) v).t n=if n=k then v else s.t n:=(rfl)
theorem put_o (v:AV) (n:Nat):(s.put d v).o n=s.o n:=by cases d<;>rfl
theorem jyG (k:Nat) (ob:Ob) (n:Nat):(s.setO k ob).t n=s.t n:=(rfl)
theorem jyH (k:Nat) (ob:Ob) (n:Nat):(s.setO k ob).o n=if n=k then ob else s.o n:=(rfl)
theorem jvv:s.addO []=s:=(rfl)
theorem jtD (k:Nat) (ob:Ob) (l:List (Nat×Ob)):s.addO ((k,ob)::l)=(s.setO k ob).addO l:=(rfl)
theorem jtK:wpC P β .skip Q s=Q .normal s:=(rfl)
theorem jyf (is:List Ins):wpC P β (.reg is) Q s=jeF P β is s (Q .normal):=(rfl)
theorem jjs (a b:C):wpC P β (.seq a b) Q s=wpC P β a (Ex.thn (wpC P β b Q) Q) s:=(rfl)
theorem jvy (id:Nat) (a:C):wpC P β (.blk id a) Q s=wpC P β a (Ex.inBlk id Q) s:=(rfl)
theorem jtL (id:Nat):wpC P β (.exit id) Q s=Q (.exit id) s:=(rfl)
theorem jwd:wpC P β .ret Q s=Q .ret s:=(rfl)
theorem jqy {x:X} (a b:C) (h:s.ev x=.c (.v (.bool true))):wpC P β (.cond x a b) Q s=wpC P β a Q s:=by simp [wpC,h]
theorem jqz {x:X} (a b:C) (h:s.ev x=.c (.v (.bool false))):wpC P β (.cond x a b) Q s=wpC P β b Q s:=by simp [wpC,h]
theorem thn_n (next:St→Prop):Ex.thn next Q .normal s=next s:=(rfl)
theorem thn_e (next:St→Prop) (id:Nat):Ex.thn next Q (.exit id) s=Q (.exit id) s:=(rfl)
theorem thn_r (next:St→Prop):Ex.thn next Q .ret s=Q .ret s:=(rfl)
theorem blk_n (id:Nat):Ex.inBlk id Q .normal s=Q .normal s:=(rfl)
theorem blk_r (id:Nat):Ex.inBlk id Q .ret s=Q .ret s:=(rfl)
theorem blk_e (id id':Nat):Ex.inBlk id Q (.exit id') s=if id'=id then Q .normal s else Q (.exit id') s:=(rfl)
theorem juc:jeF P β [] s K=K s:=(rfl)
theorem jrf (i:I) (l:List Ins):jeF P β (⟨d,none,i⟩::l) s K=qC P β ⟨d,none,i⟩ s (fun s'=>jeF P β l s' K):=(rfl)
theorem jwG {t:Nat} (i:I) (l:List Ins) (h:s.t t=.c (.v (.bool true))):jeF P β (⟨d,some (t,true),i⟩::l) s K=qC P β ⟨d,some (t,true),i⟩ s (fun s'=>jeF P β l s' K):=by simp [jeF,qN,h]
theorem jwH {t:Nat} (i:I) (l:List Ins) (h:s.t t=.c (.v (.bool false))):jeF P β (⟨d,some (t,true),i⟩::l) s K=jeF P β l (s.put d (.c (.v undef))) K:=by simp [jeF,qN,h]
theorem jwI {t:Nat} (i:I) (l:List Ins) (h:s.t t=.c (.v (.bool true))):jeF P β (⟨d,some (t,false),i⟩::l) s K=jeF P β l (s.put d (.c (.v undef))) K:=by simp [jeF,qN,h]
theorem jwJ {t:Nat} (i:I) (l:List Ins) (h:s.t t=.c (.v (.bool false))):jeF P β (⟨d,some (t,false),i⟩::l) s K=qC P β ⟨d,some (t,false),i⟩ s (fun s'=>jeF P β l s' K):=by simp [jeF,qN,h]
def I.writes:I→Bool
 |.box ..|.bsl ..|.st ..|.app ..|.apps ..|.clr ..|.call ..|.callv ..=>true
 |_=>false
theorem jzC {i:I} {av:AV} {os:List (Nat×Ob)} (hw:i.writes=false) (h:∀rt st av' os',Gen P s (β+d.getD 0) rt st i av' os'↔av'=av∧os'=os):
 qC P β ⟨d,g,i⟩ s K=K ((s.addO os).put d av):=by
 have e:qC P β ⟨d,g,i⟩ s K=(∃rt,∀st,∃av os,Gen P s (β+d.getD 0) rt st i av os∧K ((s.addO os).put d av)):=by
  cases i<;>first|rfl|cases hw
 rw [e]
 apply propext
 constructor
 ·rintro ⟨rt,h1⟩
  obtain ⟨av',os',h2,h3⟩:=h1 ⟨0,fun _ _=>undef⟩
  obtain ⟨rfl,rfl⟩:=(h _ _ _ _).1 h2;exact h3
 ·intro h1
  exact ⟨.c (.val undef),fun st=>⟨_,_,(h _ _ _ _).2 ⟨rfl,rfl⟩,h1⟩⟩
theorem juN {i:I} {av:AV} (hw:i.writes=false) (h:∀rt st av' os',Gen P s (β+d.getD 0) rt st i av' os'↔av'=av∧os'=[]):qC P β ⟨d,g,i⟩ s K=K (s.put d av):=jzC hw h
theorem jwC (x:X):qC P β ⟨d,g,.mov x⟩ s K=K (s.put d (s.ev x)):=juN rfl fun _ _ _ _=>Iff.rfl
theorem jxI {i:I} {p:Prop} {av:AV} (hw:i.writes=false) (h:∀rt st av' os',Gen P s (β+d.getD 0) rt st i av' os'↔p∧av'=av∧os'=[]):qC P β ⟨d,g,i⟩ s K=(p∧K (s.put d av)):=by
 by_cases hp:p
 ·rw [juN hw (av:=av) fun rt st av' os'=>by rw [h];simp [hp]];simp [hp]
 ·have e:qC P β ⟨d,g,i⟩ s K=(∃rt,∀st,∃av os,Gen P s (β+d.getD 0) rt st i av os∧K ((s.addO os).put d av)):=by
   cases i<;>first|rfl|cases hw
  rw [e]
  apply propext
  constructor
  ·rintro ⟨rt,h1⟩
   obtain ⟨av',os',h2,_⟩:=h1 ⟨0,fun _ _=>undef⟩
   exact absurd ((h _ _ _ _).1 h2).1 hp
  ·exact fun h=>absurd h.1 hp
theorem jol {i:I} (hw:i.writes=false) (h:∀rt st av' os',¬Gen P s (β+d.getD 0) rt st i av' os'):qC P β ⟨d,g,i⟩ s K=False:=by
 have e:qC P β ⟨d,g,i⟩ s K=(∃rt,∀st,∃av os,Gen P s (β+d.getD 0) rt st i av os∧K ((s.addO os).put d av)):=by
  cases i<;>first|rfl|cases hw
 rw [e]
 apply propext
 constructor
 ·rintro ⟨rt,h1⟩
  obtain ⟨av',os',h2,_⟩:=h1 ⟨0,fun _ _=>undef⟩
  exact absurd h2 (h _ _ _ _)
 ·exact False.elim
def jw4 (d:Option Nat) (s:St) (K:St→Prop) (c a b:AV):Prop:=match c with
 |.c (.v (.bool t))=>K (s.put d (if t then a else b))
 |_=>False
theorem jub (c a b:X):qC P β ⟨d,g,.pick c a b⟩ s K=jw4 d s K (s.ev c) (s.ev a) (s.ev b):=by
 unfold jw4;split
 ·exact juN rfl fun _ _ _ _=>by simp [Gen, *]
 ·rename_i h
  exact jol rfl fun _ _ _ _ ⟨t,h1,_⟩=>h t h1
theorem jzb (t:Bool) (a b:AV):jw4 d s K (.c (.v (.bool t))) a b=K (s.put d (if t then a else b)):=(rfl)
def faK (d:Option Nat) (s:St) (K:St→Prop) (off:Nat):AV→Prop
 |.c (.rp ds)=>K (s.put d (.c (.rp (ds.drop off))))
 |.c (.bp g c b)=>K (s.put d (.c (.bp g (c+off) b)))
 |.c (.ep g c p i x)=>K (s.put d (.c (.ep g c p (i+off) x)))
 |_=>False
theorem jyP (off:Nat) (x:X):qC P β ⟨d,g,.fa off x⟩ s K=faK d s K off (s.ev x):=by
 cases h:s.ev x with
 |c a=>cases a<;>first|exact juN rfl (fun _ _ _ _=>by simp [Gen,h])|exact jol rfl (fun _ _ _ _=>by simp [Gen,h])
 |_=>exact jol rfl (fun _ _ _ _=>by simp [Gen,h])
theorem jzF (off:Nat) (ds:List D):faK d s K off (.c (.rp ds))=K (s.put d (.c (.rp (ds.drop off)))):=(rfl)
theorem jzH (off k c b:Nat):faK d s K off (.c (.bp k c b))=K (s.put d (.c (.bp k (c+off) b))):=(rfl)
theorem jzG (off k c:Nat) (p:List Nat) (i:Nat) (x:Value):faK d s K off (.c (.ep k c p i x))=K (s.put d (.c (.ep k c p (i+off) x))):=(rfl)
def ldV:Bool→List A0→(AV→Prop)→Prop
 |true,l,k=>k (.agg l)
 |false,[a],k=>k (.c a)
 |false,_,_=>False
theorem ldV_t (l:List A0) (k:AV→Prop):ldV true l k=k (.agg l):=(rfl)
theorem ldV_f (a:A0) (k:AV→Prop):ldV false [a] k=k (.c a):=(rfl)
def ldB (ob:Ob) (g c b n:Nat) (k:List A0→Prop):Prop:=match ob with
 |.box b' _ cs=>b'=b∧c+n≤cs.length∧k (jdS g c ((cs.drop c).take n))
 |_=>False
theorem ldB_ (b' ty:Nat) (cs:List Cell) (k c b n:Nat) (K:List A0→Prop):ldB (.box b' ty cs) k c b n K=(b'=b∧c+n≤cs.length∧K (jdS k c ((cs.drop c).take n))):=(rfl)
def ldK (d:Option Nat) (s:St) (K:St→Prop) (agg:Bool) (n:Nat):AV→Prop
 |.c (.rp ds)=>n≤ds.length∧ldV agg ((ds.take n).map D.toRo) fun v=>K (s.put d v)
 |.c (.bp g c b)=>ldB (s.o g) g c b n fun l=>ldV agg l fun v=>K (s.put d v)
 |.c (.ep g c p i x)=>∃d0 η dd,(s.o g).own c=some (d0,η)∧η p=x∧D.get p d0=some dd∧dd.isSl=true∧i+n≤dd.cells.length∧ldV agg (jeW g c p η i ((dd.cells.drop i).take n)) fun v=>K (s.put d v)
 |_=>False
theorem jyM (agg:Bool) (n:Nat) (x:X):qC P β ⟨d,g,.ld agg n x⟩ s K=ldK d s K agg n (s.ev x):=by
 have e:qC P β ⟨d,g,.ld agg n x⟩ s K=(∃rt:RT,∀st:jtE,∃av os,(∃l,vQ s n l (s.ev x)∧(if agg then av=.agg l else∃a,l=[a]∧av=.c a)∧os=[])∧K ((s.addO os).put d av)):=rfl
 have h1:∀l,(∃av os,((if agg then av=.agg l else∃a,l=[a]∧av=.c a)∧os=[])∧K ((s.addO os).put d av))↔ldV agg l fun v=>K (s.put d v):=fun l=>by
  cases agg
  ·rcases l with _|⟨a,_|⟨b,l⟩⟩
   ·simp [ldV]
   ·simp only [ldV]
    constructor
    ·rintro ⟨_,_,⟨h,rfl⟩,h3⟩;simp at h;subst h;exact h3
    ·intro h3;exact ⟨_,_,⟨by simp,rfl⟩,h3⟩
   ·simp [ldV]
  ·simp only [ldV]
   constructor
   ·rintro ⟨_,_,⟨h,rfl⟩,h3⟩;simp at h;subst h;exact h3
   ·intro h3;exact ⟨_,_,⟨by simp,rfl⟩,h3⟩
 have e2:qC P β ⟨d,g,.ld agg n x⟩ s K↔∃l,vQ s n l (s.ev x)∧ldV agg l fun v=>K (s.put d v):=by
  rw [e];constructor
  ·rintro ⟨_,h⟩
   obtain ⟨av,os,⟨l,h2,h3⟩,h4⟩:=h ⟨0,fun _ _=>undef⟩
   exact ⟨l,h2,(h1 l).1 ⟨av,os,h3,h4⟩⟩
  ·rintro ⟨l,h2,h3⟩
   refine ⟨.c (.val undef),fun _=>?_⟩
   obtain ⟨av,os,h4,h5⟩:=(h1 l).2 h3;exact ⟨av,os,⟨l,h2,h4⟩,h5⟩
 apply propext
 rw [e2];cases h:s.ev x with
 |c a=>
  cases a with
  |bp k c b=>
   simp only [vQ,ldK,ldB];cases ho:s.o k<;>simp
   constructor
   ·rintro ⟨l,⟨_,_,⟨rfl,_,rfl⟩,h2,rfl⟩,h3⟩;exact ⟨rfl,h2,h3⟩
   ·rintro ⟨rfl,h2,h3⟩;exact ⟨_,⟨_,_,⟨rfl,rfl,rfl⟩,h2,rfl⟩,h3⟩
  |rp ds=>
   simp only [vQ,ldK];constructor
   ·rintro ⟨l,⟨h2,rfl⟩,h3⟩;exact ⟨h2,h3⟩
   ·rintro ⟨h2,h3⟩;exact ⟨_,⟨h2,rfl⟩,h3⟩
  |ep k c p i x=>
   simp only [vQ,ldK];constructor
   ·rintro ⟨l,⟨d0,η,dd,h2,h3,h4,h7,h5,rfl⟩,h6⟩;exact ⟨d0,η,dd,h2,h3,h4,h7,h5,h6⟩
   ·rintro ⟨d0,η,dd,h2,h3,h4,h7,h5,h6⟩;exact ⟨_,⟨d0,η,dd,h2,h3,h4,h7,h5,rfl⟩,h6⟩
  |_=>simp [vQ,ldK]
 |_=>simp [vQ,ldK]
theorem jzt (agg:Bool) (n:Nat) (ds:List D):ldK d s K agg n (.c (.rp ds))=(n≤ds.length∧ldV agg ((ds.take n).map D.toRo) fun v=>K (s.put d v)):=(rfl)
theorem jzu (agg:Bool) (n k c b:Nat):ldK d s K agg n (.c (.bp k c b))=ldB (s.o k) k c b n fun l=>ldV agg l fun v=>K (s.put d v):=(rfl)
def iaK (d:Option Nat) (s:St) (K:St→Prop) (size:Nat):AV→AV→Prop
 |.c (.ro dd),.c (.v (.int _ n))=>(0≤n∧n.toNat<dd.len∧dd.isSl=true∧dd.size=size)∧K (s.put d (.c (.rp (dd.elem n.toNat))))
 |.c (.hs g c p hx sz lo m),.c (.v (.int _ n))=>(0≤n∧(∃dd,Is s (.hs g c p hx sz lo m) dd)∧sz=size∧n.toNat<m)∧K (s.put d (.c (.ep g c p ((lo+n.toNat)*size) hx)))
 |.c (.h g c p hx),.c (.v (.int _ n))=>(0≤n∧∃dd,Is s (.h g c p hx) dd∧dd.size=size∧n.toNat<dd.len)∧K (s.put d (.c (.ep g c p (n.toNat*size) hx)))
 |_,_=>False
theorem jyN (size:Nat) (x i:X):qC P β ⟨d,g,.ia size x i⟩ s K=iaK d s K size (s.ev x) (s.ev i):=by
 unfold iaK;split
 ·rename_i dd k n h1 h2
  refine jxI rfl fun _ _ _ _=>?_
  simp only [Gen,h1,h2];constructor
  ·rintro ⟨_,_,he,h3,⟨h4,h5,h6,h7⟩,h8⟩;cases he;exact ⟨⟨h3,h6,h4,h5⟩,h7,h8⟩
  ·rintro ⟨⟨h3,h6,h4,h5⟩,h7,h8⟩;exact ⟨_,_,rfl,h3,⟨h4,h5,h6,h7⟩,h8⟩
 ·rename_i k c p hx sz lo m kk n h1 h2
  refine jxI rfl fun _ _ _ _=>?_
  simp only [Gen,h1,h2];constructor
  ·rintro ⟨_,_,he,h3,⟨h4,h5,h6,h7⟩,h8⟩;cases he;exact ⟨⟨h3,h4,h5,h6⟩,h7,h8⟩
  ·rintro ⟨⟨h3,h4,h5,h6⟩,h7,h8⟩;exact ⟨_,_,rfl,h3,⟨h4,h5,h6,h7⟩,h8⟩
 ·rename_i k c p hx kk n h1 h2
  refine jxI rfl fun _ _ _ _=>?_
  simp only [Gen,h1,h2];constructor
  ·rintro ⟨_,_,he,h3,⟨h4,h7⟩,h8⟩;cases he;exact ⟨⟨h3,h4⟩,h7,h8⟩
  ·rintro ⟨⟨h3,h4⟩,h7,h8⟩;exact ⟨_,_,rfl,h3,⟨h4,h7⟩,h8⟩
 ·rename_i h1 h2 h3'
  refine jol rfl fun _ _ _ _=>?_
  simp only [Gen];rintro ⟨k,n,he,h3,h4,_⟩;split at h4
  ·exact h1 _ _ _ (by assumption) he
  ·exact h3' _ _ _ _ _ _ (by assumption) he
  ·exact h2 _ _ _ _ _ _ _ _ _ (by assumption) he
  ·exact h4
theorem jzz (size:Nat) (dd:D) (k:IntKind) (n:Int):iaK d s K size (.c (.ro dd)) (.c (.v (.int k n)))=((0≤n∧n.toNat<dd.len∧dd.isSl=true∧dd.size=size)∧K (s.put d (.c (.rp (dd.elem n.toNat))))):=(rfl)
theorem iaK_h (size k c:Nat) (p:List Nat) (hx:Value) (kk:IntKind) (n:Int):iaK d s K size (.c (.h k c p hx)) (.c (.v (.int kk n)))=((0≤n∧∃dd,Is s (.h k c p hx) dd∧dd.size=size∧n.toNat<dd.len)∧K (s.put d (.c (.ep k c p (n.toNat*size) hx)))):=rfl
theorem jlK {i:I} {G:AV→Prop} (hw:i.writes=false) (h:∀rt st av' os',Gen P s (β+d.getD 0) rt st i av' os'↔G av'∧os'=[]):qC P β ⟨d,g,i⟩ s K=∃av,G av∧K (s.put d av):=by
 have e:qC P β ⟨d,g,i⟩ s K=(∃rt,∀st,∃av os,Gen P s (β+d.getD 0) rt st i av os∧K ((s.addO os).put d av)):=by
  cases i<;>first|rfl|cases hw
 rw [e]
 apply propext
 constructor
 ·rintro ⟨_,h1⟩
  obtain ⟨av',os',h2,h3⟩:=h1 ⟨0,fun _ _=>undef⟩
  obtain ⟨h4,rfl⟩:=(h _ _ _ _).1 h2;exact ⟨av',h4,h3⟩
 ·rintro ⟨av,h1,h2⟩
  exact ⟨.c (.val undef),fun _=>⟨av,[],(h _ _ _ _).2 ⟨h1,rfl⟩,h2⟩⟩
def jvU (d:Option Nat) (s:St) (K:St→Prop) (str:Bool) (a:AV):Prop:=∃av,(∃n,jqr s str a n∧av=.c (.v (.int .i64 (n:Int))))∧K (s.put d av)
theorem jwE (str:Bool) (x:X):qC P β ⟨d,g,.len str x⟩ s K=jvU d s K str (s.ev x):=jlK rfl fun _ _ av os=>by
 simp only [Gen];constructor
 ·rintro ⟨n,h1,h2,h3⟩;exact ⟨⟨n,h1,h2⟩,h3⟩
 ·rintro ⟨⟨n,h1,h2⟩,h3⟩;exact ⟨n,h1,h2,h3⟩
theorem jr6 (str:Bool) (a:AV):jvU d s K str a=∃n,jqr s str a n∧K (s.put d (.c (.v (.int .i64 (n:Int))))):=by
 apply propext
 constructor
 ·rintro ⟨_,⟨n,h1,rfl⟩,h2⟩;exact ⟨n,h1,h2⟩
 ·rintro ⟨n,h1,h2⟩;exact ⟨_,⟨n,h1,rfl⟩,h2⟩
theorem jxr (dd:D):jvU d s K false (.c (.ro dd))=((dd.isSl=true∧0<dd.size)∧K (s.put d (.c (.v (.int .i64 dd.len))))):=by
 rw [jr6]
 apply propext
 constructor
 ·rintro ⟨_,⟨h1,h2,rfl⟩,h3⟩;exact ⟨⟨h1,h2⟩,h3⟩
 ·rintro ⟨⟨h1,h2⟩,h3⟩;exact ⟨_,⟨h1,h2,rfl⟩,h3⟩
theorem juA (b:ByteArray):jvU d s K true (.c (.v (.string b)))=K (s.put d (.c (.v (.int .i64 b.size)))):=by
 rw [jr6];simp [jqr]
theorem juC:jvU d s K false (.c (.v (.slice none 0 0)))=K (s.put d (.c (.v (.int .i64 0)))):=by
 rw [jr6];simp [jqr]
theorem jzs (k c:Nat) (p:List Nat) (x:Value):jvU d s K false (.c (.h k c p x))=∃dd,Is s (.h k c p x) dd∧0<dd.size∧K (s.put d (.c (.v (.int .i64 dd.len)))):=by
 rw [jr6]
 apply propext
 constructor
 ·rintro ⟨_,⟨dd,h1,h2,rfl⟩,h3⟩;exact ⟨dd,h1,h2,h3⟩
 ·rintro ⟨dd,h1,h2,h3⟩;exact ⟨_,⟨dd,h1,h2,rfl⟩,h3⟩
def jvn (P:Program) (d:Option Nat) (s:St) (K:St→Prop) (op:BinOp) (ty:Nat) (x y:AV):Prop:=∃av,((∃a b v,x=.c (.v a)∧y=.c (.v b)∧jyb op a b v∧av=.c (.v v))∨
 (∃l m xs ys b,x=.agg l∧y=.agg m∧ja8 l=some xs∧ja8 m=some ys∧EqR P op ty xs ys b∧av=.c (.v (.bool b))))∧K (s.put d av)
theorem jwO (op:BinOp) (ty:Nat) (x y:X):qC P β ⟨d,g,.bin op ty x y⟩ s K=jvn P d s K op ty (s.ev x) (s.ev y):=jlK rfl fun _ _ _ _=>Iff.rfl
theorem joE (op:BinOp) (ty:Nat) (a b:Value):jvn P d s K op ty (.c (.v a)) (.c (.v b))=∃v,jyb op a b v∧K (s.put d (.c (.v v))):=by
 apply propext
 constructor
 ·rintro ⟨_,(⟨_,_,v,h1,h2,h3,rfl⟩|⟨_,_,_,_,_,h1,_⟩),h4⟩
  ·cases h1;cases h2;exact ⟨v,h3,h4⟩
  ·cases h1
 ·rintro ⟨v,h1,h2⟩;exact ⟨_,.inl ⟨_,_,v,rfl,rfl,h1,rfl⟩,h2⟩
theorem jzZ (op:BinOp) (ty:Nat) (k k':IntKind) (a b:Int):jvn P d s K op ty (.c (.v (.int k a))) (.c (.v (.int k' b)))=(juJ op k k' b∧K (s.put d (.c (.v (jaM op k a b))))):=by
 rw [joE]
 apply propext
 constructor
 ·rintro ⟨_,⟨h1,rfl⟩,h2⟩;exact ⟨h1,h2⟩
 ·rintro ⟨h1,h2⟩;exact ⟨_,⟨h1,rfl⟩,h2⟩
theorem jvm (ty:Nat) (a b:ByteArray):jvn P d s K .eql ty (.c (.v (.string a))) (.c (.v (.string b)))=K (s.put d (.c (.v (.bool (a.toList==b.toList))))):=by rw [joE];simp [jyb]
theorem jvl (ty:Nat) (a b:ByteArray):jvn P d s K .neq ty (.c (.v (.string a))) (.c (.v (.string b)))=K (s.put d (.c (.v (.bool (!(a.toList==b.toList)))))):=by rw [joE];simp [jyb]
theorem jtb (ty:Nat) (a b:ByteArray):jvn P d s K .add ty (.c (.v (.string a))) (.c (.v (.string b)))=(a.size+b.size≤maxLen∧K (s.put d (.c (.v (.string (a++b)))))):=by rw [joE];simp [jyb,and_assoc]
def unK (d:Option Nat) (s:St) (K:St→Prop) (op:UnOp) (x:AV):Prop:=∃av,(match op with
 |.not=>∃b,x=.c (.v (.bool b))∧av=.c (.v (.bool (!b)))
 |.neg=>∃k n,x=.c (.v (.int k n))∧av=.c (.v (.int k (k.wrap (0-n))))
 |_=>False)∧K (s.put d av)
theorem jyJ (op:UnOp) (x:X):qC P β ⟨d,g,.un op x⟩ s K=unK d s K op (s.ev x):=jlK rfl fun _ _ _ _=>Iff.rfl
theorem jwj (b:Bool):unK d s K .not (.c (.v (.bool b)))=K (s.put d (.c (.v (.bool (!b))))):=by simp [unK]
def cvK (d:Option Nat) (s:St) (K:St→Prop) (c:Cv) (x:AV):Prop:=∃av,(match c with
 |.num k=>∃k' n,x=.c (.v (.int k' n))∧av=.c (.v (.int k (k.wrap n)))
 |.text=>∃(a:A0) (ty:Nat) (bs:List UInt8),x=.c a∧Is s a (.sl 1 ty (bs.map kj))∧av=.c (.v (.string ⟨bs.toArray⟩))
 |.bytes=>False)∧K (s.put d av)
theorem jyQ (c:Cv) (e:Nat) (x:X):qC P β ⟨d,g,.cv c e x⟩ s K=cvK d s K c (s.ev x):=jlK rfl fun _ _ _ _=>Iff.rfl
theorem jxW (k k':IntKind) (n:Int):cvK d s K (.num k) (.c (.v (.int k' n)))=K (s.put d (.c (.v (.int k (k.wrap n))))):=by
 apply propext
 constructor
 ·rintro ⟨_,⟨_,_,h1,rfl⟩,h⟩;cases h1;exact h
 ·intro h;exact ⟨_,⟨_,_,rfl,rfl⟩,h⟩
def extK (d:Option Nat) (s:St) (K:St→Prop) (x:AV) (i:Nat):Prop:=∃av,(∃l b az,x=.tup l∧l[i]?=some (b,az)∧(if b then av=.agg az else∃a,az=[a]∧av=.c a))∧K (s.put d av)
theorem jwK (x:X) (i:Nat):qC P β ⟨d,g,.ext x i⟩ s K=extK d s K (s.ev x) i:=jlK rfl fun _ _ av os=>by
 simp only [Gen];constructor
 ·rintro ⟨l,b,az,h1,h2,h3,h4⟩;exact ⟨⟨l,b,az,h1,h2,h3⟩,h4⟩
 ·rintro ⟨⟨l,b,az,h1,h2,h3⟩,h4⟩;exact ⟨l,b,az,h1,h2,h3,h4⟩
def jz7 (l:Option (Bool×List A0)) (k:AV→Prop):Prop:=match l with
 |some (true,az)=>k (.agg az)
 |some (false,[a])=>k (.c a)
 |_=>False
theorem extK_ (l:List (Bool×List A0)) (i:Nat):extK d s K (.tup l) i=jz7 l[i]? fun v=>K (s.put d v):=by
 apply propext
 unfold extK jz7;constructor
 ·rintro ⟨av,⟨l',b,az,h1,h2,h3⟩,h4⟩
  cases h1;rw [h2];cases b
  ·obtain ⟨a,rfl,rfl⟩:∃a,az=[a]∧av=.c a:=by simpa using h3
   exact h4
  ·obtain rfl:av=.agg az:=by simpa using h3
   exact h4
 ·split
  ·intro h;exact ⟨_,⟨_,_,_,rfl,by assumption,by simp⟩,h⟩
  ·intro h;exact ⟨_,⟨_,_,_,rfl,by assumption,by simp⟩,h⟩
  ·exact False.elim
theorem jzI (az:List A0) (k:AV→Prop):jz7 (some (true,az)) k=k (.agg az):=(rfl)
theorem jzJ (a:A0) (k:AV→Prop):jz7 (some (false,[a])) k=k (.c a):=(rfl)
def jyD (d:Option Nat) (s:St) (K:St→Prop) (x i:AV):Prop:=∃av,(∃b k n u,x=.c (.v (.string b))∧i=.c (.v (.int k n))∧0≤n∧b[n.toNat]?=some u∧av=.c (.v (.int .u8 u.toNat)))∧K (s.put d av)
theorem jua (x i:X):qC P β ⟨d,g,.sidx x i⟩ s K=jyD d s K (s.ev x) (s.ev i):=jlK rfl fun _ _ av os=>by
 simp only [Gen];constructor
 ·rintro ⟨b,k,n,u,h1,h2,h3,h4,h5,h6⟩;exact ⟨⟨b,k,n,u,h1,h2,h3,h4,h5⟩,h6⟩
 ·rintro ⟨⟨b,k,n,u,h1,h2,h3,h4,h5⟩,h6⟩;exact ⟨b,k,n,u,h1,h2,h3,h4,h5,h6⟩
theorem jyC (b:ByteArray) (k:IntKind) (n:Int):jyD d s K (.c (.v (.string b))) (.c (.v (.int k n)))=(0≤n∧∃u,b[n.toNat]?=some u∧K (s.put d (.c (.v (.int .u8 u.toNat))))):=by
 apply propext
 constructor
 ·rintro ⟨_,⟨_,_,_,u,h1,h2,h3,h4,rfl⟩,h5⟩;cases h1;cases h2;exact ⟨h3,u,h4,h5⟩
 ·rintro ⟨h3,u,h4,h5⟩;exact ⟨_,⟨_,_,_,u,rfl,rfl,h3,h4,rfl⟩,h5⟩
theorem jb {f:Nat} {args:List X} {vs:List View} {rt:RT} (hp:kl P f vs rt) (ha:zn s (args.map s.ev) vs) (hk:∀η:Nat→jm,K ((s.addO (jkI (100*(β+d.getD 0)) η 0 rt.flat)).put d (rt.av (100*(β+d.getD 0)) η))):
 qC P β ⟨d,g,.call f args⟩ s K:=Or.inl ⟨rt,fun st=>⟨_,_,⟨vs,ha,hp,rfl,rfl⟩,hk st.η⟩⟩
theorem qU {f:Nat} {args:List X} (h:Inl P f (args.map s.ev) s.o fun av o'=>K (St.put ⟨s.t,o'⟩ d av)):qC P β ⟨d,g,.call f args⟩ s K:=Or.inr (Or.inr h)
def boxK (β:Nat) (d:Option Nat) (s:St) (K:St→Prop) (ty n:Nat) (x:AV):Prop:=∃l,x.cells=some l∧l.length=n∧kM s l fun cs s'=>∀b,K ((s'.addO [(100*(β+d.getD 0),.box b ty cs)]).put d (.c (.bp (100*(β+d.getD 0)) 0 b)))
theorem jwM (ty n:Nat) (x:X):qC P β ⟨d,g,.box ty n x⟩ s K=boxK β d s K ty n (s.ev x):=(rfl)
theorem jvj (ty n:Nat) (l:List A0):boxK β d s K ty n (.agg l)=(l.length=n∧kM s l fun cs s'=>∀b,K ((s'.addO [(100*(β+d.getD 0),.box b ty cs)]).put d (.c (.bp (100*(β+d.getD 0)) 0 b)))):=by simp [boxK,AV.cells]
theorem jnA (K:List Cell→St→Prop):kM s [] K=K [] s:=(rfl)
theorem jyl (x:Value) (l:List A0) (K:List Cell→St→Prop):kM s (.v x::l) K=(x.oneCell'=true∧kM s l (fun cs s'=>K (.a (.v x)::cs) s')):=(rfl)
theorem jwl (x:D) (l:List A0) (K:List Cell→St→Prop):kM s (.ro x::l) K=kM s l (fun cs s'=>K (.a (.ro x)::cs) s'):=by simp [kM,A0.one]
theorem one_i (k:IntKind) (n:Int):(Value.int k n).oneCell'=true:=(rfl)
theorem one_b (b:Bool):(Value.bool b).oneCell'=true:=(rfl)
theorem one_s (b:ByteArray):(Value.string b).oneCell'=true:=(rfl)
theorem one_n (a:Option Addr) (n c:Nat):(Value.slice a n c).oneCell'=true:=(rfl)
theorem jym (k c:Nat) (x:Value) (l:List A0) (K:List Cell→St→Prop):kM s (.h k c [] x::l) K=∃d η,(s.o k).own c=some (d,η)∧η []=x∧kM (s.rm k c) l (fun cs s'=>K (.own d η::cs) s'):=by simp [kM]
end
section
variable {P:Program} {β:Nat} {s:St} {K:St→Prop} {d:Option Nat} {l:List (Nat×List Lk)}
theorem jwS:vc P β .done l s K=K s:=(rfl)
theorem jwQ:vc P β .stop l s K=True:=(rfl)
theorem jwR (p:Nat) (i:I) (t:T):vc P β (.pure p ⟨d,none,i⟩ t) l s K=qC P β ⟨d,none,i⟩ s fun s'=>vc P β t ((p,i.looks s)::l) s' K:=(rfl)
theorem jyR {n:Nat} (p:Nat) (i:I) (t:T) (h:s.t n=.c (.v (.bool true))):vc P β (.pure p ⟨d,some (n,true),i⟩ t) l s K=qC P β ⟨d,some (n,true),i⟩ s fun s'=>vc P β t ((p,i.looks s)::l) s' K:=by simp [vc,qN,h]
theorem jyS {n:Nat} (p:Nat) (i:I) (t:T) (h:s.t n=.c (.v (.bool false))):vc P β (.pure p ⟨d,some (n,true),i⟩ t) l s K=vc P β t l (s.put d (.c (.v undef))) K:=by simp [vc,qN,h]
theorem jyT {n:Nat} (p:Nat) (i:I) (t:T) (h:s.t n=.c (.v (.bool true))):vc P β (.pure p ⟨d,some (n,false),i⟩ t) l s K=vc P β t l (s.put d (.c (.v undef))) K:=by simp [vc,qN,h]
theorem jyU {n:Nat} (p:Nat) (i:I) (t:T) (h:s.t n=.c (.v (.bool false))):vc P β (.pure p ⟨d,some (n,false),i⟩ t) l s K=qC P β ⟨d,some (n,false),i⟩ s fun s'=>vc P β t ((p,i.looks s)::l) s' K:=by simp [vc,qN,h]
theorem jyV (i:I) (chk:List Nat) (t r:T):vc P β (.alt ⟨d,none,i⟩ chk t r) l s K=(qC P β ⟨d,none,i⟩ s (fun s'=>jkf s s' chk l∧vc P β t l s' K)∧vc P β r l s K):=(rfl)
theorem jy3 {n:Nat} (i:I) (chk:List Nat) (t r:T) (h:s.t n=.c (.v (.bool true))):vc P β (.alt ⟨d,some (n,true),i⟩ chk t r) l s K=(qC P β ⟨d,some (n,true),i⟩ s (fun s'=>jkf s s' chk l∧vc P β t l s' K)∧vc P β r l s K):=by simp [vc,qN,h]
theorem jy4 {n:Nat} (i:I) (chk:List Nat) (t r:T) (h:s.t n=.c (.v (.bool false))):vc P β (.alt ⟨d,some (n,true),i⟩ chk t r) l s K=(vc P β t l (s.put d (.c (.v undef))) K∧vc P β r l s K):=by simp [vc,qN,h]
theorem jy5 {n:Nat} (i:I) (chk:List Nat) (t r:T) (h:s.t n=.c (.v (.bool true))):vc P β (.alt ⟨d,some (n,false),i⟩ chk t r) l s K=(vc P β t l (s.put d (.c (.v undef))) K∧vc P β r l s K):=by simp [vc,qN,h]
theorem jy6 {n:Nat} (i:I) (chk:List Nat) (t r:T) (h:s.t n=.c (.v (.bool false))):vc P β (.alt ⟨d,some (n,false),i⟩ chk t r) l s K=(qC P β ⟨d,some (n,false),i⟩ s (fun s'=>jkf s s' chk l∧vc P β t l s' K)∧vc P β r l s K):=by simp [vc,qN,h]
theorem jwe (t:T) (Q:Ex→St→Prop):wpC P β (.dreg t) Q s=vc P β t [] s (Q .normal):=(rfl)
theorem jsg (s':St) (chk:List Nat):jkf s s' chk []=True:=(rfl)
theorem jpT (s':St) (chk:List Nat) (p:Nat) (ids:List Lk) (l:List (Nat×List Lk)):jkf s s' chk ((p,ids)::l)=((if chk.contains p then jm6 s s' ids else True)∧jkf s s' chk l):=(rfl)
theorem jsh (s':St):jm6 s s' []=True:=(rfl)
theorem jpU (s':St) (k:Lk) (l:List Lk):jm6 s s' (k::l)=(jof s s' k∧jm6 s s' l):=(rfl)
theorem jxw (s':St) (g:Nat):jof s s' (.ob g)=(s'.o g=s.o g):=(rfl)
theorem jxx (s':St) (g c n:Nat):jof s s' (.cs g c n)=jrc g c n (s'.o g) (s.o g):=(rfl)
theorem jwA (g c n:Nat) (ob:Ob):jrc g c n ob ob=True:=eq_true (jg6 g c n ob)
end
section
variable {α:Type} {enc:α→List D} {size:Nat}
theorem vx (hl:∀x,(enc x).length=size) (hs:0<size) (ty:TypeId) (xs:List α):D.len (.sl size ty (xs.flatMap enc))=xs.length:=by
 simp only [D.len,D.cells,D.size];rw [jG hl,Nat.mul_div_cancel _ hs]
theorem qz (hl:∀x,(enc x).length=size) {ty:TypeId} {xs:List α} {k:Nat} {x:α} (hx:xs[k]?=some x):D.elem (.sl size ty (xs.flatMap enc)) k=enc x:=by
 have hk:k<xs.length:=(List.getElem?_eq_some_iff.1 hx).1;have hx':xs[k]=x:=by rw [List.getElem?_eq_getElem hk] at hx;exact Option.some.inj hx
 simp only [D.elem,D.cells,D.size];have e:xs=xs.take k++(x::xs.drop (k+1)):=by rw [←hx'];simp
 have e2:xs.flatMap enc=(xs.take k).flatMap enc++(enc x++(xs.drop (k+1)).flatMap enc):=by
  conv=>lhs;rw [e]
  simp
 have e3:((xs.take k).flatMap enc).length=k*size:=by rw [jG hl,List.length_take,Nat.min_eq_left (by omega)]
 rw [e2,←e3,List.drop_left,←hl x,List.take_left]
end
theorem zU (l:List Rn):(jN l).len=l.length:=vx (enc:=jd) (fun _=>rfl) (by decide) _ _
theorem kr {l:List Rn} {k:Nat} {x:Rn} (h:l[k]?=some x):(jN l).elem k=jd x:=qz (enc:=jd) (fun _=>rfl) h
theorem jhw (l:List (List En)):(kL l).len=l.length:=vx (enc:=fun es=>[jv es]) (fun _=>rfl) (by decide) _ _
theorem vm {l:List (List En)} {k:Nat} {x:List En} (h:l[k]?=some x):(kL l).elem k=[jv x]:=qz (enc:=fun es=>[jv es]) (fun _=>rfl) h
theorem jpQ (l:List En):(jv l).len=l.length:=vx (enc:=jy) (fun _=>rfl) (by decide) _ _
theorem ke {l:List En} {k:Nat} {x:En} (h:l[k]?=some x):(jv l).elem k=jy x:=qz (enc:=jy) (fun _=>rfl) h
theorem jpO (l:List Tk):(jI l).len=l.length:=vx (enc:=ju) (fun _=>rfl) (by decide) _ _
theorem kb {l:List Tk} {k:Nat} {x:Tk} (h:l[k]?=some x):(jI l).elem k=ju x:=qz (enc:=ju) (fun _=>rfl) h
theorem jqX (l:List Rn):(jN l).isSl=true:=(rfl)
theorem jt1 (l:List (List En)):(kL l).isSl=true:=(rfl)
theorem jq0 (l:List En):(jv l).isSl=true:=(rfl)
theorem jqW (l:List Tk):(jI l).isSl=true:=(rfl)
theorem jqL (l:List Rn):(jN l).size=8:=(rfl)
theorem jtS (l:List (List En)):(kL l).size=1:=(rfl)
theorem jqO (l:List En):(jv l).size=4:=(rfl)
theorem jqK (l:List Tk):(jI l).size=4:=(rfl)
theorem jrk (l:List Rn):(jN l).toRo=.ro (jN l):=(rfl)
theorem jue (l:List (List En)):(kL l).toRo=.ro (kL l):=(rfl)
theorem jrm (l:List En):(jv l).toRo=.ro (jv l):=(rfl)
theorem jrj (l:List Tk):(jI l).toRo=.ro (jI l):=(rfl)
theorem jrn (l:List Ed):(jt l).toRo=.ro (jt l):=(rfl)
theorem jyW (v:Value):(D.val v).toRo=.v v:=(rfl)
theorem jzw (vs:List View) (n:Nat):(St.init vs).t n=((vs.map View.av)[n]?).getD .unk:=(rfl)
end Go.Proofs.Ytmnpailnelmpiaa
