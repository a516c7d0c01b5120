/- Parts. -/
import Derived.Test.YtcehjhiglmifjaaGreatQBase2
set_option linter.all false
namespace Go.Proofs.YtcehjhiglmifjaaGreat
open Go.RowKit Go.Sort
def jb9:Value->Nat->Addr
 |.slice (some a) _ _,k=>⟨a.block,a.off+k,none⟩
 |_,k=>⟨0,k,none⟩
def jjb (x:Value) (size lo n:Nat):Value:=match x with
 |.slice A _ c=>.slice (if c=lo then A else A.map (·.add (lo*size))) n (c-lo)
 |_=>undef
def A0Rel (B:Nat) (w:World):A0->Value->Prop
 |.v x,u=>u=x
 |.ro d,u=>d.isSl=true/\∃S,Rep w false d u S/\∀b∈S,b<B
 |.rp ds,u=>∃b o us S,u=.pointer (some ⟨b,o,none⟩)/\RepL w false ds us S/\(∀x∈S,x<B)/\(ds≠ []->b<B)/\∀j x,us[j]?=some x->w.cell? ⟨b,o+j,none⟩=some x
 |.h _ _ _ x,u=>u=x/\x.oneCell'=true
 |.bp _ c b,u=>u=.pointer (some ⟨b,c,none⟩)
 |.ep _ _ _ i x,u=>u=.pointer (some (jb9 x i))
 |.un,u=>u.oneCell'=true
 |.hs _ _ _ x size lo n,u=>(u=jjb x size lo n\/0<lo/\n=0/\∃A,u=.slice A 0 0)/\u.oneCell'=true
def A0RelL (B:Nat) (w:World):List A0->List Value->Prop
 |[],us=>us=[]
 |a::l,us=>∃u us',us=u::us'/\A0Rel B w a u/\A0RelL B w l us'
def TRelL (B:Nat) (w:World):List (Bool×List A0)->List Value->Prop
 |[],us=>us=[]
 |(b,az)::l,us=>∃u us' xs,us=u::us'/\A0RelL B w az xs/\(if b then u=.agg xs.toArray else xs=[u])/\TRelL B w l us'
def VRel (B:Nat) (w:World):AV->Value->Prop
 |.c a,u=>A0Rel B w a u
 |.agg l,u=>∃us:List Value,u=.agg us.toArray/\A0RelL B w l us
 |.fn f caps,u=>∃us:List Value,u=.func (.func f) #[] us.toArray/\A0RelL B w caps us
 |.tup l,u=>∃us:List Value,u=.tuple us.toArray/\TRelL B w l us
 |.unk,_=>True
def hdr (w:World):List Nat->D->Value->Value
 |[],.sl _ _ _,u=>u
 |i::p,.sl _ _ cs,.slice (some a) _ _=>match cs[i]? with
  |some d=>hdr w p d ((w.cell? ⟨a.block,a.off+i,none⟩).getD undef)
  |none=>undef
 |_,_,_=>undef
def CRel (B:Nat) (w:World):List Cell->List Value->List Nat->Prop
 |[],us,S=>us=[]/\S=[]
 |.a x::l,us,S=>∃u us',us=u::us'/\A0Rel B w x u/\CRel B w l us' S
 |.own d η::l,us,S=>∃u us' S1 S2,us=u::us'/\S=S1++S2/\d.isSl=true/\Rep w true d u S1/\(∀p,η p=hdr w p d u)/\CRel B w l us' S2
def ORel (B:Nat) (w:World):Ob->List Nat->Prop
 |.none,S=>S=[]
 |.loose d η,S=>d.isSl=true/\∃u,Rep w true d u S/\∀p,η p=hdr w p d u
 |.box b ty cs,S=>∃us S1,w.heap[b]?=some (.cells us.toArray ty (0,0))/\CRel B w cs us S1/\S=b::S1
structure RelF (B:Nat) (w0:World) (N:Nat) (s:St) (a:Act) (w:World) (F:Nat->List Nat):Prop where
 below:Below B w0 w
 hB:B<=w0.heap.size
 df:a.defers=[]
 sz:a.tmps.size=N
 sl:∀n,VRel B w (s.t n) (a.tmps.getD n undef)
 ob:∀g,ORel B w (s.o g) (F g)
 fr:∀g,Fresh B (F g)
 dj:∀g g',g≠g'->∀b∈F g,b∉F g'
section
variable {B:Nat} {w w' w0:World}
theorem zq {own:Bool} {size:Nat} {ty:TypeId} {cs:List D} {v:Value} {S:List Nat} (h:Rep w own (.sl size ty cs) v S):∃A n c,v=.slice A n c:=by
 obtain ⟨vs,T,S',hr,_,_⟩:=h;obtain ⟨_,A,n,c,rfl,_⟩:=hr.ro;exact ⟨A,n,c,rfl⟩
theorem A0Rel.mono (hb:Below B w w'):∀{a:A0} {u:Value},A0Rel B w a u->A0Rel B w' a u
 |.v _,_,h=>h
 |.ro _,_,⟨h1,S,h2,h3⟩=>⟨h1,S,Rep.keep _ h2 λb hs=>hb.block b (h3 b hs),h3⟩
 |.rp ds,_,⟨b,o,us,S,h1,h2,h3,h4,h5⟩=>⟨b,o,us,S,h1,RepL.keep _ h2 λb hs=>hb.block b (h3 b hs),h3,h4,λj x hx=>by
  have aR:ds≠ []:=λe=>by subst e;obtain ⟨rfl,_⟩:=h2;simp at hx
  rw [hb.cell (p:=⟨b,o+j,none⟩) (h4 aR)];exact h5 j x hx⟩
 |.h _ _ _ _,_,h=>h
 |.bp _ _ _,_,h=>h
 |.ep _ _ _ _ _,_,h=>h
 |.un,_,h=>h
 |.hs _ _ _ _ _ _ _,_,h=>h
theorem A0RelL.mono (hb:Below B w w'):∀{l:List A0} {us:List Value},A0RelL B w l us->A0RelL B w' l us
 |[],_,h=>h
 |_::_,_,⟨u,us',h1,h2,h3⟩=>⟨u,us',h1,h2.mono hb,A0RelL.mono hb h3⟩
theorem TRelL.mono (hb:Below B w w'):∀{l:List (Bool×List A0)} {us:List Value},TRelL B w l us->TRelL B w' l us
 |[],_,h=>h
 |(_,_)::_,_,⟨u,us',xs,h1,h2,h3,h4⟩=>⟨u,us',xs,h1,h2.mono hb,h3,TRelL.mono hb h4⟩
theorem VRel.mono (hb:Below B w w'):∀{v:AV} {u:Value},VRel B w v u->VRel B w' v u
 |.c _,_,h=>A0Rel.mono hb h
 |.agg _,_,⟨us,h1,h2⟩=>⟨us,h1,h2.mono hb⟩
 |.fn _ _,_,⟨us,h1,h2⟩=>⟨us,h1,h2.mono hb⟩
 |.tup _,_,⟨us,h1,h2⟩=>⟨us,h1,h2.mono hb⟩
 |.unk,_,h=>h
theorem A0Rel.one:∀{a:A0} {u:Value},A0Rel B w a u->a.one=true->u.oneCell'=true
 |.v _,_,h,h'=>by rw [show _=_ from h];exact h'
 |.ro d,u,⟨h1,S,h2,_⟩,_=>by
  cases d with
  |val _=>cases h1
  |sl size ty cs=>obtain ⟨A,n,c,rfl⟩:=zq h2;rfl
 |.rp _,_,⟨_,_,_,_,h,_⟩,_=>by rw [h];rfl
 |.h _ _ _ _,_,⟨h,h'⟩,_=>by rw [h];exact h'
 |.bp _ _ _,_,h,_=>by rw [show _=_ from h];rfl
 |.ep _ _ _ _ _,_,h,_=>by rw [show _=_ from h];rfl
 |.un,_,h,_=>h
 |.hs _ _ _ _ _ _ _,_,⟨_,h⟩,_=>h
theorem A0Rel.c1:∀{a:A0} {u:Value},A0Rel B w a u->a.c1=true->u.oneCell'=true
 |.v _,_,h,h'=>by rw [show _=_ from h];exact h'
 |.ro _,_,h,_=>h.one rfl
 |.rp _,_,h,_=>h.one rfl
 |.h _ _ _ _,_,⟨h,h'⟩,_=>by rw [h];exact h'
 |.bp _ _ _,_,h,_=>h.one rfl
 |.ep _ _ _ _ _,_,h,_=>h.one rfl
 |.un,_,h,_=>h
 |.hs _ _ _ _ _ _ _,_,⟨_,h⟩,_=>h
theorem jva {u:Value} (h:u.oneCell'=true):u.cells=#[u]:=by cases u<;>first|rfl|cases h
theorem VRel.cells:∀{v:AV} {u:Value} {l:List A0},VRel B w v u->v.cells=some l->∃us:List Value,u.cells=us.toArray/\A0RelL B w l us
 |.c a,u,l,h,hl=>by
  simp only [AV.cells] at hl;split at hl
  ·simp at hl;subst hl
   exact ⟨[u],jva (A0Rel.c1 h (by assumption)),u,[],rfl,h,rfl⟩
  ·simp at hl
 |.agg l',_,l,⟨us,h1,h2⟩,hl=>by
  simp [AV.cells] at hl;subst hl;exact ⟨us,by rw [h1];rfl,h2⟩
 |.fn _ _,_,_,_,hl=>by simp [AV.cells] at hl
 |.tup _,_,_,_,hl=>by simp [AV.cells] at hl
 |.unk,_,_,_,hl=>by simp [AV.cells] at hl
theorem A0RelL.len:∀{l:List A0} {us:List Value},A0RelL B w l us->us.length=l.length
 |[],_,h=>by rw [show _=_ from h];rfl
 |_::_,_,⟨_,_,h1,_,h3⟩=>by subst h1;simp [A0RelL.len h3]
theorem RepL.nth {own:Bool}:∀{cs:List D} {vs:List Value} {S:List Nat} {i:Nat} {d:D},RepL w own cs vs S->cs[i]?=some d->∃v S1,vs[i]?=some v/\Rep w own d v S1/\∀s∈S1,s∈S
 |[],_,_,_,_,_,h=>by simp at h
 |_::_,_,_,0,_,⟨v,vs',S1,S2,h1,h2,h3,h4⟩,h=>by
  simp at h;subst h;exact ⟨v,S1,by rw [h1];rfl,h3,λs hs=>by rw [h2];simp [hs]⟩
 |_::cs,_,_,i+1,_,⟨v,vs',S1,S2,h1,h2,h3,h4⟩,h=>by
  simp at h;obtain ⟨v',S',h5,h6,h7⟩:=RepL.nth h4 h;exact ⟨v',S',by rw [h1];simpa using h5,h6,λs hs=>by rw [h2];simp [h7 s hs]⟩
theorem qJ {size:Nat} {ty:TypeId} {vs:List Value} {u:Value} {T:List Nat} (h:RowAt w true size ty vs u T):(u=.slice none 0 0/\vs=[])\/∃g n c,u=.slice (some ⟨g,0,none⟩) n c/\T=[g]/\vs.length=n*size/\(∀j v,vs[j]?=some v->w.cell? ⟨g,j,none⟩=some v)/\∀j,w.frozen? ⟨g,j,none⟩=false:=by
 obtain ⟨n,h,rfl⟩:=h;have h1:=h.1;rcases h.2 with ⟨rfl,h0⟩|⟨g,cap,cur,rfl,hb,hg,hr⟩
 ·subst h0;exact .inl ⟨rfl,aNF (by simpa using h1)⟩
 ·refine .inr ⟨g,n,cap,rfl,rfl,h1,λj v hv=>?_,h.frozenAt⟩
  have:=h.cells (g:=g) rfl j v hv;have e:(⟨g,0,none⟩:Addr).add j=⟨g,j,none⟩:=by unfold Addr.add;split<;>simp_all
  rwa [e] at this
theorem jdS:∀(p:List Nat) {d:D} {u:Value} {S:List Nat},Rep w true d u S->(∀b∈S,w'.heap[b]?=w.heap[b]?)->hdr w' p d u=hdr w p d u
 |[],.sl _ _ _,_,_,_,_=>rfl
 |[],.val _,_,_,_,_=>rfl
 |i::p,.val _,_,_,_,_=>rfl
 |i::p,.sl size ty cs,u,S,⟨vs,T,S',h1,h2,h3⟩,hk=>by
  rcases qJ h1 with ⟨rfl,_⟩|⟨g,n,c,rfl,rfl,h4,h5,_⟩
  ·rfl
  ·simp only [hdr]
   cases hc:cs[i]? with
   |none=>rfl
   |some d=>
    obtain ⟨v,S1,h6,h7,h8⟩:=RepL.nth h2 hc;have e1:w.cell? ⟨g,0+i,none⟩=some v:=by rw [aOK];exact h5 i v h6
    have e2:w'.cell? ⟨g,0+i,none⟩=some v:=by
     rw [World.cell?_of_block (w:=w) (a:=⟨g,0+i,none⟩) (hk g (by rw [h3];simp))];exact e1
    simp only [e1,e2,aMM];exact jdS p h7 λb hb=>hk b (by rw [h3];simp [h8 b hb])
theorem juS:∀(p:List Nat) {d d':D} {u:Value} {S:List Nat},Rep w true d u S->D.get p d=some d'->d'.isSl=true->∃S',Rep w true d' (hdr w p d u) S'/\∀s∈S',s∈S
 |[],.sl _ _ _,_,_,S,h,hg,_=>by simp [D.get] at hg;subst hg;exact ⟨S,h,λ_ h=>h⟩
 |[],.val _,_,_,_,_,hg,hs=>by simp [D.get] at hg;subst hg;cases hs
 |i::p,.val _,_,_,_,_,hg,_=>by simp [D.get] at hg
 |i::p,.sl size ty cs,d',u,S,⟨vs,T,S',h1,h2,h3⟩,hg,hs=>by
  simp only [D.get] at hg;cases hc:cs[i]? with
  |none=>rw [hc] at hg;simp at hg
  |some d=>
   rw [hc] at hg;obtain ⟨v,S1,h6,h7,h8⟩:=RepL.nth h2 hc;rcases qJ h1 with ⟨rfl,rfl⟩|⟨g,n,c,rfl,rfl,h4,h5,_⟩
   ·simp at h6
   ·simp only [hdr,hc,aOK,h5 i v h6,aMM]
    obtain ⟨S2,h9,hU⟩:=juS p h7 hg hs;exact ⟨S2,h9,λs hs=>by rw [h3];simp [h8 s (hU s hs)]⟩
theorem jao {d:D} {u:Value} (h:d.isSl=true):hdr w [] d u=u:=by cases d<;>first|rfl|cases h
theorem CRel.keep (hb:Below B w w'):∀{cs:List Cell} {us:List Value} {S:List Nat},CRel B w cs us S->(∀b∈S,w'.heap[b]?=w.heap[b]?)->CRel B w' cs us S
 |[],_,_,h,_=>h
 |.a _::_,_,_,⟨u,us',h1,h2,h3⟩,hk=>⟨u,us',h1,h2.mono hb,CRel.keep hb h3 hk⟩
 |.own _ _::_,_,_,⟨u,us',S1,S2,h1,h2,h3,h4,h5,h6⟩,hk=>⟨u,us',S1,S2,h1,h2,h3,Rep.keep _ h4 λb hs=>hk b (by rw [h2];simp [hs]),
  λp=>by rw [jdS p h4 λb hs=>hk b (by rw [h2];simp [hs])];exact h5 p,CRel.keep hb h6 λb hs=>hk b (by rw [h2];simp [hs])⟩
theorem CRel.lt:∀{cs:List Cell} {us:List Value} {S:List Nat},CRel B w cs us S->∀b∈S,b<w.heap.size
 |[],_,_,⟨_,h⟩,b,hb=>by rw [h] at hb;simp at hb
 |.a _::_,_,_,⟨_,_,_,_,h⟩,b,hb=>CRel.lt h b hb
 |.own _ _::_,_,_,⟨u,us',S1,S2,_,h2,_,h4,_,h6⟩,b,hb=>by
  rw [h2] at hb;rcases aMN.1 hb with hb|hb
  ·exact Rep.lt _ h4 b hb
  ·exact CRel.lt h6 b hb
theorem CRel.len:∀{cs:List Cell} {us:List Value} {S:List Nat},CRel B w cs us S->us.length=cs.length
 |[],_,_,⟨h,_⟩=>by rw [h];rfl
 |.a _::_,_,_,⟨_,_,h1,_,h3⟩=>by subst h1;simp [CRel.len h3]
 |.own _ _::_,_,_,⟨_,_,_,_,h1,_,_,_,_,h6⟩=>by subst h1;simp [CRel.len h6]
theorem ORel.keep (hb:Below B w w'):∀{ob:Ob} {S:List Nat},ORel B w ob S->(∀b∈S,w'.heap[b]?=w.heap[b]?)->ORel B w' ob S
 |.none,_,h,_=>h
 |.loose _ _,_,⟨h0,u,h1,h2⟩,hk=>⟨h0,u,Rep.keep _ h1 hk,λp=>by rw [jdS p h1 hk];exact h2 p⟩
 |.box b _ _,_,⟨us,S1,h1,h2,h3⟩,hk=>⟨us,S1,(hk b (by rw [h3];simp)).trans h1,h2.keep hb λx hx=>hk x (by rw [h3];simp [hx]),h3⟩
theorem ORel.lt:∀{ob:Ob} {S:List Nat},ORel B w ob S->∀b∈S,b<w.heap.size
 |.none,_,h,b,hb=>by rw [show _=_ from h] at hb;simp at hb
 |.loose _ _,_,⟨_,u,h1,_⟩,b,hb=>Rep.lt _ h1 b hb
 |.box b' _ _,_,⟨us,S1,h1,h2,h3⟩,b,hb=>by
  rw [h3] at hb;rcases aNB.1 hb with rfl|hb
  ·exact jbK h1
  ·exact h2.lt b hb
theorem ORel.own:∀{ob:Ob} {S:List Nat} {c:Nat} {d:D} {η:jm},ORel B w ob S->ob.own c=some (d,η)->∃u S',d.isSl=true/\Rep w true d u S'/\(∀p,η p=hdr w p d u)/\∀s∈S',s∈S
 |.none,_,_,_,_,_,h=>by simp [Ob.own] at h
 |.loose d' aH,S,0,d,η,⟨h0,u,h1,h2⟩,h=>by simp [Ob.own] at h;obtain ⟨rfl,rfl⟩:=h;exact ⟨u,S,h0,h1,h2,λ_ h=>h⟩
 |.loose _ _,_,c+1,_,_,_,h=>by simp [Ob.own] at h
 |.box b ty cs,S,c,d,η,⟨us,S1,h1,h2,h3⟩,h=>by
  have:∀{cs:List Cell} {us:List Value} {S1:List Nat} {c:Nat},CRel B w cs us S1->cs[c]?=some (.own d η)->∃u S',d.isSl=true/\Rep w true d u S'/\(∀p,η p=hdr w p d u)/\∀s∈S',s∈S1:=by
   intro cs
   induction cs with
   |nil=>intro _ _ _ _ h;simp at h
   |cons x l ih=>
    intro us S1 c hr hc;cases x with
    |a x=>
     obtain ⟨u,us',rfl,_,h5⟩:=hr;cases c with
     |zero=>simp at hc
     |succ c=>exact ih h5 (by simpa using hc)
    |own d' aH=>
     obtain ⟨u,us',S2,S3,rfl,rfl,k0,k1,k2,k3⟩:=hr;cases c with
     |zero=>simp at hc;obtain ⟨rfl,rfl⟩:=hc;exact ⟨u,S2,k0,k1,k2,λs hs=>by simp [hs]⟩
     |succ c=>
      obtain ⟨u',S',k4,k5,k6,k7⟩:=ih k3 (by simpa using hc)
      exact ⟨u',S',k4,k5,k6,λs hs=>by simp [k7 s hs]⟩
  simp only [Ob.own] at h;split at h
  ·rename_i d' aH hc
   simp at h;obtain ⟨rfl,rfl⟩:=h;obtain ⟨u,S',k1,k2,k3,k4⟩:=this h2 hc;exact ⟨u,S',k1,k2,k3,λs hs=>by rw [h3];simp [k4 s hs]⟩
  ·simp at h
variable {N:Nat} {s:St} {a:Act} {F:Nat->List Nat}
theorem RelF.world (h:RelF B w0 N s a w F) (hb:Below w.heap.size w w'):RelF B w0 N s a w' F:=by
 have hB:B<=w.heap.size:=aNX h.hB h.below.size;have bA:=hb.mono hB;exact ⟨h.below.trans bA,h.hB,h.df,h.sz,λn=>(h.sl n).mono bA,λg=>(h.ob g).keep bA λb hs=>hb.block b ((h.ob g).lt b hs),h.fr,h.dj⟩
theorem RelF.put (h:RelF B w0 N s a w F) {v:AV} {u:Value} (hv:VRel B w v u) {d:Option Nat} (hd:∀k,d=some k->k<N):RelF B w0 N (s.put d v) (a.put d u) w F:=by
 cases d with
 |none=>exact h
 |some k=>
  have hk:=hd k rfl;refine ⟨h.below,h.hB,h.df,by simp [Act.put,h.sz],λn=>?_,h.ob,h.fr,h.dj⟩
  simp only [St.put,Act.put];by_cases hn:n=k
  ·subst hn
   rw [if_pos rfl];simp [Array.getD_eq_getD_getElem?,h.sz,hk];exact hv
  ·rw [if_neg hn]
   simp [Array.getD_eq_getD_getElem?,Array.getElem?_setIfInBounds_ne (Ne.symm hn)];simpa [Array.getD_eq_getD_getElem?] using h.sl n
theorem RelF.setO (h:RelF B w0 N s a w F) {g:Nat} {ob:Ob} {S:List Nat} (ho:ORel B w ob S) (hf:Fresh B S) (hd:∀g',g'≠g->∀b∈S,b∉F g'):
 RelF B w0 N (s.setO g ob) a w (λk=>if k=g then S else F k):=by
 refine ⟨h.below,h.hB,h.df,h.sz,h.sl,λk=>?_,λk=>?_,λk k' aR b hb bA=>?_⟩
 ·simp only [St.setO];split
  ·exact ho
  ·exact h.ob k
 ·split
  ·exact hf
  ·exact h.fr k
 ·have aW:b∈(if k=g then S else F k):=hb
  have bM:b∈(if k'=g then S else F k'):=bA
  split at aW<;>split at bM
  ·omega
  ·exact hd k' (by omega) b aW bM
  ·exact hd k (by omega) b bM aW
  ·exact h.dj k k' aR b aW bM
def jcD (B:Nat) (w:World):List (Nat×Ob)->List Nat->Prop
 |[],S=>S=[]
 |(_,ob)::l,S=>∃S1 S2,S=S1++S2/\ORel B w ob S1/\jcD B w l S2
theorem RelF.addO:∀{os:List (Nat×Ob)} {s:St} {S:List Nat} {F:Nat->List Nat},RelF B w0 N s a w F->jcD B w os S->Fresh B S->(∀g,∀b∈S,b∉F g)->∃F',RelF B w0 N (s.addO os) a w F'
 |[],s,S,F,h,_,_,_=>⟨F,h⟩
 |(g,ob)::os,s,S,F,h,⟨S1,S2,hS,ho,hn⟩,hf,hd=>by
  subst hS;have h1:=h.setO (g:=g) ho hf.left λg' _ b hb=>hd g' b (by simp [hb])
  have h2:=RelF.addO h1 hn hf.right (λk b hb=>by
   by_cases hk:k=g
   ·rw [if_pos hk];exact λbA=>hf.apart b bA hb
   ·rw [if_neg hk];exact hd k b (by simp [hb]))
  exact h2
theorem RelF.rm (h:RelF B w0 N s a w F) {g c:Nat} {d:D} {η:jm} (ho:(s.o g).own c=some (d,η)):
 ∃u S F',d.isSl=true/\Rep w true d u S/\(∀p,η p=hdr w p d u)/\Fresh B S/\RelF B w0 N (s.rm g c) a w F'/\(∀g',∀b∈S,b∉F' g')/\(∀b∈S,b∈F g)/\∀g' b,b∈F' g'->b∈F g':=by
 have pL:=h.ob g;have y0:=h.fr g;unfold St.rm;cases bL:s.o g with
 |none=>rw [bL] at ho;simp [Ob.own] at ho
 |loose d' aH=>
  rw [bL] at ho pL;cases c with
  |succ c=>simp [Ob.own] at ho
  |zero=>
   simp [Ob.own] at ho;obtain ⟨rfl,rfl⟩:=ho;obtain ⟨h0,u,h1,h2⟩:=pL;refine ⟨u,F g,_,h0,h1,h2,y0,h.setO (S:=[]) (ob:=(Ob.loose d' aH).rm 0) (by simp [Ob.rm,ORel]) (Fresh.nil _) (by simp),λg' b hb bA=>?_,λ_ h=>h,λg' b hb=>?_⟩
   ·split at bA
    ·simp at bA
    ·exact h.dj g g' (by omega) b hb bA
   ·split at hb
    ·simp at hb
    ·exact hb
 |box b ty cs=>
  rw [bL] at ho pL;obtain ⟨us,S1,h1,h2,h3⟩:=pL
  have key:∀{cs:List Cell} {us:List Value} {S1:List Nat} {c:Nat},CRel B w cs us S1->S1.Nodup->cs[c]?=some (.own d η)->
   ∃u S S',d.isSl=true/\Rep w true d u S/\(∀p,η p=hdr w p d u)/\CRel B w (cs.set c (.a (.v (η [])))) us S'/\(∀x,x∈S1↔x∈S\/x∈S')/\S'.Nodup/\S.Nodup/\∀x∈S,x∉S':=by
   intro cs
   induction cs with
   |nil=>intro _ _ _ _ _ h;simp at h
   |cons x l ih=>
    intro us S1 c hr aX hc;cases x with
    |a x=>
     obtain ⟨u,us',rfl,k1,k2⟩:=hr;cases c with
     |zero=>simp at hc
     |succ c=>
      obtain ⟨u',S,S',j1,j2,j3,j4,j5,j6,j7,j8⟩:=ih k2 aX (by simpa using hc)
      exact ⟨u',S,S',j1,j2,j3,⟨u,us',rfl,k1,j4⟩,j5,j6,j7,j8⟩
    |own d' aH=>
     obtain ⟨u,us',S2,S3,rfl,rfl,k0,k1,k2,k3⟩:=hr;have gI:=aMS.1 aX;cases c with
     |zero=>
      simp at hc;obtain ⟨rfl,rfl⟩:=hc;refine ⟨u,S2,S3,k0,k1,k2,⟨u,us',rfl,?_,k3⟩,λx=>aMN,gI.2.1,gI.1,λx hx bQ=>gI.2.2 x hx x bQ rfl⟩
      show u=aH [];rw [k2,jao k0]
     |succ c=>
      obtain ⟨u',S,S',j1,j2,j3,j4,j5,j6,j7,j8⟩:=ih k3 gI.2.1 (by simpa using hc)
      refine ⟨u',S,S2++S',j1,j2,j3,⟨u,us',S2,S',rfl,rfl,k0,k1,k2,j4⟩,λx=>?_,aMS.2 ⟨gI.1,j6,λa ha b hb e=>gI.2.2 a ha b ((j5 b).2 (.inr hb)) e⟩,j7,λx hx bQ=>?_⟩
      ·rw [aMN,aMN,j5];grind
      ·rcases aMN.1 bQ with bQ|bQ
       ·exact gI.2.2 x bQ x ((j5 x).2 (.inl hx)) rfl
       ·exact j8 x hx bQ
  have hc:cs[c]?=some (.own d η):=by
   simp only [Ob.own] at ho;split at ho
   ·simp at ho;obtain ⟨rfl,rfl⟩:=ho;assumption
   ·simp at ho
  have aX:(b::S1).Nodup:=by rw [<-h3];exact y0.1
  obtain ⟨u,S,S',j1,j2,j3,j4,j5,j6,j7,j8⟩:=key h2 (aOP.1 aX).2 hc;have hS:∀x∈S,x∈F g:=λx hx=>by rw [h3];simp [(j5 x).2 (.inl hx)]
  have uC:∀x∈b::S',x∈F g:=λx hx=>by
   rw [h3];rcases aNB.1 hx with rfl|hx
   ·simp
   ·simp [(j5 x).2 (.inr hx)]
  have rJ:b∉S':=λhb=>(aOP.1 aX).1 ((j5 b).2 (.inr hb))
  have pW:(Ob.box b ty cs).rm c=.box b ty (cs.set c (.a (.v (η [])))):=by simp only [Ob.rm,hc,rmC]
  refine ⟨u,S,_,j1,j2,j3,⟨j7,λx hx=>y0.2 x (hS x hx)⟩,h.setO (S:=b::S') (ob:=(Ob.box b ty cs).rm c) (by rw [pW];exact ⟨us,S',h1,j4,rfl⟩) ⟨aOP.2 ⟨rJ,j6⟩,λx hx=>y0.2 x (uC x hx)⟩ (λg' hg x hx=>h.dj g g' (Ne.symm hg) x (uC x hx)),λg' x hx bQ=>?_,hS,λg' x hx=>?_⟩
  ·split at bQ
   ·rcases aNB.1 bQ with rfl|bQ
    ·exact (aOP.1 aX).1 ((j5 x).2 (.inl hx))
    ·exact j8 x hx bQ
   ·exact h.dj g g' (by omega) x (hS x hx) bQ
  ·split at hx
   ·rename_i e;subst e;exact uC x hx
   ·exact hx
end
def jkM (B:Nat) (w:World):List AV->List Value->Prop
 |[],xs=>xs=[]
 |a::l,xs=>∃x xs',xs=x::xs'/\VRel B w a x/\jkM B w l xs'
abbrev St.only (o:Nat->Ob):St:=⟨λ_=>.unk,o⟩
def Act.bare:Act:={tmps:=#[],defers:=[]}
def Turns (P:Program) (f:FuncId) (args:List AV) (o:Nat->Ob) (R:RT->(Nat->Ob)->Prop):Prop:=
 jpx P f/\∀(B:Nat) (w:World) (F:Nat->List Nat) (xs:List Value),RelF B w 0 (.only o) Act.bare w F->jkM B w args xs->
  Calls P f xs.toArray w λe w'=>∃v rt o' S F',e=.returned v/\RelF B w 0 (.only o') Act.bare w' F'/\jkN w' rt v S/\Fresh B S/\(∀g,∀b∈S,b∉F' g)/\R rt o'
def Inl (P:Program) (f:FuncId) (args:List AV) (o:Nat->Ob) (R:AV->(Nat->Ob)->Prop):Prop:=
 jpx P f/\∀(B:Nat) (w:World) (F:Nat->List Nat) (xs:List Value),RelF B w 0 (.only o) Act.bare w F->jkM B w args xs->
  Calls P f xs.toArray w λe w'=>∃v av o',∃F':Nat->List Nat,e=.returned v/\RelF B w 0 (.only o') Act.bare w' F'/\VRel B w' av v/\R av o'
def D.put:List Nat->Nat->List D->D->D
 |[],i,ds,.sl size ty cs=>.sl size ty (kI cs i ds)
 |k::p,i,ds,.sl size ty cs=>.sl size ty (match cs[k]? with
  |some d=>cs.set k (D.put p i ds d)
  |none=>cs)
 |_,_,_,.val u=>.val u
def jqJ (p:List Nat) (i n:Nat) (q:List Nat):Prop:=∃j r,q=p++j::r/\i<=j/\j<i+n
def stH (flat:Bool) (p:List Nat) (k n:Nat) (η:jm) (K:jm->Prop):Prop:=match flat with
 |true=>K η
 |false=>∀aH,(∀q,¬jqJ p k n q->aH q=η q)->K aH
theorem jqY {flat:Bool} {p:List Nat} {k n:Nat} {η:jm} {K K':jm->Prop} (h:∀aH,K aH->K' aH) (hk:stH flat p k n η K):stH flat p k n η K':=by
 cases flat with
 |true=>exact h _ hk
 |false=>exact λaH hη=>h _ (hk aH hη)
theorem jyB {flat:Bool} {p:List Nat} {k n:Nat} {η aH:jm} {K:jm->Prop} (hk:stH flat p k n η K) (h:∀q,¬jqJ p k n q->aH q=η q) (hf:flat=true->aH=η):K aH:=by
 cases flat with
 |true=>rw [hf rfl];exact hk
 |false=>exact hk aH h
def vv (P:Program) (β:Nat) (i:Ins) (s:St) (K:St->Prop):Prop:=match i.i with
 |.box ty n x=>∃l,(s.ev x).cells=some l/\l.length=n/\qM s l λcs s'=>∀b,K ((s'.addO [(100*(β+i.d.getD 0),.box b ty cs)]).put i.d (.c (.bp (100*(β+i.d.getD 0)) 0 b)))
 |.bsl e size _ ks ps=>∃l,jtB s ps=some l/\qM s l λcs s'=>∃ds,jat ks cs=some ds/\∀η,K ((s'.addO [(100*(β+i.d.getD 0),.loose (.sl size e ds) η)]).put i.d (.c (.h (100*(β+i.d.getD 0)) 0 [] (η []))))
 |.st n ks a x=>i.d=none/\∃l,(s.ev x).cells=some l/\l.length=n/\qM s l λcs s'=>match s.ev a with
  |.c (.bp g c b)=>∃ty ds,s'.o g=.box b ty ds/\c+n<=ds.length/\K (s'.setO g (.box b ty (kI ds c cs)))
  |.c (.ep g c p k hx)=>0<n/\∃ds,jat ks cs=some ds/\∃d0 η dd,(s'.o g).own c=some (d0,η)/\η p=hx/\D.get p d0=some dd/\dd.isSl=true/\k+n<=dd.cells.length/\
   stH (jZ ds&&jZ ((dd.cells.drop k).take n)) p k n η λaH=>K (s'.setO g ((s'.o g).putOwn c (D.put p k ds d0) aH))
  |_=>False
 |.app e size bytes x y=>jwF s size (s.ev y) λys s1=>ji5 s1 e size (s.ev x) λxs s2=>xs.length/size+ys.length/size<=maxLen/\(xs.length/size+ys.length/size)*bytes<=140737488355328/\
  ∀η,K ((s2.addO [(100*(β+i.d.getD 0),.loose (.sl size e (xs++ys)) η)]).put i.d (.c (.h (100*(β+i.d.getD 0)) 0 [] (η []))))
 |.apps e x y=>∃b,s.ev y=.c (.v (.string b))/\ji5 s e 1 (s.ev x) λxs s2=>xs.length+b.size<=140737488355328/\
  ∀η,K ((s2.addO [(100*(β+i.d.getD 0),.loose (.sl 1 e (xs++strCells b)) η)]).put i.d (.c (.h (100*(β+i.d.getD 0)) 0 [] (η []))))
 |.clr size zs x=>i.d=none/\match s.ev x with
  |.c (.v (.slice none 0 0))=>K s
  |.c (.hs g c p hx sz lo n)=>sz=size/\0<n/\∃d0 η dd,(s.o g).own c=some (d0,η)/\η p=hx/\D.get p d0=some dd/\dd.isSl=true/\dd.size=sz/\lo+n<=dd.len/\
   stH (jZ (List.replicate n zs).flatten&&jZ ((dd.cells.drop (lo*sz)).take (n*sz))) p (lo*sz) (n*sz) η λaH=>K (s.setO g ((s.o g).putOwn c (D.put p (lo*sz) (List.replicate n zs).flatten d0) aH))
  |_=>False
 |.call f args=>(∃rt,∀st,∃av os,Gen P s (β+i.d.getD 0) rt st (.call f args) av os/\K ((s.addO os).put i.d av))\/
  (Turns P f (args.map s.ev) s.o λrt o'=>∀η:Nat->jm,K (((⟨s.t,o'⟩:St).addO (jkP (100*(β+i.d.getD 0)) η 0 rt.flat)).put i.d (rt.av (100*(β+i.d.getD 0)) η)))\/
  Inl P f (args.map s.ev) s.o λav o'=>K (St.put ⟨s.t,o'⟩ i.d av)
 |.callv x args=>(∃rt,∀st,∃av os,Gen P s (β+i.d.getD 0) rt st (.callv x args) av os/\K ((s.addO os).put i.d av))\/
  ∃f caps,s.ev x=.fn f caps/\Turns P f (args.map s.ev++caps.map .c) s.o λrt o'=>∀η:Nat->jm,K (((⟨s.t,o'⟩:St).addO (jkP (100*(β+i.d.getD 0)) η 0 rt.flat)).put i.d (rt.av (100*(β+i.d.getD 0)) η))
 |j=>∃rt,∀st,∃av os,Gen P s (β+i.d.getD 0) rt st j av os/\K ((s.addO os).put i.d av)
def zf (s:St):Option (Nat×Bool)->Option Bool
 |none=>some true
 |some (t,want)=>match s.t t with
  |.c (.v (.bool b))=>some (b==want)
  |.c (.v _)=>some false
  |_=>none
def jg5 (P:Program) (β:Nat):List Ins->St->(St->Prop)->Prop
 |[],s,K=>K s
 |i::l,s,K=>match zf s i.g with
  |some true=>vv P β i s λs'=>jg5 P β l s' K
  |some false=>jg5 P β l (s.put i.d (.c (.v undef))) K
  |none=>False
def A0.ids:A0->List Nat
 |.h g _ _ _=>[g]
 |.hs g _ _ _ _ _ _=>[g]
 |.bp g _ _=>[g]
 |.ep g _ _ _ _=>[g]
 |_=>[]
def AV.ids:AV->List Nat
 |.c a=>a.ids
 |.agg l=>l.flatMap A0.ids
 |.fn _ l=>l.flatMap A0.ids
 |_=>[]
inductive Lk where
 |ob (g:Nat)
 |cs (g c n:Nat)
def A0.looks (n:Nat):A0->List Lk
 |.h g _ _ _=>[.ob g]
 |.hs g _ _ _ _ _ _=>[.ob g]
 |.bp g c _=>[.cs g c n]
 |.ep g _ _ _ _=>[.ob g]
 |.v _=>[]
 |.ro _=>[]
 |.rp _=>[]
 |.un=>[]
def AV.looks (n:Nat):AV->List Lk
 |.c a=>a.looks n
 |.agg _=>[]
 |.fn _ _=>[]
 |.tup _=>[]
 |.unk=>[]
def I.looks (s:St):I->List Lk
 |.ld _ n x=>(s.ev x).looks n
 |.ia _ x _=>(s.ev x).ids.map .ob
 |.cv _ _ x=>(s.ev x).ids.map .ob
 |.len _ x=>(s.ev x).ids.map .ob
 |.sl _ x _ _=>(s.ev x).ids.map .ob
 |_=>[]
def jsz (g c n:Nat):Ob->Ob->Prop
 |.box b ty cs,.box b' ty' cs'=>b=b'/\ty=ty'/\cs.length=cs'.length/\jdW g c ((cs.drop c).take n)=jdW g c ((cs'.drop c).take n)
 |ob,ob'=>ob=ob'
def jry (s s':St):Lk->Prop
 |.ob g=>s'.o g=s.o g
 |.cs g c n=>jsz g c n (s'.o g) (s.o g)
def jqe (s s':St):List Lk->Prop
 |[]=>True
 |k::l=>jry s s' k/\jqe s s' l
theorem jjG (g c n:Nat) (ob:Ob):jsz g c n ob ob:=by cases ob<;>first|rfl|exact ⟨rfl,rfl,rfl,rfl⟩
theorem jm9 {s:St} {d:Option Nat} {v:AV} {k:Lk}:jry s (s.put d v) k:=by cases k<;>cases d<;>first|rfl|exact jjG _ _ _ _
theorem kept_put2 {s s2:St} {d:Option Nat} {v:AV} {k:Lk}:jry (s.put d v) (s2.put d v) k↔jry s s2 k:=by cases k<;>cases d<;>exact Iff.rfl
theorem jvq {s:St} {d:Option Nat} {v:AV} {k:Lk}:jry (s.put d v) s k:=by cases k<;>cases d<;>first|rfl|exact jjG _ _ _ _
def jnb (s s':St) (chk:List Nat):List (Nat×List Lk)->Prop
 |[]=>True
 |(p,ids)::l=>(if chk.contains p then jqe s s' ids else True)/\jnb s s' chk l
def zz (P:Program) (β:Nat):T->List (Nat×List Lk)->St->(St->Prop)->Prop
 |.done,_,s,K=>K s
 |.stop,_,_,_=>True
 |.pure p i t,l,s,K=>match zf s i.g with
  |some true=>vv P β i s λs'=>zz P β t ((p,i.i.looks s)::l) s' K
  |some false=>zz P β t l (s.put i.d (.c (.v undef))) K
  |none=>False
 |.alt i chk t rest,l,s,K=>(match zf s i.g with
  |some true=>vv P β i s λs'=>jnb s s' chk l/\zz P β t l s' K
  |some false=>zz P β t l (s.put i.d (.c (.v undef))) K
  |none=>False)/\zz P β rest l s K
def Wk (s s':St):Prop:=∀(B N:Nat) (w0 w:World) (a:Act) (F:Nat->List Nat),RelF B w0 N s a w F->∃F':Nat->List Nat,RelF B w0 N s' a w F'/\∀g,∀b∈F' g,∃g',b∈F g'
def WkK (s:St) (K:St->Prop):Prop:=∀(B N:Nat) (w0 w:World) (a:Act) (F:Nat->List Nat),RelF B w0 N s a w F->∃(s':St) (F':Nat->List Nat),RelF B w0 N s' a w F'/\K s'
inductive Ex where
 |normal
 |exit (id:Nat)
 |ret
def Ex.thn (next:St->Prop) (Q:Ex->St->Prop):Ex->St->Prop
 |.normal,s=>next s
 |.exit id,s=>Q (.exit id) s
 |.ret,s=>Q .ret s
def Ex.inBlk (id:Nat) (Q:Ex->St->Prop):Ex->St->Prop
 |.exit id',s=>if id'=id then Q .normal s else Q (.exit id') s
 |.normal,s=>Q .normal s
 |.ret,s=>Q .ret s
def wpC (P:Program) (β:Nat):C->(Ex->St->Prop)->St->Prop
 |.skip,Q,s=>Q .normal s
 |.reg is,Q,s=>jg5 P β is s (Q .normal)
 |.dreg t,Q,s=>zz P β t [] s (Q .normal)
 |.seq a b,Q,s=>wpC P β a (Ex.thn (wpC P β b Q) Q) s
 |.cond x a b,Q,s=>∃t,s.ev x=.c (.v (.bool t))/\(t=true->wpC P β a Q s)/\(t=false->wpC P β b Q s)
 |.blk id a,Q,s=>wpC P β a (Ex.inBlk id Q) s
 |.loop a,Q,s=>∃(ι:Type) (mk:ι->St) (J:ι->Prop) (μ:ι->Nat),(∃i,J i/\Wk s (mk i))/\∀i,J i->wpC P β a (Ex.thn (λs'=>∃i',J i'/\Wk s' (mk i')/\μ i'<μ i) Q) (mk i)
 |.gh a,Q,s=>WkK s (wpC P β a Q)
 |.exit id,Q,s=>Q (.exit id) s
 |.ret,Q,s=>Q .ret s
def jxj (rs:List R) (rt:RT):Ex->St->Prop
 |.exit _,_=>False
 |_,s=>jyu rs rt s
def RetT (rs:List R) (K:RT->(Nat->Ob)->Prop) (s:St):Prop:=jis s rs λps=>∃rt,ja0 rt ps/\qM s (ps.flatMap (·.2)) λcs s'=>IsD cs rt.flat/\K rt s'.o
def jA9 (rs:List R) (K:RT->(Nat->Ob)->Prop):Ex->St->Prop
 |.exit _,_=>False
 |_,s=>RetT rs K s
def St.start (args:List AV) (o:Nat->Ob):St:=⟨λn=>(args[n]?).getD .unk,o⟩
def jtM (rs:List R) (K:AV->(Nat->Ob)->Prop) (s:St):Prop:=jis s rs λps=>match ps with
 |[(true,l)]=>K (.agg l) s.o
 |[(false,[a])]=>K (.c a) s.o
 |[]=>K (.tup []) s.o
 |p::q::r=>K (.tup (p::q::r)) s.o
 |_=>False
def jDq (rs:List R) (K:AV->(Nat->Ob)->Prop):Ex->St->Prop
 |.exit _,_=>False
 |_,s=>jtM rs K s
open Go.RowKit
structure Ed where
 src:Int
 dst:Int
 deriving DecidableEq,Inhabited
structure Pl where
 aMC:Int
 aMG:Int
 aMF:Int
 aLT:Int
 aLY:List Ed
 deriving DecidableEq,Inhabited
structure En where
 aMC:Int
 seq:Int
 run:Int
 aMA:Int
 deriving DecidableEq,Inhabited
structure Tk where
 aLV:Int
 aME:Int
 tri:Int
 til:Int
 deriving DecidableEq,Inhabited
structure Rn where
 id:Int
 aLW:Pl
 aLV:Int
 aLT:List Tk
 deriving DecidableEq,Inhabited
structure Yd where
 now:Int
 seq:Int
 aLU:List (List En)
 aLX:List Rn
 deriving DecidableEq,Inhabited
structure Dd where
 aMD:Int
 run:Int
 aLW:Pl
 aMA:Int
 tri:Int
 aLZ:Int
 aMB:Int
 deriving DecidableEq,Inhabited
abbrev jBc:TypeId:=25
abbrev tSh:TypeId:=24
abbrev tEd:TypeId:=161
abbrev tEn:TypeId:=44
abbrev tTk:TypeId:=46
abbrev tRn:TypeId:=52
abbrev jsi:TypeId:=35
abbrev tDd:TypeId:=60
abbrev tYd:TypeId:=27
abbrev tPl:TypeId:=49
abbrev jg3:TypeId:=3
abbrev iv (n:Int):D:=.val (.int .i64 n)
def je (l:List Int):D:=.sl 1 jg3 (l.flatMap λn=>[iv n])
def jR (e:Ed):List D:=[iv e.src,iv e.dst]
def jv (l:List Ed):D:=.sl 2 tEd (l.flatMap jR)
def ja (p:Pl):List D:=[iv p.aMC,iv p.aMG,iv p.aMF,iv p.aLT,jv p.aLY]
def jh (e:En):List D:=[iv e.aMC,iv e.seq,iv e.run,iv e.aMA]
def ji (l:List En):D:=.sl 4 tEn (l.flatMap jh)
def jk (t:Tk):List D:=[iv t.aLV,iv t.aME,iv t.tri,iv t.til]
def jC (l:List Tk):D:=.sl 4 tTk (l.flatMap jk)
def jc (r:Rn):List D:=iv r.id::(ja r.aLW++[iv r.aLV,jC r.aLT])
def jI (l:List Rn):D:=.sl 8 tRn (l.flatMap jc)
def ku (l:List (List En)):D:=.sl 1 jsi (l.flatMap λes=>[ji es])
def jb (y:Yd):List D:=[iv y.now,iv y.seq,ku y.aLU,jI y.aLX]
def jj (d:Dd):List D:=iv d.aMD::iv d.run::(ja d.aLW++[iv d.aMA,iv d.tri,iv d.aLZ,iv d.aMB])
def kv (l:List Dd):D:=.sl 11 tDd (l.flatMap jj)
section
variable {w:World} {own:Bool} {vs:List Value} {v:Value} {S:List Nat}
theorem jf9 {e:En} (h:RepL w own (jh e) vs S):vs=[.int .i64 e.aMC,.int .i64 e.seq,.int .i64 e.run,.int .i64 e.aMA]/\S=[]:=by
 obtain ⟨_,rfl,g1⟩:=RepL.val_inv h;obtain ⟨_,rfl,g2⟩:=RepL.val_inv g1;obtain ⟨_,rfl,g3⟩:=RepL.val_inv g2;obtain ⟨_,rfl,g4⟩:=RepL.val_inv g3;obtain ⟨rfl,rfl⟩:=g4;exact ⟨rfl,rfl⟩
theorem ji8 {e:Tk} (h:RepL w own (jk e) vs S):vs=[.int .i64 e.aLV,.int .i64 e.aME,.int .i64 e.tri,.int .i64 e.til]/\S=[]:=by
 obtain ⟨_,rfl,g1⟩:=RepL.val_inv h;obtain ⟨_,rfl,g2⟩:=RepL.val_inv g1;obtain ⟨_,rfl,g3⟩:=RepL.val_inv g2;obtain ⟨_,rfl,g4⟩:=RepL.val_inv g3;obtain ⟨rfl,rfl⟩:=g4;exact ⟨rfl,rfl⟩
theorem jrO {e:Ed} (h:RepL w own (jR e) vs S):vs=[.int .i64 e.src,.int .i64 e.dst]/\S=[]:=by
 obtain ⟨_,rfl,g1⟩:=RepL.val_inv h;obtain ⟨_,rfl,g2⟩:=RepL.val_inv g1;obtain ⟨rfl,rfl⟩:=g2;exact ⟨rfl,rfl⟩
theorem jdH {p:Pl} (h:RepL w own (ja p) vs S):∃ev,vs=[.int .i64 p.aMC,.int .i64 p.aMG,.int .i64 p.aMF,.int .i64 p.aLT,ev]/\Rep w own (jv p.aLY) ev S:=by
 obtain ⟨_,rfl,g1⟩:=RepL.val_inv h;obtain ⟨_,rfl,g2⟩:=RepL.val_inv g1;obtain ⟨_,rfl,g3⟩:=RepL.val_inv g2;obtain ⟨_,rfl,g4⟩:=RepL.val_inv g3;obtain ⟨ev,_,S1,S2,rfl,rfl,h1,rfl,rfl⟩:=g4;exact ⟨ev,rfl,by simpa using h1⟩
theorem jay {r:Rn} (h:RepL w own (jc r) vs S):∃ev tv S1 S2,vs=[.int .i64 r.id,.int .i64 r.aLW.aMC,.int .i64 r.aLW.aMG,.int .i64 r.aLW.aMF,.int .i64 r.aLW.aLT,ev,.int .i64 r.aLV,tv]
 /\Rep w own (jv r.aLW.aLY) ev S1/\Rep w own (jC r.aLT) tv S2/\S=S1++S2:=by
 obtain ⟨_,rfl,g1⟩:=RepL.val_inv h;obtain ⟨v1,v2,S1,S2,rfl,rfl,h1,h2⟩:=RepL.append_inv _ g1;obtain ⟨ev,rfl,k1⟩:=jdH h1;obtain ⟨_,rfl,g2⟩:=RepL.val_inv h2;obtain ⟨tv,_,S3,S4,rfl,rfl,h3,rfl,rfl⟩:=g2;exact ⟨ev,tv,S1,S3,rfl,k1,h3,by simp⟩
theorem zn {y:Yd} (h:RepL w own (jb y) vs S):∃sv rv S1 S2,vs=[.int .i64 y.now,.int .i64 y.seq,sv,rv]/\Rep w own (ku y.aLU) sv S1/\Rep w own (jI y.aLX) rv S2/\S=S1++S2:=by
 obtain ⟨_,rfl,g1⟩:=RepL.val_inv h;obtain ⟨_,rfl,g2⟩:=RepL.val_inv g1;obtain ⟨sv,_,S1,S2,rfl,rfl,h1,k⟩:=g2;obtain ⟨rv,_,S3,S4,rfl,rfl,h3,rfl,rfl⟩:=k;exact ⟨sv,rv,S1,S3,rfl,h1,h3,by simp⟩
theorem jrT {d:Dd} (h:RepL w own (jj d) vs S):∃ev,vs=[.int .i64 d.aMD,.int .i64 d.run,.int .i64 d.aLW.aMC,.int .i64 d.aLW.aMG,.int .i64 d.aLW.aMF,.int .i64 d.aLW.aLT,ev,.int .i64 d.aMA,.int .i64 d.tri,.int .i64 d.aLZ,.int .i64 d.aMB]
 /\Rep w own (jv d.aLW.aLY) ev S:=by
 obtain ⟨_,rfl,g1⟩:=RepL.val_inv h;obtain ⟨_,rfl,g2⟩:=RepL.val_inv g1;obtain ⟨v1,v2,S1,S2,rfl,rfl,h1,h2⟩:=RepL.append_inv _ g2;obtain ⟨ev,rfl,k1⟩:=jdH h1;obtain ⟨_,rfl,g3⟩:=RepL.val_inv h2;obtain ⟨_,rfl,g4⟩:=RepL.val_inv g3;obtain ⟨_,rfl,g5⟩:=RepL.val_inv g4;obtain ⟨_,rfl,g6⟩:=RepL.val_inv g5;obtain ⟨rfl,rfl⟩:=g6;exact ⟨ev,rfl,by simpa using k1⟩
theorem jx4 (w:World) (own:Bool) (e:En):RepL w own (jh e) [.int .i64 e.aMC,.int .i64 e.seq,.int .i64 e.run,.int .i64 e.aMA] []:=RepL.val_ (RepL.val_ (RepL.val_ (RepL.val_ RepL.nil_)))
theorem jB4 {p:Pl} {ev:Value} (h:Rep w own (jv p.aLY) ev S):RepL w own (ja p) [.int .i64 p.aMC,.int .i64 p.aMG,.int .i64 p.aMF,.int .i64 p.aLT,ev] S:=by
 have:=RepL.val_ (u:=.int .i64 p.aMC) (RepL.val_ (u:=.int .i64 p.aMG) (RepL.val_ (u:=.int .i64 p.aMF) (RepL.val_ (u:=.int .i64 p.aLT) (RepL.cons_ h (RepL.nil_ (w:=w) (own:=own))))))
 rwa [aNI] at this
theorem ja2 {y:Yd} {sv rv:Value} {S1 S2:List Nat} (h:Rep w own (ku y.aLU) sv S1) (h2:Rep w own (jI y.aLX) rv S2):
 RepL w own (jb y) [.int .i64 y.now,.int .i64 y.seq,sv,rv] (S1++S2):=by
 have:=RepL.val_ (u:=.int .i64 y.now) (RepL.val_ (u:=.int .i64 y.seq) (RepL.cons_ h (RepL.cons_ h2 (RepL.nil_ (w:=w) (own:=own)))))
 rwa [aNI] at this
theorem jo2 (r:Dd):(jj r).length=11:=rfl
end
theorem jx2 {α:Type} {l m:List α} {k:Nat} {x:α} (hx:l[k]?=some x) (hy:m[k]?=some x) (h:l.take k=m.take k):l.take (k+1)=m.take (k+1):=by
 rw [aMT,aMT,h,hx,hy]
theorem jCO {α:Type} {l m:List α} {k:Nat} {x y:α} (hx:l[k]?=some x) (hy:m[k]?=some y) (h:x≠y):l≠m:=by
 intro e;subst e;rw [hx] at hy;exact h (aMW hy)
theorem jx3 {α:Type} {l m:List α} {k:Nat} (hl:l.length<=k) (hm:m.length<=k) (h:l.take k=m.take k):l=m:=by
 rwa [aMO hl,aMO hm] at h
theorem jd {α:Type} {l:List α} {k:Nat} (h:k<l.length):∃x,l[k]?=some x:=⟨l[k],aMK h⟩
theorem jY {b b':Bool} (h:b=b'):Ending.returned (.bool b)=Ending.returned (.bool b'):=by rw [h]
theorem jqj {P:Program} {e:TypeId} {size bytes:Nat} {z:Value} (h:(P.info? e).map (λi=>(i.zero,i.size,i.bytes))=some (some z,size,bytes)):
 ∃i zv,P.info? e=some i/\i.zero=some zv/\zv.cells=z.cells/\i.size=size/\i.bytes=bytes:=by
 cases hq:P.info? e with
 |none=>rw [hq] at h;simp at h
 |some i=>
  rw [hq] at h;simp at h;exact ⟨i,z,rfl,h.1,rfl,h.2.1,h.2.2⟩
theorem cb {P:Program} {f:FuncId} {args:Array Value} {w:World} {b b':Bool} (h:Calls P f args w λe w'=>e=.returned (.bool b)/\Below w.heap.size w w') (hb:b=b'):Calls P f args w λe w'=>e=.returned (.bool b')/\Below w.heap.size w w':=by subst hb;exact h
theorem jaq {W w1:World} (hb:Below W.heap.size W w1):(∀b o,b<W.heap.size->w1.cell? ⟨b,o,none⟩=W.cell? ⟨b,o,none⟩)/\(∀b o,b<W.heap.size->w1.frozen? ⟨b,o,none⟩=W.frozen? ⟨b,o,none⟩):=
 ⟨λb o h=>hb.cell (p:=⟨b,o,none⟩) h,λb o h=>hb.frozen (p:=⟨b,o,none⟩) h⟩
theorem jna {w:World} {own:Bool} {d:D} {v:Value} {S:List Nat} {p:Addr} {u:Value} (h:Rep w own d v S) (hp:∀b∈S,b≠p.block):Rep (w.setCell p u) own d v S:=
 Rep.keep d h λb hb=>Below.heap_setCell w p u b (hp b hb)
theorem Rep.form {w:World} {own:Bool} {size:Nat} {ty:TypeId} {cs:List D} {v:Value} {S:List Nat} (h:Rep w own (.sl size ty cs) v S):∃A n c,v=.slice A n c:=by
 obtain ⟨vs,T,S',hr,_,_⟩:=h;obtain ⟨_,A,n,c,rfl,_⟩:=hr.ro;exact ⟨A,n,c,rfl⟩
def qN {α:Type} (tot:α->Nat) (l:List α):Nat:=(l.map tot).sum
theorem jaD {α:Type} (tot:α->Nat) (l m:List α):qN tot (l++m)=qN tot l+qN tot m:=by simp [qN]
theorem vK {α:Type} {tot:α->Nat} {l:List α} {k:Nat} {x:α} (h:l[k]?=some x):qN tot (l.take (k+1))=qN tot (l.take k)+tot x:=by
 rw [aMT,h,jaD];simp [qN]
theorem jak {α:Type} (tot:α->Nat) (l:List α) (k:Nat):qN tot (l.take k)<=qN tot l:=by
 conv=>rhs;rw [<-aNW k l,jaD]
 exact aPM _ _
def jeZ (p:Pl):Nat:=p.aLY.length
def kQ (r:Rn):Nat:=jeZ r.aLW+r.aLT.length
def zc (l:List En):Nat:=l.length
def jby (l:List (List En)):Nat:=l.length+qN zc l
def jac (l:List Rn):Nat:=l.length+qN kQ l
def jt (y:Yd):Nat:=jby y.aLU+jac y.aLX
def jbX (d:Dd):Nat:=jeZ d.aLW
def jd9 (l:List Dd):Nat:=l.length+qN jbX l
theorem jha {a b:Int} (h:a=b):Ending.returned (.int .i64 a)=Ending.returned (.int .i64 b):=by rw [h]
def jg8 (rs:List Rn) (id:Int):Int:=match rs.findIdx? (λr=>r.id==id) with
 |some k=>k
 |none=>-1
def runAt (y:Yd) (id:Int):Int:=if 8<y.aLX.length then -1 else jg8 y.aLX id
theorem jbZ {rs:List Rn} {id:Int} {k:Nat} {x:Rn} (hx:rs[k]?=some x) (h:x.id=id) (d7:∀j,j<k->∀z,rs[j]?=some z->z.id≠id):jg8 rs id=k:=by
 have hk:k<rs.length:=(aMI.1 hx).1
 have:rs.findIdx? (λr=>r.id==id)=some k:=by
  rw [List.findIdx?_eq_some_iff_getElem];refine ⟨hk,?_,λj hj=>?_⟩
  ·rw [aMK hk] at hx
   simp only [Option.some.injEq] at hx;simp [hx,h]
  ·have:=d7 j hj rs[j] (aMK (by omega))
   simpa using this
 simp [jg8,this]
theorem jbF {rs:List Rn} {id:Int} (d7:∀j,j<rs.length->∀z,rs[j]?=some z->z.id≠id):jg8 rs id=-1:=by
 have:rs.findIdx? (λr=>r.id==id)=none:=by
  rw [List.findIdx?_eq_none_iff];intro x hx;obtain ⟨j,hj,rfl⟩:=aNO hx;simpa using d7 j hj rs[j] (aMK hj)
 simp [jg8,this]
theorem jjK (rs:List Rn) (id:Int):(∃(k:Nat) (x:Rn),rs[k]?=some x/\x.id=id/\(∀j,j<k->∀z,rs[j]?=some z->z.id≠id)/\jg8 rs id=k)\/((∀x∈rs,x.id≠id)/\jg8 rs id=-1):=by
 cases h:rs.findIdx? (λr=>r.id==id) with
 |none=>
  right;rw [List.findIdx?_eq_none_iff] at h;have h':∀x∈rs,x.id≠id:=λx hx=>by simpa using h x hx
  exact ⟨h',jbF λj hj z hz=>h' z (aMJ hz)⟩
 |some k=>
  left;rw [List.findIdx?_eq_some_iff_getElem] at h;obtain ⟨hk,h1,h2⟩:=h;have hx:rs[k]?=some rs[k]:=aMK hk;have dN:rs[k].id=id:=by simpa using h1
  have d7:∀j,j<k->∀z,rs[j]?=some z->z.id≠id:=λj hj z hz=>by
   have:=h2 j hj;rw [aMK (by omega)] at hz
   simp only [Option.some.injEq] at hz;subst hz;simpa using this
  exact ⟨k,rs[k],hx,dN,d7,jbZ hx dN d7⟩
def jad (y:Yd) (id aMA:Int):Option Tk:=
 if runAt y id<0 then none else match y.aLX[(runAt y id).toNat]? with
 |some r=>if 0<=aMA then r.aLT[aMA.toNat]? else none
 |none=>none
def jP (y:Yd) (e:En):Bool:=match jad y e.run e.aMA with
 |some t=>t.aLV==2
 |none=>false
def qw (y:Yd) (id aMA tri:Int):Bool:=match jad y id aMA with
 |some t=>t.aLV==3&&t.tri==tri
 |none=>false
theorem zd (y:Yd) (id aMA:Int):(runAt y id=-1/\jad y id aMA=none)\/
 (∃(k:Nat) (r:Rn),runAt y id=k/\y.aLX[k]?=some r/\((¬(0<=aMA/\aMA<=(r.aLT.length:Int)-1)/\jad y id aMA=none)\/
  (∃(j:Nat) (t:Tk),aMA=j/\r.aLT[j]?=some t/\jad y id aMA=some t))):=by
 have h1:runAt y id=-1\/∃(k:Nat) (r:Rn),runAt y id=k/\y.aLX[k]?=some r:=by
  unfold runAt;split
  ·exact .inl rfl
  ·rcases jjK y.aLX id with ⟨k,x,hx,_,_,he⟩|⟨_,he⟩
   ·exact .inr ⟨k,x,he,hx⟩
   ·exact .inl he
 rcases h1 with h|⟨k,r,h,hr⟩
 ·exact .inl ⟨h,by unfold jad;rw [if_pos (by omega)]⟩
 ·right
  refine ⟨k,r,h,hr,?_⟩
  have e:jad y id aMA=if 0<=aMA then r.aLT[aMA.toNat]? else none:=by
   unfold jad;rw [if_neg (by omega),h,aMQ,hr]
  by_cases h0:0<=aMA
  ·rw [if_pos h0] at e
   by_cases hl:aMA.toNat<r.aLT.length
   ·right
    exact ⟨aMA.toNat,r.aLT[aMA.toNat],by omega,aMK hl,by rw [e,aMK hl]⟩
   ·left
    exact ⟨by omega,by rw [e,aOH (by omega)]⟩
  ·left
   rw [if_neg h0] at e;exact ⟨by omega,e⟩
def kH (r:Rn):Nat:=if r.aLV=1 then r.aLT.length else 0
def qh (y:Yd) (l:List En):Nat:=l.countP (λe=>!jP y e)
def zR (y:Yd):List En:=y.aLU.flatten
def kw (y:Yd):Int:=qN kH y.aLX+qh y (zR y)
def zJ (y:Yd) (p:Pl):Bool:=decide (y.aLX.length<8)&&(decide (0<=p.aLT/\p.aLT<=12)&&(decide (kw y+p.aLT<=40)&&decide (y.seq<=1000000000-1000-p.aLT)))
theorem jjw (l:List Rn):qN kH l<=qN kQ l:=by
 induction l with
 |nil=>simp [qN]
 |cons r l ih=>
  have h:kH r<=kQ r:=by unfold kH kQ;split<;>omega
  simp only [qN,aNQ,aOW] at*;omega
theorem vr (l:List (List En)):l.flatten.length=qN zc l:=by
 induction l with
 |nil=>simp [qN]
 |cons r l ih=>simp only [aPL,aMR,qN,aNQ,aOW,zc] at*;omega
theorem jmv (y:Yd) (l:List En):qh y l<=l.length:=List.countP_le_length
theorem jlw {y:Yd} {l:List En} {k:Nat} {e:En} (h:l[k]?=some e):qh y (l.take (k+1))=qh y (l.take k)+(if jP y e then 0 else 1):=by
 unfold qh;rw [aMT,h,List.countP_append];cases hf:jP y e<;>simp [hf]
theorem jlv (y:Yd) (l:List En) (k:Nat):qh y (l.take k)<=qh y l:=by
 unfold qh;exact (List.take_sublist k l).countP_le
theorem jbM {l:List (List En)} {k:Nat} {es:List En} (h:l[k]?=some es):(l.take (k+1)).flatten=(l.take k).flatten++es:=by
 rw [aMT,h,List.flatten_append];simp
section
variable {P:Program} {β:Nat} {s:St} {K:St->Prop} {Q:Ex->St->Prop} {d:Option Nat} {g:Option (Nat×Bool)}
theorem ev_t (n:Nat):s.ev (.t n)=s.t n:=(rfl)
theorem ev_i (k:IntKind) (n:Int):s.ev (.c (.int k n))=.c (.v (.int k n)):=(rfl)
theorem ev_b (b:Bool):s.ev (.c (.bool b))=.c (.v (.bool b)):=(rfl)
theorem ev_s (b:ByteArray):s.ev (.c (.string b))=.c (.v (.string b)):=(rfl)
theorem ev_n:s.ev (.c (.slice none 0 0))=.c (.v (.slice none 0 0)):=(rfl)
theorem put_t (k n:Nat) (v:AV):(s.put (some k) v).t n=if n=k then v else s.t n:=(rfl)
theorem put_o (v:AV) (n:Nat):(s.put d v).o n=s.o n:=by cases d<;>rfl
theorem jBx (k:Nat) (ob:Ob) (n:Nat):(s.setO k ob).t n=s.t n:=(rfl)
theorem jBy (k:Nat) (ob:Ob) (n:Nat):(s.setO k ob).o n=if n=k then ob else s.o n:=(rfl)
theorem jyt:s.addO []=s:=(rfl)
theorem jwD (k:Nat) (ob:Ob) (l:List (Nat×Ob)):s.addO ((k,ob)::l)=(s.setO k ob).addO l:=(rfl)
theorem jwL:wpC P β .skip Q s=Q .normal s:=(rfl)
theorem jA3 (is:List Ins):wpC P β (.reg is) Q s=jg5 P β is s (Q .normal):=(rfl)
theorem jpB (a b:C):wpC P β (.seq a b) Q s=wpC P β a (Ex.thn (wpC P β b Q) Q) s:=(rfl)
theorem jyy (id:Nat) (a:C):wpC P β (.blk id a) Q s=wpC P β a (Ex.inBlk id Q) s:=(rfl)
theorem jwM (id:Nat):wpC P β (.exit id) Q s=Q (.exit id) s:=(rfl)
theorem jzh:wpC P β .ret Q s=Q .ret s:=(rfl)
theorem jtQ {x:X} (a b:C) (h:s.ev x=.c (.v (.bool true))):wpC P β (.cond x a b) Q s=wpC P β a Q s:=by simp [wpC,h]
theorem jtR {x:X} (a b:C) (h:s.ev x=.c (.v (.bool false))):wpC P β (.cond x a b) Q s=wpC P β b Q s:=by simp [wpC,h]
theorem thn_n (next:St->Prop):Ex.thn next Q .normal s=next s:=(rfl)
theorem thn_e (next:St->Prop) (id:Nat):Ex.thn next Q (.exit id) s=Q (.exit id) s:=(rfl)
theorem thn_r (next:St->Prop):Ex.thn next Q .ret s=Q .ret s:=(rfl)
theorem blk_n (id:Nat):Ex.inBlk id Q .normal s=Q .normal s:=(rfl)
theorem blk_r (id:Nat):Ex.inBlk id Q .ret s=Q .ret s:=(rfl)
theorem blk_e (id id':Nat):Ex.inBlk id Q (.exit id') s=if id'=id then Q .normal s else Q (.exit id') s:=(rfl)
theorem jxd:jg5 P β [] s K=K s:=(rfl)
theorem juC (i:I) (l:List Ins):jg5 P β (⟨d,none,i⟩::l) s K=vv P β ⟨d,none,i⟩ s (λs'=>jg5 P β l s' K):=(rfl)
theorem jzD {t:Nat} (i:I) (l:List Ins) (h:s.t t=.c (.v (.bool true))):jg5 P β (⟨d,some (t,true),i⟩::l) s K=vv P β ⟨d,some (t,true),i⟩ s (λs'=>jg5 P β l s' K):=by simp [jg5,zf,h]
theorem jzE {t:Nat} (i:I) (l:List Ins) (h:s.t t=.c (.v (.bool false))):jg5 P β (⟨d,some (t,true),i⟩::l) s K=jg5 P β l (s.put d (.c (.v undef))) K:=by simp [jg5,zf,h]
theorem jzF {t:Nat} (i:I) (l:List Ins) (h:s.t t=.c (.v (.bool true))):jg5 P β (⟨d,some (t,false),i⟩::l) s K=jg5 P β l (s.put d (.c (.v undef))) K:=by simp [jg5,zf,h]
theorem jzG {t:Nat} (i:I) (l:List Ins) (h:s.t t=.c (.v (.bool false))):jg5 P β (⟨d,some (t,false),i⟩::l) s K=vv P β ⟨d,some (t,false),i⟩ s (λs'=>jg5 P β l s' K):=by simp [jg5,zf,h]
def I.writes:I->Bool
 |.box ..|.bsl ..|.st ..|.app ..|.apps ..|.clr ..|.call ..|.callv ..=>true
 |_=>false
theorem jyX {i:I} {av:AV} {os:List (Nat×Ob)} (hw:i.writes=false) (h:∀rt st av' os',Gen P s (β+d.getD 0) rt st i av' os'↔av'=av/\os'=os):
 vv P β ⟨d,g,i⟩ s K=K ((s.addO os).put d av):=by
 have e:vv P β ⟨d,g,i⟩ s K=(∃rt,∀st,∃av os,Gen P s (β+d.getD 0) rt st i av os/\K ((s.addO os).put d av)):=by
  cases i<;>first|rfl|cases hw
 rw [e]
 apply propext
 constructor
 ·rintro ⟨rt,h1⟩
  obtain ⟨av',os',h2,h3⟩:=h1 ⟨0,λ_ _=>undef⟩
  obtain ⟨rfl,rfl⟩:=(h _ _ _ _).1 h2;exact h3
 ·intro h1
  exact ⟨.c (.val undef),λst=>⟨_,_,(h _ _ _ _).2 ⟨rfl,rfl⟩,h1⟩⟩
theorem jxQ {i:I} {av:AV} (hw:i.writes=false) (h:∀rt st av' os',Gen P s (β+d.getD 0) rt st i av' os'↔av'=av/\os'=[]):vv P β ⟨d,g,i⟩ s K=K (s.put d av):=jyX hw h
theorem jzz (x:X):vv P β ⟨d,g,.mov x⟩ s K=K (s.put d (s.ev x)):=jxQ rfl λ_ _ _ _=>Iff.rfl
theorem jAw {i:I} {p:Prop} {av:AV} (hw:i.writes=false) (h:∀rt st av' os',Gen P s (β+d.getD 0) rt st i av' os'↔p/\av'=av/\os'=[]):vv P β ⟨d,g,i⟩ s K=(p/\K (s.put d av)):=by
 by_cases hp:p
 ·rw [jxQ hw (av:=av) λrt st av' os'=>by rw [h];simp [hp]];simp [hp]
 ·have e:vv P β ⟨d,g,i⟩ s K=(∃rt,∀st,∃av os,Gen P s (β+d.getD 0) rt st i av os/\K ((s.addO os).put d av)):=by
   cases i<;>first|rfl|cases hw
  rw [e]
  apply propext
  constructor
  ·rintro ⟨rt,h1⟩
   obtain ⟨av',os',h2,_⟩:=h1 ⟨0,λ_ _=>undef⟩
   exact absurd ((h _ _ _ _).1 h2).1 hp
  ·exact λh=>absurd h.1 hp
theorem jrG {i:I} (hw:i.writes=false) (h:∀rt st av' os',¬Gen P s (β+d.getD 0) rt st i av' os'):vv P β ⟨d,g,i⟩ s K=False:=by
 have e:vv P β ⟨d,g,i⟩ s K=(∃rt,∀st,∃av os,Gen P s (β+d.getD 0) rt st i av os/\K ((s.addO os).put d av)):=by
  cases i<;>first|rfl|cases hw
 rw [e]
 apply propext
 constructor
 ·rintro ⟨rt,h1⟩
  obtain ⟨av',os',h2,_⟩:=h1 ⟨0,λ_ _=>undef⟩
  exact absurd h2 (h _ _ _ _)
 ·exact False.elim
def jzZ (d:Option Nat) (s:St) (K:St->Prop) (c a b:AV):Prop:=match c with
 |.c (.v (.bool t))=>K (s.put d (if t then a else b))
 |_=>False
theorem jxc (c a b:X):vv P β ⟨d,g,.pick c a b⟩ s K=jzZ d s K (s.ev c) (s.ev a) (s.ev b):=by
 unfold jzZ;split
 ·exact jxQ rfl λ_ _ _ _=>by simp [Gen, *]
 ·rename_i h
  exact jrG rfl λ_ _ _ _ ⟨t,h1,_⟩=>h t h1
theorem jB5 (t:Bool) (a b:AV):jzZ d s K (.c (.v (.bool t))) a b=K (s.put d (if t then a else b)):=(rfl)
def faK (d:Option Nat) (s:St) (K:St->Prop) (off:Nat):AV->Prop
 |.c (.rp ds)=>K (s.put d (.c (.rp (ds.drop off))))
 |.c (.bp g c b)=>K (s.put d (.c (.bp g (c+off) b)))
 |.c (.ep g c p i x)=>K (s.put d (.c (.ep g c p (i+off) x)))
 |_=>False
theorem jBG (off:Nat) (x:X):vv P β ⟨d,g,.fa off x⟩ s K=faK d s K off (s.ev x):=by
 cases h:s.ev x with
 |c a=>cases a<;>first|exact jxQ rfl (λ_ _ _ _=>by simp [Gen,h])|exact jrG rfl (λ_ _ _ _=>by simp [Gen,h])
 |_=>exact jrG rfl (λ_ _ _ _=>by simp [Gen,h])
theorem jCH (off:Nat) (ds:List D):faK d s K off (.c (.rp ds))=K (s.put d (.c (.rp (ds.drop off)))):=(rfl)
theorem jCJ (off k c b:Nat):faK d s K off (.c (.bp k c b))=K (s.put d (.c (.bp k (c+off) b))):=(rfl)
theorem jCI (off k c:Nat) (p:List Nat) (i:Nat) (x:Value):faK d s K off (.c (.ep k c p i x))=K (s.put d (.c (.ep k c p (i+off) x))):=(rfl)
def ldV:Bool->List A0->(AV->Prop)->Prop
 |true,l,k=>k (.agg l)
 |false,[a],k=>k (.c a)
 |false,_,_=>False
theorem ldV_t (l:List A0) (k:AV->Prop):ldV true l k=k (.agg l):=(rfl)
theorem ldV_f (a:A0) (k:AV->Prop):ldV false [a] k=k (.c a):=(rfl)
def ldB (ob:Ob) (g c b n:Nat) (k:List A0->Prop):Prop:=match ob with
 |.box b' _ cs=>b'=b/\c+n<=cs.length/\k (jdW g c ((cs.drop c).take n))
 |_=>False
theorem ldB_ (b' ty:Nat) (cs:List Cell) (k c b n:Nat) (K:List A0->Prop):ldB (.box b' ty cs) k c b n K=(b'=b/\c+n<=cs.length/\K (jdW k c ((cs.drop c).take n))):=(rfl)
def ldK (d:Option Nat) (s:St) (K:St->Prop) (agg:Bool) (n:Nat):AV->Prop
 |.c (.rp ds)=>n<=ds.length/\ldV agg ((ds.take n).map D.toRo) λv=>K (s.put d v)
 |.c (.bp g c b)=>ldB (s.o g) g c b n λl=>ldV agg l λv=>K (s.put d v)
 |.c (.ep g c p i x)=>∃d0 η dd,(s.o g).own c=some (d0,η)/\η p=x/\D.get p d0=some dd/\dd.isSl=true/\i+n<=dd.cells.length/\ldV agg (jhk g c p η i ((dd.cells.drop i).take n)) λv=>K (s.put d v)
 |_=>False
theorem jBD (agg:Bool) (n:Nat) (x:X):vv P β ⟨d,g,.ld agg n x⟩ s K=ldK d s K agg n (s.ev x):=by
 have e:vv P β ⟨d,g,.ld agg n x⟩ s K=(∃rt:RT,∀st:jwE,∃av os,(∃l,jav s n l (s.ev x)/\(if agg then av=.agg l else∃a,l=[a]/\av=.c a)/\os=[])/\K ((s.addO os).put d av)):=rfl
 have h1:∀l,(∃av os,((if agg then av=.agg l else∃a,l=[a]/\av=.c a)/\os=[])/\K ((s.addO os).put d av))↔ldV agg l λv=>K (s.put d v):=λl=>by
  cases agg
  ·rcases l with _|⟨a,_|⟨b,l⟩⟩
   ·simp [ldV]
   ·simp only [ldV]
    constructor
    ·rintro ⟨_,_,⟨h,rfl⟩,h3⟩;simp at h;subst h;exact h3
    ·intro h3;exact ⟨_,_,⟨by simp,rfl⟩,h3⟩
   ·simp [ldV]
  ·simp only [ldV]
   constructor
   ·rintro ⟨_,_,⟨h,rfl⟩,h3⟩;simp at h;subst h;exact h3
   ·intro h3;exact ⟨_,_,⟨by simp,rfl⟩,h3⟩
 have e2:vv P β ⟨d,g,.ld agg n x⟩ s K↔∃l,jav s n l (s.ev x)/\ldV agg l λv=>K (s.put d v):=by
  rw [e];constructor
  ·rintro ⟨_,h⟩
   obtain ⟨av,os,⟨l,h2,h3⟩,h4⟩:=h ⟨0,λ_ _=>undef⟩
   exact ⟨l,h2,(h1 l).1 ⟨av,os,h3,h4⟩⟩
  ·rintro ⟨l,h2,h3⟩
   refine ⟨.c (.val undef),λ_=>?_⟩
   obtain ⟨av,os,h4,h5⟩:=(h1 l).2 h3;exact ⟨av,os,⟨l,h2,h4⟩,h5⟩
 apply propext
 rw [e2];cases h:s.ev x with
 |c a=>
  cases a with
  |bp k c b=>
   simp only [jav,ldK,ldB];cases ho:s.o k<;>simp
   constructor
   ·rintro ⟨l,⟨_,_,⟨rfl,_,rfl⟩,h2,rfl⟩,h3⟩;exact ⟨rfl,h2,h3⟩
   ·rintro ⟨rfl,h2,h3⟩;exact ⟨_,⟨_,_,⟨rfl,rfl,rfl⟩,h2,rfl⟩,h3⟩
  |rp ds=>
   simp only [jav,ldK];constructor
   ·rintro ⟨l,⟨h2,rfl⟩,h3⟩;exact ⟨h2,h3⟩
   ·rintro ⟨h2,h3⟩;exact ⟨_,⟨h2,rfl⟩,h3⟩
  |ep k c p i x=>
   simp only [jav,ldK];constructor
   ·rintro ⟨l,⟨d0,η,dd,h2,h3,h4,h7,h5,rfl⟩,h6⟩;exact ⟨d0,η,dd,h2,h3,h4,h7,h5,h6⟩
   ·rintro ⟨d0,η,dd,h2,h3,h4,h7,h5,h6⟩;exact ⟨_,⟨d0,η,dd,h2,h3,h4,h7,h5,rfl⟩,h6⟩
  |_=>simp [jav,ldK]
 |_=>simp [jav,ldK]
theorem jCs (agg:Bool) (n:Nat) (ds:List D):ldK d s K agg n (.c (.rp ds))=(n<=ds.length/\ldV agg ((ds.take n).map D.toRo) λv=>K (s.put d v)):=(rfl)
theorem jCt (agg:Bool) (n k c b:Nat):ldK d s K agg n (.c (.bp k c b))=ldB (s.o k) k c b n λl=>ldV agg l λv=>K (s.put d v):=(rfl)
def iaK (d:Option Nat) (s:St) (K:St->Prop) (size:Nat):AV->AV->Prop
 |.c (.ro dd),.c (.v (.int _ n))=>(0<=n/\n.toNat<dd.len/\dd.isSl=true/\dd.size=size)/\K (s.put d (.c (.rp (dd.elem n.toNat))))
 |.c (.hs g c p hx sz lo m),.c (.v (.int _ n))=>(0<=n/\(∃dd,Is s (.hs g c p hx sz lo m) dd)/\sz=size/\n.toNat<m)/\K (s.put d (.c (.ep g c p ((lo+n.toNat)*size) hx)))
 |.c (.h g c p hx),.c (.v (.int _ n))=>(0<=n/\∃dd,Is s (.h g c p hx) dd/\dd.size=size/\n.toNat<dd.len)/\K (s.put d (.c (.ep g c p (n.toNat*size) hx)))
 |_,_=>False
theorem jBE (size:Nat) (x i:X):vv P β ⟨d,g,.ia size x i⟩ s K=iaK d s K size (s.ev x) (s.ev i):=by
 unfold iaK;split
 ·rename_i dd k n h1 h2
  refine jAw rfl λ_ _ _ _=>?_
  simp only [Gen,h1,h2];constructor
  ·rintro ⟨_,_,he,h3,⟨h4,h5,h6,h7⟩,h8⟩;cases he;exact ⟨⟨h3,h6,h4,h5⟩,h7,h8⟩
  ·rintro ⟨⟨h3,h6,h4,h5⟩,h7,h8⟩;exact ⟨_,_,rfl,h3,⟨h4,h5,h6,h7⟩,h8⟩
 ·rename_i k c p hx sz lo m kk n h1 h2
  refine jAw rfl λ_ _ _ _=>?_
  simp only [Gen,h1,h2];constructor
  ·rintro ⟨_,_,he,h3,⟨h4,h5,h6,h7⟩,h8⟩;cases he;exact ⟨⟨h3,h4,h5,h6⟩,h7,h8⟩
  ·rintro ⟨⟨h3,h4,h5,h6⟩,h7,h8⟩;exact ⟨_,_,rfl,h3,⟨h4,h5,h6,h7⟩,h8⟩
 ·rename_i k c p hx kk n h1 h2
  refine jAw rfl λ_ _ _ _=>?_
  simp only [Gen,h1,h2];constructor
  ·rintro ⟨_,_,he,h3,⟨h4,h7⟩,h8⟩;cases he;exact ⟨⟨h3,h4⟩,h7,h8⟩
  ·rintro ⟨⟨h3,h4⟩,h7,h8⟩;exact ⟨_,_,rfl,h3,⟨h4,h7⟩,h8⟩
 ·rename_i h1 h2 i8
  refine jrG rfl λ_ _ _ _=>?_
  simp only [Gen];rintro ⟨k,n,he,h3,h4,_⟩;split at h4
  ·exact h1 _ _ _ (by assumption) he
  ·exact i8 _ _ _ _ _ _ (by assumption) he
  ·exact h2 _ _ _ _ _ _ _ _ _ (by assumption) he
  ·exact h4
theorem jCA (size:Nat) (dd:D) (k:IntKind) (n:Int):iaK d s K size (.c (.ro dd)) (.c (.v (.int k n)))=((0<=n/\n.toNat<dd.len/\dd.isSl=true/\dd.size=size)/\K (s.put d (.c (.rp (dd.elem n.toNat))))):=(rfl)
theorem iaK_h (size k c:Nat) (p:List Nat) (hx:Value) (kk:IntKind) (n:Int):iaK d s K size (.c (.h k c p hx)) (.c (.v (.int kk n)))=((0<=n/\∃dd,Is s (.h k c p hx) dd/\dd.size=size/\n.toNat<dd.len)/\K (s.put d (.c (.ep k c p (n.toNat*size) hx)))):=rfl
theorem jnh {i:I} {G:AV->Prop} (hw:i.writes=false) (h:∀rt st av' os',Gen P s (β+d.getD 0) rt st i av' os'↔G av'/\os'=[]):vv P β ⟨d,g,i⟩ s K=∃av,G av/\K (s.put d av):=by
 have e:vv P β ⟨d,g,i⟩ s K=(∃rt,∀st,∃av os,Gen P s (β+d.getD 0) rt st i av os/\K ((s.addO os).put d av)):=by
  cases i<;>first|rfl|cases hw
 rw [e]
 apply propext
 constructor
 ·rintro ⟨_,h1⟩
  obtain ⟨av',os',h2,h3⟩:=h1 ⟨0,λ_ _=>undef⟩
  obtain ⟨h4,rfl⟩:=(h _ _ _ _).1 h2;exact ⟨av',h4,h3⟩
 ·rintro ⟨av,h1,h2⟩
  exact ⟨.c (.val undef),λ_=>⟨av,[],(h _ _ _ _).2 ⟨h1,rfl⟩,h2⟩⟩
def jyS (d:Option Nat) (s:St) (K:St->Prop) (str:Bool) (a:AV):Prop:=∃av,(∃n,jtK s str a n/\av=.c (.v (.int .i64 (n:Int))))/\K (s.put d av)
theorem jzB (str:Bool) (x:X):vv P β ⟨d,g,.len str x⟩ s K=jyS d s K str (s.ev x):=jnh rfl λ_ _ av os=>by
 simp only [Gen];constructor
 ·rintro ⟨n,h1,h2,h3⟩;exact ⟨⟨n,h1,h2⟩,h3⟩
 ·rintro ⟨⟨n,h1,h2⟩,h3⟩;exact ⟨n,h1,h2,h3⟩
theorem jvj (str:Bool) (a:AV):jyS d s K str a=∃n,jtK s str a n/\K (s.put d (.c (.v (.int .i64 (n:Int))))):=by
 apply propext
 constructor
 ·rintro ⟨_,⟨n,h1,rfl⟩,h2⟩;exact ⟨n,h1,h2⟩
 ·rintro ⟨n,h1,h2⟩;exact ⟨_,⟨n,h1,rfl⟩,h2⟩
theorem jAd (dd:D):jyS d s K false (.c (.ro dd))=((dd.isSl=true/\0<dd.size)/\K (s.put d (.c (.v (.int .i64 dd.len))))):=by
 rw [jvj]
 apply propext
 constructor
 ·rintro ⟨_,⟨h1,h2,rfl⟩,h3⟩;exact ⟨⟨h1,h2⟩,h3⟩
 ·rintro ⟨⟨h1,h2⟩,h3⟩;exact ⟨_,⟨h1,h2,rfl⟩,h3⟩
theorem jxE (b:ByteArray):jyS d s K true (.c (.v (.string b)))=K (s.put d (.c (.v (.int .i64 b.size)))):=by
 rw [jvj];simp [jtK]
theorem jxG:jyS d s K false (.c (.v (.slice none 0 0)))=K (s.put d (.c (.v (.int .i64 0)))):=by
 rw [jvj];simp [jtK]
theorem jCr (k c:Nat) (p:List Nat) (x:Value):jyS d s K false (.c (.h k c p x))=∃dd,Is s (.h k c p x) dd/\0<dd.size/\K (s.put d (.c (.v (.int .i64 dd.len)))):=by
 rw [jvj]
 apply propext
 constructor
 ·rintro ⟨_,⟨dd,h1,h2,rfl⟩,h3⟩;exact ⟨dd,h1,h2,h3⟩
 ·rintro ⟨dd,h1,h2,h3⟩;exact ⟨_,⟨dd,h1,h2,rfl⟩,h3⟩
def jwJ (P:Program) (d:Option Nat) (s:St) (K:St->Prop) (op:BinOp) (ty:Nat) (x y:AV):Prop:=∃av,((∃a b v,x=.c (.v a)/\y=.c (.v b)/\jDm op a b v/\av=.c (.v v))\/
 (∃l m xs ys b,x=.agg l/\y=.agg m/\jcI l=some xs/\jcI m=some ys/\EqR P op ty xs ys b/\av=.c (.v (.bool b))))/\K (s.put d av)
theorem jzM (op:BinOp) (ty:Nat) (x y:X):vv P β ⟨d,g,.bin op ty x y⟩ s K=jwJ P d s K op ty (s.ev x) (s.ev y):=jnh rfl λ_ _ _ _=>Iff.rfl
theorem jy9 (op:BinOp) (ty:Nat) (a b:Value):jwJ P d s K op ty (.c (.v a)) (.c (.v b))=∃v,jDm op a b v/\K (s.put d (.c (.v v))):=by
 apply propext
 constructor
 ·rintro ⟨_,(⟨_,_,v,h1,h2,h3,rfl⟩|⟨_,_,_,_,_,h1,_⟩),h4⟩
  ·cases h1;cases h2;exact ⟨v,h3,h4⟩
  ·cases h1
 ·rintro ⟨v,h1,h2⟩;exact ⟨_,.inl ⟨_,_,v,rfl,rfl,h1,rfl⟩,h2⟩
theorem jC9 (op:BinOp) (ty:Nat) (k k':IntKind) (a b:Int):jwJ P d s K op ty (.c (.v (.int k a))) (.c (.v (.int k' b)))=(jxJ op k k' b/\K (s.put d (.c (.v (jfV op k a b))))):=by
 rw [jy9]
 apply propext
 constructor
 ·rintro ⟨_,⟨h1,rfl⟩,h2⟩;exact ⟨h1,h2⟩
 ·rintro ⟨h1,h2⟩;exact ⟨_,⟨h1,rfl⟩,h2⟩
theorem jyn (ty:Nat) (a b:ByteArray):jwJ P d s K .eql ty (.c (.v (.string a))) (.c (.v (.string b)))=K (s.put d (.c (.v (.bool (a.toList==b.toList))))):=by rw [jy9];simp [jDm]
def unK (d:Option Nat) (s:St) (K:St->Prop) (op:UnOp) (x:AV):Prop:=∃av,(match op with
 |.not=>∃b,x=.c (.v (.bool b))/\av=.c (.v (.bool (!b)))
 |.neg=>∃k n,x=.c (.v (.int k n))/\av=.c (.v (.int k (k.wrap (0-n))))
 |_=>False)/\K (s.put d av)
theorem jBz (op:UnOp) (x:X):vv P β ⟨d,g,.un op x⟩ s K=unK d s K op (s.ev x):=jnh rfl λ_ _ _ _=>Iff.rfl
theorem jzm (b:Bool):unK d s K .not (.c (.v (.bool b)))=K (s.put d (.c (.v (.bool (!b))))):=by simp [unK]
def cvK (d:Option Nat) (s:St) (K:St->Prop) (c:Cv) (x:AV):Prop:=∃av,(match c with
 |.num k=>∃k' n,x=.c (.v (.int k' n))/\av=.c (.v (.int k (k.wrap n)))
 |.text=>∃(a:A0) (ty:Nat) (bs:List UInt8),x=.c a/\Is s a (.sl 1 ty (bs.map vt))/\av=.c (.v (.string ⟨bs.toArray⟩))
 |.bytes=>False)/\K (s.put d av)
theorem jBH (c:Cv) (e:Nat) (x:X):vv P β ⟨d,g,.cv c e x⟩ s K=cvK d s K c (s.ev x):=jnh rfl λ_ _ _ _=>Iff.rfl
theorem jAO (k k':IntKind) (n:Int):cvK d s K (.num k) (.c (.v (.int k' n)))=K (s.put d (.c (.v (.int k (k.wrap n))))):=by
 apply propext
 constructor
 ·rintro ⟨_,⟨_,_,h1,rfl⟩,h⟩;cases h1;exact h
 ·intro h;exact ⟨_,⟨_,_,rfl,rfl⟩,h⟩
def mmK (d:Option Nat) (s:St) (K:St->Prop) (mx:Bool) (x y:AV):Prop:=∃av,(∃k k' a b,x=.c (.v (.int k a))/\y=.c (.v (.int k' b))/\av=.c (.v (.int k (if mx then (if b>a then b else a) else (if b<a then b else a)))))/\K (s.put d av)
theorem jBC (mx:Bool) (x y:X):vv P β ⟨d,g,.mm mx x y⟩ s K=mmK d s K mx (s.ev x) (s.ev y):=jnh rfl λ_ _ av os=>by
 simp only [Gen];constructor
 ·rintro ⟨k,k',a,b,h1,h2,h3,h4⟩;exact ⟨⟨k,k',a,b,h1,h2,h3⟩,h4⟩
 ·rintro ⟨⟨k,k',a,b,h1,h2,h3⟩,h4⟩;exact ⟨k,k',a,b,h1,h2,h3,h4⟩
theorem mmK_ (mx:Bool) (k k':IntKind) (a b:Int):mmK d s K mx (.c (.v (.int k a))) (.c (.v (.int k' b)))=K (s.put d (.c (.v (.int k (if mx then (if b>a then b else a) else (if b<a then b else a)))))):=by
 apply propext
 constructor
 ·rintro ⟨_,⟨_,_,_,_,h1,h2,rfl⟩,h⟩;cases h1;cases h2;exact h
 ·intro h;exact ⟨_,⟨_,_,_,_,rfl,rfl,rfl⟩,h⟩
def extK (d:Option Nat) (s:St) (K:St->Prop) (x:AV) (i:Nat):Prop:=∃av,(∃l b az,x=.tup l/\l[i]?=some (b,az)/\(if b then av=.agg az else∃a,az=[a]/\av=.c a))/\K (s.put d av)
theorem jzH (x:X) (i:Nat):vv P β ⟨d,g,.ext x i⟩ s K=extK d s K (s.ev x) i:=jnh rfl λ_ _ av os=>by
 simp only [Gen];constructor
 ·rintro ⟨l,b,az,h1,h2,h3,h4⟩;exact ⟨⟨l,b,az,h1,h2,h3⟩,h4⟩
 ·rintro ⟨⟨l,b,az,h1,h2,h3⟩,h4⟩;exact ⟨l,b,az,h1,h2,h3,h4⟩
def jDr (l:Option (Bool×List A0)) (k:AV->Prop):Prop:=match l with
 |some (true,az)=>k (.agg az)
 |some (false,[a])=>k (.c a)
 |_=>False
theorem extK_ (l:List (Bool×List A0)) (i:Nat):extK d s K (.tup l) i=jDr l[i]? λv=>K (s.put d v):=by
 apply propext
 unfold extK jDr;constructor
 ·rintro ⟨av,⟨l',b,az,h1,h2,h3⟩,h4⟩
  cases h1;rw [h2];cases b
  ·obtain ⟨a,rfl,rfl⟩:∃a,az=[a]/\av=.c a:=by simpa using h3
   exact h4
  ·obtain rfl:av=.agg az:=by simpa using h3
   exact h4
 ·split
  ·intro h;exact ⟨_,⟨_,_,_,rfl,by assumption,by simp⟩,h⟩
  ·intro h;exact ⟨_,⟨_,_,_,rfl,by assumption,by simp⟩,h⟩
  ·exact False.elim
theorem jCK (az:List A0) (k:AV->Prop):jDr (some (true,az)) k=k (.agg az):=(rfl)
theorem jCL (a:A0) (k:AV->Prop):jDr (some (false,[a])) k=k (.c a):=(rfl)
def jBw (d:Option Nat) (s:St) (K:St->Prop) (x i:AV):Prop:=∃av,(∃b k n u,x=.c (.v (.string b))/\i=.c (.v (.int k n))/\0<=n/\b[n.toNat]?=some u/\av=.c (.v (.int .u8 u.toNat)))/\K (s.put d av)
theorem jxb (x i:X):vv P β ⟨d,g,.sidx x i⟩ s K=jBw d s K (s.ev x) (s.ev i):=jnh rfl λ_ _ av os=>by
 simp only [Gen];constructor
 ·rintro ⟨b,k,n,u,h1,h2,h3,h4,h5,h6⟩;exact ⟨⟨b,k,n,u,h1,h2,h3,h4,h5⟩,h6⟩
 ·rintro ⟨⟨b,k,n,u,h1,h2,h3,h4,h5⟩,h6⟩;exact ⟨b,k,n,u,h1,h2,h3,h4,h5,h6⟩
theorem jBv (b:ByteArray) (k:IntKind) (n:Int):jBw d s K (.c (.v (.string b))) (.c (.v (.int k n)))=(0<=n/\∃u,b[n.toNat]?=some u/\K (s.put d (.c (.v (.int .u8 u.toNat))))):=by
 apply propext
 constructor
 ·rintro ⟨_,⟨_,_,_,u,h1,h2,h3,h4,rfl⟩,h5⟩;cases h1;cases h2;exact ⟨h3,u,h4,h5⟩
 ·rintro ⟨h3,u,h4,h5⟩;exact ⟨_,⟨_,_,_,u,rfl,rfl,h3,h4,rfl⟩,h5⟩
theorem jn {f:Nat} {args:List X} {vs:List View} {rt:RT} (hp:kg P f vs rt) (ha:zS s (args.map s.ev) vs) (hk:∀η:Nat->jm,K ((s.addO (jkP (100*(β+d.getD 0)) η 0 rt.flat)).put d (rt.av (100*(β+d.getD 0)) η))):
 vv P β ⟨d,g,.call f args⟩ s K:=Or.inl ⟨rt,λst=>⟨_,_,⟨vs,ha,hp,rfl,rfl⟩,hk st.η⟩⟩
theorem jfF {f:Nat} {args:List X} {R:RT->(Nat->Ob)->Prop} (h:Turns P f (args.map s.ev) s.o R) (hk:∀rt o',R rt o'->∀η:Nat->jm,K (((⟨s.t,o'⟩:St).addO (jkP (100*(β+d.getD 0)) η 0 rt.flat)).put d (rt.av (100*(β+d.getD 0)) η))):
 vv P β ⟨d,g,.call f args⟩ s K:=Or.inr (Or.inl ⟨h.1,λB w F xs h1 h2=>(h.2 B w F xs h1 h2).mono λe w' ⟨v,rt,o',S,F',k1,k2,k3,k4,k5,k6⟩=>⟨v,rt,o',S,F',k1,k2,k3,k4,k5,hk _ _ k6⟩⟩)
theorem qe {f:Nat} {args:List X} (h:Inl P f (args.map s.ev) s.o λav o'=>K (St.put ⟨s.t,o'⟩ d av)):vv P β ⟨d,g,.call f args⟩ s K:=Or.inr (Or.inr h)
theorem juz {f:Nat} {x:X} {caps:List A0} {args:List X} {R:RT->(Nat->Ob)->Prop} (h0:s.ev x=.fn f caps) (h:Turns P f (args.map s.ev++caps.map .c) s.o R) (hk:∀rt o',R rt o'->∀η:Nat->jm,K (((⟨s.t,o'⟩:St).addO (jkP (100*(β+d.getD 0)) η 0 rt.flat)).put d (rt.av (100*(β+d.getD 0)) η))):
 vv P β ⟨d,g,.callv x args⟩ s K:=Or.inr ⟨f,caps,h0,h.1,λB w F xs h1 h2=>(h.2 B w F xs h1 h2).mono λe w' ⟨v,rt,o',S,F',k1,k2,k3,k4,k5,k6⟩=>⟨v,rt,o',S,F',k1,k2,k3,k4,k5,hk _ _ k6⟩⟩
theorem jjI {f:Nat} {x:X} {caps:List A0} {args:List X} {vs:List View} {rt:RT} (h0:s.ev x=.fn f caps) (hp:kg P f vs rt) (ha:zS s (args.map s.ev++caps.map .c) vs) (hk:∀η:Nat->jm,K ((s.addO (jkP (100*(β+d.getD 0)) η 0 rt.flat)).put d (rt.av (100*(β+d.getD 0)) η))):
 vv P β ⟨d,g,.callv x args⟩ s K:=Or.inl ⟨rt,λst=>⟨_,_,⟨f,caps,vs,h0,ha,hp,rfl,rfl⟩,hk st.η⟩⟩
def jC8 (β:Nat) (d:Option Nat) (s:St) (K:St->Prop) (ty n:Nat) (x:AV):Prop:=∃l,x.cells=some l/\l.length=n/\qM s l λcs s'=>∀b,K ((s'.addO [(100*(β+d.getD 0),.box b ty cs)]).put d (.c (.bp (100*(β+d.getD 0)) 0 b)))
theorem jzK (ty n:Nat) (x:X):vv P β ⟨d,g,.box ty n x⟩ s K=jC8 β d s K ty n (s.ev x):=(rfl)
theorem jyk (ty n:Nat) (l:List A0):jC8 β d s K ty n (.agg l)=(l.length=n/\qM s l λcs s'=>∀b,K ((s'.addO [(100*(β+d.getD 0),.box b ty cs)]).put d (.c (.bp (100*(β+d.getD 0)) 0 b)))):=by simp [jC8,AV.cells]
theorem jC7 (ty n:Nat) (a:A0):jC8 β d s K ty n (.c a)=(a.c1=true/\1=n/\qM s [a] λcs s'=>∀b,K ((s'.addO [(100*(β+d.getD 0),.box b ty cs)]).put d (.c (.bp (100*(β+d.getD 0)) 0 b)))):=by
 unfold jC8 AV.cells;by_cases h:a.c1=true<;>simp [h]
theorem jwV (K:List Cell->St->Prop):qM s [] K=K [] s:=(rfl)
theorem jBa (x:Value) (l:List A0) (K:List Cell->St->Prop):qM s (.v x::l) K=(x.oneCell'=true/\qM s l (λcs s'=>K (.a (.v x)::cs) s')):=(rfl)
theorem jzn (x:D) (l:List A0) (K:List Cell->St->Prop):qM s (.ro x::l) K=qM s l (λcs s'=>K (.a (.ro x)::cs) s'):=by simp [qM,A0.one]
theorem one_i (k:IntKind) (n:Int):(Value.int k n).oneCell'=true:=(rfl)
theorem one_b (b:Bool):(Value.bool b).oneCell'=true:=(rfl)
theorem one_s (b:ByteArray):(Value.string b).oneCell'=true:=(rfl)
theorem one_n (a:Option Addr) (n c:Nat):(Value.slice a n c).oneCell'=true:=(rfl)
theorem jBb (k c:Nat) (x:Value) (l:List A0) (K:List Cell->St->Prop):qM s (.h k c [] x::l) K=∃d η,(s.o k).own c=some (d,η)/\η []=x/\qM (s.rm k c) l (λcs s'=>K (.own d η::cs) s'):=by simp [qM]
end
section
variable {P:Program} {β:Nat} {s:St} {K:St->Prop} {d:Option Nat} {l:List (Nat×List Lk)}
theorem jzQ:zz P β .done l s K=K s:=(rfl)
theorem jzO:zz P β .stop l s K=True:=(rfl)
theorem jzP (p:Nat) (i:I) (t:T):zz P β (.pure p ⟨d,none,i⟩ t) l s K=vv P β ⟨d,none,i⟩ s λs'=>zz P β t ((p,i.looks s)::l) s' K:=(rfl)
theorem jBI {n:Nat} (p:Nat) (i:I) (t:T) (h:s.t n=.c (.v (.bool true))):zz P β (.pure p ⟨d,some (n,true),i⟩ t) l s K=vv P β ⟨d,some (n,true),i⟩ s λs'=>zz P β t ((p,i.looks s)::l) s' K:=by simp [zz,zf,h]
theorem jBJ {n:Nat} (p:Nat) (i:I) (t:T) (h:s.t n=.c (.v (.bool false))):zz P β (.pure p ⟨d,some (n,true),i⟩ t) l s K=zz P β t l (s.put d (.c (.v undef))) K:=by simp [zz,zf,h]
theorem jBK {n:Nat} (p:Nat) (i:I) (t:T) (h:s.t n=.c (.v (.bool true))):zz P β (.pure p ⟨d,some (n,false),i⟩ t) l s K=zz P β t l (s.put d (.c (.v undef))) K:=by simp [zz,zf,h]
theorem jBL {n:Nat} (p:Nat) (i:I) (t:T) (h:s.t n=.c (.v (.bool false))):zz P β (.pure p ⟨d,some (n,false),i⟩ t) l s K=vv P β ⟨d,some (n,false),i⟩ s λs'=>zz P β t ((p,i.looks s)::l) s' K:=by simp [zz,zf,h]
theorem jBM (i:I) (chk:List Nat) (t r:T):zz P β (.alt ⟨d,none,i⟩ chk t r) l s K=(vv P β ⟨d,none,i⟩ s (λs'=>jnb s s' chk l/\zz P β t l s' K)/\zz P β r l s K):=(rfl)
theorem jBV {n:Nat} (i:I) (chk:List Nat) (t r:T) (h:s.t n=.c (.v (.bool true))):zz P β (.alt ⟨d,some (n,true),i⟩ chk t r) l s K=(vv P β ⟨d,some (n,true),i⟩ s (λs'=>jnb s s' chk l/\zz P β t l s' K)/\zz P β r l s K):=by simp [zz,zf,h]
theorem jBW {n:Nat} (i:I) (chk:List Nat) (t r:T) (h:s.t n=.c (.v (.bool false))):zz P β (.alt ⟨d,some (n,true),i⟩ chk t r) l s K=(zz P β t l (s.put d (.c (.v undef))) K/\zz P β r l s K):=by simp [zz,zf,h]
theorem jBX {n:Nat} (i:I) (chk:List Nat) (t r:T) (h:s.t n=.c (.v (.bool true))):zz P β (.alt ⟨d,some (n,false),i⟩ chk t r) l s K=(zz P β t l (s.put d (.c (.v undef))) K/\zz P β r l s K):=by simp [zz,zf,h]
theorem jBY {n:Nat} (i:I) (chk:List Nat) (t r:T) (h:s.t n=.c (.v (.bool false))):zz P β (.alt ⟨d,some (n,false),i⟩ chk t r) l s K=(vv P β ⟨d,some (n,false),i⟩ s (λs'=>jnb s s' chk l/\zz P β t l s' K)/\zz P β r l s K):=by simp [zz,zf,h]
theorem jzi (t:T) (Q:Ex->St->Prop):wpC P β (.dreg t) Q s=zz P β t [] s (Q .normal):=(rfl)
theorem jvr (s':St) (chk:List Nat):jnb s s' chk []=True:=(rfl)
theorem jtd (s':St) (chk:List Nat) (p:Nat) (ids:List Lk) (l:List (Nat×List Lk)):jnb s s' chk ((p,ids)::l)=((if chk.contains p then jqe s s' ids else True)/\jnb s s' chk l):=(rfl)
theorem jvs (s':St):jqe s s' []=True:=(rfl)
theorem jte (s':St) (k:Lk) (l:List Lk):jqe s s' (k::l)=(jry s s' k/\jqe s s' l):=(rfl)
theorem jAh (s':St) (g:Nat):jry s s' (.ob g)=(s'.o g=s.o g):=(rfl)
theorem jAi (s':St) (g c n:Nat):jry s s' (.cs g c n)=jsz g c n (s'.o g) (s.o g):=(rfl)
theorem jzx (g c n:Nat) (ob:Ob):jsz g c n ob ob=True:=eq_true (jjG g c n ob)
theorem juy (g c n b ty b' ty':Nat) (cs cs':List Cell):jsz g c n (.box b ty cs) (.box b' ty' cs')=(b=b'/\ty=ty'/\cs.length=cs'.length/\jdW g c ((cs.drop c).take n)=jdW g c ((cs'.drop c).take n)):=(rfl)
end
section
variable {α:Type} {enc:α->List D} {size:Nat}
theorem zZ (hl:∀x,(enc x).length=size) (hs:0<size) (ty:TypeId) (xs:List α):D.len (.sl size ty (xs.flatMap enc))=xs.length:=by
 simp only [D.len,D.cells,D.size];rw [jG hl,aNN _ hs]
theorem vQ (hl:∀x,(enc x).length=size) {ty:TypeId} {xs:List α} {k:Nat} {x:α} (hx:xs[k]?=some x):D.elem (.sl size ty (xs.flatMap enc)) k=enc x:=by
 have hk:k<xs.length:=(aMI.1 hx).1;have bQ:xs[k]=x:=by rw [aMK hk] at hx;exact aMW hx
 simp only [D.elem,D.cells,D.size];have e:xs=xs.take k++(x::xs.drop (k+1)):=by rw [<-bQ];simp
 have e2:xs.flatMap enc=(xs.take k).flatMap enc++(enc x++(xs.drop (k+1)).flatMap enc):=by
  conv=>lhs;rw [e]
  simp
 have e3:((xs.take k).flatMap enc).length=k*size:=by rw [jG hl,aMP,aNZ (by omega)]
 rw [e2,<-e3,List.drop_left,<-hl x,List.take_left]
end
theorem vB (l:List Rn):(jI l).len=l.length:=zZ (enc:=jc) (λ_=>rfl) (by decide) _ _
theorem jU {l:List Rn} {k:Nat} {x:Rn} (h:l[k]?=some x):(jI l).elem k=jc x:=vQ (enc:=jc) (λ_=>rfl) h
theorem jaP (l:List (List En)):(ku l).len=l.length:=zZ (enc:=λes=>[ji es]) (λ_=>rfl) (by decide) _ _
theorem kY {l:List (List En)} {k:Nat} {x:List En} (h:l[k]?=some x):(ku l).elem k=[ji x]:=vQ (enc:=λes=>[ji es]) (λ_=>rfl) h
theorem jdO (l:List En):(ji l).len=l.length:=zZ (enc:=jh) (λ_=>rfl) (by decide) _ _
theorem jH {l:List En} {k:Nat} {x:En} (h:l[k]?=some x):(ji l).elem k=jh x:=vQ (enc:=jh) (λ_=>rfl) h
theorem jdM (l:List Tk):(jC l).len=l.length:=zZ (enc:=jk) (λ_=>rfl) (by decide) _ _
theorem jS {l:List Tk} {k:Nat} {x:Tk} (h:l[k]?=some x):(jC l).elem k=jk x:=vQ (enc:=jk) (λ_=>rfl) h
theorem juk (l:List Rn):(jI l).isSl=true:=(rfl)
theorem jw3 (l:List (List En)):(ku l).isSl=true:=(rfl)
theorem jum (l:List En):(ji l).isSl=true:=(rfl)
theorem jui (l:List Tk):(jC l).isSl=true:=(rfl)
theorem jt8 (l:List Rn):(jI l).size=8:=(rfl)
theorem jwX (l:List (List En)):(ku l).size=1:=(rfl)
theorem jua (l:List En):(ji l).size=4:=(rfl)
theorem jt6 (l:List Tk):(jC l).size=4:=(rfl)
theorem juH (l:List Rn):(jI l).toRo=.ro (jI l):=(rfl)
theorem jxf (l:List (List En)):(ku l).toRo=.ro (ku l):=(rfl)
theorem jn4 (l:List En):(ji l).toRo=.ro (ji l):=(rfl)
theorem juF (l:List Tk):(jC l).toRo=.ro (jC l):=(rfl)
theorem juI (l:List Ed):(jv l).toRo=.ro (jv l):=(rfl)
theorem jBN (v:Value):(D.val v).toRo=.v v:=(rfl)
theorem jCw (vs:List View) (n:Nat):(St.init vs).o n=.none:=(rfl)
theorem jCv (vs:List View) (n:Nat):(St.init vs).t n=((vs.map View.av)[n]?).getD .unk:=(rfl)
def Goes (P:Program) (o:Oper) (a:Act) (w:World) (R:Value->World->Prop):Prop:=
 ∀(next:Act->World->Prop) (Q:Exit->Act->World->Prop),(∀v w',R v w'->next (a.put o.dst v) w')->o.wp P a w next Q
theorem Goes.of_run {P:Program} {o:Oper} {a:Act} {w w':World} {R:Value->World->Prop} {v:Value} (h:(execOp a.eval o).run P w=.ok (.value v) w') (hr:R v w'):Goes P o a w R:=
 λ_ _ hk=>by unfold Oper.wp;rw [h];exact hk v w' hr
def kE (B:Nat) (w:World) (G:AV->List (Nat×Ob)->Prop) (v:Value) (w':World):Prop:=∃av os S,VRel B w' av v/\jcD B w' os S/\Fresh w.heap.size S/\Below w.heap.size w w'/\G av os
section
variable {P:Program} {B N:Nat} {w w0:World} {s:St} {a:Act} {F:Nat->List Nat} {o:Oper} {G:AV->List (Nat×Ob)->Prop} {d:Nat} {rt:RT}
theorem vY {v:Value} {av:AV} (h:(execOp a.eval o).run P w=.ok (.value v) w) (hv:VRel B w av v) (hg:G av []):Goes P o a w (kE B w G):=
 Goes.of_run h ⟨av,[],[],hv,rfl,Fresh.nil _,Below.refl _ _,hg⟩
theorem mk_ {v:Value} {w':World} {av:AV} {os:List (Nat×Ob)} {S:List Nat} (h:(execOp a.eval o).run P w=.ok (.value v) w') (hv:VRel B w' av v) (hn:jcD B w' os S) (hf:Fresh w.heap.size S) (hb:Below w.heap.size w w') (hg:G av os):Goes P o a w (kE B w G):=
 Goes.of_run h ⟨av,os,S,hv,hn,hf,hb,hg⟩
theorem jrE (w:World) (o:Obj):(w.alloc o).heap[w.heap.size]?=some o:=by
 show (w.heap.push o)[w.heap.size]?=_;simp
theorem qV (h:RelF B w0 N s a w F) {x:Operand} {x':X} (hx:jQ x=some x'):VRel B w (s.ev x') (a.eval x):=by
 cases x with
 |tmp t=>simp [jQ] at hx;subst hx;exact h.sl t
 |global g=>simp [jQ] at hx
 |func f=>simp [jQ] at hx;subst hx;exact ⟨[],rfl,rfl⟩
 |const v=>
  simp only [jQ] at hx;split at hx
  ·rename_i hp
   simp at hx;subst hx;cases v with
   |agg cs=>
    refine ⟨cs.toList,by simp [Act.eval],?_⟩
    simp only [jhf,List.all_eq_true] at hp
    have:∀l:List Value,(∀x∈l,x.oneCell'=true)->A0RelL B w (l.map .v) l:=by
     intro l
     induction l with
     |nil=>intro _;rfl
     |cons x l ih=>intro hl;exact ⟨x,l,rfl,rfl,ih λy hy=>hl y (by simp [hy])⟩
    exact this _ hp
   |tuple _=>simp [jhf] at hp
   |_=>exact rfl
  ·simp at hx
theorem jiz (h:RelF B w0 N s a w F) {x:Operand} {x':X} (hx:jQ x=some x') {u:Value} (hu:s.ev x'=.c (.v u)):a.eval x=u:=by
 have:=qV h hx;rw [hu] at this;exact this
theorem go_mov (h:RelF B w0 N s a w F) {x:Operand} {x':X} (ho:o.op=.move x\/o.op=.assign x) (hx:jQ x=some x') (hg:∀st,∃av os,Gen P s d rt st (.mov x') av os/\G av os):Goes P o a w (kE B w G):=by
 obtain ⟨av,os,⟨rfl,rfl⟩,hG⟩:=hg ⟨0,λ_ _=>undef⟩
 refine vY (v:=a.eval x) ?_ (qV h hx) hG;rcases ho with ho|ho<;>simp [execOp,ho]
theorem go_pick (h:RelF B w0 N s a w F) {c x y:Operand} {c' x' y':X} (ho:o.op=.pick c x y) (hc:jQ c=some c') (hx:jQ x=some x') (hy:jQ y=some y')
 (hg:∀st,∃av os,Gen P s d rt st (.pick c' x' y') av os/\G av os):Goes P o a w (kE B w G):=by
 obtain ⟨av,os,⟨t,h1,rfl,rfl⟩,hG⟩:=hg ⟨0,λ_ _=>undef⟩
 have e:=jiz h hc h1;refine vY (v:=if t then a.eval x else a.eval y) ?_ ?_ hG
 ·simp [execOp,ho,e,asBool]
 ·cases t
  ·exact qV h hy
  ·exact qV h hx
theorem go_alloc (h:RelF B w0 N s a w F) {e:TypeId} {zs:List Value} (ho:o.op=.alloc e) (hz:vJ P e=some zs) (hg:∀st,∃av os,Gen P s d rt st (.alloc e zs) av os/\G av os):Goes P o a w (kE B w G):=by
 obtain ⟨av,os,⟨rfl,rfl⟩,hG⟩:=hg ⟨w.heap.size,λ_ _=>undef⟩
 unfold vJ at hz;split at hz
 ·rename_i i hi
  split at hz
  ·rename_i z eJ
   split at hz
   ·rename_i hc
    simp only [aMY,aNC,List.all_eq_true] at hc;simp at hz;subst hz
    have aS:(execOp a.eval o).run P w=.ok (.value (.pointer (some ⟨w.heap.size,0,none⟩))) (w.alloc (.cells z.cells e)):=by
     simp [execOp,ho,Instr.alloc,zeroValue,typeInfo,hi,eJ,newVar,newRow]
    have:∀l:List Value,(∀x∈l,x.oneCell'=true)->CRel B (w.alloc (.cells z.cells e)) (l.map λz=>Cell.a (.v z)) l []:=by
     intro l
     induction l with
     |nil=>intro _;exact ⟨rfl,rfl⟩
     |cons x l ih=>intro hl;exact ⟨x,l,rfl,rfl,ih λy hy=>hl y (by simp [hy])⟩
    have hn:jcD B (w.alloc (.cells z.cells e)) [(100*d,.box w.heap.size e (z.cells.toList.map λz=>.a (.v z)))] [w.heap.size]:=
     ⟨[w.heap.size],[],rfl,⟨z.cells.toList,[],jrE _ _,this _ hc.2,rfl⟩,rfl⟩
    have hv:VRel B (w.alloc (.cells z.cells e)) (.c (.bp (100*d) 0 w.heap.size)) (.pointer (some ⟨w.heap.size,0,none⟩)):=rfl;exact mk_ aS hv hn (Fresh.one _ _ (aMV _)) ((Below.refl _ _).alloc (aMV _) _) hG
   ·simp at hz
  ·simp at hz
 ·simp at hz
theorem jam (b o n:Nat):(⟨b,o,none⟩:Addr).add n=⟨b,o+n,none⟩:=by unfold Addr.add;split<;>simp_all
theorem jx5 (x:Value) (i n:Nat):(jb9 x i).add n=jb9 x (i+n):=by
 unfold jb9;split
 ·rw [jam];congr 1;omega
 ·rw [jam]
theorem RepL.drop {own:Bool}:∀(n:Nat) {ds:List D} {us:List Value} {S:List Nat},RepL w own ds us S->∃S',RepL w own (ds.drop n) (us.drop n) S'/\∀x∈S',x∈S
 |0,_,_,S,h=>⟨S,h,λ_ h=>h⟩
 |n+1,[],_,_,h=>by obtain ⟨rfl,rfl⟩:=h;exact ⟨[],⟨rfl,rfl⟩,by simp⟩
 |n+1,_::ds,_,_,⟨v,vs',S1,S2,rfl,rfl,_,h4⟩=>by
  obtain ⟨S',h5,h6⟩:=RepL.drop n h4;exact ⟨S',h5,λx hx=>by simp [h6 x hx]⟩
theorem RepL.take {own:Bool}:∀(n:Nat) {ds:List D} {us:List Value} {S:List Nat},RepL w own ds us S->∃S',RepL w own (ds.take n) (us.take n) S'/\∀x∈S',x∈S
 |0,_,_,S,h=>⟨[],⟨rfl,rfl⟩,by simp⟩
 |n+1,[],_,_,h=>by obtain ⟨rfl,rfl⟩:=h;exact ⟨[],⟨rfl,rfl⟩,by simp⟩
 |n+1,_::ds,_,_,⟨v,vs',S1,S2,rfl,rfl,h3,h4⟩=>by
  obtain ⟨S',h5,h6⟩:=RepL.take n h4;exact ⟨S1++S',RepL.cons_ h3 h5,λx hx=>by rcases aMN.1 hx with hx|hx;simp [hx];simp [h6 x hx]⟩
theorem go_fa0 (h:RelF B w0 N s a w F) {x:Operand} {x':X} {off:Nat} (hx:jQ x=some x') (aS:∀ad:Addr,a.eval x=.pointer (some ad)->(execOp a.eval o).run P w=.ok (.value (.pointer (some (ad.add off)))) w)
 (hg:∀st,∃av os,Gen P s d rt st (.fa off x') av os/\G av os):Goes P o a w (kE B w G):=by
 obtain ⟨av,os,⟨h1,rfl⟩,hG⟩:=hg ⟨0,λ_ _=>undef⟩
 have hv:=qV h hx;split at h1
 ·rename_i ds he
  subst h1;rw [he] at hv;obtain ⟨b,o',us,S,hp,h2,h3,h4,h5⟩:=hv;obtain ⟨S',h6,h7⟩:=RepL.drop off h2
  refine vY (aS _ hp) (by exact ⟨b,o'+off,us.drop off,S',by rw [jam],h6,λy hy=>h3 y (h7 y hy),λaR=>h4 λe=>aR (by rw [e];simp),λj y hy=>by
   rw [aOF] at hy;rw [aPT];exact h5 _ _ hy⟩) hG
 ·rename_i g c b he
  subst h1;rw [he] at hv;refine vY (aS _ hv) ?_ hG;rw [jam];rfl
 ·rename_i g c p i' x'' he
  subst h1;rw [he] at hv;refine vY (aS _ hv) ?_ hG;rw [jx5];rfl
 ·exact h1.elim
theorem go_fa (h:RelF B w0 N s a w F) {t:TypeId} {x:Operand} {x':X} {f n:Nat} {fs:Array Field} {fd:Field} (ho:o.op=.fieldAddr t x f) (ht:P.underlying t=some (.struct fs)) (hf:fs[f]?=some fd) (hn:qi P fd.type=some (n+1)) (hx:jQ x=some x')
 (hg:∀st,∃av os,Gen P s d rt st (.fa fd.offset x') av os/\G av os):Goes P o a w (kE B w G):=by
 obtain ⟨i,hi,dC⟩:∃i,P.info? fd.type=some i/\i.size=n+1:=by
  unfold qi at hn;cases hq:P.info? fd.type with
  |none=>simp [hq] at hn
  |some i=>exact ⟨i,rfl,by simpa [hq] using hn⟩
 exact go_fa0 h hx (λad he=>by
  simp [execOp,ho,Instr.fieldAt,run_underlying ht,hf,he,Instr.sureAddr,fieldPlace,sizeOf,typeInfo,hi,dC]) hg
theorem go_nc (h:RelF B w0 N s a w F) {x:Operand} {x':X} (ho:o.op=.nilCheck x) (hx:jQ x=some x')
 (hg:∀st,∃av os,Gen P s d rt st (.fa 0 x') av os/\G av os):Goes P o a w (kE B w G):=
 go_fa0 h hx (λad he=>by
  rw [show ad.add 0=ad from rfl]
  simp [execOp,ho,he]) hg
theorem RepL.ro_cells {own:Bool} {ds:List D} {us:List Value} {S:List Nat} (h:RepL w own ds us S) (hS:own=false/\∀x∈S,x<B):A0RelL B w (ds.map D.toRo) us:=by
 induction ds generalizing us S with
 |nil=>obtain ⟨rfl,_⟩:=h;rfl
 |cons d ds ih=>
  obtain ⟨v,vs',S1,S2,rfl,rfl,h3,h4⟩:=h;refine ⟨v,vs',rfl,?_,ih h4 ⟨hS.1,λx hx=>hS.2 x (by simp [hx])⟩⟩
  cases d with
  |val u=>exact h3.1
  |sl size ty cs=>exact ⟨rfl,S1,by rw [<-hS.1];exact h3,λx hx=>hS.2 x (by simp [hx])⟩
theorem A0RelL.of_get:∀{l:List A0} {us:List Value},us.length=l.length->(∀(j:Nat) (a:A0) (u:Value),l[j]?=some a->us[j]?=some u->A0Rel B w a u)->A0RelL B w l us
 |[],us,h,_=>aNF h
 |a::l,[],h,_=>by simp at h
 |a::l,u::us,h,hk=>⟨u,us,rfl,hk 0 a u rfl rfl,A0RelL.of_get (by simpa using h) λj a' u' h1 h2=>hk (j+1) a' u' h1 h2⟩
theorem CRel.load {g:Nat}:∀{cs:List Cell} {us:List Value} {S:List Nat} (c:Nat),CRel B w cs us S->A0RelL B w (jdW g c cs) us
 |[],_,_,_,⟨h,_⟩=>h
 |.a x::cs,_,_,c,⟨u,us',h1,h2,h3⟩=>⟨u,us',h1,h2,CRel.load (c+1) h3⟩
 |.own d η::cs,_,_,c,⟨u,us',S1,S2,h1,h2,h3,h4,h5,h6⟩=>by
  refine ⟨u,us',h1,⟨?_,?_⟩,CRel.load (c+1) h6⟩
  ·rw [h5,jao h3]
  ·rw [h5,jao h3]
   cases d with
   |val _=>cases h3
   |sl _ _ _=>obtain ⟨_,_,_,rfl⟩:=zq h4;rfl
theorem CRel.drop:∀(n:Nat) {cs:List Cell} {us:List Value} {S:List Nat},CRel B w cs us S->∃S',CRel B w (cs.drop n) (us.drop n) S'/\∀x∈S',x∈S
 |0,_,_,S,h=>⟨S,h,λ_ h=>h⟩
 |n+1,[],_,_,⟨h,h'⟩=>by subst h h';exact ⟨[],⟨rfl,rfl⟩,by simp⟩
 |n+1,.a _::cs,_,_,⟨u,us',h1,h2,h3⟩=>by
  subst h1;obtain ⟨S',h5,h6⟩:=CRel.drop n h3;exact ⟨S',h5,h6⟩
 |n+1,.own _ _::cs,_,_,⟨u,us',S1,S2,h1,h2,h3,h4,h5,h6⟩=>by
  subst h1 h2;obtain ⟨S',h7,h8⟩:=CRel.drop n h6;exact ⟨S',h7,λx hx=>by simp [h8 x hx]⟩
theorem CRel.take:∀(n:Nat) {cs:List Cell} {us:List Value} {S:List Nat},CRel B w cs us S->∃S',CRel B w (cs.take n) (us.take n) S'/\∀x∈S',x∈S
 |0,_,_,S,h=>⟨[],⟨rfl,rfl⟩,by simp⟩
 |n+1,[],_,_,⟨h,h'⟩=>by subst h h';exact ⟨[],⟨rfl,rfl⟩,by simp⟩
 |n+1,.a _::cs,_,_,⟨u,us',h1,h2,h3⟩=>by
  subst h1;obtain ⟨S',h5,h6⟩:=CRel.take n h3;exact ⟨S',⟨u,_,rfl,h2,h5⟩,h6⟩
 |n+1,.own _ _::cs,_,_,⟨u,us',S1,S2,h1,h2,h3,h4,h5,h6⟩=>by
  subst h1 h2;obtain ⟨S',h7,h8⟩:=CRel.take n h6;exact ⟨S1++S',⟨u,_,S1,S',rfl,rfl,h3,h4,h5,h7⟩,λx hx=>by rcases aMN.1 hx with hx|hx;simp [hx];simp [h8 x hx]⟩
theorem joB {g c:Nat} {p:List Nat} {η:jm}:∀{ds:List D} {i j:Nat} {d:D},ds[j]?=some d->(jhk g c p η i ds)[j]?=some (d.toOwn g c (p++[i+j]) η)
 |[],_,_,_,h=>by simp at h
 |_::_,i,0,_,h=>by simp at h;subst h;rfl
 |_::ds,i,j+1,_,h=>by
  have:=joB (g:=g) (c:=c) (p:=p) (η:=η) (ds:=ds) (i:=i+1) (j:=j) (by simpa using h)
  simp only [jhk,List.getElem?_cons_succ,this];rw [show i+1+j=i+(j+1) by omega]
theorem jj0 {g c:Nat} {p:List Nat} {η:jm}:∀{ds:List D} {i:Nat},(jhk g c p η i ds).length=ds.length
 |[],_=>rfl
 |_::ds,i=>by simp [jhk,jj0 (ds:=ds)]
theorem zt (h:RelF B w0 N s a w F) {g c:Nat} {p:List Nat} {x:Value} {d0 dd:D} {η:jm} (ho:(s.o g).own c=some (d0,η)) (hx:η p=x) (hg:D.get p d0=some dd) (hs:dd.isSl=true):
 ∃S,Rep w true dd x S/\∀q,η (p++q)=hdr w q dd x:=by
 obtain ⟨u,S',h1,h2,h3,h4⟩:=(h.ob g).own ho;obtain ⟨S2,h5,_⟩:=juS p h2 hg hs;rw [<-h3 p,hx] at h5;refine ⟨S2,h5,λq=>?_⟩
 rw [h3,<-hx,h3]
 have key:∀(p:List Nat) {d0:D} {u:Value} {S:List Nat},Rep w true d0 u S->D.get p d0=some dd->hdr w (p++q) d0 u=hdr w q dd (hdr w p d0 u):=by
  intro p
  induction p with
  |nil=>
   intro d0 u S _ hg;simp [D.get] at hg;subst hg;rw [aON,jao hs]
  |cons i p ih=>
   intro d0 u S hr hg;cases d0 with
   |val _=>simp [D.get] at hg
   |sl size ty cs=>
    simp only [D.get] at hg;obtain ⟨vs,T,S',k1,k2,k3⟩:=hr;cases hc:cs[i]? with
    |none=>rw [hc] at hg;simp at hg
    |some d=>
     rw [hc] at hg;obtain ⟨v,S1,k6,k7,k8⟩:=RepL.nth k2 hc;rcases qJ k1 with ⟨rfl,rfl⟩|⟨g,n,c,rfl,rfl,k4,k5,_⟩
     ·simp at k6
     ·simp only [aOS,hdr,hc,aOK,k5 i v k6,aMM]
      exact ih k7 hg
 exact key p h2 hg
theorem jru (h:RelF B w0 N s a w F) {A:AV} {u0:Value} {n:Nat} {l:List A0} (hv:VRel B w A u0) (h1:jav s n l A):
 ∃b k us,u0=.pointer (some ⟨b,k,none⟩)/\us.length=n/\l.length=n/\(∀j u,us[j]?=some u->w.cell? ⟨b,k+j,none⟩=some u)/\A0RelL B w l us:=by
 have key:∀(b k:Nat) (us:List Value),u0=.pointer (some ⟨b,k,none⟩)->us.length=n->l.length=n->(∀j u,us[j]?=some u->w.cell? ⟨b,k+j,none⟩=some u)->A0RelL B w l us->
  ∃b k us,u0=.pointer (some ⟨b,k,none⟩)/\us.length=n/\l.length=n/\(∀j u,us[j]?=some u->w.cell? ⟨b,k+j,none⟩=some u)/\A0RelL B w l us:=λb k us k1 k2 k3 k4 k5=>⟨b,k,us,k1,k2,k3,k4,k5⟩
 generalize he:A=A' at h1;unfold jav at h1;split at h1
 ·rename_i ds
  obtain ⟨h3,rfl⟩:=h1;rw [he] at hv;obtain ⟨b,k,us,S,hp,k2,k3,k4,k5⟩:=hv;obtain ⟨S',k6,k7⟩:=RepL.take n k2;have aD:=RepL.length _ k6;refine key b k (us.take n) hp (by rw [aD,aMP];omega) (by simp;omega) (λj u hu=>?_) (RepL.ro_cells k6 ⟨rfl,λy hy=>k3 y (k7 y hy)⟩)
  rw [aOG] at hu;split at hu
  ·exact k5 j u hu
  ·simp at hu
 ·rename_i g c b
  obtain ⟨ty,cs,h3,h4,rfl⟩:=h1;rw [he] at hv;have bL:=h.ob g;rw [h3] at bL;obtain ⟨us,S1,k1,k2,k3⟩:=bL;obtain ⟨S2,k4,k5⟩:=CRel.drop c k2;obtain ⟨S3,k6,k7⟩:=CRel.take n k4;have n6:=CRel.len k2;refine key b c ((us.drop c).take n) hv (by simp;omega) ?_ (λj u hu=>?_) (CRel.load c k6)
  ·have:∀(g c:Nat) (cs:List Cell),(jdW g c cs).length=cs.length:=by
    intro g c cs
    induction cs generalizing c with
    |nil=>rfl
    |cons x l ih=>cases x<;>simp [jdW,ih]
   rw [this];simp;omega
  ·rw [aOG] at hu
   split at hu
   ·rw [aOF] at hu
    simp [World.cell?,k1,hu]
   ·simp at hu
 ·rename_i g c p i' x''
  obtain ⟨d0,η,dd,h3,h4,h5,hs,h6,rfl⟩:=h1;rw [he] at hv;obtain ⟨S,k1,k2⟩:=zt h h3 h4 h5 hs;cases dd with
  |val _=>cases hs
  |sl size ty cs=>
   obtain ⟨vs,T,S',k3,k4,k5⟩:=k1;have bN:=RepL.length _ k4;simp only [D.cells] at h6 key;rcases qJ k3 with ⟨rfl,rfl⟩|⟨gg,nn,cc,rfl,rfl,k6,k7,_⟩
   ·have fF:cs=[]:=aNF (by simpa using bN.symm)
    subst fF;simp at h6;obtain ⟨rfl,rfl⟩:=h6;exact key 0 (0+0) [] (by rw [hv];rfl) rfl rfl (by simp) rfl
   ·refine key gg (0+i') ((vs.drop i').take n) (by rw [hv];rfl) (by simp;omega) (by rw [jj0];simp;omega) (λj u hu=>?_) (A0RelL.of_get (by rw [jj0];simp;omega) λj a0 u ha hu=>?_)
    ·rw [aOG] at hu
     split at hu
     ·rw [aOF] at hu
      rw [aOK];exact k7 _ _ hu
     ·simp at hu
    ·rw [aOG] at hu
     split at hu
     ·rename_i hj
      rw [aOF] at hu;obtain ⟨dj,nT⟩:∃dj,cs[i'+j]?=some dj:=⟨cs[i'+j],aMK (by omega)⟩
      have sK:((cs.drop i').take n)[j]?=some dj:=by rw [aOG,if_pos hj,aOF];exact nT
      rw [joB sK] at ha;simp at ha;subst ha;obtain ⟨u',S1,k8,k9,_⟩:=RepL.nth k4 nT;rw [hu] at k8;simp at k8;subst k8;cases dj with
      |val _=>exact k9.1
      |sl _ _ _=>
       have e:η (p++[i'+j])=u:=by rw [k2];simp [hdr,nT,k7 _ _ hu]
       obtain ⟨_,_,_,rfl⟩:=zq k9;exact ⟨e.symm,by rw [e];rfl⟩
     ·simp at hu
 ·exact h1.elim
def jA1:TypeDesc->Bool
 |.struct _|.array _ _=>true
 |_=>false
theorem jm6 {t:TypeId} {dsc:TypeDesc} {agg:Bool} {n b k:Nat} {us:List Value} (ht:P.underlying t=some dsc) (gN:agg=jA1 dsc) (hn:qi P t=some n) (hl:us.length=n)
 (hc:∀j u,us[j]?=some u->w.cell? ⟨b,k+j,none⟩=some u) {v:Value} (hv:if agg then v=.agg us.toArray else us=[v]):(loadVar t ⟨b,k,none⟩).run P w=.ok v w:=by
 obtain ⟨i,hi,dC⟩:∃i,P.info? t=some i/\i.size=n:=by
  unfold qi at hn;cases hq:P.info? t with
  |none=>simp [hq] at hn
  |some i=>exact ⟨i,rfl,by simpa [hq] using hn⟩
 cases agg with
 |true=>
  obtain rfl:v=.agg us.toArray:=by simpa using hv
  have xF:=run_loadCells_list (P:=P) w ⟨b,k,none⟩ us (λj u hu=>by rw [jam];exact hc j u hu)
  rw [hl] at xF
  have eS:(isAgg t).run P w=.ok true w:=by
   simp only [isAgg,Sem.run_bind,run_underlying ht];cases dsc<;>first|rfl|cases gN
  simp [loadVar,eS,sizeOf,typeInfo,hi,dC,xF]
 |false=>
  obtain rfl:us=[v]:=by simpa using hv
  have bU:=hc 0 v rfl
  have eS:(isAgg t).run P w=.ok false w:=by
   simp only [isAgg,Sem.run_bind,run_underlying ht];cases dsc<;>first|rfl|cases gN
  simp only [aMX] at bU;simp [loadVar,eS,bU]
theorem go_ld (h:RelF B w0 N s a w F) {t:TypeId} {x:Operand} {x':X} {agg:Bool} {n:Nat} {dsc:TypeDesc} (ho:o.op=.load t x) (ht:P.underlying t=some dsc) (gN:agg=jA1 dsc) (hn:qi P t=some n) (hx:jQ x=some x')
 (hg:∀st,∃av os,Gen P s d rt st (.ld agg n x') av os/\G av os):Goes P o a w (kE B w G):=by
 obtain ⟨av,os,⟨l,h1,h2,rfl⟩,hG⟩:=hg ⟨0,λ_ _=>undef⟩
 have hv:=qV h hx;obtain ⟨b,k,us,hp,hl,eV,hc,hr⟩:=jru h hv h1;cases agg with
 |true=>
  obtain rfl:av=.agg l:=by simpa using h2
  have:=jm6 (P:=P) (v:=.agg us.toArray) ht gN hn hl hc (by simp)
  refine vY (v:=.agg us.toArray) ?_ (by exact ⟨us,rfl,hr⟩) hG
  simp [execOp,ho,Instr.loadAt,hp,Instr.sureAddr,this]
 |false=>
  obtain ⟨a0,rfl,rfl⟩:∃a0,l=[a0]/\av=.c a0:=by simpa using h2
  obtain ⟨u,us',rfl,k1,k2⟩:=hr;have k3:us'=[]:=k2;subst k3;have:=jm6 (P:=P) (v:=u) ht gN hn hl hc (by simp)
  refine vY (v:=u) ?_ (by exact k1) hG
  simp [execOp,ho,Instr.loadAt,hp,Instr.sureAddr,this]
theorem jjC {t:TypeId} {n:Nat} (hn:qi P t=some n):∃i,P.info? t=some i/\i.size=n:=by
 unfold qi at hn;cases hq:P.info? t with
 |none=>simp [hq] at hn
 |some i=>exact ⟨i,rfl,by simpa [hq] using hn⟩
theorem zW {size:Nat} {ty:TypeId} {cs:List D} {u:Value} {S:List Nat} (h:Rep w false (.sl size ty cs) u S):
 ∃A n c vs S',u=.slice A n c/\cs.length=n*size/\RepL w false cs vs S'/\(∀x∈S',x∈S)/\n<=c/\c<=maxLen/\(A=none->c=0)/\(vs≠ []->∃b o,A=some ⟨b,o,none⟩/\b∈S/\∀j u,vs[j]?=some u->w.cell? ⟨b,o+j,none⟩=some u):=by
 obtain ⟨vs,T,S',⟨_,A,n,c,rfl,h2,h3,h4,h5,h6⟩,h7,rfl⟩:=h;refine ⟨A,n,c,vs,S',rfl,by rw [<-RepL.length _ h7];exact h2,h7,λx hx=>by simp [hx],h3,h4,h5,λaR=>?_⟩
 obtain ⟨b,o',rfl,rfl,h8⟩:=h6 aR;exact ⟨b,o',rfl,by simp,h8⟩
theorem jic {size:Nat} {ty:TypeId} {cs:List D} {n:Nat} (hs:0<size) (h:cs.length=n*size):D.len (.sl size ty cs)=n:=by
 simp only [D.len,D.cells,D.size,h];exact aNN _ hs
theorem juP {size:Nat} {ty:TypeId} {cs:List D} {A:Option Addr} {n c:Nat} {S:List Nat} {l hh:Nat} (hs:0<size) (hr:Rep w false (.sl size ty cs) (.slice A n c) S) (hS:∀b∈S,b<B) (h1:l<=hh) (h2:hh<=n):
 ∃S',Rep w false (D.sub (.sl size ty cs) l hh) (.slice (if c=l then A else A.map (·.add (l*size))) (hh-l) (c-l)) S'/\∀b∈S',b<B:=by
 obtain ⟨vs,T,S',⟨hT,A',n',c',he,h3,h4,h5,h6,h7⟩,h8,rfl⟩:=hr;cases he;obtain ⟨S2,h9,hU⟩:=RepL.drop (l*size) h8;obtain ⟨S3,nX,cC⟩:=RepL.take ((hh-l)*size) h9;have aBR:(hh-l)*size+l*size<=n*size:=by rw [<-aPP];exact aPI _ (by omega)
 have aD:((vs.drop (l*size)).take ((hh-l)*size)).length=(hh-l)*size:=by simp;omega
 by_cases aR:(vs.drop (l*size)).take ((hh-l)*size)=[]
 ·refine ⟨[]++S3,⟨_,[],S3,⟨by simp,_,_,_,rfl,aD,by omega,by omega,λhA=>?_,λh=>absurd aR h⟩,nX,rfl⟩,λb hb=>hS b (by simp [hU b (cC b (by simpa using hb))])⟩
  split at hA
  ·omega
  ·have:A=none:=by simpa using hA
   have:=h6 this;omega
 ·have aAS:vs≠ []:=λe=>aR (by subst e;simp)
  obtain ⟨b,o',rfl,rfl,h13⟩:=h7 aAS
  have dG:c≠l:=λe=>aR (by
   have:hh-l=0:=by omega
   rw [this];simp)
  refine ⟨[b]++S3,⟨_,[b],S3,⟨by simpa using hT,_,_,_,rfl,aD,by omega,by omega,by rw [if_neg dG];simp,λ_=>⟨b,o'+l*size,by rw [if_neg dG];simp [jam],rfl,λj u hu=>?_⟩⟩,nX,rfl⟩,λx hx=>?_⟩
  ·rw [aOG] at hu
   split at hu
   ·rw [aOF] at hu
    rw [aPT];exact h13 _ _ hu
   ·simp at hu
  ·rcases aMN.1 hx with hx|hx
   ·exact hS x (by simp at hx⊢;exact .inl hx)
   ·exact hS x (by simp [hU x (cC x hx)])
theorem jj5 (h:RelF B w0 N s a w F) {x:A0} {u:Value} {dd:D} (hr:A0Rel B w x u) (hi:Is s x dd):∃S,Rep w false dd u S:=by
 cases x with
 |v x=>
  have hr:u=x:=hr;subst hr;rcases hi with rfl|⟨rfl,size,ty,rfl⟩
  ·exact ⟨[],rfl,rfl⟩
  ·exact ⟨[],[],[],[],⟨by simp,none,0,0,rfl,by simp,aMV _,aNE _,λ_=>rfl,λh=>absurd rfl h⟩,RepL.nil_,rfl⟩
 |ro d'=>
  have hi:dd=d':=hi;subst hi;obtain ⟨_,S,h1,_⟩:=hr;exact ⟨S,h1⟩
 |h g c p x=>
  obtain ⟨hr,_⟩:=hr;subst hr;obtain ⟨d0,η,h1,h2,h3,h4⟩:=hi;obtain ⟨S,h5,_⟩:=zt h h1 h2 h3 h4;exact ⟨S,h5.ro⟩
 |hs g c p x size lo n=>
  obtain ⟨hr,_⟩:=hr;obtain ⟨d0,η,dd,h1,h2,h3,h4,h5,h6,h7,rfl⟩:=hi;obtain ⟨S,h8,_⟩:=zt h h1 h2 h3 h4;have h8:=h8.ro;cases dd with
  |val _=>cases h4
  |sl size' ty cs=>
   have mD:size'=size:=h5;subst mD;rcases hr with rfl|⟨_,rfl,A,rfl⟩;rotate_left
   ·refine ⟨[],[],[],[],⟨by simp,A,0,0,rfl,by simp,aMV _,aNE _,λ_=>rfl,λh=>absurd rfl h⟩,?_,rfl⟩
    have e:D.sub (.sl size' ty cs) lo (lo+0)=.sl size' ty []:=by simp [D.sub]
    simp only [aMX,Nat.sub_self,Nat.zero_mul,aNM];exact RepL.nil_
   obtain ⟨A,n',c',vs,S',hu,k5,_⟩:=zW h8;have aD:=jic (ty:=ty) h6 k5;rw [aD] at h7;rw [hu] at h8⊢;obtain ⟨S2,k7,_⟩:=juP (B:=w.heap.size) h6 h8 (Rep.lt _ h8) (aPM lo n) h7;have e:lo+n-lo=n:=by omega
   rw [e] at k7;exact ⟨S2,k7⟩
 |_=>exact hi.elim
theorem go_len (h:RelF B w0 N s a w F) {c:Call} {x:Operand} {x':X} (ho:o.op=.call c) (hc:c.callee=.builtin .len) (ha:c.args.toList=[x]) {str:Bool} (ht:if str then (c.argTypes[0]?).bind P.underlying=some .string else∃e,(c.argTypes[0]?).bind P.underlying=some (.slice e)) (hx:jQ x=some x')
 (hg:∀st,∃av os,Gen P s d rt st (.len str x') av os/\G av os):Goes P o a w (kE B w G):=by
 obtain ⟨av,os,⟨n,h1,rfl,rfl⟩,hG⟩:=hg ⟨0,λ_ _=>undef⟩
 have hv:=qV h hx;have cF:c.args=#[x]:=by rw [<-Array.toArray_toList (xs:=c.args),ha]
 have hty:∀td,(c.argTypes[0]?).bind P.underlying=some td->∃t,c.argTypes[0]?=some t/\P.underlying t=some td:=λtd hb=>by
  cases hq:c.argTypes[0]? with
  |none=>simp [hq] at hb
  |some t=>exact ⟨t,rfl,by simpa [hq] using hb⟩
 have pT:str=false->∀(A:Option Addr) (c':Nat),a.eval x=.slice A n c'->Goes P o a w (kE B w G):=λhf A c' he=>by
  rw [hf] at ht;obtain ⟨e,hb⟩:∃e,(c.argTypes[0]?).bind P.underlying=some (.slice e):=by simpa using ht
  obtain ⟨t,h2,h3⟩:=hty _ hb;refine vY (v:=.int .i64 n) ?_ (by exact rfl) hG
  simp [execOp,ho,resolve,hc,cF,he,invoke,builtin,Builtin.len_,h2,run_underlying h3,goInt]
 have hd:str=false->∀dd:D,dd.isSl=true->0<dd.size->n=dd.len->∀S,Rep w false dd (a.eval x) S->Goes P o a w (kE B w G):=λhf dd k1 k2 k3 S k4=>by
  cases dd with
  |val _=>cases k1
  |sl size ty cs=>
   obtain ⟨A,n',c',vs,S',he,k5,_⟩:=zW k4;obtain rfl:n=n':=by rw [k3];exact jic k2 k5
   exact pT hf A c' he
 unfold jtK at h1;split at h1
 ·rename_i b he
  have fE:=jiz h hx he;obtain ⟨t,h2,h3⟩:=hty _ (show (c.argTypes[0]?).bind P.underlying=some .string by simpa using ht)
  subst h1;refine vY (v:=.int .i64 b.size) ?_ (by exact rfl) hG
  simp [execOp,ho,resolve,hc,cF,fE,invoke,builtin,Builtin.len_,h2,run_underlying h3,goInt]
 ·rename_i he
  have fE:=jiz h hx he;subst h1;exact pT rfl none 0 fE
 ·rename_i dd he
  rw [he] at hv;obtain ⟨k1,S,k2,_⟩:=hv;exact hd rfl dd k1 h1.2.1 h1.2.2 S k2
 ·rename_i g c p x'' he
  obtain ⟨dd,k1,k2,k3⟩:=h1;rw [he] at hv;have hv:A0Rel B w (.h g c p x'') (a.eval x):=hv;obtain ⟨S,k4⟩:=jj5 h hv k1;obtain ⟨_,_,_,_,_,k5⟩:=k1;exact hd rfl dd k5 k2 k3 S k4
 ·rename_i g c p x'' size lo m he
  obtain ⟨⟨dd,d0,η,d1,k1,k2,k3,k4,k5,k6,k7,rfl⟩,rfl⟩:=h1;rw [he] at hv;have hv:a.eval x=jjb x'' size lo n\/0<lo/\n=0/\∃A,a.eval x=.slice A 0 0:=hv.1;rcases hv with hv|⟨_,rfl,A,hv⟩;rotate_left
  ·exact pT rfl _ _ hv
  obtain ⟨S,k8,_⟩:=zt h k1 k2 k3 k4;cases d1 with
  |val _=>cases k4
  |sl size' ty cs=>
   obtain ⟨A,n',c',vs,S',hu,_⟩:=zW k8.ro;subst hu;exact pT rfl _ _ hv
 ·exact h1.elim
theorem go_ia (h:RelF B w0 N s a w F) {t e:TypeId} {x i:Operand} {x' i':X} {m:Nat} (ho:o.op=.indexAddr t x i) (ht:P.underlying t=some (.slice e)) (hm:qi P e=some (m+1)) (hx:jQ x=some x') (hi:jQ i=some i')
 (hg:∀st,∃av os,Gen P s d rt st (.ia (m+1) x' i') av os/\G av os):Goes P o a w (kE B w G):=by
 obtain ⟨av,os,⟨k,n,h1,h2,h3,rfl⟩,hG⟩:=hg ⟨0,λ_ _=>undef⟩
 have hv:=qV h hx;have hiv:=jiz h hi h1;obtain ⟨inf,fA,cR⟩:=jjC hm
 have aS:∀(ad:Addr) (len c:Nat),a.eval x=.slice (some ad) len c->n<len->(execOp a.eval o).run P w=.ok (.value (.pointer (some (ad.add (n.toNat*(m+1)))))) w:=λad len c he aB=>by
  simp [execOp,ho,Instr.indexAt,asIntOf,hiv,he,run_underlying ht,h2,aB,sizeOf,typeInfo,fA,cR]
 split at h3
 ·rename_i dd he
  obtain ⟨k1,k2,k3,rfl⟩:=h3;rw [he] at hv;obtain ⟨_,S,k4,k5⟩:=hv;cases dd with
  |val _=>cases k1
  |sl size ty cs=>
   have k2':size=m+1:=k2;subst k2';obtain ⟨A,n',c',vs,S',hu,k6,k7,k8,k9,_,_,k10⟩:=zW k4;have aD:=jic (ty:=ty) (by omega:0<m+1) k6
   rw [aD] at k3;have bN:=RepL.length _ k7;have aBR:n.toNat*(m+1)+(m+1)<=n'*(m+1):=by rw [<-Nat.succ_mul];exact aPI _ k3
   obtain ⟨b,o',rfl,hb,k11⟩:=k10 (λe=>by subst e;simp at bN;omega)
   obtain ⟨S2,k12,k13⟩:=RepL.drop (n.toNat*(m+1)) k7;obtain ⟨S3,k14,k15⟩:=RepL.take (m+1) k12
   refine vY (aS _ _ _ hu (by omega)) (by
    refine ⟨b,o'+n.toNat*(m+1),(vs.drop (n.toNat*(m+1))).take (m+1),S3,by rw [jam],k14,λy hy=>k5 y (k8 y (k13 y (k15 y hy))),λ_=>k5 b hb,λj y hy=>?_⟩
    rw [aOG] at hy;split at hy
    ·rw [aOF] at hy
     rw [aPT];exact k11 _ _ hy
    ·simp at hy) hG
 ·rename_i g c p bQ he
  obtain ⟨⟨dd,k1,k2,k3⟩,rfl⟩:=h3;rw [he] at hv;have hv:a.eval x=bQ:=hv.1;obtain ⟨d0,η,k4,k5,k6,k7⟩:=k1;obtain ⟨S,k8,_⟩:=zt h k4 k5 k6 k7;cases dd with
  |val _=>cases k7
  |sl size ty cs=>
   have k2':size=m+1:=k2;subst k2';obtain ⟨vs,T,S',k9,k10,_⟩:=k8;have bN:=RepL.length _ k10;rcases qJ k9 with ⟨rfl,rfl⟩|⟨gg,nn,cc,rfl,rfl,k11,_,_⟩
   ·simp at bN
    simp [D.len,D.cells,<-bN] at k3
   ·have aD:D.len (.sl (m+1) ty cs)=nn:=jic (by omega) (by rw [<-bN];exact k11)
    rw [aD] at k3;refine vY (aS _ _ _ hv (by omega)) (by show _=_;rw [jam];rfl) hG
 ·rename_i g c p bQ sz lo m' he
  obtain ⟨⟨dd,d0,η,d1,k4,k5,k6,k7,k8,k9,k10,rfl⟩,rfl,k3,rfl⟩:=h3;rw [he] at hv;have hv:a.eval x=jjb bQ (m+1) lo m':=hv.1.resolve_right λ⟨_,hm0,_⟩=>by omega
  obtain ⟨S,k11,_⟩:=zt h k4 k5 k6 k7;cases d1 with
  |val _=>cases k7
  |sl size ty cs=>
   have k8':size=m+1:=k8;subst k8';obtain ⟨vs,T,S',k12,k13,_⟩:=k11;have bN:=RepL.length _ k13;rcases qJ k12 with ⟨rfl,rfl⟩|⟨gg,nn,cc,rfl,rfl,k14,_,_⟩
   ·simp at bN
    simp [D.len,D.cells,<-bN] at k10;omega
   ·have aD:D.len (.sl (m+1) ty cs)=nn:=jic (by omega) (by rw [<-bN];exact k14)
    rw [aD] at k10;obtain ⟨nv,bR,_⟩:=k12;obtain ⟨_,⟨h,_⟩|⟨g1,cap,cur,mT,_,_,aCV,_⟩⟩:=bR
    ·cases h
    ·cases mT
     have aR:cc≠lo:=by omega
     simp only [jjb,if_neg aR,Option.map_some] at hv
     refine vY (aS _ _ _ hv (by omega)) (by
      show _=_;rw [jam,jam,aPP,aOK];simp [jb9]) hG
 ·exact h3.elim
theorem go_sidx (h:RelF B w0 N s a w F) {t:TypeId} {x i:Operand} {x' i':X} (ho:o.op=.index t x i) (ht:P.underlying t=some .string) (hx:jQ x=some x') (hi:jQ i=some i')
 (hg:∀st,∃av os,Gen P s d rt st (.sidx x' i') av os/\G av os):Goes P o a w (kE B w G):=by
 obtain ⟨av,os,⟨b,k,n,u,h1,h2,h3,h4,rfl,rfl⟩,hG⟩:=hg ⟨0,λ_ _=>undef⟩
 refine vY (v:=.int .u8 u.toNat) ?_ (by exact rfl) hG
 simp [execOp,ho,Instr.index,asIntOf,jiz h hx h1,jiz h hi h2,run_underlying ht,h3,h4]
theorem go_mm (h:RelF B w0 N s a w F) {c:Call} {mx:Bool} {x y:Operand} {x' y':X} (ho:o.op=.call c) (hc:c.callee=.builtin (if mx then .max else .min)) (ha:c.args.toList=[x,y]) (hx:jQ x=some x') (hy:jQ y=some y')
 (hg:∀st,∃av os,Gen P s d rt st (.mm mx x' y') av os/\G av os):Goes P o a w (kE B w G):=by
 obtain ⟨av,os,⟨k,k',m,n,h1,h2,rfl,rfl⟩,hG⟩:=hg ⟨0,λ_ _=>undef⟩
 have cF:c.args=#[x,y]:=by rw [<-Array.toArray_toList (xs:=c.args),ha]
 refine vY (v:=.int k (if mx then (if n>m then n else m) else (if n<m then n else m))) ?_ (by exact rfl) hG
 cases mx
 ·simp at hc
  simp [execOp,ho,resolve,hc,cF,jiz h hx h1,jiz h hy h2,invoke,builtin,Builtin.min_,Builtin.min2]
 ·simp at hc
  simp [execOp,ho,resolve,hc,cF,jiz h hx h1,jiz h hy h2,invoke,builtin,Builtin.max_,Builtin.max2]
theorem go_un (h:RelF B w0 N s a w F) {op:UnOp} {t:TypeId} {x:Operand} {x':X} (ho:o.op=.unOp op t x) (hx:jQ x=some x')
 (hg:∀st,∃av os,Gen P s d rt st (.un op x') av os/\G av os):Goes P o a w (kE B w G):=by
 obtain ⟨av,os,⟨h1,rfl⟩,hG⟩:=hg ⟨0,λ_ _=>undef⟩
 cases op with
 |not=>
  obtain ⟨b,h2,rfl⟩:=h1;refine vY (v:=.bool (!b)) ?_ (by exact rfl) hG
  simp [execOp,ho,jiz h hx h2,Op.unary]
 |neg=>
  obtain ⟨k,n,h2,rfl⟩:=h1;refine vY (v:=.int k (k.wrap (0-n))) ?_ (by exact rfl) hG
  simp [execOp,ho,jiz h hx h2,Op.unary,Op.intArith]
 |_=>exact h1.elim
theorem go_beq (h:RelF B w0 N s a w F) {neg:Bool} {t t':TypeId} {x y:Operand} {x' y':X} (ho:o.op=.binOp (if neg then .neq else .eql) t x y t') (ht:P.underlying t=some .bool) (hx:jQ x=some x') (hy:jQ y=some y')
 (hg:∀st,∃av os,Gen P s d rt st (.beq neg x' y') av os/\G av os):Goes P o a w (kE B w G):=by
 obtain ⟨av,os,⟨b,c,h1,h2,rfl,rfl⟩,hG⟩:=hg ⟨0,λ_ _=>undef⟩
 refine vY (v:=.bool (if neg then !(b==c) else b==c)) ?_ (by exact rfl) hG
 cases neg
 ·simp at ho
  simp [execOp,ho,jiz h hx h1,jiz h hy h2,eqGuard,binOp,run_equal_bool (P:=P) w t b c ht]
 ·simp at ho
  simp [execOp,ho,jiz h hx h1,jiz h hy h2,eqGuard,binOp,run_equal_bool (P:=P) w t b c ht]
end
