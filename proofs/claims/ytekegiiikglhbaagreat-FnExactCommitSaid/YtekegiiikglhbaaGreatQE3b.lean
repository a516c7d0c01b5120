/- Parts. -/
import Derived.Test.YtekegiiikglhbaaGreatQE1
set_option linter.all false
namespace Go.Proofs.YtekegiiikglhbaaGreat
open Go.RowKit Go.Sort
def vT:Value->Nat->Addr
 |.slice (some a) _ _,k=>⟨a.block,a.off+k,none⟩
 |_,k=>⟨0,k,none⟩
def jmF (x:Value) (size lo n:Nat):Value:=match x with
 |.slice A _ c=>.slice (if c=lo then A else A.map (·.add (lo*size))) n (c-lo)
 |_=>undef
def A0Rel (B:Nat) (w:World):A0->Value->Prop
 |.v x,u=>u=x
 |.ro d,u=>d.isSl=true/\∃S,Rep w false d u S/\∀b∈S,b<B
 |.rp ds,u=>∃b o us S,u=.pointer (some ⟨b,o,none⟩)/\RepL w false ds us S/\(∀x∈S,x<B)/\(ds≠ []->b<B)/\∀j x,us[j]?=some x->w.cell? ⟨b,o+j,none⟩=some x
 |.h _ _ _ x,u=>u=x/\x.oneCell'=true
 |.bp _ c b,u=>u=.pointer (some ⟨b,c,none⟩)
 |.ep _ _ _ i x,u=>u=.pointer (some (vT x i))
 |.un,u=>u.oneCell'=true
 |.hs _ _ _ x size lo n,u=>(u=jmF x size lo n\/0<lo/\n=0/\∃A,u=.slice A 0 0)/\u.oneCell'=true
def A0RelL (B:Nat) (w:World):List A0->List Value->Prop
 |[],us=>us=[]
 |a::l,us=>∃u us',us=u::us'/\A0Rel B w a u/\A0RelL B w l us'
def TRelL (B:Nat) (w:World):List (Bool×List A0)->List Value->Prop
 |[],us=>us=[]
 |(b,az)::l,us=>∃u us' xs,us=u::us'/\A0RelL B w az xs/\(if b then u=.agg xs.toArray else xs=[u])/\TRelL B w l us'
def VRel (B:Nat) (w:World):AV->Value->Prop
 |.c a,u=>A0Rel B w a u
 |.agg l,u=>∃us:List Value,u=.agg us.toArray/\A0RelL B w l us
 |.fn f caps,u=>∃us:List Value,u=.func (.func f) #[] us.toArray/\A0RelL B w caps us
 |.tup l,u=>∃us:List Value,u=.tuple us.toArray/\TRelL B w l us
 |.unk,_=>True
def hdr (w:World):List Nat->D->Value->Value
 |[],.sl _ _ _,u=>u
 |i::p,.sl _ _ cs,.slice (some a) _ _=>match cs[i]? with
  |some d=>hdr w p d ((w.cell? ⟨a.block,a.off+i,none⟩).getD undef)
  |none=>undef
 |_,_,_=>undef
def CRel (B:Nat) (w:World):List Cell->List Value->List Nat->Prop
 |[],us,S=>us=[]/\S=[]
 |.a x::l,us,S=>∃u us',us=u::us'/\A0Rel B w x u/\CRel B w l us' S
 |.own d η::l,us,S=>∃u us' S1 S2,us=u::us'/\S=S1++S2/\d.isSl=true/\Rep w true d u S1/\(∀p,η p=hdr w p d u)/\CRel B w l us' S2
def ORel (B:Nat) (w:World):Ob->List Nat->Prop
 |.none,S=>S=[]
 |.loose d η,S=>d.isSl=true/\∃u,Rep w true d u S/\∀p,η p=hdr w p d u
 |.box b ty cs,S=>∃us S1,w.heap[b]?=some (.cells us.toArray ty (0,0))/\CRel B w cs us S1/\S=b::S1
structure RelF (B:Nat) (w0:World) (N:Nat) (s:St) (a:Act) (w:World) (F:Nat->List Nat):Prop where
 below:Below B w0 w
 hB:B<=w0.heap.size
 df:a.defers=[]
 sz:a.tmps.size=N
 sl:∀n,VRel B w (s.t n) (a.tmps.getD n undef)
 ob:∀g,ORel B w (s.o g) (F g)
 fr:∀g,Fresh B (F g)
 dj:∀g g',g≠g'->∀b∈F g,b∉F g'
section
variable {B:Nat} {w w' w0:World}
theorem qL {own:Bool} {size:Nat} {ty:TypeId} {cs:List D} {v:Value} {S:List Nat} (h:Rep w own (.sl size ty cs) v S):∃A n c,v=.slice A n c:=by
 obtain ⟨vs,T,S',hr,_,_⟩:=h;obtain ⟨_,A,n,c,rfl,_⟩:=hr.ro;exact ⟨A,n,c,rfl⟩
theorem A0Rel.mono (Z:Below B w w'):∀{a:A0} {u:Value},A0Rel B w a u->A0Rel B w' a u
 |.v _,_,h=>h
 |.ro _,_,⟨V,S,Y,h3⟩=>⟨V,S,Rep.keep _ Y λb hs=>Z.block b (h3 b hs),h3⟩
 |.rp ds,_,⟨b,o,us,S,V,Y,h3,h4,h5⟩=>⟨b,o,us,S,V,RepL.keep _ Y λb hs=>Z.block b (h3 b hs),h3,h4,λj x hx=>by
  have a7:ds≠ []:=λe=>by subst e;obtain ⟨rfl,_⟩:=Y;simp at hx
  rw [Z.cell (p:=⟨b,o+j,none⟩) (h4 a7)];exact h5 j x hx⟩
 |.h _ _ _ _,_,h=>h
 |.bp _ _ _,_,h=>h
 |.ep _ _ _ _ _,_,h=>h
 |.un,_,h=>h
 |.hs _ _ _ _ _ _ _,_,h=>h
theorem A0RelL.mono (Z:Below B w w'):∀{l:List A0} {us:List Value},A0RelL B w l us->A0RelL B w' l us
 |[],_,h=>h
 |_::_,_,⟨u,us',V,Y,h3⟩=>⟨u,us',V,Y.mono Z,A0RelL.mono Z h3⟩
theorem TRelL.mono (Z:Below B w w'):∀{l:List (Bool×List A0)} {us:List Value},TRelL B w l us->TRelL B w' l us
 |[],_,h=>h
 |(_,_)::_,_,⟨u,us',xs,V,Y,h3,h4⟩=>⟨u,us',xs,V,Y.mono Z,h3,TRelL.mono Z h4⟩
theorem VRel.mono (Z:Below B w w'):∀{v:AV} {u:Value},VRel B w v u->VRel B w' v u
 |.c _,_,h=>A0Rel.mono Z h
 |.agg _,_,⟨us,V,Y⟩=>⟨us,V,Y.mono Z⟩
 |.fn _ _,_,⟨us,V,Y⟩=>⟨us,V,Y.mono Z⟩
 |.tup _,_,⟨us,V,Y⟩=>⟨us,V,Y.mono Z⟩
 |.unk,_,h=>h
theorem A0Rel.one:∀{a:A0} {u:Value},A0Rel B w a u->a.one=true->u.oneCell'=true
 |.v _,_,h,h'=>by rw [show _=_ from h];exact h'
 |.ro d,u,⟨V,S,Y,_⟩,_=>by
  cases d with
  |val _=>cases V
  |sl size ty cs=>obtain ⟨A,n,c,rfl⟩:=qL Y;rfl
 |.rp _,_,⟨_,_,_,_,h,_⟩,_=>by rw [h];rfl
 |.h _ _ _ _,_,⟨h,h'⟩,_=>by rw [h];exact h'
 |.bp _ _ _,_,h,_=>by rw [show _=_ from h];rfl
 |.ep _ _ _ _ _,_,h,_=>by rw [show _=_ from h];rfl
 |.un,_,h,_=>h
 |.hs _ _ _ _ _ _ _,_,⟨_,h⟩,_=>h
theorem A0Rel.c1:∀{a:A0} {u:Value},A0Rel B w a u->a.c1=true->u.oneCell'=true
 |.v _,_,h,h'=>by rw [show _=_ from h];exact h'
 |.ro _,_,h,_=>h.one rfl
 |.rp _,_,h,_=>h.one rfl
 |.h _ _ _ _,_,⟨h,h'⟩,_=>by rw [h];exact h'
 |.bp _ _ _,_,h,_=>h.one rfl
 |.ep _ _ _ _ _,_,h,_=>h.one rfl
 |.un,_,h,_=>h
 |.hs _ _ _ _ _ _ _,_,⟨_,h⟩,_=>h
theorem jlI {u:Value} (h:u.oneCell'=true):u.cells=#[u]:=by cases u<;>first|rfl|cases h
theorem VRel.cells:∀{v:AV} {u:Value} {l:List A0},VRel B w v u->v.cells=some l->∃us:List Value,u.cells=us.toArray/\A0RelL B w l us
 |.c a,u,l,h,hl=>by
  simp only [AV.cells] at hl;split at hl
  ·simp at hl;subst hl
   exact ⟨[u],jlI (A0Rel.c1 h (by assumption)),u,[],rfl,h,rfl⟩
  ·simp at hl
 |.agg l',_,l,⟨us,V,Y⟩,hl=>by
  simp [AV.cells] at hl;subst hl;exact ⟨us,by rw [V];rfl,Y⟩
 |.fn _ _,_,_,_,hl=>by simp [AV.cells] at hl
 |.tup _,_,_,_,hl=>by simp [AV.cells] at hl
 |.unk,_,_,_,hl=>by simp [AV.cells] at hl
theorem A0RelL.len:∀{l:List A0} {us:List Value},A0RelL B w l us->us.length=l.length
 |[],_,h=>by rw [show _=_ from h];rfl
 |_::_,_,⟨_,_,V,_,h3⟩=>by subst V;simp [A0RelL.len h3]
theorem RepL.nth {own:Bool}:∀{cs:List D} {vs:List Value} {S:List Nat} {i:Nat} {d:D},RepL w own cs vs S->cs[i]?=some d->∃v S1,vs[i]?=some v/\Rep w own d v S1/\∀s∈S1,s∈S
 |[],_,_,_,_,_,h=>by simp at h
 |_::_,_,_,0,_,⟨v,vs',S1,S2,V,Y,h3,h4⟩,h=>by
  simp at h;subst h;exact ⟨v,S1,by rw [V];rfl,h3,λs hs=>by rw [Y];simp [hs]⟩
 |_::cs,_,_,i+1,_,⟨v,vs',S1,S2,V,Y,h3,h4⟩,h=>by
  simp at h;obtain ⟨v',S',h5,h6,h7⟩:=RepL.nth h4 h;exact ⟨v',S',by rw [V];simpa using h5,h6,λs hs=>by rw [Y];simp [h7 s hs]⟩
theorem kO {size:Nat} {ty:TypeId} {vs:List Value} {u:Value} {T:List Nat} (h:RowAt w true size ty vs u T):(u=.slice none 0 0/\vs=[])\/∃g n c,u=.slice (some ⟨g,0,none⟩) n c/\T=[g]/\vs.length=n*size/\(∀j v,vs[j]?=some v->w.cell? ⟨g,j,none⟩=some v)/\∀j,w.frozen? ⟨g,j,none⟩=false:=by
 obtain ⟨n,h,rfl⟩:=h;have V:=h.1;rcases h.2 with ⟨rfl,h0⟩|⟨g,cap,cur,rfl,Z,hg,hr⟩
 ·subst h0;exact .inl ⟨rfl,aBC (by simpa using V)⟩
 ·refine .inr ⟨g,n,cap,rfl,rfl,V,λj v hv=>?_,h.frozenAt⟩
  have:=h.cells (g:=g) rfl j v hv;have e:(⟨g,0,none⟩:Addr).add j=⟨g,j,none⟩:=by unfold Addr.add;split<;>simp_all
  rwa [e] at this
theorem jab:∀(p:List Nat) {d:D} {u:Value} {S:List Nat},Rep w true d u S->(∀b∈S,w'.heap[b]?=w.heap[b]?)->hdr w' p d u=hdr w p d u
 |[],.sl _ _ _,_,_,_,_=>rfl
 |[],.val _,_,_,_,_=>rfl
 |i::p,.val _,_,_,_,_=>rfl
 |i::p,.sl size ty cs,u,S,⟨vs,T,S',V,Y,h3⟩,hk=>by
  rcases kO V with ⟨rfl,_⟩|⟨g,n,c,rfl,rfl,h4,h5,_⟩
  ·rfl
  ·simp only [hdr]
   cases hc:cs[i]? with
   |none=>rfl
   |some d=>
    obtain ⟨v,S1,h6,h7,h8⟩:=RepL.nth Y hc;have e1:w.cell? ⟨g,0+i,none⟩=some v:=by rw [aBK];exact h5 i v h6
    have e2:w'.cell? ⟨g,0+i,none⟩=some v:=by
     rw [World.cell?_of_block (w:=w) (a:=⟨g,0+i,none⟩) (hk g (by rw [h3];simp))];exact e1
    simp only [e1,e2,aCF];exact jab p h7 λb Z=>hk b (by rw [h3];simp [h8 b Z])
theorem jln:∀(p:List Nat) {d d':D} {u:Value} {S:List Nat},Rep w true d u S->D.get p d=some d'->d'.isSl=true->∃S',Rep w true d' (hdr w p d u) S'/\∀s∈S',s∈S
 |[],.sl _ _ _,_,_,S,h,hg,_=>by simp [D.get] at hg;subst hg;exact ⟨S,h,λ_ h=>h⟩
 |[],.val _,_,_,_,_,hg,hs=>by simp [D.get] at hg;subst hg;cases hs
 |i::p,.val _,_,_,_,_,hg,_=>by simp [D.get] at hg
 |i::p,.sl size ty cs,d',u,S,⟨vs,T,S',V,Y,h3⟩,hg,hs=>by
  simp only [D.get] at hg;cases hc:cs[i]? with
  |none=>rw [hc] at hg;simp at hg
  |some d=>
   rw [hc] at hg;obtain ⟨v,S1,h6,h7,h8⟩:=RepL.nth Y hc;rcases kO V with ⟨rfl,rfl⟩|⟨g,n,c,rfl,rfl,h4,h5,_⟩
   ·simp at h6
   ·simp only [hdr,hc,aBK,h5 i v h6,aCF]
    obtain ⟨S2,h9,eD⟩:=jln p h7 hg hs;exact ⟨S2,h9,λs hs=>by rw [h3];simp [h8 s (eD s hs)]⟩
theorem qZ {d:D} {u:Value} (h:d.isSl=true):hdr w [] d u=u:=by cases d<;>first|rfl|cases h
theorem CRel.keep (Z:Below B w w'):∀{cs:List Cell} {us:List Value} {S:List Nat},CRel B w cs us S->(∀b∈S,w'.heap[b]?=w.heap[b]?)->CRel B w' cs us S
 |[],_,_,h,_=>h
 |.a _::_,_,_,⟨u,us',V,Y,h3⟩,hk=>⟨u,us',V,Y.mono Z,CRel.keep Z h3 hk⟩
 |.own _ _::_,_,_,⟨u,us',S1,S2,V,Y,h3,h4,h5,h6⟩,hk=>⟨u,us',S1,S2,V,Y,h3,Rep.keep _ h4 λb hs=>hk b (by rw [Y];simp [hs]),
  λp=>by rw [jab p h4 λb hs=>hk b (by rw [Y];simp [hs])];exact h5 p,CRel.keep Z h6 λb hs=>hk b (by rw [Y];simp [hs])⟩
theorem CRel.lt:∀{cs:List Cell} {us:List Value} {S:List Nat},CRel B w cs us S->∀b∈S,b<w.heap.size
 |[],_,_,⟨_,h⟩,b,Z=>by rw [h] at Z;simp at Z
 |.a _::_,_,_,⟨_,_,_,_,h⟩,b,Z=>CRel.lt h b Z
 |.own _ _::_,_,_,⟨u,us',S1,S2,_,Y,_,h4,_,h6⟩,b,Z=>by
  rw [Y] at Z;rcases aAS.1 Z with Z|Z
  ·exact Rep.lt _ h4 b Z
  ·exact CRel.lt h6 b Z
theorem CRel.len:∀{cs:List Cell} {us:List Value} {S:List Nat},CRel B w cs us S->us.length=cs.length
 |[],_,_,⟨h,_⟩=>by rw [h];rfl
 |.a _::_,_,_,⟨_,_,V,_,h3⟩=>by subst V;simp [CRel.len h3]
 |.own _ _::_,_,_,⟨_,_,_,_,V,_,_,_,_,h6⟩=>by subst V;simp [CRel.len h6]
theorem ORel.keep (Z:Below B w w'):∀{ob:Ob} {S:List Nat},ORel B w ob S->(∀b∈S,w'.heap[b]?=w.heap[b]?)->ORel B w' ob S
 |.none,_,h,_=>h
 |.loose _ _,_,⟨h0,u,V,Y⟩,hk=>⟨h0,u,Rep.keep _ V hk,λp=>by rw [jab p V hk];exact Y p⟩
 |.box b _ _,_,⟨us,S1,V,Y,h3⟩,hk=>⟨us,S1,(hk b (by rw [h3];simp)).trans V,Y.keep Z λx hx=>hk x (by rw [h3];simp [hx]),h3⟩
theorem ORel.lt:∀{ob:Ob} {S:List Nat},ORel B w ob S->∀b∈S,b<w.heap.size
 |.none,_,h,b,Z=>by rw [show _=_ from h] at Z;simp at Z
 |.loose _ _,_,⟨_,u,V,_⟩,b,Z=>Rep.lt _ V b Z
 |.box b' _ _,_,⟨us,S1,V,Y,h3⟩,b,Z=>by
  rw [h3] at Z;rcases aBB.1 Z with rfl|Z
  ·exact qR V
  ·exact Y.lt b Z
theorem ORel.own:∀{ob:Ob} {S:List Nat} {c:Nat} {d:D} {η:jl},ORel B w ob S->ob.own c=some (d,η)->∃u S',d.isSl=true/\Rep w true d u S'/\(∀p,η p=hdr w p d u)/\∀s∈S',s∈S
 |.none,_,_,_,_,_,h=>by simp [Ob.own] at h
 |.loose d' aW,S,0,d,η,⟨h0,u,V,Y⟩,h=>by simp [Ob.own] at h;obtain ⟨rfl,rfl⟩:=h;exact ⟨u,S,h0,V,Y,λ_ h=>h⟩
 |.loose _ _,_,c+1,_,_,_,h=>by simp [Ob.own] at h
 |.box b ty cs,S,c,d,η,⟨us,S1,V,Y,h3⟩,h=>by
  have:∀{cs:List Cell} {us:List Value} {S1:List Nat} {c:Nat},CRel B w cs us S1->cs[c]?=some (.own d η)->∃u S',d.isSl=true/\Rep w true d u S'/\(∀p,η p=hdr w p d u)/\∀s∈S',s∈S1:=by
   intro cs
   induction cs with
   |nil=>intro _ _ _ _ h;simp at h
   |cons x l ih=>
    intro us S1 c hr hc;cases x with
    |a x=>
     obtain ⟨u,us',rfl,_,h5⟩:=hr;cases c with
     |zero=>simp at hc
     |succ c=>exact ih h5 (by simpa using hc)
    |own d' aW=>
     obtain ⟨u,us',S2,S3,rfl,rfl,k0,k1,k2,k3⟩:=hr;cases c with
     |zero=>simp at hc;obtain ⟨rfl,rfl⟩:=hc;exact ⟨u,S2,k0,k1,k2,λs hs=>by simp [hs]⟩
     |succ c=>
      obtain ⟨u',S',k4,k5,k6,k7⟩:=ih k3 (by simpa using hc)
      exact ⟨u',S',k4,k5,k6,λs hs=>by simp [k7 s hs]⟩
  simp only [Ob.own] at h;split at h
  ·rename_i d' aW hc
   simp at h;obtain ⟨rfl,rfl⟩:=h;obtain ⟨u,S',k1,k2,k3,k4⟩:=this Y hc;exact ⟨u,S',k1,k2,k3,λs hs=>by rw [h3];simp [k4 s hs]⟩
  ·simp at h
variable {N:Nat} {s:St} {a:Act} {F:Nat->List Nat}
theorem RelF.world (h:RelF B w0 N s a w F) (Z:Below w.heap.size w w'):RelF B w0 N s a w' F:=by
 have hB:B<=w.heap.size:=aBU h.hB h.below.size;have aS:=Z.mono hB;exact ⟨h.below.trans aS,h.hB,h.df,h.sz,λn=>(h.sl n).mono aS,λg=>(h.ob g).keep aS λb hs=>Z.block b ((h.ob g).lt b hs),h.fr,h.dj⟩
theorem RelF.put (h:RelF B w0 N s a w F) {v:AV} {u:Value} (hv:VRel B w v u) {d:Option Nat} (hd:∀k,d=some k->k<N):RelF B w0 N (s.put d v) (a.put d u) w F:=by
 cases d with
 |none=>exact h
 |some k=>
  have hk:=hd k rfl;refine ⟨h.below,h.hB,h.df,by simp [Act.put,h.sz],λn=>?_,h.ob,h.fr,h.dj⟩
  simp only [St.put,Act.put];by_cases hn:n=k
  ·subst hn
   rw [if_pos rfl];simp [Array.getD_eq_getD_getElem?,h.sz,hk];exact hv
  ·rw [if_neg hn]
   simp [Array.getD_eq_getD_getElem?,Array.getElem?_setIfInBounds_ne (Ne.symm hn)];simpa [Array.getD_eq_getD_getElem?] using h.sl n
theorem RelF.setO (h:RelF B w0 N s a w F) {g:Nat} {ob:Ob} {S:List Nat} (ho:ORel B w ob S) (hf:Fresh B S) (hd:∀g',g'≠g->∀b∈S,b∉F g'):
 RelF B w0 N (s.setO g ob) a w (λk=>if k=g then S else F k):=by
 refine ⟨h.below,h.hB,h.df,h.sz,h.sl,λk=>?_,λk=>?_,λk k' a7 b Z aS=>?_⟩
 ·simp only [St.setO];split
  ·exact ho
  ·exact h.ob k
 ·split
  ·exact hf
  ·exact h.fr k
 ·have aH:b∈(if k=g then S else F k):=Z
  have bA:b∈(if k'=g then S else F k'):=aS
  split at aH<;>split at bA
  ·omega
  ·exact hd k' (by omega) b aH bA
  ·exact hd k (by omega) b bA aH
  ·exact h.dj k k' a7 b aH bA
def zh (B:Nat) (w:World):List (Nat×Ob)->List Nat->Prop
 |[],S=>S=[]
 |(_,ob)::l,S=>∃S1 S2,S=S1++S2/\ORel B w ob S1/\zh B w l S2
theorem RelF.addO:∀{os:List (Nat×Ob)} {s:St} {S:List Nat} {F:Nat->List Nat},RelF B w0 N s a w F->zh B w os S->Fresh B S->(∀g,∀b∈S,b∉F g)->∃F',RelF B w0 N (s.addO os) a w F'
 |[],s,S,F,h,_,_,_=>⟨F,h⟩
 |(g,ob)::os,s,S,F,h,⟨S1,S2,hS,ho,hn⟩,hf,hd=>by
  subst hS;have V:=h.setO (g:=g) ho hf.left λg' _ b Z=>hd g' b (by simp [Z])
  have Y:=RelF.addO V hn hf.right (λk b Z=>by
   by_cases hk:k=g
   ·rw [if_pos hk];exact λaS=>hf.apart b aS Z
   ·rw [if_neg hk];exact hd k b (by simp [Z]))
  exact Y
theorem RelF.rm (h:RelF B w0 N s a w F) {g c:Nat} {d:D} {η:jl} (ho:(s.o g).own c=some (d,η)):
 ∃u S F',d.isSl=true/\Rep w true d u S/\(∀p,η p=hdr w p d u)/\Fresh B S/\RelF B w0 N (s.rm g c) a w F'/\(∀g',∀b∈S,b∉F' g')/\(∀b∈S,b∈F g)/\∀g' b,b∈F' g'->b∈F g':=by
 have nC:=h.ob g;have iH:=h.fr g;unfold St.rm;cases bL:s.o g with
 |none=>rw [bL] at ho;simp [Ob.own] at ho
 |loose d' aW=>
  rw [bL] at ho nC;cases c with
  |succ c=>simp [Ob.own] at ho
  |zero=>
   simp [Ob.own] at ho;obtain ⟨rfl,rfl⟩:=ho;obtain ⟨h0,u,V,Y⟩:=nC;refine ⟨u,F g,_,h0,V,Y,iH,h.setO (S:=[]) (ob:=(Ob.loose d' aW).rm 0) (by simp [Ob.rm,ORel]) (Fresh.nil _) (by simp),λg' b Z aS=>?_,λ_ h=>h,λg' b Z=>?_⟩
   ·split at aS
    ·simp at aS
    ·exact h.dj g g' (by omega) b Z aS
   ·split at Z
    ·simp at Z
    ·exact Z
 |box b ty cs=>
  rw [bL] at ho nC;obtain ⟨us,S1,V,Y,h3⟩:=nC
  have key:∀{cs:List Cell} {us:List Value} {S1:List Nat} {c:Nat},CRel B w cs us S1->S1.Nodup->cs[c]?=some (.own d η)->
   ∃u S S',d.isSl=true/\Rep w true d u S/\(∀p,η p=hdr w p d u)/\CRel B w (cs.set c (.a (.v (η [])))) us S'/\(∀x,x∈S1↔x∈S\/x∈S')/\S'.Nodup/\S.Nodup/\∀x∈S,x∉S':=by
   intro cs
   induction cs with
   |nil=>intro _ _ _ _ _ h;simp at h
   |cons x l ih=>
    intro us S1 c hr aY hc;cases x with
    |a x=>
     obtain ⟨u,us',rfl,k1,k2⟩:=hr;cases c with
     |zero=>simp at hc
     |succ c=>
      obtain ⟨u',S,S',j1,j2,j3,j4,j5,j6,j7,j8⟩:=ih k2 aY (by simpa using hc)
      exact ⟨u',S,S',j1,j2,j3,⟨u,us',rfl,k1,j4⟩,j5,j6,j7,j8⟩
    |own d' aW=>
     obtain ⟨u,us',S2,S3,rfl,rfl,k0,k1,k2,k3⟩:=hr;have eN:=aAU.1 aY;cases c with
     |zero=>
      simp at hc;obtain ⟨rfl,rfl⟩:=hc;refine ⟨u,S2,S3,k0,k1,k2,⟨u,us',rfl,?_,k3⟩,λx=>aAS,eN.2.1,eN.1,λx hx cL=>eN.2.2 x hx x cL rfl⟩
      show u=aW [];rw [k2,qZ k0]
     |succ c=>
      obtain ⟨u',S,S',j1,j2,j3,j4,j5,j6,j7,j8⟩:=ih k3 eN.2.1 (by simpa using hc)
      refine ⟨u',S,S2++S',j1,j2,j3,⟨u,us',S2,S',rfl,rfl,k0,k1,k2,j4⟩,λx=>?_,aAU.2 ⟨eN.1,j6,λa ha b Z e=>eN.2.2 a ha b ((j5 b).2 (.inr Z)) e⟩,j7,λx hx cL=>?_⟩
      ·rw [aAS,aAS,j5];grind
      ·rcases aAS.1 cL with cL|cL
       ·exact eN.2.2 x cL x ((j5 x).2 (.inl hx)) rfl
       ·exact j8 x hx cL
  have hc:cs[c]?=some (.own d η):=by
   simp only [Ob.own] at ho;split at ho
   ·simp at ho;obtain ⟨rfl,rfl⟩:=ho;assumption
   ·simp at ho
  have aY:(b::S1).Nodup:=by rw [<-h3];exact iH.1
  obtain ⟨u,S,S',j1,j2,j3,j4,j5,j6,j7,j8⟩:=key Y (aBN.1 aY).2 hc;have hS:∀x∈S,x∈F g:=λx hx=>by rw [h3];simp [(j5 x).2 (.inl hx)]
  have mT:∀x∈b::S',x∈F g:=λx hx=>by
   rw [h3];rcases aBB.1 hx with rfl|hx
   ·simp
   ·simp [(j5 x).2 (.inr hx)]
  have iJ:b∉S':=λZ=>(aBN.1 aY).1 ((j5 b).2 (.inr Z))
  have l5:(Ob.box b ty cs).rm c=.box b ty (cs.set c (.a (.v (η [])))):=by simp only [Ob.rm,hc,rmC]
  refine ⟨u,S,_,j1,j2,j3,⟨j7,λx hx=>iH.2 x (hS x hx)⟩,h.setO (S:=b::S') (ob:=(Ob.box b ty cs).rm c) (by rw [l5];exact ⟨us,S',V,j4,rfl⟩) ⟨aBN.2 ⟨iJ,j6⟩,λx hx=>iH.2 x (mT x hx)⟩ (λg' hg x hx=>h.dj g g' (Ne.symm hg) x (mT x hx)),λg' x hx cL=>?_,hS,λg' x hx=>?_⟩
  ·split at cL
   ·rcases aBB.1 cL with rfl|cL
    ·exact (aBN.1 aY).1 ((j5 x).2 (.inl hx))
    ·exact j8 x hx cL
   ·exact h.dj g g' (by omega) x (hS x hx) cL
  ·split at hx
   ·rename_i e;subst e;exact mT x hx
   ·exact hx
end
def jgc (B:Nat) (w:World):List AV->List Value->Prop
 |[],xs=>xs=[]
 |a::l,xs=>∃x xs',xs=x::xs'/\VRel B w a x/\jgc B w l xs'
abbrev St.only (o:Nat->Ob):St:=⟨λ_=>.unk,o⟩
def Act.bare:Act:={tmps:=#[],defers:=[]}
def Turns (P:Program) (f:FuncId) (args:List AV) (o:Nat->Ob) (R:RT->(Nat->Ob)->Prop):Prop:=
 jgd P f/\∀(B:Nat) (w:World) (F:Nat->List Nat) (xs:List Value),RelF B w 0 (.only o) Act.bare w F->jgc B w args xs->
  Calls P f xs.toArray w λe w'=>∃v rt o' S F',e=.returned v/\RelF B w 0 (.only o') Act.bare w' F'/\jhu w' rt v S/\Fresh B S/\(∀g,∀b∈S,b∉F' g)/\R rt o'
def Inl (P:Program) (f:FuncId) (args:List AV) (o:Nat->Ob) (R:AV->(Nat->Ob)->Prop):Prop:=
 jgd P f/\∀(B:Nat) (w:World) (F:Nat->List Nat) (xs:List Value),RelF B w 0 (.only o) Act.bare w F->jgc B w args xs->
  Calls P f xs.toArray w λe w'=>∃v av o',∃F':Nat->List Nat,e=.returned v/\RelF B w 0 (.only o') Act.bare w' F'/\VRel B w' av v/\R av o'
def D.put:List Nat->Nat->List D->D->D
 |[],i,ds,.sl size ty cs=>.sl size ty (kg cs i ds)
 |k::p,i,ds,.sl size ty cs=>.sl size ty (match cs[k]? with
  |some d=>cs.set k (D.put p i ds d)
  |none=>cs)
 |_,_,_,.val u=>.val u
def jik (p:List Nat) (i n:Nat) (q:List Nat):Prop:=∃j r,q=p++j::r/\i<=j/\j<i+n
def stH (flat:Bool) (p:List Nat) (k n:Nat) (η:jl) (K:jl->Prop):Prop:=match flat with
 |true=>K η
 |false=>∀aW,(∀q,¬jik p k n q->aW q=η q)->K aW
theorem jis {flat:Bool} {p:List Nat} {k n:Nat} {η:jl} {K K':jl->Prop} (h:∀aW,K aW->K' aW) (hk:stH flat p k n η K):stH flat p k n η K':=by
 cases flat with
 |true=>exact h _ hk
 |false=>exact λaW hη=>h _ (hk aW hη)
theorem joB {flat:Bool} {p:List Nat} {k n:Nat} {η aW:jl} {K:jl->Prop} (hk:stH flat p k n η K) (h:∀q,¬jik p k n q->aW q=η q) (hf:flat=true->aW=η):K aW:=by
 cases flat with
 |true=>rw [hf rfl];exact hk
 |false=>exact hk aW h
def kK (P:Program) (β:Nat) (i:Ins) (s:St) (K:St->Prop):Prop:=match i.i with
 |.box ty n x=>∃l,(s.ev x).cells=some l/\l.length=n/\jY s l λcs s'=>∀b,K ((s'.addO [(100*(β+i.d.getD 0),.box b ty cs)]).put i.d (.c (.bp (100*(β+i.d.getD 0)) 0 b)))
 |.bsl e size _ ks ps=>∃l,jka s ps=some l/\jY s l λcs s'=>∃ds,qG ks cs=some ds/\∀η,K ((s'.addO [(100*(β+i.d.getD 0),.loose (.sl size e ds) η)]).put i.d (.c (.h (100*(β+i.d.getD 0)) 0 [] (η []))))
 |.st n ks a x=>i.d=none/\∃l,(s.ev x).cells=some l/\l.length=n/\jY s l λcs s'=>match s.ev a with
  |.c (.bp g c b)=>∃ty ds,s'.o g=.box b ty ds/\c+n<=ds.length/\K (s'.setO g (.box b ty (kg ds c cs)))
  |.c (.ep g c p k hx)=>0<n/\∃ds,qG ks cs=some ds/\∃d0 η dd,(s'.o g).own c=some (d0,η)/\η p=hx/\D.get p d0=some dd/\dd.isSl=true/\k+n<=dd.cells.length/\
   stH (jT ds&&jT ((dd.cells.drop k).take n)) p k n η λaW=>K (s'.setO g ((s'.o g).putOwn c (D.put p k ds d0) aW))
  |_=>False
 |.app e size bytes x y=>jmL s size (s.ev y) λys s1=>jdB s1 e size (s.ev x) λxs s2=>xs.length/size+ys.length/size<=maxLen/\(xs.length/size+ys.length/size)*bytes<=140737488355328/\
  ∀η,K ((s2.addO [(100*(β+i.d.getD 0),.loose (.sl size e (xs++ys)) η)]).put i.d (.c (.h (100*(β+i.d.getD 0)) 0 [] (η []))))
 |.apps e x y=>∃b,s.ev y=.c (.v (.string b))/\jdB s e 1 (s.ev x) λxs s2=>xs.length+b.size<=140737488355328/\
  ∀η,K ((s2.addO [(100*(β+i.d.getD 0),.loose (.sl 1 e (xs++strCells b)) η)]).put i.d (.c (.h (100*(β+i.d.getD 0)) 0 [] (η []))))
 |.clr size zs x=>i.d=none/\match s.ev x with
  |.c (.v (.slice none 0 0))=>K s
  |.c (.hs g c p hx sz lo n)=>sz=size/\0<n/\∃d0 η dd,(s.o g).own c=some (d0,η)/\η p=hx/\D.get p d0=some dd/\dd.isSl=true/\dd.size=sz/\lo+n<=dd.len/\
   stH (jT (List.replicate n zs).flatten&&jT ((dd.cells.drop (lo*sz)).take (n*sz))) p (lo*sz) (n*sz) η λaW=>K (s.setO g ((s.o g).putOwn c (D.put p (lo*sz) (List.replicate n zs).flatten d0) aW))
  |_=>False
 |.call f args=>(∃rt,∀st,∃av os,Gen P s (β+i.d.getD 0) rt st (.call f args) av os/\K ((s.addO os).put i.d av))\/
  (Turns P f (args.map s.ev) s.o λrt o'=>∀η:Nat->jl,K (((⟨s.t,o'⟩:St).addO (je0 (100*(β+i.d.getD 0)) η 0 rt.flat)).put i.d (rt.av (100*(β+i.d.getD 0)) η)))\/
  Inl P f (args.map s.ev) s.o λav o'=>K (St.put ⟨s.t,o'⟩ i.d av)
 |.callv x args=>(∃rt,∀st,∃av os,Gen P s (β+i.d.getD 0) rt st (.callv x args) av os/\K ((s.addO os).put i.d av))\/
  ∃f caps,s.ev x=.fn f caps/\Turns P f (args.map s.ev++caps.map .c) s.o λrt o'=>∀η:Nat->jl,K (((⟨s.t,o'⟩:St).addO (je0 (100*(β+i.d.getD 0)) η 0 rt.flat)).put i.d (rt.av (100*(β+i.d.getD 0)) η))
 |j=>∃rt,∀st,∃av os,Gen P s (β+i.d.getD 0) rt st j av os/\K ((s.addO os).put i.d av)
def kX (s:St):Option (Nat×Bool)->Option Bool
 |none=>some true
 |some (t,want)=>match s.t t with
  |.c (.v (.bool b))=>some (b==want)
  |.c (.v _)=>some false
  |_=>none
def jcc (P:Program) (β:Nat):List Ins->St->(St->Prop)->Prop
 |[],s,K=>K s
 |i::l,s,K=>match kX s i.g with
  |some true=>kK P β i s λs'=>jcc P β l s' K
  |some false=>jcc P β l (s.put i.d (.c (.v undef))) K
  |none=>False
def A0.ids:A0->List Nat
 |.h g _ _ _=>[g]
 |.hs g _ _ _ _ _ _=>[g]
 |.bp g _ _=>[g]
 |.ep g _ _ _ _=>[g]
 |_=>[]
def AV.ids:AV->List Nat
 |.c a=>a.ids
 |.agg l=>l.flatMap A0.ids
 |.fn _ l=>l.flatMap A0.ids
 |_=>[]
inductive Lk where
 |ob (g:Nat)
 |cs (g c n:Nat)
def A0.looks (n:Nat):A0->List Lk
 |.h g _ _ _=>[.ob g]
 |.hs g _ _ _ _ _ _=>[.ob g]
 |.bp g c _=>[.cs g c n]
 |.ep g _ _ _ _=>[.ob g]
 |.v _=>[]
 |.ro _=>[]
 |.rp _=>[]
 |.un=>[]
def AV.looks (n:Nat):AV->List Lk
 |.c a=>a.looks n
 |.agg _=>[]
 |.fn _ _=>[]
 |.tup _=>[]
 |.unk=>[]
def I.looks (s:St):I->List Lk
 |.ld _ n x=>(s.ev x).looks n
 |.ia _ x _=>(s.ev x).ids.map .ob
 |.cv _ _ x=>(s.ev x).ids.map .ob
 |.len _ x=>(s.ev x).ids.map .ob
 |.sl _ x _ _=>(s.ev x).ids.map .ob
 |_=>[]
def jk5 (g c n:Nat):Ob->Ob->Prop
 |.box b ty cs,.box b' ty' cs'=>b=b'/\ty=ty'/\cs.length=cs'.length/\jda g c ((cs.drop c).take n)=jda g c ((cs'.drop c).take n)
 |ob,ob'=>ob=ob'
def jiD (s s':St):Lk->Prop
 |.ob g=>s'.o g=s.o g
 |.cs g c n=>jk5 g c n (s'.o g) (s.o g)
def jh2 (s s':St):List Lk->Prop
 |[]=>True
 |k::l=>jiD s s' k/\jh2 s s' l
theorem jd1 (g c n:Nat) (ob:Ob):jk5 g c n ob ob:=by cases ob<;>first|rfl|exact ⟨rfl,rfl,rfl,rfl⟩
theorem jfP {s:St} {d:Option Nat} {v:AV} {k:Lk}:jiD s (s.put d v) k:=by cases k<;>cases d<;>first|rfl|exact jd1 _ _ _ _
theorem kept_put2 {s s2:St} {d:Option Nat} {v:AV} {k:Lk}:jiD (s.put d v) (s2.put d v) k↔jiD s s2 k:=by cases k<;>cases d<;>exact Iff.rfl
theorem jlR {s:St} {d:Option Nat} {v:AV} {k:Lk}:jiD (s.put d v) s k:=by cases k<;>cases d<;>first|rfl|exact jd1 _ _ _ _
def jfQ (s s':St) (chk:List Nat):List (Nat×List Lk)->Prop
 |[]=>True
 |(p,ids)::l=>(if chk.contains p then jh2 s s' ids else True)/\jfQ s s' chk l
def qi (P:Program) (β:Nat):T->List (Nat×List Lk)->St->(St->Prop)->Prop
 |.done,_,s,K=>K s
 |.stop,_,_,_=>True
 |.pure p i t,l,s,K=>match kX s i.g with
  |some true=>kK P β i s λs'=>qi P β t ((p,i.i.looks s)::l) s' K
  |some false=>qi P β t l (s.put i.d (.c (.v undef))) K
  |none=>False
 |.alt i chk t rest,l,s,K=>(match kX s i.g with
  |some true=>kK P β i s λs'=>jfQ s s' chk l/\qi P β t l s' K
  |some false=>qi P β t l (s.put i.d (.c (.v undef))) K
  |none=>False)/\qi P β rest l s K
def Wk (s s':St):Prop:=∀(B N:Nat) (w0 w:World) (a:Act) (F:Nat->List Nat),RelF B w0 N s a w F->∃F':Nat->List Nat,RelF B w0 N s' a w F'/\∀g,∀b∈F' g,∃g',b∈F g'
def WkK (s:St) (K:St->Prop):Prop:=∀(B N:Nat) (w0 w:World) (a:Act) (F:Nat->List Nat),RelF B w0 N s a w F->∃(s':St) (F':Nat->List Nat),RelF B w0 N s' a w F'/\K s'
inductive Ex where
 |normal
 |exit (id:Nat)
 |ret
def Ex.thn (next:St->Prop) (Q:Ex->St->Prop):Ex->St->Prop
 |.normal,s=>next s
 |.exit id,s=>Q (.exit id) s
 |.ret,s=>Q .ret s
def Ex.inBlk (id:Nat) (Q:Ex->St->Prop):Ex->St->Prop
 |.exit id',s=>if id'=id then Q .normal s else Q (.exit id') s
 |.normal,s=>Q .normal s
 |.ret,s=>Q .ret s
def wpC (P:Program) (β:Nat):C->(Ex->St->Prop)->St->Prop
 |.skip,Q,s=>Q .normal s
 |.reg is,Q,s=>jcc P β is s (Q .normal)
 |.dreg t,Q,s=>qi P β t [] s (Q .normal)
 |.seq a b,Q,s=>wpC P β a (Ex.thn (wpC P β b Q) Q) s
 |.cond x a b,Q,s=>∃t,s.ev x=.c (.v (.bool t))/\(t=true->wpC P β a Q s)/\(t=false->wpC P β b Q s)
 |.blk id a,Q,s=>wpC P β a (Ex.inBlk id Q) s
 |.loop a,Q,s=>∃(ι:Type) (mk:ι->St) (J:ι->Prop) (μ:ι->Nat),(∃i,J i/\Wk s (mk i))/\∀i,J i->wpC P β a (Ex.thn (λs'=>∃i',J i'/\Wk s' (mk i')/\μ i'<μ i) Q) (mk i)
 |.gh a,Q,s=>WkK s (wpC P β a Q)
 |.exit id,Q,s=>Q (.exit id) s
 |.ret,Q,s=>Q .ret s
def jrx (rs:List R) (rt:RT):Ex->St->Prop
 |.exit _,_=>False
 |_,s=>joQ rs rt s
def St.start (args:List AV) (o:Nat->Ob):St:=⟨λn=>(args[n]?).getD .unk,o⟩
def jqE (rs:List R) (K:AV->(Nat->Ob)->Prop) (s:St):Prop:=jlk s rs λps=>match ps with
 |[(true,l)]=>K (.agg l) s.o
 |[(false,[a])]=>K (.c a) s.o
 |[]=>K (.tup []) s.o
 |p::q::r=>K (.tup (p::q::r)) s.o
 |_=>False
def jsS (rs:List R) (K:AV->(Nat->Ob)->Prop):Ex->St->Prop
 |.exit _,_=>False
 |_,s=>jqE rs K s
