/- Parts. -/
import Derived.Test.YtcehjhiglmifjaaGreatQBase2
import Derived.Test.YtcehjhiglmifjaaGreatRows
import Derived.ProofKit
import Derived.Deep.Slices
import Derived.ChangeSame
import Derived.Deep.RegionWith
import Derived.Laws.StructEq
set_option linter.all false
set_option maxHeartbeats 2000000
namespace Go.Proofs.YtcehjhiglmifjaaGreat
open Go.RowKit Go.Sort
def jcn:Value->Nat->Addr
 |.slice (some a) _ _,k=>⟨a.block,a.off+k,none⟩
 |_,k=>⟨0,k,none⟩
def jki (x:Value) (size lo n:Nat):Value:=match x with
 |.slice A _ c=>.slice (if c=lo then A else A.map (·.add (lo*size))) n (c-lo)
 |_=>undef
def A0Rel (B:Nat) (w:World):A0->Value->Prop
 |.v x,u=>u=x
 |.ro d,u=>d.isSl=true/\∃S,Rep w false d u S/\∀b∈S,b<B
 |.rp ds,u=>∃b o us S,u=.pointer (some ⟨b,o,none⟩)/\RepL w false ds us S/\(∀x∈S,x<B)/\(ds≠ []->b<B)/\∀j x,us[j]?=some x->w.cell? ⟨b,o+j,none⟩=some x
 |.h _ _ _ x,u=>u=x/\x.oneCell'=true
 |.bp _ c b,u=>u=.pointer (some ⟨b,c,none⟩)
 |.ep _ _ _ i x,u=>u=.pointer (some (jcn x i))
 |.un,u=>u.oneCell'=true
 |.hs _ _ _ x size lo n,u=>(u=jki x size lo n\/0<lo/\n=0/\∃A,u=.slice A 0 0)/\u.oneCell'=true
def A0RelL (B:Nat) (w:World):List A0->List Value->Prop
 |[],us=>us=[]
 |a::l,us=>∃u us',us=u::us'/\A0Rel B w a u/\A0RelL B w l us'
def TRelL (B:Nat) (w:World):List (Bool×List A0)->List Value->Prop
 |[],us=>us=[]
 |(b,az)::l,us=>∃u us' xs,us=u::us'/\A0RelL B w az xs/\(if b then u=.agg xs.toArray else xs=[u])/\TRelL B w l us'
def VRel (B:Nat) (w:World):AV->Value->Prop
 |.c a,u=>A0Rel B w a u
 |.agg l,u=>∃us:List Value,u=.agg us.toArray/\A0RelL B w l us
 |.fn f caps,u=>∃us:List Value,u=.func (.func f) #[] us.toArray/\A0RelL B w caps us
 |.tup l,u=>∃us:List Value,u=.tuple us.toArray/\TRelL B w l us
 |.unk,_=>True
def hdr (w:World):List Nat->D->Value->Value
 |[],.sl _ _ _,u=>u
 |i::p,.sl _ _ cs,.slice (some a) _ _=>match cs[i]? with
  |some d=>hdr w p d ((w.cell? ⟨a.block,a.off+i,none⟩).getD undef)
  |none=>undef
 |_,_,_=>undef
def CRel (B:Nat) (w:World):List Cell->List Value->List Nat->Prop
 |[],us,S=>us=[]/\S=[]
 |.a x::l,us,S=>∃u us',us=u::us'/\A0Rel B w x u/\CRel B w l us' S
 |.own d η::l,us,S=>∃u us' S1 S2,us=u::us'/\S=S1++S2/\d.isSl=true/\Rep w true d u S1/\(∀p,η p=hdr w p d u)/\CRel B w l us' S2
def ORel (B:Nat) (w:World):Ob->List Nat->Prop
 |.none,S=>S=[]
 |.loose d η,S=>d.isSl=true/\∃u,Rep w true d u S/\∀p,η p=hdr w p d u
 |.box b ty cs,S=>∃us S1,w.heap[b]?=some (.cells us.toArray ty (0,0))/\CRel B w cs us S1/\S=b::S1
structure RelF (B:Nat) (w0:World) (N:Nat) (s:St) (a:Act) (w:World) (F:Nat->List Nat):Prop where
 below:Below B w0 w
 hB:B<=w0.heap.size
 df:a.defers=[]
 sz:a.tmps.size=N
 sl:∀n,VRel B w (s.t n) (a.tmps.getD n undef)
 ob:∀g,ORel B w (s.o g) (F g)
 fr:∀g,Fresh B (F g)
 dj:∀g g',g≠g'->∀b∈F g,b∉F g'
section
variable {B:Nat} {w w' w0:World}
theorem vR {own:Bool} {size:Nat} {ty:TypeId} {cs:List D} {v:Value} {S:List Nat} (h:Rep w own (.sl size ty cs) v S):∃A n c,v=.slice A n c:=by
 obtain ⟨vs,T,S',hr,_,_⟩:=h;obtain ⟨_,A,n,c,rfl,_⟩:=hr.ro;exact ⟨A,n,c,rfl⟩
theorem A0Rel.mono (hb:Below B w w'):∀{a:A0} {u:Value},A0Rel B w a u->A0Rel B w' a u
 |.v _,_,h=>h
 |.ro _,_,⟨h1,S,h2,h3⟩=>⟨h1,S,Rep.keep _ h2 λb hs=>hb.block b (h3 b hs),h3⟩
 |.rp ds,_,⟨b,o,us,S,h1,h2,h3,h4,h5⟩=>⟨b,o,us,S,h1,RepL.keep _ h2 λb hs=>hb.block b (h3 b hs),h3,h4,λj x hx=>by
  have aJ:ds≠ []:=λe=>by subst e;obtain ⟨rfl,_⟩:=h2;simp at hx
  rw [hb.cell (p:=⟨b,o+j,none⟩) (h4 aJ)];exact h5 j x hx⟩
 |.h _ _ _ _,_,h=>h
 |.bp _ _ _,_,h=>h
 |.ep _ _ _ _ _,_,h=>h
 |.un,_,h=>h
 |.hs _ _ _ _ _ _ _,_,h=>h
theorem A0RelL.mono (hb:Below B w w'):∀{l:List A0} {us:List Value},A0RelL B w l us->A0RelL B w' l us
 |[],_,h=>h
 |_::_,_,⟨u,us',h1,h2,h3⟩=>⟨u,us',h1,h2.mono hb,A0RelL.mono hb h3⟩
theorem TRelL.mono (hb:Below B w w'):∀{l:List (Bool×List A0)} {us:List Value},TRelL B w l us->TRelL B w' l us
 |[],_,h=>h
 |(_,_)::_,_,⟨u,us',xs,h1,h2,h3,h4⟩=>⟨u,us',xs,h1,h2.mono hb,h3,TRelL.mono hb h4⟩
theorem VRel.mono (hb:Below B w w'):∀{v:AV} {u:Value},VRel B w v u->VRel B w' v u
 |.c _,_,h=>A0Rel.mono hb h
 |.agg _,_,⟨us,h1,h2⟩=>⟨us,h1,h2.mono hb⟩
 |.fn _ _,_,⟨us,h1,h2⟩=>⟨us,h1,h2.mono hb⟩
 |.tup _,_,⟨us,h1,h2⟩=>⟨us,h1,h2.mono hb⟩
 |.unk,_,h=>h
theorem A0Rel.one:∀{a:A0} {u:Value},A0Rel B w a u->a.one=true->u.oneCell'=true
 |.v _,_,h,h'=>by rw [show _=_ from h];exact h'
 |.ro d,u,⟨h1,S,h2,_⟩,_=>by
  cases d with
  |val _=>cases h1
  |sl size ty cs=>obtain ⟨A,n,c,rfl⟩:=vR h2;rfl
 |.rp _,_,⟨_,_,_,_,h,_⟩,_=>by rw [h];rfl
 |.h _ _ _ _,_,⟨h,h'⟩,_=>by rw [h];exact h'
 |.bp _ _ _,_,h,_=>by rw [show _=_ from h];rfl
 |.ep _ _ _ _ _,_,h,_=>by rw [show _=_ from h];rfl
 |.un,_,h,_=>h
 |.hs _ _ _ _ _ _ _,_,⟨_,h⟩,_=>h
theorem A0Rel.c1:∀{a:A0} {u:Value},A0Rel B w a u->a.c1=true->u.oneCell'=true
 |.v _,_,h,h'=>by rw [show _=_ from h];exact h'
 |.ro _,_,h,_=>h.one rfl
 |.rp _,_,h,_=>h.one rfl
 |.h _ _ _ _,_,⟨h,h'⟩,_=>by rw [h];exact h'
 |.bp _ _ _,_,h,_=>h.one rfl
 |.ep _ _ _ _ _,_,h,_=>h.one rfl
 |.un,_,h,_=>h
 |.hs _ _ _ _ _ _ _,_,⟨_,h⟩,_=>h
theorem jxE {u:Value} (h:u.oneCell'=true):u.cells=#[u]:=by cases u<;>first|rfl|cases h
theorem VRel.cells:∀{v:AV} {u:Value} {l:List A0},VRel B w v u->v.cells=some l->∃us:List Value,u.cells=us.toArray/\A0RelL B w l us
 |.c a,u,l,h,hl=>by
  simp only [AV.cells] at hl;split at hl
  ·simp at hl;subst hl
   exact ⟨[u],jxE (A0Rel.c1 h (by assumption)),u,[],rfl,h,rfl⟩
  ·simp at hl
 |.agg l',_,l,⟨us,h1,h2⟩,hl=>by
  simp [AV.cells] at hl;subst hl;exact ⟨us,by rw [h1];rfl,h2⟩
 |.fn _ _,_,_,_,hl=>by simp [AV.cells] at hl
 |.tup _,_,_,_,hl=>by simp [AV.cells] at hl
 |.unk,_,_,_,hl=>by simp [AV.cells] at hl
theorem A0RelL.len:∀{l:List A0} {us:List Value},A0RelL B w l us->us.length=l.length
 |[],_,h=>by rw [show _=_ from h];rfl
 |_::_,_,⟨_,_,h1,_,h3⟩=>by subst h1;simp [A0RelL.len h3]
theorem RepL.nth {own:Bool}:∀{cs:List D} {vs:List Value} {S:List Nat} {i:Nat} {d:D},RepL w own cs vs S->cs[i]?=some d->∃v S1,vs[i]?=some v/\Rep w own d v S1/\∀s∈S1,s∈S
 |[],_,_,_,_,_,h=>by simp at h
 |_::_,_,_,0,_,⟨v,vs',S1,S2,h1,h2,h3,h4⟩,h=>by
  simp at h;subst h;exact ⟨v,S1,by rw [h1];rfl,h3,λs hs=>by rw [h2];simp [hs]⟩
 |_::cs,_,_,i+1,_,⟨v,vs',S1,S2,h1,h2,h3,h4⟩,h=>by
  simp at h;obtain ⟨v',S',h5,h6,h7⟩:=RepL.nth h4 h;exact ⟨v',S',by rw [h1];simpa using h5,h6,λs hs=>by rw [h2];simp [h7 s hs]⟩
theorem kX {size:Nat} {ty:TypeId} {vs:List Value} {u:Value} {T:List Nat} (h:RowAt w true size ty vs u T):(u=.slice none 0 0/\vs=[])\/∃g n c,u=.slice (some ⟨g,0,none⟩) n c/\T=[g]/\vs.length=n*size/\(∀j v,vs[j]?=some v->w.cell? ⟨g,j,none⟩=some v)/\∀j,w.frozen? ⟨g,j,none⟩=false:=by
 obtain ⟨n,h,rfl⟩:=h;have h1:=h.1;rcases h.2 with ⟨rfl,h0⟩|⟨g,cap,cur,rfl,hb,hg,hr⟩
 ·subst h0;exact .inl ⟨rfl,aON (by simpa using h1)⟩
 ·refine .inr ⟨g,n,cap,rfl,rfl,h1,λj v hv=>?_,h.frozenAt⟩
  have:=h.cells (g:=g) rfl j v hv;have e:(⟨g,0,none⟩:Addr).add j=⟨g,j,none⟩:=by unfold Addr.add;split<;>simp_all
  rwa [e] at this
theorem jev:∀(p:List Nat) {d:D} {u:Value} {S:List Nat},Rep w true d u S->(∀b∈S,w'.heap[b]?=w.heap[b]?)->hdr w' p d u=hdr w p d u
 |[],.sl _ _ _,_,_,_,_=>rfl
 |[],.val _,_,_,_,_=>rfl
 |i::p,.val _,_,_,_,_=>rfl
 |i::p,.sl size ty cs,u,S,⟨vs,T,S',h1,h2,h3⟩,hk=>by
  rcases kX h1 with ⟨rfl,_⟩|⟨g,n,c,rfl,rfl,h4,h5,_⟩
  ·rfl
  ·simp only [hdr]
   cases hc:cs[i]? with
   |none=>rfl
   |some d=>
    obtain ⟨v,S1,h6,h7,h8⟩:=RepL.nth h2 hc;have e1:w.cell? ⟨g,0+i,none⟩=some v:=by rw [aPH];exact h5 i v h6
    have e2:w'.cell? ⟨g,0+i,none⟩=some v:=by
     rw [World.cell?_of_block (w:=w) (a:=⟨g,0+i,none⟩) (hk g (by rw [h3];simp))];exact e1
    simp only [e1,e2,aNZ];exact jev p h7 λb hb=>hk b (by rw [h3];simp [h8 b hb])
theorem jxl:∀(p:List Nat) {d d':D} {u:Value} {S:List Nat},Rep w true d u S->D.get p d=some d'->d'.isSl=true->∃S',Rep w true d' (hdr w p d u) S'/\∀s∈S',s∈S
 |[],.sl _ _ _,_,_,S,h,hg,_=>by simp [D.get] at hg;subst hg;exact ⟨S,h,λ_ h=>h⟩
 |[],.val _,_,_,_,_,hg,hs=>by simp [D.get] at hg;subst hg;cases hs
 |i::p,.val _,_,_,_,_,hg,_=>by simp [D.get] at hg
 |i::p,.sl size ty cs,d',u,S,⟨vs,T,S',h1,h2,h3⟩,hg,hs=>by
  simp only [D.get] at hg;cases hc:cs[i]? with
  |none=>rw [hc] at hg;simp at hg
  |some d=>
   rw [hc] at hg;obtain ⟨v,S1,h6,h7,h8⟩:=RepL.nth h2 hc;rcases kX h1 with ⟨rfl,rfl⟩|⟨g,n,c,rfl,rfl,h4,h5,_⟩
   ·simp at h6
   ·simp only [hdr,hc,aPH,h5 i v h6,aNZ]
    obtain ⟨S2,h9,lA⟩:=jxl p h7 hg hs;exact ⟨S2,h9,λs hs=>by rw [h3];simp [h8 s (lA s hs)]⟩
theorem zt {d:D} {u:Value} (h:d.isSl=true):hdr w [] d u=u:=by cases d<;>first|rfl|cases h
theorem CRel.keep (hb:Below B w w'):∀{cs:List Cell} {us:List Value} {S:List Nat},CRel B w cs us S->(∀b∈S,w'.heap[b]?=w.heap[b]?)->CRel B w' cs us S
 |[],_,_,h,_=>h
 |.a _::_,_,_,⟨u,us',h1,h2,h3⟩,hk=>⟨u,us',h1,h2.mono hb,CRel.keep hb h3 hk⟩
 |.own _ _::_,_,_,⟨u,us',S1,S2,h1,h2,h3,h4,h5,h6⟩,hk=>⟨u,us',S1,S2,h1,h2,h3,Rep.keep _ h4 λb hs=>hk b (by rw [h2];simp [hs]),
  λp=>by rw [jev p h4 λb hs=>hk b (by rw [h2];simp [hs])];exact h5 p,CRel.keep hb h6 λb hs=>hk b (by rw [h2];simp [hs])⟩
theorem CRel.lt:∀{cs:List Cell} {us:List Value} {S:List Nat},CRel B w cs us S->∀b∈S,b<w.heap.size
 |[],_,_,⟨_,h⟩,b,hb=>by rw [h] at hb;simp at hb
 |.a _::_,_,_,⟨_,_,_,_,h⟩,b,hb=>CRel.lt h b hb
 |.own _ _::_,_,_,⟨u,us',S1,S2,_,h2,_,h4,_,h6⟩,b,hb=>by
  rw [h2] at hb;rcases aNT.1 hb with hb|hb
  ·exact Rep.lt _ h4 b hb
  ·exact CRel.lt h6 b hb
theorem CRel.len:∀{cs:List Cell} {us:List Value} {S:List Nat},CRel B w cs us S->us.length=cs.length
 |[],_,_,⟨h,_⟩=>by rw [h];rfl
 |.a _::_,_,_,⟨_,_,h1,_,h3⟩=>by subst h1;simp [CRel.len h3]
 |.own _ _::_,_,_,⟨_,_,_,_,h1,_,_,_,_,h6⟩=>by subst h1;simp [CRel.len h6]
theorem ORel.keep (hb:Below B w w'):∀{ob:Ob} {S:List Nat},ORel B w ob S->(∀b∈S,w'.heap[b]?=w.heap[b]?)->ORel B w' ob S
 |.none,_,h,_=>h
 |.loose _ _,_,⟨h0,u,h1,h2⟩,hk=>⟨h0,u,Rep.keep _ h1 hk,λp=>by rw [jev p h1 hk];exact h2 p⟩
 |.box b _ _,_,⟨us,S1,h1,h2,h3⟩,hk=>⟨us,S1,(hk b (by rw [h3];simp)).trans h1,h2.keep hb λx hx=>hk x (by rw [h3];simp [hx]),h3⟩
theorem ORel.lt:∀{ob:Ob} {S:List Nat},ORel B w ob S->∀b∈S,b<w.heap.size
 |.none,_,h,b,hb=>by rw [show _=_ from h] at hb;simp at hb
 |.loose _ _,_,⟨_,u,h1,_⟩,b,hb=>Rep.lt _ h1 b hb
 |.box b' _ _,_,⟨us,S1,h1,h2,h3⟩,b,hb=>by
  rw [h3] at hb;rcases aOK.1 hb with rfl|hb
  ·exact jbN h1
  ·exact h2.lt b hb
theorem ORel.own:∀{ob:Ob} {S:List Nat} {c:Nat} {d:D} {η:jf},ORel B w ob S->ob.own c=some (d,η)->∃u S',d.isSl=true/\Rep w true d u S'/\(∀p,η p=hdr w p d u)/\∀s∈S',s∈S
 |.none,_,_,_,_,_,h=>by simp [Ob.own] at h
 |.loose d' aC,S,0,d,η,⟨h0,u,h1,h2⟩,h=>by simp [Ob.own] at h;obtain ⟨rfl,rfl⟩:=h;exact ⟨u,S,h0,h1,h2,λ_ h=>h⟩
 |.loose _ _,_,c+1,_,_,_,h=>by simp [Ob.own] at h
 |.box b ty cs,S,c,d,η,⟨us,S1,h1,h2,h3⟩,h=>by
  have:∀{cs:List Cell} {us:List Value} {S1:List Nat} {c:Nat},CRel B w cs us S1->cs[c]?=some (.own d η)->∃u S',d.isSl=true/\Rep w true d u S'/\(∀p,η p=hdr w p d u)/\∀s∈S',s∈S1:=by
   intro cs
   induction cs with
   |nil=>intro _ _ _ _ h;simp at h
   |cons x l ih=>
    intro us S1 c hr hc;cases x with
    |a x=>
     obtain ⟨u,us',rfl,_,h5⟩:=hr;cases c with
     |zero=>simp at hc
     |succ c=>exact ih h5 (by simpa using hc)
    |own d' aC=>
     obtain ⟨u,us',S2,S3,rfl,rfl,k0,k1,k2,k3⟩:=hr;cases c with
     |zero=>simp at hc;obtain ⟨rfl,rfl⟩:=hc;exact ⟨u,S2,k0,k1,k2,λs hs=>by simp [hs]⟩
     |succ c=>
      obtain ⟨u',S',k4,k5,k6,k7⟩:=ih k3 (by simpa using hc)
      exact ⟨u',S',k4,k5,k6,λs hs=>by simp [k7 s hs]⟩
  simp only [Ob.own] at h;split at h
  ·rename_i d' aC hc
   simp at h;obtain ⟨rfl,rfl⟩:=h;obtain ⟨u,S',k1,k2,k3,k4⟩:=this h2 hc;exact ⟨u,S',k1,k2,k3,λs hs=>by rw [h3];simp [k4 s hs]⟩
  ·simp at h
variable {N:Nat} {s:St} {a:Act} {F:Nat->List Nat}
theorem RelF.world (h:RelF B w0 N s a w F) (hb:Below w.heap.size w w'):RelF B w0 N s a w' F:=by
 have hB:B<=w.heap.size:=aPC h.hB h.below.size;have aZ:=hb.mono hB;exact ⟨h.below.trans aZ,h.hB,h.df,h.sz,λn=>(h.sl n).mono aZ,λg=>(h.ob g).keep aZ λb hs=>hb.block b ((h.ob g).lt b hs),h.fr,h.dj⟩
theorem RelF.put (h:RelF B w0 N s a w F) {v:AV} {u:Value} (hv:VRel B w v u) {d:Option Nat} (hd:∀k,d=some k->k<N):RelF B w0 N (s.put d v) (a.put d u) w F:=by
 cases d with
 |none=>exact h
 |some k=>
  have hk:=hd k rfl;refine ⟨h.below,h.hB,h.df,by simp [Act.put,h.sz],λn=>?_,h.ob,h.fr,h.dj⟩
  simp only [St.put,Act.put];by_cases hn:n=k
  ·subst hn
   rw [if_pos rfl];simp [Array.getD_eq_getD_getElem?,h.sz,hk];exact hv
  ·rw [if_neg hn]
   simp [Array.getD_eq_getD_getElem?,Array.getElem?_setIfInBounds_ne (Ne.symm hn)];simpa [Array.getD_eq_getD_getElem?] using h.sl n
theorem RelF.setO (h:RelF B w0 N s a w F) {g:Nat} {ob:Ob} {S:List Nat} (ho:ORel B w ob S) (hf:Fresh B S) (hd:∀g',g'≠g->∀b∈S,b∉F g'):
 RelF B w0 N (s.setO g ob) a w (λk=>if k=g then S else F k):=by
 refine ⟨h.below,h.hB,h.df,h.sz,h.sl,λk=>?_,λk=>?_,λk k' aJ b hb aZ=>?_⟩
 ·simp only [St.setO];split
  ·exact ho
  ·exact h.ob k
 ·split
  ·exact hf
  ·exact h.fr k
 ·have aY:b∈(if k=g then S else F k):=hb
  have bM:b∈(if k'=g then S else F k'):=aZ
  split at aY<;>split at bM
  ·omega
  ·exact hd k' (by omega) b aY bM
  ·exact hd k (by omega) b bM aY
  ·exact h.dj k k' aJ b aY bM
def jcV (B:Nat) (w:World):List (Nat×Ob)->List Nat->Prop
 |[],S=>S=[]
 |(_,ob)::l,S=>∃S1 S2,S=S1++S2/\ORel B w ob S1/\jcV B w l S2
theorem RelF.addO:∀{os:List (Nat×Ob)} {s:St} {S:List Nat} {F:Nat->List Nat},RelF B w0 N s a w F->jcV B w os S->Fresh B S->(∀g,∀b∈S,b∉F g)->∃F',RelF B w0 N (s.addO os) a w F'
 |[],s,S,F,h,_,_,_=>⟨F,h⟩
 |(g,ob)::os,s,S,F,h,⟨S1,S2,hS,ho,hn⟩,hf,hd=>by
  subst hS;have h1:=h.setO (g:=g) ho hf.left λg' _ b hb=>hd g' b (by simp [hb])
  have h2:=RelF.addO h1 hn hf.right (λk b hb=>by
   by_cases hk:k=g
   ·rw [if_pos hk];exact λaZ=>hf.apart b aZ hb
   ·rw [if_neg hk];exact hd k b (by simp [hb]))
  exact h2
theorem RelF.rm (h:RelF B w0 N s a w F) {g c:Nat} {d:D} {η:jf} (ho:(s.o g).own c=some (d,η)):
 ∃u S F',d.isSl=true/\Rep w true d u S/\(∀p,η p=hdr w p d u)/\Fresh B S/\RelF B w0 N (s.rm g c) a w F'/\(∀g',∀b∈S,b∉F' g')/\(∀b∈S,b∈F g)/\∀g' b,b∈F' g'->b∈F g':=by
 have pT:=h.ob g;have hfg:=h.fr g;unfold St.rm;cases bS:s.o g with
 |none=>rw [bS] at ho;simp [Ob.own] at ho
 |loose d' aC=>
  rw [bS] at ho pT;cases c with
  |succ c=>simp [Ob.own] at ho
  |zero=>
   simp [Ob.own] at ho;obtain ⟨rfl,rfl⟩:=ho;obtain ⟨h0,u,h1,h2⟩:=pT;refine ⟨u,F g,_,h0,h1,h2,hfg,h.setO (S:=[]) (ob:=(Ob.loose d' aC).rm 0) (by simp [Ob.rm,ORel]) (Fresh.nil _) (by simp),λg' b hb aZ=>?_,λ_ h=>h,λg' b hb=>?_⟩
   ·split at aZ
    ·simp at aZ
    ·exact h.dj g g' (by omega) b hb aZ
   ·split at hb
    ·simp at hb
    ·exact hb
 |box b ty cs=>
  rw [bS] at ho pT;obtain ⟨us,S1,h1,h2,h3⟩:=pT
  have key:∀{cs:List Cell} {us:List Value} {S1:List Nat} {c:Nat},CRel B w cs us S1->S1.Nodup->cs[c]?=some (.own d η)->
   ∃u S S',d.isSl=true/\Rep w true d u S/\(∀p,η p=hdr w p d u)/\CRel B w (cs.set c (.a (.v (η [])))) us S'/\(∀x,x∈S1↔x∈S\/x∈S')/\S'.Nodup/\S.Nodup/\∀x∈S,x∉S':=by
   intro cs
   induction cs with
   |nil=>intro _ _ _ _ _ h;simp at h
   |cons x l ih=>
    intro us S1 c hr aW hc;cases x with
    |a x=>
     obtain ⟨u,us',rfl,k1,k2⟩:=hr;cases c with
     |zero=>simp at hc
     |succ c=>
      obtain ⟨u',S,S',j1,j2,j3,j4,j5,j6,j7,j8⟩:=ih k2 aW (by simpa using hc)
      exact ⟨u',S,S',j1,j2,j3,⟨u,us',rfl,k1,j4⟩,j5,j6,j7,j8⟩
    |own d' aC=>
     obtain ⟨u,us',S2,S3,rfl,rfl,k0,k1,k2,k3⟩:=hr;have gR:=aNY.1 aW;cases c with
     |zero=>
      simp at hc;obtain ⟨rfl,rfl⟩:=hc;refine ⟨u,S2,S3,k0,k1,k2,⟨u,us',rfl,?_,k3⟩,λx=>aNT,gR.2.1,gR.1,λx hx bT=>gR.2.2 x hx x bT rfl⟩
      show u=aC [];rw [k2,zt k0]
     |succ c=>
      obtain ⟨u',S,S',j1,j2,j3,j4,j5,j6,j7,j8⟩:=ih k3 gR.2.1 (by simpa using hc)
      refine ⟨u',S,S2++S',j1,j2,j3,⟨u,us',S2,S',rfl,rfl,k0,k1,k2,j4⟩,λx=>?_,aNY.2 ⟨gR.1,j6,λa ha b hb e=>gR.2.2 a ha b ((j5 b).2 (.inr hb)) e⟩,j7,λx hx bT=>?_⟩
      ·rw [aNT,aNT,j5];grind
      ·rcases aNT.1 bT with bT|bT
       ·exact gR.2.2 x bT x ((j5 x).2 (.inl hx)) rfl
       ·exact j8 x hx bT
  have hc:cs[c]?=some (.own d η):=by
   simp only [Ob.own] at ho;split at ho
   ·simp at ho;obtain ⟨rfl,rfl⟩:=ho;assumption
   ·simp at ho
  have aW:(b::S1).Nodup:=by rw [<-h3];exact hfg.1
  obtain ⟨u,S,S',j1,j2,j3,j4,j5,j6,j7,j8⟩:=key h2 (aPX.1 aW).2 hc;have hS:∀x∈S,x∈F g:=λx hx=>by rw [h3];simp [(j5 x).2 (.inl hx)]
  have uS:∀x∈b::S',x∈F g:=λx hx=>by
   rw [h3];rcases aOK.1 hx with rfl|hx
   ·simp
   ·simp [(j5 x).2 (.inr hx)]
  have rV:b∉S':=λhb=>(aPX.1 aW).1 ((j5 b).2 (.inr hb))
  have rH:(Ob.box b ty cs).rm c=.box b ty (cs.set c (.a (.v (η [])))):=by simp only [Ob.rm,hc,rmC]
  refine ⟨u,S,_,j1,j2,j3,⟨j7,λx hx=>hfg.2 x (hS x hx)⟩,h.setO (S:=b::S') (ob:=(Ob.box b ty cs).rm c) (by rw [rH];exact ⟨us,S',h1,j4,rfl⟩) ⟨aPX.2 ⟨rV,j6⟩,λx hx=>hfg.2 x (uS x hx)⟩ (λg' hg x hx=>h.dj g g' (Ne.symm hg) x (uS x hx)),λg' x hx bT=>?_,hS,λg' x hx=>?_⟩
  ·split at bT
   ·rcases aOK.1 bT with rfl|bT
    ·exact (aPX.1 aW).1 ((j5 x).2 (.inl hx))
    ·exact j8 x hx bT
   ·exact h.dj g g' (by omega) x (hS x hx) bT
  ·split at hx
   ·rename_i e;subst e;exact uS x hx
   ·exact hx
end
def jlZ (B:Nat) (w:World):List AV->List Value->Prop
 |[],xs=>xs=[]
 |a::l,xs=>∃x xs',xs=x::xs'/\VRel B w a x/\jlZ B w l xs'
abbrev St.only (o:Nat->Ob):St:=⟨λ_=>.unk,o⟩
def Act.bare:Act:={tmps:=#[],defers:=[]}
def Turns (P:Program) (f:FuncId) (args:List AV) (o:Nat->Ob) (R:RT->(Nat->Ob)->Prop):Prop:=
 jrb P f/\∀(B:Nat) (w:World) (F:Nat->List Nat) (xs:List Value),RelF B w 0 (.only o) Act.bare w F->jlZ B w args xs->
  Calls P f xs.toArray w λe w'=>∃v rt o' S F',e=.returned v/\RelF B w 0 (.only o') Act.bare w' F'/\jl0 w' rt v S/\Fresh B S/\(∀g,∀b∈S,b∉F' g)/\R rt o'
def Inl (P:Program) (f:FuncId) (args:List AV) (o:Nat->Ob) (R:AV->(Nat->Ob)->Prop):Prop:=
 jrb P f/\∀(B:Nat) (w:World) (F:Nat->List Nat) (xs:List Value),RelF B w 0 (.only o) Act.bare w F->jlZ B w args xs->
  Calls P f xs.toArray w λe w'=>∃v av o',∃F':Nat->List Nat,e=.returned v/\RelF B w 0 (.only o') Act.bare w' F'/\VRel B w' av v/\R av o'
def D.put:List Nat->Nat->List D->D->D
 |[],i,ds,.sl size ty cs=>.sl size ty (ky cs i ds)
 |k::p,i,ds,.sl size ty cs=>.sl size ty (match cs[k]? with
  |some d=>cs.set k (D.put p i ds d)
  |none=>cs)
 |_,_,_,.val u=>.val u
def jsG (p:List Nat) (i n:Nat) (q:List Nat):Prop:=∃j r,q=p++j::r/\i<=j/\j<i+n
def stH (flat:Bool) (p:List Nat) (k n:Nat) (η:jf) (K:jf->Prop):Prop:=match flat with
 |true=>K η
 |false=>∀aC,(∀q,¬jsG p k n q->aC q=η q)->K aC
theorem jsW {flat:Bool} {p:List Nat} {k n:Nat} {η:jf} {K K':jf->Prop} (h:∀aC,K aC->K' aC) (hk:stH flat p k n η K):stH flat p k n η K':=by
 cases flat with
 |true=>exact h _ hk
 |false=>exact λaC hη=>h _ (hk aC hη)
theorem jBK {flat:Bool} {p:List Nat} {k n:Nat} {η aC:jf} {K:jf->Prop} (hk:stH flat p k n η K) (h:∀q,¬jsG p k n q->aC q=η q) (hf:flat=true->aC=η):K aC:=by
 cases flat with
 |true=>rw [hf rfl];exact hk
 |false=>exact hk aC h
def vp (P:Program) (β:Nat) (i:Ins) (s:St) (K:St->Prop):Prop:=match i.i with
 |.box ty n x=>∃l,(s.ev x).cells=some l/\l.length=n/\qz s l λcs s'=>∀b,K ((s'.addO [(100*(β+i.d.getD 0),.box b ty cs)]).put i.d (.c (.bp (100*(β+i.d.getD 0)) 0 b)))
 |.bsl e size _ ks ps=>∃l,jvM s ps=some l/\qz s l λcs s'=>∃ds,jas ks cs=some ds/\∀η,K ((s'.addO [(100*(β+i.d.getD 0),.loose (.sl size e ds) η)]).put i.d (.c (.h (100*(β+i.d.getD 0)) 0 [] (η []))))
 |.st n ks a x=>i.d=none/\∃l,(s.ev x).cells=some l/\l.length=n/\qz s l λcs s'=>match s.ev a with
  |.c (.bp g c b)=>∃ty ds,s'.o g=.box b ty ds/\c+n<=ds.length/\K (s'.setO g (.box b ty (ky ds c cs)))
  |.c (.ep g c p k hx)=>0<n/\∃ds,jas ks cs=some ds/\∃d0 η dd,(s'.o g).own c=some (d0,η)/\η p=hx/\D.get p d0=some dd/\dd.isSl=true/\k+n<=dd.cells.length/\
   stH (ka ds&&ka ((dd.cells.drop k).take n)) p k n η λaC=>K (s'.setO g ((s'.o g).putOwn c (D.put p k ds d0) aC))
  |_=>False
 |.app e size bytes x y=>jzu s size (s.ev y) λys s1=>jf5 s1 e size (s.ev x) λxs s2=>xs.length/size+ys.length/size<=maxLen/\(xs.length/size+ys.length/size)*bytes<=140737488355328/\
  ∀η,K ((s2.addO [(100*(β+i.d.getD 0),.loose (.sl size e (xs++ys)) η)]).put i.d (.c (.h (100*(β+i.d.getD 0)) 0 [] (η []))))
 |.apps e x y=>∃b,s.ev y=.c (.v (.string b))/\jf5 s e 1 (s.ev x) λxs s2=>xs.length+b.size<=140737488355328/\
  ∀η,K ((s2.addO [(100*(β+i.d.getD 0),.loose (.sl 1 e (xs++strCells b)) η)]).put i.d (.c (.h (100*(β+i.d.getD 0)) 0 [] (η []))))
 |.clr size zs x=>i.d=none/\match s.ev x with
  |.c (.v (.slice none 0 0))=>K s
  |.c (.hs g c p hx sz lo n)=>sz=size/\0<n/\∃d0 η dd,(s.o g).own c=some (d0,η)/\η p=hx/\D.get p d0=some dd/\dd.isSl=true/\dd.size=sz/\lo+n<=dd.len/\
   stH (ka (List.replicate n zs).flatten&&ka ((dd.cells.drop (lo*sz)).take (n*sz))) p (lo*sz) (n*sz) η λaC=>K (s.setO g ((s.o g).putOwn c (D.put p (lo*sz) (List.replicate n zs).flatten d0) aC))
  |_=>False
 |.call f args=>(∃rt,∀st,∃av os,Gen P s (β+i.d.getD 0) rt st (.call f args) av os/\K ((s.addO os).put i.d av))\/
  (Turns P f (args.map s.ev) s.o λrt o'=>∀η:Nat->jf,K (((⟨s.t,o'⟩:St).addO (jl3 (100*(β+i.d.getD 0)) η 0 rt.flat)).put i.d (rt.av (100*(β+i.d.getD 0)) η)))\/
  Inl P f (args.map s.ev) s.o λav o'=>K (St.put ⟨s.t,o'⟩ i.d av)
 |.callv x args=>(∃rt,∀st,∃av os,Gen P s (β+i.d.getD 0) rt st (.callv x args) av os/\K ((s.addO os).put i.d av))\/
  ∃f caps,s.ev x=.fn f caps/\Turns P f (args.map s.ev++caps.map .c) s.o λrt o'=>∀η:Nat->jf,K (((⟨s.t,o'⟩:St).addO (jl3 (100*(β+i.d.getD 0)) η 0 rt.flat)).put i.d (rt.av (100*(β+i.d.getD 0)) η))
 |j=>∃rt,∀st,∃av os,Gen P s (β+i.d.getD 0) rt st j av os/\K ((s.addO os).put i.d av)
def zf (s:St):Option (Nat×Bool)->Option Bool
 |none=>some true
 |some (t,want)=>match s.t t with
  |.c (.v (.bool b))=>some (b==want)
  |.c (.v _)=>some false
  |_=>none
def jhO (P:Program) (β:Nat):List Ins->St->(St->Prop)->Prop
 |[],s,K=>K s
 |i::l,s,K=>match zf s i.g with
  |some true=>vp P β i s λs'=>jhO P β l s' K
  |some false=>jhO P β l (s.put i.d (.c (.v undef))) K
  |none=>False
def A0.ids:A0->List Nat
 |.h g _ _ _=>[g]
 |.hs g _ _ _ _ _ _=>[g]
 |.bp g _ _=>[g]
 |.ep g _ _ _ _=>[g]
 |_=>[]
def AV.ids:AV->List Nat
 |.c a=>a.ids
 |.agg l=>l.flatMap A0.ids
 |.fn _ l=>l.flatMap A0.ids
 |_=>[]
inductive Lk where
 |ob (g:Nat)
 |cs (g c n:Nat)
def A0.looks (n:Nat):A0->List Lk
 |.h g _ _ _=>[.ob g]
 |.hs g _ _ _ _ _ _=>[.ob g]
 |.bp g c _=>[.cs g c n]
 |.ep g _ _ _ _=>[.ob g]
 |.v _=>[]
 |.ro _=>[]
 |.rp _=>[]
 |.un=>[]
def AV.looks (n:Nat):AV->List Lk
 |.c a=>a.looks n
 |.agg _=>[]
 |.fn _ _=>[]
 |.tup _=>[]
 |.unk=>[]
def I.looks (s:St):I->List Lk
 |.ld _ n x=>(s.ev x).looks n
 |.ia _ x _=>(s.ev x).ids.map .ob
 |.cv _ _ x=>(s.ev x).ids.map .ob
 |.len _ x=>(s.ev x).ids.map .ob
 |.sl _ x _ _=>(s.ev x).ids.map .ob
 |_=>[]
def juI (g c n:Nat):Ob->Ob->Prop
 |.box b ty cs,.box b' ty' cs'=>b=b'/\ty=ty'/\cs.length=cs'.length/\jez g c ((cs.drop c).take n)=jez g c ((cs'.drop c).take n)
 |ob,ob'=>ob=ob'
def jtD (s s':St):Lk->Prop
 |.ob g=>s'.o g=s.o g
 |.cs g c n=>juI g c n (s'.o g) (s.o g)
def jr8 (s s':St):List Lk->Prop
 |[]=>True
 |k::l=>jtD s s' k/\jr8 s s' l
theorem jkN (g c n:Nat) (ob:Ob):juI g c n ob ob:=by cases ob<;>first|rfl|exact ⟨rfl,rfl,rfl,rfl⟩
theorem jot {s:St} {d:Option Nat} {v:AV} {k:Lk}:jtD s (s.put d v) k:=by cases k<;>cases d<;>first|rfl|exact jkN _ _ _ _
theorem kept_put2 {s s2:St} {d:Option Nat} {v:AV} {k:Lk}:jtD (s.put d v) (s2.put d v) k↔jtD s s2 k:=by cases k<;>cases d<;>exact Iff.rfl
theorem jx0 {s:St} {d:Option Nat} {v:AV} {k:Lk}:jtD (s.put d v) s k:=by cases k<;>cases d<;>first|rfl|exact jkN _ _ _ _
def jov (s s':St) (chk:List Nat):List (Nat×List Lk)->Prop
 |[]=>True
 |(p,ids)::l=>(if chk.contains p then jr8 s s' ids else True)/\jov s s' chk l
def zz (P:Program) (β:Nat):T->List (Nat×List Lk)->St->(St->Prop)->Prop
 |.done,_,s,K=>K s
 |.stop,_,_,_=>True
 |.pure p i t,l,s,K=>match zf s i.g with
  |some true=>vp P β i s λs'=>zz P β t ((p,i.i.looks s)::l) s' K
  |some false=>zz P β t l (s.put i.d (.c (.v undef))) K
  |none=>False
 |.alt i chk t rest,l,s,K=>(match zf s i.g with
  |some true=>vp P β i s λs'=>jov s s' chk l/\zz P β t l s' K
  |some false=>zz P β t l (s.put i.d (.c (.v undef))) K
  |none=>False)/\zz P β rest l s K
def Wk (s s':St):Prop:=∀(B N:Nat) (w0 w:World) (a:Act) (F:Nat->List Nat),RelF B w0 N s a w F->∃F':Nat->List Nat,RelF B w0 N s' a w F'/\∀g,∀b∈F' g,∃g',b∈F g'
def WkK (s:St) (K:St->Prop):Prop:=∀(B N:Nat) (w0 w:World) (a:Act) (F:Nat->List Nat),RelF B w0 N s a w F->∃(s':St) (F':Nat->List Nat),RelF B w0 N s' a w F'/\K s'
inductive Ex where
 |normal
 |exit (id:Nat)
 |ret
def Ex.thn (next:St->Prop) (Q:Ex->St->Prop):Ex->St->Prop
 |.normal,s=>next s
 |.exit id,s=>Q (.exit id) s
 |.ret,s=>Q .ret s
def Ex.inBlk (id:Nat) (Q:Ex->St->Prop):Ex->St->Prop
 |.exit id',s=>if id'=id then Q .normal s else Q (.exit id') s
 |.normal,s=>Q .normal s
 |.ret,s=>Q .ret s
def wpC (P:Program) (β:Nat):C->(Ex->St->Prop)->St->Prop
 |.skip,Q,s=>Q .normal s
 |.reg is,Q,s=>jhO P β is s (Q .normal)
 |.dreg t,Q,s=>zz P β t [] s (Q .normal)
 |.seq a b,Q,s=>wpC P β a (Ex.thn (wpC P β b Q) Q) s
 |.cond x a b,Q,s=>∃t,s.ev x=.c (.v (.bool t))/\(t=true->wpC P β a Q s)/\(t=false->wpC P β b Q s)
 |.blk id a,Q,s=>wpC P β a (Ex.inBlk id Q) s
 |.loop a,Q,s=>∃(ι:Type) (mk:ι->St) (J:ι->Prop) (μ:ι->Nat),(∃i,J i/\Wk s (mk i))/\∀i,J i->wpC P β a (Ex.thn (λs'=>∃i',J i'/\Wk s' (mk i')/\μ i'<μ i) Q) (mk i)
 |.gh a,Q,s=>WkK s (wpC P β a Q)
 |.exit id,Q,s=>Q (.exit id) s
 |.ret,Q,s=>Q .ret s
def jAj (rs:List R) (rt:RT):Ex->St->Prop
 |.exit _,_=>False
 |_,s=>jv2 rs rt s
def RetT (rs:List R) (K:RT->(Nat->Ob)->Prop) (s:St):Prop:=jju s rs λps=>∃rt,ja0 rt ps/\qz s (ps.flatMap (·.2)) λcs s'=>IsD cs rt.flat/\K rt s'.o
def jEV (rs:List R) (K:RT->(Nat->Ob)->Prop):Ex->St->Prop
 |.exit _,_=>False
 |_,s=>RetT rs K s
def St.start (args:List AV) (o:Nat->Ob):St:=⟨λn=>(args[n]?).getD .unk,o⟩
def jv3 (rs:List R) (K:AV->(Nat->Ob)->Prop) (s:St):Prop:=jju s rs λps=>match ps with
 |[(true,l)]=>K (.agg l) s.o
 |[(false,[a])]=>K (.c a) s.o
 |[]=>K (.tup []) s.o
 |p::q::r=>K (.tup (p::q::r)) s.o
 |_=>False
def jHp (rs:List R) (K:AV->(Nat->Ob)->Prop):Ex->St->Prop
 |.exit _,_=>False
 |_,s=>jv3 rs K s
open Go.RowKit
structure Ed where
 src:Int
 dst:Int
 deriving DecidableEq,Inhabited
structure Pl where
 aNI:Int
 aNN:Int
 aNM:Int
 aNA:Int
 aNF:List Ed
 deriving DecidableEq,Inhabited
structure En where
 aNI:Int
 seq:Int
 run:Int
 aNH:Int
 deriving DecidableEq,Inhabited
structure Tk where
 aND:Int
 aNL:Int
 tri:Int
 til:Int
 deriving DecidableEq,Inhabited
structure Rn where
 id:Int
 aNB:Pl
 aND:Int
 aNA:List Tk
 deriving DecidableEq,Inhabited
structure Yd where
 now:Int
 seq:Int
 aNC:List (List En)
 aNE:List Rn
 deriving DecidableEq,Inhabited
structure Dd where
 aNK:Int
 run:Int
 aNB:Pl
 aNH:Int
 tri:Int
 aNG:Int
 aNJ:Int
 deriving DecidableEq,Inhabited
structure Nt where
 seq:Int
 aNO:Dd
 deriving DecidableEq,Inhabited
abbrev jEZ:TypeId:=25
abbrev tSh:TypeId:=24
abbrev tEd:TypeId:=161
abbrev tEn:TypeId:=44
abbrev tTk:TypeId:=46
abbrev tRn:TypeId:=52
abbrev jro:TypeId:=35
abbrev tNt:TypeId:=70
abbrev tDd:TypeId:=60
abbrev tYd:TypeId:=27
abbrev tPl:TypeId:=49
abbrev jeP:TypeId:=3
abbrev iv (n:Int):D:=.val (.int .i64 n)
def jb (l:List Int):D:=.sl 1 jeP (l.flatMap λn=>[iv n])
def jK (e:Ed):List D:=[iv e.src,iv e.dst]
def js (l:List Ed):D:=.sl 2 tEd (l.flatMap jK)
def jd (p:Pl):List D:=[iv p.aNI,iv p.aNN,iv p.aNM,iv p.aNA,js p.aNF]
def jk (e:En):List D:=[iv e.aNI,iv e.seq,iv e.run,iv e.aNH]
def jg (l:List En):D:=.sl 4 tEn (l.flatMap jk)
def jH (t:Tk):List D:=[iv t.aND,iv t.aNL,iv t.tri,iv t.til]
def jx (l:List Tk):D:=.sl 4 tTk (l.flatMap jH)
def je (r:Rn):List D:=iv r.id::(jd r.aNB++[iv r.aND,jx r.aNA])
def jE (l:List Rn):D:=.sl 8 tRn (l.flatMap je)
def ki (l:List (List En)):D:=.sl 1 jro (l.flatMap λes=>[jg es])
def jc (y:Yd):List D:=[iv y.now,iv y.seq,ki y.aNC,jE y.aNE]
def jR (d:Dd):List D:=iv d.aNK::iv d.run::(jd d.aNB++[iv d.aNH,iv d.tri,iv d.aNG,iv d.aNJ])
def qL (n:Nt):List D:=iv n.seq::jR n.aNO
def qJ (l:List Dd):D:=.sl 11 tDd (l.flatMap jR)
def ql (l:List Nt):D:=.sl 12 tNt (l.flatMap qL)
section
variable {w:World} {own:Bool} {vs:List Value} {v:Value} {S:List Nat}
theorem jgL {e:En} (h:RepL w own (jk e) vs S):vs=[.int .i64 e.aNI,.int .i64 e.seq,.int .i64 e.run,.int .i64 e.aNH]/\S=[]:=by
 obtain ⟨_,rfl,g1⟩:=RepL.val_inv h;obtain ⟨_,rfl,g2⟩:=RepL.val_inv g1;obtain ⟨_,rfl,g3⟩:=RepL.val_inv g2;obtain ⟨_,rfl,g4⟩:=RepL.val_inv g3;obtain ⟨rfl,rfl⟩:=g4;exact ⟨rfl,rfl⟩
theorem jkf {e:Tk} (h:RepL w own (jH e) vs S):vs=[.int .i64 e.aND,.int .i64 e.aNL,.int .i64 e.tri,.int .i64 e.til]/\S=[]:=by
 obtain ⟨_,rfl,g1⟩:=RepL.val_inv h;obtain ⟨_,rfl,g2⟩:=RepL.val_inv g1;obtain ⟨_,rfl,g3⟩:=RepL.val_inv g2;obtain ⟨_,rfl,g4⟩:=RepL.val_inv g3;obtain ⟨rfl,rfl⟩:=g4;exact ⟨rfl,rfl⟩
theorem jtU {e:Ed} (h:RepL w own (jK e) vs S):vs=[.int .i64 e.src,.int .i64 e.dst]/\S=[]:=by
 obtain ⟨_,rfl,g1⟩:=RepL.val_inv h;obtain ⟨_,rfl,g2⟩:=RepL.val_inv g1;obtain ⟨rfl,rfl⟩:=g2;exact ⟨rfl,rfl⟩
theorem jel {p:Pl} (h:RepL w own (jd p) vs S):∃ev,vs=[.int .i64 p.aNI,.int .i64 p.aNN,.int .i64 p.aNM,.int .i64 p.aNA,ev]/\Rep w own (js p.aNF) ev S:=by
 obtain ⟨_,rfl,g1⟩:=RepL.val_inv h;obtain ⟨_,rfl,g2⟩:=RepL.val_inv g1;obtain ⟨_,rfl,g3⟩:=RepL.val_inv g2;obtain ⟨_,rfl,g4⟩:=RepL.val_inv g3;obtain ⟨ev,_,S1,S2,rfl,rfl,h1,rfl,rfl⟩:=g4;exact ⟨ev,rfl,by simpa using h1⟩
theorem jaz {r:Rn} (h:RepL w own (je r) vs S):∃ev tv S1 S2,vs=[.int .i64 r.id,.int .i64 r.aNB.aNI,.int .i64 r.aNB.aNN,.int .i64 r.aNB.aNM,.int .i64 r.aNB.aNA,ev,.int .i64 r.aND,tv]
 /\Rep w own (js r.aNB.aNF) ev S1/\Rep w own (jx r.aNA) tv S2/\S=S1++S2:=by
 obtain ⟨_,rfl,g1⟩:=RepL.val_inv h;obtain ⟨v1,v2,S1,S2,rfl,rfl,h1,h2⟩:=RepL.append_inv _ g1;obtain ⟨ev,rfl,k1⟩:=jel h1;obtain ⟨_,rfl,g2⟩:=RepL.val_inv h2;obtain ⟨tv,_,S3,S4,rfl,rfl,h3,rfl,rfl⟩:=g2;exact ⟨ev,tv,S1,S3,rfl,k1,h3,by simp⟩
theorem zl {y:Yd} (h:RepL w own (jc y) vs S):∃sv rv S1 S2,vs=[.int .i64 y.now,.int .i64 y.seq,sv,rv]/\Rep w own (ki y.aNC) sv S1/\Rep w own (jE y.aNE) rv S2/\S=S1++S2:=by
 obtain ⟨_,rfl,g1⟩:=RepL.val_inv h;obtain ⟨_,rfl,g2⟩:=RepL.val_inv g1;obtain ⟨sv,_,S1,S2,rfl,rfl,h1,k⟩:=g2;obtain ⟨rv,_,S3,S4,rfl,rfl,h3,rfl,rfl⟩:=k;exact ⟨sv,rv,S1,S3,rfl,h1,h3,by simp⟩
theorem jtZ {d:Dd} (h:RepL w own (jR d) vs S):∃ev,vs=[.int .i64 d.aNK,.int .i64 d.run,.int .i64 d.aNB.aNI,.int .i64 d.aNB.aNN,.int .i64 d.aNB.aNM,.int .i64 d.aNB.aNA,ev,.int .i64 d.aNH,.int .i64 d.tri,.int .i64 d.aNG,.int .i64 d.aNJ]
 /\Rep w own (js d.aNB.aNF) ev S:=by
 obtain ⟨_,rfl,g1⟩:=RepL.val_inv h;obtain ⟨_,rfl,g2⟩:=RepL.val_inv g1;obtain ⟨v1,v2,S1,S2,rfl,rfl,h1,h2⟩:=RepL.append_inv _ g2;obtain ⟨ev,rfl,k1⟩:=jel h1;obtain ⟨_,rfl,g3⟩:=RepL.val_inv h2;obtain ⟨_,rfl,g4⟩:=RepL.val_inv g3;obtain ⟨_,rfl,g5⟩:=RepL.val_inv g4;obtain ⟨_,rfl,g6⟩:=RepL.val_inv g5;obtain ⟨rfl,rfl⟩:=g6;exact ⟨ev,rfl,by simpa using k1⟩
theorem jBc (w:World) (own:Bool) (e:En):RepL w own (jk e) [.int .i64 e.aNI,.int .i64 e.seq,.int .i64 e.run,.int .i64 e.aNH] []:=RepL.val_ (RepL.val_ (RepL.val_ (RepL.val_ RepL.nil_)))
theorem jF0 {p:Pl} {ev:Value} (h:Rep w own (js p.aNF) ev S):RepL w own (jd p) [.int .i64 p.aNI,.int .i64 p.aNN,.int .i64 p.aNM,.int .i64 p.aNA,ev] S:=by
 have:=RepL.val_ (u:=.int .i64 p.aNI) (RepL.val_ (u:=.int .i64 p.aNN) (RepL.val_ (u:=.int .i64 p.aNM) (RepL.val_ (u:=.int .i64 p.aNA) (RepL.cons_ h (RepL.nil_ (w:=w) (own:=own))))))
 rwa [aOP] at this
theorem ja3 {y:Yd} {sv rv:Value} {S1 S2:List Nat} (h:Rep w own (ki y.aNC) sv S1) (h2:Rep w own (jE y.aNE) rv S2):
 RepL w own (jc y) [.int .i64 y.now,.int .i64 y.seq,sv,rv] (S1++S2):=by
 have:=RepL.val_ (u:=.int .i64 y.now) (RepL.val_ (u:=.int .i64 y.seq) (RepL.cons_ h (RepL.cons_ h2 (RepL.nil_ (w:=w) (own:=own)))))
 rwa [aOP] at this
theorem jqF (r:Dd):(jR r).length=11:=rfl
theorem jyB (r:Nt):(qL r).length=12:=rfl
end
theorem jA8 {α:Type} {l m:List α} {k:Nat} {x:α} (hx:l[k]?=some x) (hy:m[k]?=some x) (h:l.take k=m.take k):l.take (k+1)=m.take (k+1):=by
 rw [aOA,aOA,h,hx,hy]
theorem jGR {α:Type} {l m:List α} {k:Nat} {x y:α} (hx:l[k]?=some x) (hy:m[k]?=some y) (h:x≠y):l≠m:=by
 intro e;subst e;rw [hx] at hy;exact h (aOH hy)
theorem jA9 {α:Type} {l m:List α} {k:Nat} (hl:l.length<=k) (hm:m.length<=k) (h:l.take k=m.take k):l=m:=by
 rwa [aNU hl,aNU hm] at h
theorem ja {α:Type} {l:List α} {k:Nat} (h:k<l.length):∃x,l[k]?=some x:=⟨l[k],aNS h⟩
theorem jX {b b':Bool} (h:b=b'):Ending.returned (.bool b)=Ending.returned (.bool b'):=by rw [h]
theorem jsf {P:Program} {e:TypeId} {size bytes:Nat} {z:Value} (h:(P.info? e).map (λi=>(i.zero,i.size,i.bytes))=some (some z,size,bytes)):
 ∃i zv,P.info? e=some i/\i.zero=some zv/\zv.cells=z.cells/\i.size=size/\i.bytes=bytes:=by
 cases hq:P.info? e with
 |none=>rw [hq] at h;simp at h
 |some i=>
  rw [hq] at h;simp at h;exact ⟨i,z,rfl,h.1,rfl,h.2.1,h.2.2⟩
theorem cb {P:Program} {f:FuncId} {args:Array Value} {w:World} {b b':Bool} (h:Calls P f args w λe w'=>e=.returned (.bool b)/\Below w.heap.size w w') (hb:b=b'):Calls P f args w λe w'=>e=.returned (.bool b')/\Below w.heap.size w w':=by subst hb;exact h
theorem jao {W w1:World} (hb:Below W.heap.size W w1):(∀b o,b<W.heap.size->w1.cell? ⟨b,o,none⟩=W.cell? ⟨b,o,none⟩)/\(∀b o,b<W.heap.size->w1.frozen? ⟨b,o,none⟩=W.frozen? ⟨b,o,none⟩):=
 ⟨λb o h=>hb.cell (p:=⟨b,o,none⟩) h,λb o h=>hb.frozen (p:=⟨b,o,none⟩) h⟩
theorem jou {w:World} {own:Bool} {d:D} {v:Value} {S:List Nat} {p:Addr} {u:Value} (h:Rep w own d v S) (hp:∀b∈S,b≠p.block):Rep (w.setCell p u) own d v S:=
 Rep.keep d h λb hb=>Below.heap_setCell w p u b (hp b hb)
theorem Rep.form {w:World} {own:Bool} {size:Nat} {ty:TypeId} {cs:List D} {v:Value} {S:List Nat} (h:Rep w own (.sl size ty cs) v S):∃A n c,v=.slice A n c:=by
 obtain ⟨vs,T,S',hr,_,_⟩:=h;obtain ⟨_,A,n,c,rfl,_⟩:=hr.ro;exact ⟨A,n,c,rfl⟩
def qh {α:Type} (tot:α->Nat) (l:List α):Nat:=(l.map tot).sum
theorem jaJ {α:Type} (tot:α->Nat) (l m:List α):qh tot (l++m)=qh tot l+qh tot m:=by simp [qh]
theorem vd {α:Type} {tot:α->Nat} {l:List α} {k:Nat} {x:α} (h:l[k]?=some x):qh tot (l.take (k+1))=qh tot (l.take k)+tot x:=by
 rw [aOA,h,jaJ];simp [qh]
theorem zm {α:Type} (tot:α->Nat) (l:List α) (k:Nat):qh tot (l.take k)<=qh tot l:=by
 conv=>rhs;rw [<-aPF k l,jaJ]
 exact aQR _ _
theorem jzN {α:Type} {tot:α->Nat} {l:List α} {k:Nat} {x:α} (h:l[k]?=some x):tot x<=qh tot l:=by
 have h1:=vd (tot:=tot) h;have h2:=zm tot l (k+1);omega
def jc4 (p:Pl):Nat:=p.aNF.length
def kz (r:Rn):Nat:=jc4 r.aNB+r.aNA.length
def vh (l:List En):Nat:=l.length
def jbp (l:List (List En)):Nat:=l.length+qh vh l
def zn (l:List Rn):Nat:=l.length+qh kz l
def jn (y:Yd):Nat:=jbp y.aNC+zn y.aNE
def jbq (d:Dd):Nat:=jc4 d.aNB
def ji0 (l:List Dd):Nat:=l.length+qh jbq l
def jpg (n:Nt):Nat:=jbq n.aNO
def jcv (l:List Nt):Nat:=l.length+qh jpg l
theorem jh0 {a b:Int} (h:a=b):Ending.returned (.int .i64 a)=Ending.returned (.int .i64 b):=by rw [h]
def jhY (rs:List Rn) (id:Int):Int:=match rs.findIdx? (λr=>r.id==id) with
 |some k=>k
 |none=>-1
def runAt (y:Yd) (id:Int):Int:=if 8<y.aNE.length then -1 else jhY y.aNE id
theorem jb9 {rs:List Rn} {id:Int} {k:Nat} {x:Rn} (hx:rs[k]?=some x) (h:x.id=id) (eK:∀j,j<k->∀z,rs[j]?=some z->z.id≠id):jhY rs id=k:=by
 have hk:k<rs.length:=(aNP.1 hx).1
 have:rs.findIdx? (λr=>r.id==id)=some k:=by
  rw [List.findIdx?_eq_some_iff_getElem];refine ⟨hk,?_,λj hj=>?_⟩
  ·rw [aNS hk] at hx
   simp only [Option.some.injEq] at hx;simp [hx,h]
  ·have:=eK j hj rs[j] (aNS (by omega))
   simpa using this
 simp [jhY,this]
theorem jhX {rs:List Rn} {id:Int} (eK:∀j,j<rs.length->∀z,rs[j]?=some z->z.id≠id):jhY rs id=-1:=by
 have:rs.findIdx? (λr=>r.id==id)=none:=by
  rw [List.findIdx?_eq_none_iff];intro x hx;obtain ⟨j,hj,rfl⟩:=aOZ hx;simpa using eK j hj rs[j] (aNS hj)
 simp [jhY,this]
theorem jkR (rs:List Rn) (id:Int):(∃(k:Nat) (x:Rn),rs[k]?=some x/\x.id=id/\(∀j,j<k->∀z,rs[j]?=some z->z.id≠id)/\jhY rs id=k)\/((∀x∈rs,x.id≠id)/\jhY rs id=-1):=by
 cases h:rs.findIdx? (λr=>r.id==id) with
 |none=>
  right;rw [List.findIdx?_eq_none_iff] at h;have h':∀x∈rs,x.id≠id:=λx hx=>by simpa using h x hx
  exact ⟨h',jhX λj hj z hz=>h' z (aNQ hz)⟩
 |some k=>
  left;rw [List.findIdx?_eq_some_iff_getElem] at h;obtain ⟨hk,h1,h2⟩:=h;have hx:rs[k]?=some rs[k]:=aNS hk;have cW:rs[k].id=id:=by simpa using h1
  have eK:∀j,j<k->∀z,rs[j]?=some z->z.id≠id:=λj hj z hz=>by
   have:=h2 j hj;rw [aNS (by omega)] at hz
   simp only [Option.some.injEq] at hz;subst hz;simpa using this
  exact ⟨k,rs[k],hx,cW,eK,jb9 hx cW eK⟩
def jaK (y:Yd) (id aNH:Int):Option Tk:=
 if runAt y id<0 then none else match y.aNE[(runAt y id).toNat]? with
 |some r=>if 0<=aNH then r.aNA[aNH.toNat]? else none
 |none=>none
def jU (y:Yd) (e:En):Bool:=match jaK y e.run e.aNH with
 |some t=>t.aND==2
 |none=>false
def vo (y:Yd) (id aNH tri:Int):Bool:=match jaK y id aNH with
 |some t=>t.aND==3&&t.tri==tri
 |none=>false
theorem vZ (y:Yd) (id aNH:Int):(runAt y id=-1/\jaK y id aNH=none)\/
 (∃(k:Nat) (r:Rn),runAt y id=k/\y.aNE[k]?=some r/\((¬(0<=aNH/\aNH<=(r.aNA.length:Int)-1)/\jaK y id aNH=none)\/
  (∃(j:Nat) (t:Tk),aNH=j/\r.aNA[j]?=some t/\jaK y id aNH=some t))):=by
 have h1:runAt y id=-1\/∃(k:Nat) (r:Rn),runAt y id=k/\y.aNE[k]?=some r:=by
  unfold runAt;split
  ·exact .inl rfl
  ·rcases jkR y.aNE id with ⟨k,x,hx,_,_,he⟩|⟨_,he⟩
   ·exact .inr ⟨k,x,he,hx⟩
   ·exact .inl he
 rcases h1 with h|⟨k,r,h,hr⟩
 ·exact .inl ⟨h,by unfold jaK;rw [if_pos (by omega)]⟩
 ·right
  refine ⟨k,r,h,hr,?_⟩
  have e:jaK y id aNH=if 0<=aNH then r.aNA[aNH.toNat]? else none:=by
   unfold jaK;rw [if_neg (by omega),h,aNW,hr]
  by_cases h0:0<=aNH
  ·rw [if_pos h0] at e
   by_cases hl:aNH.toNat<r.aNA.length
   ·right
    exact ⟨aNH.toNat,r.aNA[aNH.toNat],by omega,aNS hl,by rw [e,aNS hl]⟩
   ·left
    exact ⟨by omega,by rw [e,aPN (by omega)]⟩
  ·left
   rw [if_neg h0] at e;exact ⟨by omega,e⟩
def kQ (r:Rn):Nat:=if r.aND=1 then r.aNA.length else 0
def qE (y:Yd) (l:List En):Nat:=l.countP (λe=>!jU y e)
def jaH (y:Yd):List En:=y.aNC.flatten
def qj (y:Yd):Int:=qh kQ y.aNE+qE y (jaH y)
def zJ (y:Yd) (p:Pl):Bool:=decide (y.aNE.length<8)&&(decide (0<=p.aNA/\p.aNA<=12)&&(decide (qj y+p.aNA<=40)&&decide (y.seq<=1000000000-1000-p.aNA)))
theorem jkA (l:List Rn):qh kQ l<=qh kz l:=by
 induction l with
 |nil=>simp [qh]
 |cons r l ih=>
  have h:kQ r<=kz r:=by unfold kQ kz;split<;>omega
  simp only [qh,aPB,aQD] at*;omega
theorem vt (l:List (List En)):l.flatten.length=qh vh l:=by
 induction l with
 |nil=>simp [qh]
 |cons r l ih=>simp only [aQY,aNR,qh,aPB,aQD,vh] at*;omega
theorem jnK (y:Yd) (l:List En):qE y l<=l.length:=List.countP_le_length
theorem jmJ {y:Yd} {l:List En} {k:Nat} {e:En} (h:l[k]?=some e):qE y (l.take (k+1))=qE y (l.take k)+(if jU y e then 0 else 1):=by
 unfold qE;rw [aOA,h,List.countP_append];cases hf:jU y e<;>simp [hf]
theorem jmI (y:Yd) (l:List En) (k:Nat):qE y (l.take k)<=qE y l:=by
 unfold qE;exact (List.take_sublist k l).countP_le
theorem jbO {l:List (List En)} {k:Nat} {es:List En} (h:l[k]?=some es):(l.take (k+1)).flatten=(l.take k).flatten++es:=by
 rw [aOA,h,List.flatten_append];simp
section
variable {P:Program} {β:Nat} {s:St} {K:St->Prop} {Q:Ex->St->Prop} {d:Option Nat} {g:Option (Nat×Bool)}
theorem ev_t (n:Nat):s.ev (.t n)=s.t n:=(rfl)
theorem ev_i (k:IntKind) (n:Int):s.ev (.c (.int k n))=.c (.v (.int k n)):=(rfl)
theorem ev_b (b:Bool):s.ev (.c (.bool b))=.c (.v (.bool b)):=(rfl)
theorem ev_s (b:ByteArray):s.ev (.c (.string b))=.c (.v (.string b)):=(rfl)
theorem ev_n:s.ev (.c (.slice none 0 0))=.c (.v (.slice none 0 0)):=(rfl)
theorem put_t (k n:Nat) (v:AV):(s.put (some k) v).t n=if n=k then v else s.t n:=(rfl)
theorem put_o (v:AV) (n:Nat):(s.put d v).o n=s.o n:=by cases d<;>rfl
theorem jFm (k:Nat) (ob:Ob) (n:Nat):(s.setO k ob).t n=s.t n:=(rfl)
theorem jFn (k:Nat) (ob:Ob) (n:Nat):(s.setO k ob).o n=if n=k then ob else s.o n:=(rfl)
theorem jBC:s.addO []=s:=(rfl)
theorem jzs (k:Nat) (ob:Ob) (l:List (Nat×Ob)):s.addO ((k,ob)::l)=(s.setO k ob).addO l:=(rfl)
theorem jzG:wpC P β .skip Q s=Q .normal s:=(rfl)
theorem jEP (is:List Ins):wpC P β (.reg is) Q s=jhO P β is s (Q .normal):=(rfl)
theorem jrg (a b:C):wpC P β (.seq a b) Q s=wpC P β a (Ex.thn (wpC P β b Q) Q) s:=(rfl)
theorem jBF (id:Nat) (a:C):wpC P β (.blk id a) Q s=wpC P β a (Ex.inBlk id Q) s:=(rfl)
theorem jzH (id:Nat):wpC P β (.exit id) Q s=Q (.exit id) s:=(rfl)
theorem jCC:wpC P β .ret Q s=Q .ret s:=(rfl)
theorem jv8 {x:X} (a b:C) (h:s.ev x=.c (.v (.bool true))):wpC P β (.cond x a b) Q s=wpC P β a Q s:=by simp [wpC,h]
theorem jv9 {x:X} (a b:C) (h:s.ev x=.c (.v (.bool false))):wpC P β (.cond x a b) Q s=wpC P β b Q s:=by simp [wpC,h]
theorem thn_n (next:St->Prop):Ex.thn next Q .normal s=next s:=(rfl)
theorem thn_e (next:St->Prop) (id:Nat):Ex.thn next Q (.exit id) s=Q (.exit id) s:=(rfl)
theorem thn_r (next:St->Prop):Ex.thn next Q .ret s=Q .ret s:=(rfl)
theorem blk_n (id:Nat):Ex.inBlk id Q .normal s=Q .normal s:=(rfl)
theorem blk_r (id:Nat):Ex.inBlk id Q .ret s=Q .ret s:=(rfl)
theorem blk_e (id id':Nat):Ex.inBlk id Q (.exit id') s=if id'=id then Q .normal s else Q (.exit id') s:=(rfl)
theorem jAc:jhO P β [] s K=K s:=(rfl)
theorem jw3 (i:I) (l:List Ins):jhO P β (⟨d,none,i⟩::l) s K=vp P β ⟨d,none,i⟩ s (λs'=>jhO P β l s' K):=(rfl)
theorem jC8 {t:Nat} (i:I) (l:List Ins) (h:s.t t=.c (.v (.bool true))):jhO P β (⟨d,some (t,true),i⟩::l) s K=vp P β ⟨d,some (t,true),i⟩ s (λs'=>jhO P β l s' K):=by simp [jhO,zf,h]
theorem jC9 {t:Nat} (i:I) (l:List Ins) (h:s.t t=.c (.v (.bool false))):jhO P β (⟨d,some (t,true),i⟩::l) s K=jhO P β l (s.put d (.c (.v undef))) K:=by simp [jhO,zf,h]
theorem jDa {t:Nat} (i:I) (l:List Ins) (h:s.t t=.c (.v (.bool true))):jhO P β (⟨d,some (t,false),i⟩::l) s K=jhO P β l (s.put d (.c (.v undef))) K:=by simp [jhO,zf,h]
theorem jDb {t:Nat} (i:I) (l:List Ins) (h:s.t t=.c (.v (.bool false))):jhO P β (⟨d,some (t,false),i⟩::l) s K=vp P β ⟨d,some (t,false),i⟩ s (λs'=>jhO P β l s' K):=by simp [jhO,zf,h]
def I.writes:I->Bool
 |.box ..|.bsl ..|.st ..|.app ..|.apps ..|.clr ..|.call ..|.callv ..=>true
 |_=>false
theorem jCd {i:I} {av:AV} {os:List (Nat×Ob)} (hw:i.writes=false) (h:∀rt st av' os',Gen P s (β+d.getD 0) rt st i av' os'↔av'=av/\os'=os):
 vp P β ⟨d,g,i⟩ s K=K ((s.addO os).put d av):=by
 have e:vp P β ⟨d,g,i⟩ s K=(∃rt,∀st,∃av os,Gen P s (β+d.getD 0) rt st i av os/\K ((s.addO os).put d av)):=by
  cases i<;>first|rfl|cases hw
 rw [e]
 apply propext
 constructor
 ·rintro ⟨rt,h1⟩
  obtain ⟨av',os',h2,h3⟩:=h1 ⟨0,λ_ _=>undef⟩
  obtain ⟨rfl,rfl⟩:=(h _ _ _ _).1 h2;exact h3
 ·intro h1
  exact ⟨.c (.val undef),λst=>⟨_,_,(h _ _ _ _).2 ⟨rfl,rfl⟩,h1⟩⟩
theorem jAX {i:I} {av:AV} (hw:i.writes=false) (h:∀rt st av' os',Gen P s (β+d.getD 0) rt st i av' os'↔av'=av/\os'=[]):vp P β ⟨d,g,i⟩ s K=K (s.put d av):=jCd hw h
theorem jC4 (x:X):vp P β ⟨d,g,.mov x⟩ s K=K (s.put d (s.ev x)):=jAX rfl λ_ _ _ _=>Iff.rfl
theorem jD7 {i:I} {p:Prop} {av:AV} (hw:i.writes=false) (h:∀rt st av' os',Gen P s (β+d.getD 0) rt st i av' os'↔p/\av'=av/\os'=[]):vp P β ⟨d,g,i⟩ s K=(p/\K (s.put d av)):=by
 by_cases hp:p
 ·rw [jAX hw (av:=av) λrt st av' os'=>by rw [h];simp [hp]];simp [hp]
 ·have e:vp P β ⟨d,g,i⟩ s K=(∃rt,∀st,∃av os,Gen P s (β+d.getD 0) rt st i av os/\K ((s.addO os).put d av)):=by
   cases i<;>first|rfl|cases hw
  rw [e]
  apply propext
  constructor
  ·rintro ⟨rt,h1⟩
   obtain ⟨av',os',h2,_⟩:=h1 ⟨0,λ_ _=>undef⟩
   exact absurd ((h _ _ _ _).1 h2).1 hp
  ·exact λh=>absurd h.1 hp
theorem jtM {i:I} (hw:i.writes=false) (h:∀rt st av' os',¬Gen P s (β+d.getD 0) rt st i av' os'):vp P β ⟨d,g,i⟩ s K=False:=by
 have e:vp P β ⟨d,g,i⟩ s K=(∃rt,∀st,∃av os,Gen P s (β+d.getD 0) rt st i av os/\K ((s.addO os).put d av)):=by
  cases i<;>first|rfl|cases hw
 rw [e]
 apply propext
 constructor
 ·rintro ⟨rt,h1⟩
  obtain ⟨av',os',h2,_⟩:=h1 ⟨0,λ_ _=>undef⟩
  exact absurd h2 (h _ _ _ _)
 ·exact False.elim
def jDz (d:Option Nat) (s:St) (K:St->Prop) (c a b:AV):Prop:=match c with
 |.c (.v (.bool t))=>K (s.put d (if t then a else b))
 |_=>False
theorem jAb (c a b:X):vp P β ⟨d,g,.pick c a b⟩ s K=jDz d s K (s.ev c) (s.ev a) (s.ev b):=by
 unfold jDz;split
 ·exact jAX rfl λ_ _ _ _=>by simp [Gen, *]
 ·rename_i h
  exact jtM rfl λ_ _ _ _ ⟨t,h1,_⟩=>h t h1
theorem jF6 (t:Bool) (a b:AV):jDz d s K (.c (.v (.bool t))) a b=K (s.put d (if t then a else b)):=(rfl)
def faK (d:Option Nat) (s:St) (K:St->Prop) (off:Nat):AV->Prop
 |.c (.rp ds)=>K (s.put d (.c (.rp (ds.drop off))))
 |.c (.bp g c b)=>K (s.put d (.c (.bp g (c+off) b)))
 |.c (.ep g c p i x)=>K (s.put d (.c (.ep g c p (i+off) x)))
 |_=>False
theorem jFv (off:Nat) (x:X):vp P β ⟨d,g,.fa off x⟩ s K=faK d s K off (s.ev x):=by
 cases h:s.ev x with
 |c a=>cases a<;>first|exact jAX rfl (λ_ _ _ _=>by simp [Gen,h])|exact jtM rfl (λ_ _ _ _=>by simp [Gen,h])
 |_=>exact jtM rfl (λ_ _ _ _=>by simp [Gen,h])
theorem jGJ (off:Nat) (ds:List D):faK d s K off (.c (.rp ds))=K (s.put d (.c (.rp (ds.drop off)))):=(rfl)
theorem jGL (off k c b:Nat):faK d s K off (.c (.bp k c b))=K (s.put d (.c (.bp k (c+off) b))):=(rfl)
theorem jGK (off k c:Nat) (p:List Nat) (i:Nat) (x:Value):faK d s K off (.c (.ep k c p i x))=K (s.put d (.c (.ep k c p (i+off) x))):=(rfl)
def ldV:Bool->List A0->(AV->Prop)->Prop
 |true,l,k=>k (.agg l)
 |false,[a],k=>k (.c a)
 |false,_,_=>False
theorem ldV_t (l:List A0) (k:AV->Prop):ldV true l k=k (.agg l):=(rfl)
theorem ldV_f (a:A0) (k:AV->Prop):ldV false [a] k=k (.c a):=(rfl)
def ldB (ob:Ob) (g c b n:Nat) (k:List A0->Prop):Prop:=match ob with
 |.box b' _ cs=>b'=b/\c+n<=cs.length/\k (jez g c ((cs.drop c).take n))
 |_=>False
theorem ldB_ (b' ty:Nat) (cs:List Cell) (k c b n:Nat) (K:List A0->Prop):ldB (.box b' ty cs) k c b n K=(b'=b/\c+n<=cs.length/\K (jez k c ((cs.drop c).take n))):=(rfl)
def ldK (d:Option Nat) (s:St) (K:St->Prop) (agg:Bool) (n:Nat):AV->Prop
 |.c (.rp ds)=>n<=ds.length/\ldV agg ((ds.take n).map D.toRo) λv=>K (s.put d v)
 |.c (.bp g c b)=>ldB (s.o g) g c b n λl=>ldV agg l λv=>K (s.put d v)
 |.c (.ep g c p i x)=>∃d0 η dd,(s.o g).own c=some (d0,η)/\η p=x/\D.get p d0=some dd/\dd.isSl=true/\i+n<=dd.cells.length/\ldV agg (jig g c p η i ((dd.cells.drop i).take n)) λv=>K (s.put d v)
 |_=>False
theorem jFs (agg:Bool) (n:Nat) (x:X):vp P β ⟨d,g,.ld agg n x⟩ s K=ldK d s K agg n (s.ev x):=by
 have e:vp P β ⟨d,g,.ld agg n x⟩ s K=(∃rt:RT,∀st:jzt,∃av os,(∃l,jaw s n l (s.ev x)/\(if agg then av=.agg l else∃a,l=[a]/\av=.c a)/\os=[])/\K ((s.addO os).put d av)):=rfl
 have h1:∀l,(∃av os,((if agg then av=.agg l else∃a,l=[a]/\av=.c a)/\os=[])/\K ((s.addO os).put d av))↔ldV agg l λv=>K (s.put d v):=λl=>by
  cases agg
  ·rcases l with _|⟨a,_|⟨b,l⟩⟩
   ·simp [ldV]
   ·simp only [ldV]
    constructor
    ·rintro ⟨_,_,⟨h,rfl⟩,h3⟩;simp at h;subst h;exact h3
    ·intro h3;exact ⟨_,_,⟨by simp,rfl⟩,h3⟩
   ·simp [ldV]
  ·simp only [ldV]
   constructor
   ·rintro ⟨_,_,⟨h,rfl⟩,h3⟩;simp at h;subst h;exact h3
   ·intro h3;exact ⟨_,_,⟨by simp,rfl⟩,h3⟩
 have e2:vp P β ⟨d,g,.ld agg n x⟩ s K↔∃l,jaw s n l (s.ev x)/\ldV agg l λv=>K (s.put d v):=by
  rw [e];constructor
  ·rintro ⟨_,h⟩
   obtain ⟨av,os,⟨l,h2,h3⟩,h4⟩:=h ⟨0,λ_ _=>undef⟩
   exact ⟨l,h2,(h1 l).1 ⟨av,os,h3,h4⟩⟩
  ·rintro ⟨l,h2,h3⟩
   refine ⟨.c (.val undef),λ_=>?_⟩
   obtain ⟨av,os,h4,h5⟩:=(h1 l).2 h3;exact ⟨av,os,⟨l,h2,h4⟩,h5⟩
 apply propext
 rw [e2];cases h:s.ev x with
 |c a=>
  cases a with
  |bp k c b=>
   simp only [jaw,ldK,ldB];cases ho:s.o k<;>simp
   constructor
   ·rintro ⟨l,⟨_,_,⟨rfl,_,rfl⟩,h2,rfl⟩,h3⟩;exact ⟨rfl,h2,h3⟩
   ·rintro ⟨rfl,h2,h3⟩;exact ⟨_,⟨_,_,⟨rfl,rfl,rfl⟩,h2,rfl⟩,h3⟩
  |rp ds=>
   simp only [jaw,ldK];constructor
   ·rintro ⟨l,⟨h2,rfl⟩,h3⟩;exact ⟨h2,h3⟩
   ·rintro ⟨h2,h3⟩;exact ⟨_,⟨h2,rfl⟩,h3⟩
  |ep k c p i x=>
   simp only [jaw,ldK];constructor
   ·rintro ⟨l,⟨d0,η,dd,h2,h3,h4,h7,h5,rfl⟩,h6⟩;exact ⟨d0,η,dd,h2,h3,h4,h7,h5,h6⟩
   ·rintro ⟨d0,η,dd,h2,h3,h4,h7,h5,h6⟩;exact ⟨_,⟨d0,η,dd,h2,h3,h4,h7,h5,rfl⟩,h6⟩
  |_=>simp [jaw,ldK]
 |_=>simp [jaw,ldK]
theorem jGq (agg:Bool) (n:Nat) (ds:List D):ldK d s K agg n (.c (.rp ds))=(n<=ds.length/\ldV agg ((ds.take n).map D.toRo) λv=>K (s.put d v)):=(rfl)
theorem jGr (agg:Bool) (n k c b:Nat):ldK d s K agg n (.c (.bp k c b))=ldB (s.o k) k c b n λl=>ldV agg l λv=>K (s.put d v):=(rfl)
def iaK (d:Option Nat) (s:St) (K:St->Prop) (size:Nat):AV->AV->Prop
 |.c (.ro dd),.c (.v (.int _ n))=>(0<=n/\n.toNat<dd.len/\dd.isSl=true/\dd.size=size)/\K (s.put d (.c (.rp (dd.elem n.toNat))))
 |.c (.hs g c p hx sz lo m),.c (.v (.int _ n))=>(0<=n/\(∃dd,Is s (.hs g c p hx sz lo m) dd)/\sz=size/\n.toNat<m)/\K (s.put d (.c (.ep g c p ((lo+n.toNat)*size) hx)))
 |.c (.h g c p hx),.c (.v (.int _ n))=>(0<=n/\∃dd,Is s (.h g c p hx) dd/\dd.size=size/\n.toNat<dd.len)/\K (s.put d (.c (.ep g c p (n.toNat*size) hx)))
 |_,_=>False
theorem jFt (size:Nat) (x i:X):vp P β ⟨d,g,.ia size x i⟩ s K=iaK d s K size (s.ev x) (s.ev i):=by
 unfold iaK;split
 ·rename_i dd k n h1 h2
  refine jD7 rfl λ_ _ _ _=>?_
  simp only [Gen,h1,h2];constructor
  ·rintro ⟨_,_,he,h3,⟨h4,h5,h6,h7⟩,h8⟩;cases he;exact ⟨⟨h3,h6,h4,h5⟩,h7,h8⟩
  ·rintro ⟨⟨h3,h6,h4,h5⟩,h7,h8⟩;exact ⟨_,_,rfl,h3,⟨h4,h5,h6,h7⟩,h8⟩
 ·rename_i k c p hx sz lo m kk n h1 h2
  refine jD7 rfl λ_ _ _ _=>?_
  simp only [Gen,h1,h2];constructor
  ·rintro ⟨_,_,he,h3,⟨h4,h5,h6,h7⟩,h8⟩;cases he;exact ⟨⟨h3,h4,h5,h6⟩,h7,h8⟩
  ·rintro ⟨⟨h3,h4,h5,h6⟩,h7,h8⟩;exact ⟨_,_,rfl,h3,⟨h4,h5,h6,h7⟩,h8⟩
 ·rename_i k c p hx kk n h1 h2
  refine jD7 rfl λ_ _ _ _=>?_
  simp only [Gen,h1,h2];constructor
  ·rintro ⟨_,_,he,h3,⟨h4,h7⟩,h8⟩;cases he;exact ⟨⟨h3,h4⟩,h7,h8⟩
  ·rintro ⟨⟨h3,h4⟩,h7,h8⟩;exact ⟨_,_,rfl,h3,⟨h4,h7⟩,h8⟩
 ·rename_i h1 h2 lG
  refine jtM rfl λ_ _ _ _=>?_
  simp only [Gen];rintro ⟨k,n,he,h3,h4,_⟩;split at h4
  ·exact h1 _ _ _ (by assumption) he
  ·exact lG _ _ _ _ _ _ (by assumption) he
  ·exact h2 _ _ _ _ _ _ _ _ _ (by assumption) he
  ·exact h4
theorem jGB (size:Nat) (dd:D) (k:IntKind) (n:Int):iaK d s K size (.c (.ro dd)) (.c (.v (.int k n)))=((0<=n/\n.toNat<dd.len/\dd.isSl=true/\dd.size=size)/\K (s.put d (.c (.rp (dd.elem n.toNat))))):=(rfl)
theorem iaK_h (size k c:Nat) (p:List Nat) (hx:Value) (kk:IntKind) (n:Int):iaK d s K size (.c (.h k c p hx)) (.c (.v (.int kk n)))=((0<=n/\∃dd,Is s (.h k c p hx) dd/\dd.size=size/\n.toNat<dd.len)/\K (s.put d (.c (.ep k c p (n.toNat*size) hx)))):=rfl
theorem joD {i:I} {G:AV->Prop} (hw:i.writes=false) (h:∀rt st av' os',Gen P s (β+d.getD 0) rt st i av' os'↔G av'/\os'=[]):vp P β ⟨d,g,i⟩ s K=∃av,G av/\K (s.put d av):=by
 have e:vp P β ⟨d,g,i⟩ s K=(∃rt,∀st,∃av os,Gen P s (β+d.getD 0) rt st i av os/\K ((s.addO os).put d av)):=by
  cases i<;>first|rfl|cases hw
 rw [e]
 apply propext
 constructor
 ·rintro ⟨_,h1⟩
  obtain ⟨av',os',h2,h3⟩:=h1 ⟨0,λ_ _=>undef⟩
  obtain ⟨h4,rfl⟩:=(h _ _ _ _).1 h2;exact ⟨av',h4,h3⟩
 ·rintro ⟨av,h1,h2⟩
  exact ⟨.c (.val undef),λ_=>⟨av,[],(h _ _ _ _).2 ⟨h1,rfl⟩,h2⟩⟩
def jB8 (d:Option Nat) (s:St) (K:St->Prop) (str:Bool) (a:AV):Prop:=∃av,(∃n,jvX s str a n/\av=.c (.v (.int .i64 (n:Int))))/\K (s.put d av)
theorem jC6 (str:Bool) (x:X):vp P β ⟨d,g,.len str x⟩ s K=jB8 d s K str (s.ev x):=joD rfl λ_ _ av os=>by
 simp only [Gen];constructor
 ·rintro ⟨n,h1,h2,h3⟩;exact ⟨⟨n,h1,h2⟩,h3⟩
 ·rintro ⟨⟨n,h1,h2⟩,h3⟩;exact ⟨n,h1,h2,h3⟩
theorem jxR (str:Bool) (a:AV):jB8 d s K str a=∃n,jvX s str a n/\K (s.put d (.c (.v (.int .i64 (n:Int))))):=by
 apply propext
 constructor
 ·rintro ⟨_,⟨n,h1,rfl⟩,h2⟩;exact ⟨n,h1,h2⟩
 ·rintro ⟨n,h1,h2⟩;exact ⟨_,⟨n,h1,rfl⟩,h2⟩
theorem jDN (dd:D):jB8 d s K false (.c (.ro dd))=((dd.isSl=true/\0<dd.size)/\K (s.put d (.c (.v (.int .i64 dd.len))))):=by
 rw [jxR]
 apply propext
 constructor
 ·rintro ⟨_,⟨h1,h2,rfl⟩,h3⟩;exact ⟨⟨h1,h2⟩,h3⟩
 ·rintro ⟨⟨h1,h2⟩,h3⟩;exact ⟨_,⟨h1,h2,rfl⟩,h3⟩
theorem jAJ (b:ByteArray):jB8 d s K true (.c (.v (.string b)))=K (s.put d (.c (.v (.int .i64 b.size)))):=by
 rw [jxR];simp [jvX]
theorem jAL:jB8 d s K false (.c (.v (.slice none 0 0)))=K (s.put d (.c (.v (.int .i64 0)))):=by
 rw [jxR];simp [jvX]
theorem jGp (k c:Nat) (p:List Nat) (x:Value):jB8 d s K false (.c (.h k c p x))=∃dd,Is s (.h k c p x) dd/\0<dd.size/\K (s.put d (.c (.v (.int .i64 dd.len)))):=by
 rw [jxR]
 apply propext
 constructor
 ·rintro ⟨_,⟨dd,h1,h2,rfl⟩,h3⟩;exact ⟨dd,h1,h2,h3⟩
 ·rintro ⟨dd,h1,h2,h3⟩;exact ⟨_,⟨dd,h1,h2,rfl⟩,h3⟩
def jze (P:Program) (d:Option Nat) (s:St) (K:St->Prop) (op:BinOp) (ty:Nat) (x y:AV):Prop:=∃av,((∃a b v,x=.c (.v a)/\y=.c (.v b)/\jEG op a b v/\av=.c (.v v))\/
 (∃l m xs ys b,x=.agg l/\y=.agg m/\jc2 l=some xs/\jc2 m=some ys/\EqR P op ty xs ys b/\av=.c (.v (.bool b))))/\K (s.put d av)
theorem jDh (op:BinOp) (ty:Nat) (x y:X):vp P β ⟨d,g,.bin op ty x y⟩ s K=jze P d s K op ty (s.ev x) (s.ev y):=joD rfl λ_ _ _ _=>Iff.rfl
theorem jt8 (op:BinOp) (ty:Nat) (a b:Value):jze P d s K op ty (.c (.v a)) (.c (.v b))=∃v,jEG op a b v/\K (s.put d (.c (.v v))):=by
 apply propext
 constructor
 ·rintro ⟨_,(⟨_,_,v,h1,h2,h3,rfl⟩|⟨_,_,_,_,_,h1,_⟩),h4⟩
  ·cases h1;cases h2;exact ⟨v,h3,h4⟩
  ·cases h1
 ·rintro ⟨v,h1,h2⟩;exact ⟨_,.inl ⟨_,_,v,rfl,rfl,h1,rfl⟩,h2⟩
theorem jHa (op:BinOp) (ty:Nat) (k k':IntKind) (a b:Int):jze P d s K op ty (.c (.v (.int k a))) (.c (.v (.int k' b)))=(jAP op k k' b/\K (s.put d (.c (.v (jcB op k a b))))):=by
 rw [jt8]
 apply propext
 constructor
 ·rintro ⟨_,⟨h1,rfl⟩,h2⟩;exact ⟨h1,h2⟩
 ·rintro ⟨h1,h2⟩;exact ⟨_,⟨h1,rfl⟩,h2⟩
theorem jBw (ty:Nat) (a b:ByteArray):jze P d s K .eql ty (.c (.v (.string a))) (.c (.v (.string b)))=K (s.put d (.c (.v (.bool (a.toList==b.toList))))):=by rw [jt8];simp [jEG]
theorem jBv (ty:Nat) (a b:ByteArray):jze P d s K .neq ty (.c (.v (.string a))) (.c (.v (.string b)))=K (s.put d (.c (.v (.bool (!(a.toList==b.toList)))))):=by rw [jt8];simp [jEG]
theorem jy9 (ty:Nat) (a b:ByteArray):jze P d s K .add ty (.c (.v (.string a))) (.c (.v (.string b)))=(a.size+b.size<=maxLen/\K (s.put d (.c (.v (.string (a++b)))))):=by rw [jt8];simp [jEG,and_assoc]
def unK (d:Option Nat) (s:St) (K:St->Prop) (op:UnOp) (x:AV):Prop:=∃av,(match op with
 |.not=>∃b,x=.c (.v (.bool b))/\av=.c (.v (.bool (!b)))
 |.neg=>∃k n,x=.c (.v (.int k n))/\av=.c (.v (.int k (k.wrap (0-n))))
 |_=>False)/\K (s.put d av)
theorem jFo (op:UnOp) (x:X):vp P β ⟨d,g,.un op x⟩ s K=unK d s K op (s.ev x):=joD rfl λ_ _ _ _=>Iff.rfl
theorem jCJ (b:Bool):unK d s K .not (.c (.v (.bool b)))=K (s.put d (.c (.v (.bool (!b))))):=by simp [unK]
def cvK (d:Option Nat) (s:St) (K:St->Prop) (c:Cv) (x:AV):Prop:=∃av,(match c with
 |.num k=>∃k' n,x=.c (.v (.int k' n))/\av=.c (.v (.int k (k.wrap n)))
 |.text=>∃(a:A0) (ty:Nat) (bs:List UInt8),x=.c a/\Is s a (.sl 1 ty (bs.map qe))/\av=.c (.v (.string ⟨bs.toArray⟩))
 |.bytes=>False)/\K (s.put d av)
theorem jFw (c:Cv) (e:Nat) (x:X):vp P β ⟨d,g,.cv c e x⟩ s K=cvK d s K c (s.ev x):=joD rfl λ_ _ _ _=>Iff.rfl
theorem jEv (k k':IntKind) (n:Int):cvK d s K (.num k) (.c (.v (.int k' n)))=K (s.put d (.c (.v (.int k (k.wrap n))))):=by
 apply propext
 constructor
 ·rintro ⟨_,⟨_,_,h1,rfl⟩,h⟩;cases h1;exact h
 ·intro h;exact ⟨_,⟨_,_,rfl,rfl⟩,h⟩
def mmK (d:Option Nat) (s:St) (K:St->Prop) (mx:Bool) (x y:AV):Prop:=∃av,(∃k k' a b,x=.c (.v (.int k a))/\y=.c (.v (.int k' b))/\av=.c (.v (.int k (if mx then (if b>a then b else a) else (if b<a then b else a)))))/\K (s.put d av)
theorem jFr (mx:Bool) (x y:X):vp P β ⟨d,g,.mm mx x y⟩ s K=mmK d s K mx (s.ev x) (s.ev y):=joD rfl λ_ _ av os=>by
 simp only [Gen];constructor
 ·rintro ⟨k,k',a,b,h1,h2,h3,h4⟩;exact ⟨⟨k,k',a,b,h1,h2,h3⟩,h4⟩
 ·rintro ⟨⟨k,k',a,b,h1,h2,h3⟩,h4⟩;exact ⟨k,k',a,b,h1,h2,h3,h4⟩
theorem mmK_ (mx:Bool) (k k':IntKind) (a b:Int):mmK d s K mx (.c (.v (.int k a))) (.c (.v (.int k' b)))=K (s.put d (.c (.v (.int k (if mx then (if b>a then b else a) else (if b<a then b else a)))))):=by
 apply propext
 constructor
 ·rintro ⟨_,⟨_,_,_,_,h1,h2,rfl⟩,h⟩;cases h1;cases h2;exact h
 ·intro h;exact ⟨_,⟨_,_,_,_,rfl,rfl,rfl⟩,h⟩
def extK (d:Option Nat) (s:St) (K:St->Prop) (x:AV) (i:Nat):Prop:=∃av,(∃l b az,x=.tup l/\l[i]?=some (b,az)/\(if b then av=.agg az else∃a,az=[a]/\av=.c a))/\K (s.put d av)
theorem jDc (x:X) (i:Nat):vp P β ⟨d,g,.ext x i⟩ s K=extK d s K (s.ev x) i:=joD rfl λ_ _ av os=>by
 simp only [Gen];constructor
 ·rintro ⟨l,b,az,h1,h2,h3,h4⟩;exact ⟨⟨l,b,az,h1,h2,h3⟩,h4⟩
 ·rintro ⟨⟨l,b,az,h1,h2,h3⟩,h4⟩;exact ⟨l,b,az,h1,h2,h3,h4⟩
def jHq (l:Option (Bool×List A0)) (k:AV->Prop):Prop:=match l with
 |some (true,az)=>k (.agg az)
 |some (false,[a])=>k (.c a)
 |_=>False
theorem extK_ (l:List (Bool×List A0)) (i:Nat):extK d s K (.tup l) i=jHq l[i]? λv=>K (s.put d v):=by
 apply propext
 unfold extK jHq;constructor
 ·rintro ⟨av,⟨l',b,az,h1,h2,h3⟩,h4⟩
  cases h1;rw [h2];cases b
  ·obtain ⟨a,rfl,rfl⟩:∃a,az=[a]/\av=.c a:=by simpa using h3
   exact h4
  ·obtain rfl:av=.agg az:=by simpa using h3
   exact h4
 ·split
  ·intro h;exact ⟨_,⟨_,_,_,rfl,by assumption,by simp⟩,h⟩
  ·intro h;exact ⟨_,⟨_,_,_,rfl,by assumption,by simp⟩,h⟩
  ·exact False.elim
theorem jGM (az:List A0) (k:AV->Prop):jHq (some (true,az)) k=k (.agg az):=(rfl)
theorem jGN (a:A0) (k:AV->Prop):jHq (some (false,[a])) k=k (.c a):=(rfl)
def jFj (d:Option Nat) (s:St) (K:St->Prop) (x i:AV):Prop:=∃av,(∃b k n u,x=.c (.v (.string b))/\i=.c (.v (.int k n))/\0<=n/\b[n.toNat]?=some u/\av=.c (.v (.int .u8 u.toNat)))/\K (s.put d av)
theorem jAa (x i:X):vp P β ⟨d,g,.sidx x i⟩ s K=jFj d s K (s.ev x) (s.ev i):=joD rfl λ_ _ av os=>by
 simp only [Gen];constructor
 ·rintro ⟨b,k,n,u,h1,h2,h3,h4,h5,h6⟩;exact ⟨⟨b,k,n,u,h1,h2,h3,h4,h5⟩,h6⟩
 ·rintro ⟨⟨b,k,n,u,h1,h2,h3,h4,h5⟩,h6⟩;exact ⟨b,k,n,u,h1,h2,h3,h4,h5,h6⟩
theorem jFi (b:ByteArray) (k:IntKind) (n:Int):jFj d s K (.c (.v (.string b))) (.c (.v (.int k n)))=(0<=n/\∃u,b[n.toNat]?=some u/\K (s.put d (.c (.v (.int .u8 u.toNat))))):=by
 apply propext
 constructor
 ·rintro ⟨_,⟨_,_,_,u,h1,h2,h3,h4,rfl⟩,h5⟩;cases h1;cases h2;exact ⟨h3,u,h4,h5⟩
 ·rintro ⟨h3,u,h4,h5⟩;exact ⟨_,⟨_,_,_,u,rfl,rfl,h3,h4,rfl⟩,h5⟩
theorem jG {f:Nat} {args:List X} {vs:List View} {rt:RT} (hp:jW P f vs rt) (ha:zR s (args.map s.ev) vs) (hk:∀η:Nat->jf,K ((s.addO (jl3 (100*(β+d.getD 0)) η 0 rt.flat)).put d (rt.av (100*(β+d.getD 0)) η))):
 vp P β ⟨d,g,.call f args⟩ s K:=Or.inl ⟨rt,λst=>⟨_,_,⟨vs,ha,hp,rfl,rfl⟩,hk st.η⟩⟩
theorem jgi {f:Nat} {args:List X} {R:RT->(Nat->Ob)->Prop} (h:Turns P f (args.map s.ev) s.o R) (hk:∀rt o',R rt o'->∀η:Nat->jf,K (((⟨s.t,o'⟩:St).addO (jl3 (100*(β+d.getD 0)) η 0 rt.flat)).put d (rt.av (100*(β+d.getD 0)) η))):
 vp P β ⟨d,g,.call f args⟩ s K:=Or.inr (Or.inl ⟨h.1,λB w F xs h1 h2=>(h.2 B w F xs h1 h2).mono λe w' ⟨v,rt,o',S,F',k1,k2,k3,k4,k5,k6⟩=>⟨v,rt,o',S,F',k1,k2,k3,k4,k5,hk _ _ k6⟩⟩)
theorem kZ {f:Nat} {args:List X} (h:Inl P f (args.map s.ev) s.o λav o'=>K (St.put ⟨s.t,o'⟩ d av)):vp P β ⟨d,g,.call f args⟩ s K:=Or.inr (Or.inr h)
theorem jw1 {f:Nat} {x:X} {caps:List A0} {args:List X} {R:RT->(Nat->Ob)->Prop} (h0:s.ev x=.fn f caps) (h:Turns P f (args.map s.ev++caps.map .c) s.o R) (hk:∀rt o',R rt o'->∀η:Nat->jf,K (((⟨s.t,o'⟩:St).addO (jl3 (100*(β+d.getD 0)) η 0 rt.flat)).put d (rt.av (100*(β+d.getD 0)) η))):
 vp P β ⟨d,g,.callv x args⟩ s K:=Or.inr ⟨f,caps,h0,h.1,λB w F xs h1 h2=>(h.2 B w F xs h1 h2).mono λe w' ⟨v,rt,o',S,F',k1,k2,k3,k4,k5,k6⟩=>⟨v,rt,o',S,F',k1,k2,k3,k4,k5,hk _ _ k6⟩⟩
theorem jkP {f:Nat} {x:X} {caps:List A0} {args:List X} {vs:List View} {rt:RT} (h0:s.ev x=.fn f caps) (hp:jW P f vs rt) (ha:zR s (args.map s.ev++caps.map .c) vs) (hk:∀η:Nat->jf,K ((s.addO (jl3 (100*(β+d.getD 0)) η 0 rt.flat)).put d (rt.av (100*(β+d.getD 0)) η))):
 vp P β ⟨d,g,.callv x args⟩ s K:=Or.inl ⟨rt,λst=>⟨_,_,⟨f,caps,vs,h0,ha,hp,rfl,rfl⟩,hk st.η⟩⟩
def jG9 (β:Nat) (d:Option Nat) (s:St) (K:St->Prop) (ty n:Nat) (x:AV):Prop:=∃l,x.cells=some l/\l.length=n/\qz s l λcs s'=>∀b,K ((s'.addO [(100*(β+d.getD 0),.box b ty cs)]).put d (.c (.bp (100*(β+d.getD 0)) 0 b)))
theorem jDf (ty n:Nat) (x:X):vp P β ⟨d,g,.box ty n x⟩ s K=jG9 β d s K ty n (s.ev x):=(rfl)
theorem jBs (ty n:Nat) (l:List A0):jG9 β d s K ty n (.agg l)=(l.length=n/\qz s l λcs s'=>∀b,K ((s'.addO [(100*(β+d.getD 0),.box b ty cs)]).put d (.c (.bp (100*(β+d.getD 0)) 0 b)))):=by simp [jG9,AV.cells]
theorem jG8 (ty n:Nat) (a:A0):jG9 β d s K ty n (.c a)=(a.c1=true/\1=n/\qz s [a] λcs s'=>∀b,K ((s'.addO [(100*(β+d.getD 0),.box b ty cs)]).put d (.c (.bp (100*(β+d.getD 0)) 0 b)))):=by
 unfold jG9 AV.cells;by_cases h:a.c1=true<;>simp [h]
theorem jsR (K:List Cell->St->Prop):qz s [] K=K [] s:=(rfl)
theorem jEX (x:Value) (l:List A0) (K:List Cell->St->Prop):qz s (.v x::l) K=(x.oneCell'=true/\qz s l (λcs s'=>K (.a (.v x)::cs) s')):=(rfl)
theorem jCN (x:D) (l:List A0) (K:List Cell->St->Prop):qz s (.ro x::l) K=qz s l (λcs s'=>K (.a (.ro x)::cs) s'):=by simp [qz,A0.one]
theorem one_i (k:IntKind) (n:Int):(Value.int k n).oneCell'=true:=(rfl)
theorem one_b (b:Bool):(Value.bool b).oneCell'=true:=(rfl)
theorem one_s (b:ByteArray):(Value.string b).oneCell'=true:=(rfl)
theorem one_n (a:Option Addr) (n c:Nat):(Value.slice a n c).oneCell'=true:=(rfl)
theorem jEY (k c:Nat) (x:Value) (l:List A0) (K:List Cell->St->Prop):qz s (.h k c [] x::l) K=∃d η,(s.o k).own c=some (d,η)/\η []=x/\qz (s.rm k c) l (λcs s'=>K (.own d η::cs) s'):=by simp [qz]
end
section
variable {P:Program} {β:Nat} {s:St} {K:St->Prop} {d:Option Nat} {l:List (Nat×List Lk)}
theorem jDl:zz P β .done l s K=K s:=(rfl)
theorem jDj:zz P β .stop l s K=True:=(rfl)
theorem jDk (p:Nat) (i:I) (t:T):zz P β (.pure p ⟨d,none,i⟩ t) l s K=vp P β ⟨d,none,i⟩ s λs'=>zz P β t ((p,i.looks s)::l) s' K:=(rfl)
theorem jFx {n:Nat} (p:Nat) (i:I) (t:T) (h:s.t n=.c (.v (.bool true))):zz P β (.pure p ⟨d,some (n,true),i⟩ t) l s K=vp P β ⟨d,some (n,true),i⟩ s λs'=>zz P β t ((p,i.looks s)::l) s' K:=by simp [zz,zf,h]
theorem jFy {n:Nat} (p:Nat) (i:I) (t:T) (h:s.t n=.c (.v (.bool false))):zz P β (.pure p ⟨d,some (n,true),i⟩ t) l s K=zz P β t l (s.put d (.c (.v undef))) K:=by simp [zz,zf,h]
theorem jFz {n:Nat} (p:Nat) (i:I) (t:T) (h:s.t n=.c (.v (.bool true))):zz P β (.pure p ⟨d,some (n,false),i⟩ t) l s K=zz P β t l (s.put d (.c (.v undef))) K:=by simp [zz,zf,h]
theorem jFA {n:Nat} (p:Nat) (i:I) (t:T) (h:s.t n=.c (.v (.bool false))):zz P β (.pure p ⟨d,some (n,false),i⟩ t) l s K=vp P β ⟨d,some (n,false),i⟩ s λs'=>zz P β t ((p,i.looks s)::l) s' K:=by simp [zz,zf,h]
theorem jFB (i:I) (chk:List Nat) (t r:T):zz P β (.alt ⟨d,none,i⟩ chk t r) l s K=(vp P β ⟨d,none,i⟩ s (λs'=>jov s s' chk l/\zz P β t l s' K)/\zz P β r l s K):=(rfl)
theorem jFQ {n:Nat} (i:I) (chk:List Nat) (t r:T) (h:s.t n=.c (.v (.bool true))):zz P β (.alt ⟨d,some (n,true),i⟩ chk t r) l s K=(vp P β ⟨d,some (n,true),i⟩ s (λs'=>jov s s' chk l/\zz P β t l s' K)/\zz P β r l s K):=by simp [zz,zf,h]
theorem jFR {n:Nat} (i:I) (chk:List Nat) (t r:T) (h:s.t n=.c (.v (.bool false))):zz P β (.alt ⟨d,some (n,true),i⟩ chk t r) l s K=(zz P β t l (s.put d (.c (.v undef))) K/\zz P β r l s K):=by simp [zz,zf,h]
theorem jFS {n:Nat} (i:I) (chk:List Nat) (t r:T) (h:s.t n=.c (.v (.bool true))):zz P β (.alt ⟨d,some (n,false),i⟩ chk t r) l s K=(zz P β t l (s.put d (.c (.v undef))) K/\zz P β r l s K):=by simp [zz,zf,h]
theorem jFT {n:Nat} (i:I) (chk:List Nat) (t r:T) (h:s.t n=.c (.v (.bool false))):zz P β (.alt ⟨d,some (n,false),i⟩ chk t r) l s K=(vp P β ⟨d,some (n,false),i⟩ s (λs'=>jov s s' chk l/\zz P β t l s' K)/\zz P β r l s K):=by simp [zz,zf,h]
theorem jCD (t:T) (Q:Ex->St->Prop):wpC P β (.dreg t) Q s=zz P β t [] s (Q .normal):=(rfl)
theorem jx1 (s':St) (chk:List Nat):jov s s' chk []=True:=(rfl)
theorem jvm (s':St) (chk:List Nat) (p:Nat) (ids:List Lk) (l:List (Nat×List Lk)):jov s s' chk ((p,ids)::l)=((if chk.contains p then jr8 s s' ids else True)/\jov s s' chk l):=(rfl)
theorem jx2 (s':St):jr8 s s' []=True:=(rfl)
theorem jvn (s':St) (k:Lk) (l:List Lk):jr8 s s' (k::l)=(jtD s s' k/\jr8 s s' l):=(rfl)
theorem jDR (s':St) (g:Nat):jtD s s' (.ob g)=(s'.o g=s.o g):=(rfl)
theorem jDS (s':St) (g c n:Nat):jtD s s' (.cs g c n)=juI g c n (s'.o g) (s.o g):=(rfl)
theorem jC2 (g c n:Nat) (ob:Ob):juI g c n ob ob=True:=eq_true (jkN g c n ob)
theorem jwZ (g c n b ty b' ty':Nat) (cs cs':List Cell):juI g c n (.box b ty cs) (.box b' ty' cs')=(b=b'/\ty=ty'/\cs.length=cs'.length/\jez g c ((cs.drop c).take n)=jez g c ((cs'.drop c).take n)):=(rfl)
end
section
variable {α:Type} {enc:α->List D} {size:Nat}
theorem jaa (hl:∀x,(enc x).length=size) (hs:0<size) (ty:TypeId) (xs:List α):D.len (.sl size ty (xs.flatMap enc))=xs.length:=by
 simp only [D.len,D.cells,D.size];rw [jC hl,aOS _ hs]
theorem vN (hl:∀x,(enc x).length=size) {ty:TypeId} {xs:List α} {k:Nat} {x:α} (hx:xs[k]?=some x):D.elem (.sl size ty (xs.flatMap enc)) k=enc x:=by
 have hk:k<xs.length:=(aNP.1 hx).1;have bT:xs[k]=x:=by rw [aNS hk] at hx;exact aOH hx
 simp only [D.elem,D.cells,D.size];have e:xs=xs.take k++(x::xs.drop (k+1)):=by rw [<-bT];simp
 have e2:xs.flatMap enc=(xs.take k).flatMap enc++(enc x++(xs.drop (k+1)).flatMap enc):=by
  conv=>lhs;rw [e]
  simp
 have e3:((xs.take k).flatMap enc).length=k*size:=by rw [jC hl,aNV,aPD (by omega)]
 rw [e2,<-e3,List.drop_left,<-hl x,List.take_left]
end
theorem vA (l:List Rn):(jE l).len=l.length:=jaa (enc:=je) (λ_=>rfl) (by decide) _ _
theorem jT {l:List Rn} {k:Nat} {x:Rn} (h:l[k]?=some x):(jE l).elem k=je x:=vN (enc:=je) (λ_=>rfl) h
theorem jaU (l:List (List En)):(ki l).len=l.length:=jaa (enc:=λes=>[jg es]) (λ_=>rfl) (by decide) _ _
theorem qg {l:List (List En)} {k:Nat} {x:List En} (h:l[k]?=some x):(ki l).elem k=[jg x]:=vN (enc:=λes=>[jg es]) (λ_=>rfl) h
theorem jep (l:List En):(jg l).len=l.length:=jaa (enc:=jk) (λ_=>rfl) (by decide) _ _
theorem jZ {l:List En} {k:Nat} {x:En} (h:l[k]?=some x):(jg l).elem k=jk x:=vN (enc:=jk) (λ_=>rfl) h
theorem jeo (l:List Tk):(jx l).len=l.length:=jaa (enc:=jH) (λ_=>rfl) (by decide) _ _
theorem jP {l:List Tk} {k:Nat} {x:Tk} (h:l[k]?=some x):(jx l).elem k=jH x:=vN (enc:=jH) (λ_=>rfl) h
theorem jwJ (l:List Rn):(jE l).isSl=true:=(rfl)
theorem jz1 (l:List (List En)):(ki l).isSl=true:=(rfl)
theorem jwM (l:List En):(jg l).isSl=true:=(rfl)
theorem jwH (l:List Tk):(jx l).isSl=true:=(rfl)
theorem jww (l:List Rn):(jE l).size=8:=(rfl)
theorem jzT (l:List (List En)):(ki l).size=1:=(rfl)
theorem jwz (l:List En):(jg l).size=4:=(rfl)
theorem jwv (l:List Tk):(jx l).size=4:=(rfl)
theorem jw7 (l:List Rn):(jE l).toRo=.ro (jE l):=(rfl)
theorem jAe (l:List (List En)):(ki l).toRo=.ro (ki l):=(rfl)
theorem jpC (l:List En):(jg l).toRo=.ro (jg l):=(rfl)
theorem jw6 (l:List Tk):(jx l).toRo=.ro (jx l):=(rfl)
theorem jw9 (l:List Ed):(js l).toRo=.ro (js l):=(rfl)
theorem jFC (v:Value):(D.val v).toRo=.v v:=(rfl)
theorem jGx (vs:List View) (n:Nat):(St.init vs).o n=.none:=(rfl)
theorem jGw (vs:List View) (n:Nat):(St.init vs).t n=((vs.map View.av)[n]?).getD .unk:=(rfl)
open Go.RowKit
theorem iEn:(Tryz.prog.info? tEn).map (λi=>(i.zero,i.size,i.bytes))=some (some (.agg #[.int .i64 0,.int .i64 0,.int .i64 0,.int .i64 0]),4,32):=by kernel_rfl
theorem slEn:SlT Tryz.prog jro tEn 4 32 [.int .i64 0,.int .i64 0,.int .i64 0,.int .i64 0]:=⟨by kernel_rfl,jsf iEn,rfl,by decide⟩
theorem jHm:(Tryz.prog.info? tEn).map (·.size)=some 4:=by kernel_rfl
theorem iEnS:(Tryz.prog.info? jro).map (λi=>(i.zero,i.size,i.bytes))=some (some (.slice none 0 0),1,24):=by kernel_rfl
theorem jE5:SlT Tryz.prog tSh jro 1 24 [.slice none 0 0]:=⟨by kernel_rfl,jsf iEnS,rfl,by decide⟩
theorem iRn:(Tryz.prog.info? tRn).map (λi=>(i.zero,i.size,i.bytes))=some (some (.agg #[.int .i64 0,.int .i64 0,.int .i64 0,.int .i64 0,.int .i64 0,.slice none 0 0,.int .i64 0,.slice none 0 0]),8,96):=by kernel_rfl
theorem slRn:SlT Tryz.prog jEZ tRn 8 96 [.int .i64 0,.int .i64 0,.int .i64 0,.int .i64 0,.int .i64 0,.slice none 0 0,.int .i64 0,.slice none 0 0]:=⟨by kernel_rfl,jsf iRn,rfl,by decide⟩
theorem jyC:∀(y:En),∀d∈jk y,d.one:=by intro y d hd;simp [jk] at hd;rcases hd with rfl|rfl|rfl|rfl<;>trivial
theorem jvC:∀(y:List En),∀d∈[jg y],d.one:=by intro y d hd;simp at hd;subst hd;trivial
theorem zEnS (w:World):RepL w true [jg []] [.slice none 0 0] []:=RepL.cons_ (Rep.nil_ w 4 tEn) RepL.nil_
open Go.RowKit Go.Sort Go.BigFrame
theorem jbb (y:Yd) (id:Int) (a:Value) (S:List Nat) (w:World) (own:Bool) (ha:AggRep w own (jc y) a S):
 Calls Tryz.prog 26 #[a,.int .i64 id] w λe w'=>e=.returned (.int .i64 (runAt y id))/\Below w.heap.size w w':=by
 obtain ⟨_,rfl,ha⟩:=ha;obtain ⟨sv,rv,S1,S2,rfl,ah0,ah1,rfl⟩:=zl ha;clear ha ah0;obtain ⟨A,c,rfl,c9,dL,d7⟩:=Rep.open_ (size:=8) (enc:=je) (λ_=>rfl) (by decide) ah1
 unfold maxLen at dL;have lR:y.aNE.length<=9223372036854775807:=by omega
 by_cases h8:8<y.aNE.length
 ·clear d7
  have hr:runAt y id=-1:=by simp [runAt,h8]
  rw [hr];clear hr
  go_enter Tryz.func26,Tryz.ntmps26
  go_wp2
  go_loop [5] (λi=>i=.int .i64 0) (λ_=>0)
  case atStart=>rfl
  case round=>
   subst hrel
   go_wp2
   all_goals go_ret
   all_goals exact ⟨rfl,(Below.refl _ _).alloc (by simp) _⟩
 ·have hr:runAt y id=jhY y.aNE id:=by simp [runAt,h8]
  rw [hr];clear hr
  go_enter Tryz.func26,Tryz.ntmps26
  go_wp2
  go_loop [5] (λi=>∃k:Nat,k<=y.aNE.length/\i=.int .i64 k/\∀j,j<k->∀z,y.aNE[j]?=some z->z.id≠id) (λi=>y.aNE.length-(intOf i).toNat)
  case atStart=>exact ⟨0,by omega,rfl,by simp⟩
  case round=>
   obtain ⟨k,hk,rfl,eK⟩:=hrel;have HN:=Lib.hid eK;clear eK;by_cases aB:k<y.aNE.length
   ·obtain ⟨x,hx⟩:=ja aB
    obtain ⟨b1,o1,vk1,T1,rfl,-,dC,-,-,aY,bL⟩:=d7 k x hx;clear d7;obtain ⟨v0,v1,U0,U1,rfl,-,-,-⟩:=jaz dC;have HX:=Lib.hid hx;clear hx;have p0:w.cell? ⟨b1,o1+k*8,none⟩=some (.int .i64 x.id):=bL 0 _ rfl;clear bL dC;by_cases he:x.id=id
    ·have hb:(x.id==id)=true:=by simpa using he
     have HE:=Lib.hid he;clear he
     go_wp2
     go_ret
     exact ⟨jh0 (jb9 HX.out HE.out HN.out).symm,(Below.refl _ _).alloc (by simp) _⟩
    ·have hb:(x.id==id)=false:=by simpa using he
     have HE:=Lib.hid he;clear he
     go_wp2
     go_round
     case rel=>
      refine ⟨k+1,by omega,by go_num,λj hj z hz=>?_⟩
      by_cases nZ:j=k
      ·subst nZ
       have:=HX.out;rw [hz] at this;cases this;exact HE.out
      ·exact HN.out j (by omega) z hz
     case measure=>simp [intOf];omega
   ·obtain rfl:k=y.aNE.length:=by omega
    clear d7
    go_wp2
    go_ret
    exact ⟨jh0 (jhX HN.out).symm,(Below.refl _ _).alloc (by simp) _⟩
theorem jqs (x:Rn) (id:Int) (a:Value) (S:List Nat) (g:Nat) (w:World) (own:Bool) (ha:AggRep w own (je x) a S) (hg:w.cell? ⟨g,0,none⟩=some (.int .i64 id)):
 Calls Tryz.prog 88 #[a,.pointer (some ⟨g,0,none⟩)] w λe w'=>e=.returned (.bool (x.id==id))/\Below w.heap.size w w':=by
 obtain ⟨_,rfl,ha⟩:=ha;obtain ⟨v0,v1,U0,U1,rfl,-,-,-⟩:=jaz ha;clear ha;have aB:=World.block_lt_of_cell? w _ hg
 go_enter Tryz.func88,Tryz.ntmps88
 go_wp2
 go_ret
 exact ⟨rfl,(Below.refl _ _).alloc (by simp) _⟩
theorem jsi (rs:List Rn) (id:Int) (a:Value) (S:List Nat) (g:Nat) (w:World) (own:Bool) (ha:Rep w own (jE rs) a S) (hg:w.cell? ⟨g,0,none⟩=some (.int .i64 id)):
 Calls Tryz.prog 87 #[a,.func (.func 88) #[] #[.pointer (some ⟨g,0,none⟩)]] w λe w'=>e=.returned (.int .i64 (jhY rs id))/\Below w.heap.size w w':=by
 obtain ⟨A,c,rfl,c9,dL,d7⟩:=Rep.open_ (size:=8) (enc:=je) (λ_=>rfl) (by decide) ha
 unfold maxLen at dL;have lR:rs.length<=9223372036854775807:=by omega
 have aDC:=World.block_lt_of_cell? w _ hg;clear ha
 go_enter Tryz.func87,Tryz.ntmps87
 go_wp2
 go_loopw [5,8] (λ_ i wr=>∃k:Nat,k<=rs.length/\i=.int .i64 k/\(∀j,j<k->∀z,rs[j]?=some z->z.id≠id)/\Below w.heap.size w wr) (λ_ i _=>rs.length-(intOf i).toNat)
 case atStart=>exact ⟨0,by omega,rfl,by simp,Below.refl _ _⟩
 case round=>
  obtain ⟨k,hk,rfl,eK,aX⟩:=hrel;have HN:=Lib.hid eK;clear eK;have hgr:wr.cell? ⟨g,0,none⟩=some (.int .i64 id):=(aX.cell (p:=⟨g,0,none⟩) aDC).trans hg;by_cases aB:k<rs.length
  ·obtain ⟨x,hx⟩:=ja aB
   obtain ⟨b1,o1,vk1,T1,rfl,-,dC,-,-,aY,bL⟩:=d7 k x hx;clear d7;obtain ⟨v0,v1,U0,U1,rfl,-,-,-⟩:=jaz dC;have HX:=Lib.hid hx;clear hx;have p0:=(aX.cell (p:=⟨b1,o1+k*8,none⟩) aY).trans (bL 0 _ rfl:w.cell? ⟨b1,o1+k*8,none⟩=_);have p1:=(aX.cell (p:=⟨b1,o1+k*8+1,none⟩) aY).trans (bL 1 _ rfl);have p2:=(aX.cell (p:=⟨b1,o1+k*8+2,none⟩) aY).trans (bL 2 _ rfl);have p3:=(aX.cell (p:=⟨b1,o1+k*8+3,none⟩) aY).trans (bL 3 _ rfl);have p4:=(aX.cell (p:=⟨b1,o1+k*8+4,none⟩) aY).trans (bL 4 _ rfl);have p5:=(aX.cell (p:=⟨b1,o1+k*8+5,none⟩) aY).trans (bL 5 _ rfl);have p6:=(aX.cell (p:=⟨b1,o1+k*8+6,none⟩) aY).trans (bL 6 _ rfl);have p7:=(aX.cell (p:=⟨b1,o1+k*8+7,none⟩) aY).trans (bL 7 _ rfl);clear bL;by_cases he:x.id=id
   ·have hb:(x.id==id)=true:=by simpa using he
    have HE:=Lib.hid he;clear he
    go_wp2_with (go_at_call 88;refine (jqs x id _ _ _ _ own ⟨_,rfl,dC.below aX (aOC _)⟩ hgr).mono ?_;rintro e w2 ⟨rfl,bM⟩)
    go_ret
    exact ⟨jh0 (jb9 HX.out HE.out HN.out).symm,kj aX bM⟩
   ·have hb:(x.id==id)=false:=by simpa using he
    have HE:=Lib.hid he;clear he
    go_wp2_with (go_at_call 88;refine (jqs x id _ _ _ _ own ⟨_,rfl,dC.below aX (aOC _)⟩ hgr).mono ?_;rintro e w2 ⟨rfl,bM⟩)
    go_roundw
    case rel=>
     refine ⟨k+1,by omega,by go_num,λj hj z hz=>?_,kj aX bM⟩
     by_cases nZ:j=k
     ·subst nZ
      have:=HX.out;rw [hz] at this;cases this;exact HE.out
     ·exact HN.out j (by omega) z hz
    case measure=>simp [intOf];omega
  ·obtain rfl:k=rs.length:=by omega
   clear d7
   go_wp2
   go_ret
   exact ⟨jh0 (jhX HN.out).symm,aX⟩
theorem jbh (y:Yd) (id:Int) (a:Value) (S:List Nat) (w:World) (own:Bool) (ha:AggRep w own (jc y) a S):
 Calls Tryz.prog 25 #[a,.int .i64 id] w λe w'=>e=.returned (.int .i64 (runAt y id))/\Below w.heap.size w w':=by
 obtain ⟨_,rfl,ha⟩:=ha;obtain ⟨sv,rv,S1,S2,rfl,ah0,ah1,rfl⟩:=zl ha;clear ha ah0;obtain ⟨A,c,rfl,c9,dL,d7⟩:=Rep.open_ (size:=8) (enc:=je) (λ_=>rfl) (by decide) ah1
 unfold maxLen at dL;have lR:y.aNE.length<=9223372036854775807:=by omega
 clear d7;by_cases h8:8<y.aNE.length
 ·have hr:runAt y id=-1:=by simp [runAt,h8]
  rw [hr];clear hr
  go_enter Tryz.func25,Tryz.ntmps25
  go_wp2
  go_ret
  exact ⟨rfl,((Below.refl _ _).alloc (by simp) _).alloc (by simp) _⟩
 ·have hr:runAt y id=jhY y.aNE id:=by simp [runAt,h8]
  rw [hr];clear hr
  go_enter Tryz.func25,Tryz.ntmps25
  go_wp2_with (go_at_call 87;refine (jsi y.aNE id _ _ _ _ own (ah1.below (((Below.refl _ _).alloc (by simp) _).alloc (by simp) _) (aOC _)) (by simp [go_sem])).mono ?_;rintro e w2 ⟨rfl,bM⟩)
  go_ret
  exact ⟨rfl,kj (((Below.refl _ _).alloc (by simp) _).alloc (by simp) _) bM⟩
open Go.RowKit Go.Sort Go.BigFrame
open Go.RowKit Go.Sort Go.BigFrame
open Go.RowKit Go.Sort Go.BigFrame
open Go.RowKit Go.ChangeShapes Go.WideShapes Go.Deep Go.ChangeAt
def inR (n:Int):Prop:=-9223372036854775808<=n/\n<=9223372036854775807
def ReadsAs (P:Program) (t:TypeId) {α:Type} (E:α->List D) (W:α->Prop):Prop:=
 ∀(H:Type) (enc:TypeId×Value->H) (w:World) (base:Nat) (spare:Nat->Bool) (lT:Bool) (n:Nat) (cs:List Value) (y:DataW H×List MemPlace),
  DataW.trod enc P w base spare lT n t cs=some y->∃x,W x/\∃S,RepL w false (E x) cs S
section
variable {P:Program} {t e:TypeId} {α β:Type} {E:α->List D} {E':β->List D} {W:α->Prop} {W':β->Prop}
theorem ReadsAs.map (h:ReadsAs P t E W) (g:α->β) (hE:∀a,E' (g a)=E a) (hW:∀a,W a->W' (g a)):ReadsAs P t E' W':=by
 intro H enc w base spare lT n cs y hy;obtain ⟨x,hx,S,hr⟩:=h H enc w base spare lT n cs y hy;exact ⟨g x,hW x hx,S,by rw [hE];exact hr⟩
theorem jy2 {w:World} {a:Addr} {v:Value} (h:w.cell? a=some v):a=⟨a.block,a.off,none⟩:=by
 obtain ⟨b,o,s⟩:=a;cases s with
 |none=>rfl
 |some s=>simp only [World.cell?] at h;split at h<;>simp at h
theorem jAq {size:Nat} {ty:TypeId} (ht:P.underlying t=some (.slice e)) (h:ReadsAs P e E W) (hc:P.cellsOf e=size) (hl:∀x,(E x).length=size) (_hs:0<size):
 ReadsAs P t (λxs:List α=>[.sl size ty (xs.flatMap E)]) (λxs=>∀x∈xs,W x):=by
 intro H enc w base spare lT n cs y hy;rcases open_slice ht hy with ⟨rfl,_⟩|⟨a,len,cap,m,n',D',Pl,rfl,hb,xU,n6,hm,_,hi⟩
 ·have bE:Rep w false (.sl size ty (List.flatMap E [])) (.slice none 0 0) []:=⟨[],[],[],⟨by simp,none,0,0,rfl,by simp,aOC _,aOL _,λ_=>rfl,by simp⟩,RepL.nil_,rfl⟩
  exact ⟨[],by simp,[],RepL.cons_ bE RepL.nil_⟩
 ·have lC:len<=m:=by rw [hm];split<;>omega
  have key:∀k,k<=len->∃(xs:List α) (vs:List Value) (S:List Nat),xs.length=k/\(∀x∈xs,W x)/\RepL w false (xs.flatMap E) vs S/\∀j u,vs[j]?=some u->w.cell? (a.add j)=some u:=by
   intro k
   induction k with
   |zero=>exact λ_=>⟨[],[],[],rfl,by simp,RepL.nil_,by simp⟩
   |succ k ih=>
    intro hk;obtain ⟨xs,vs,S,f8,hW,hr,bK⟩:=ih (by omega)
    obtain ⟨cs',fE,iV⟩:=hi k (by omega)
    obtain ⟨x,hx,S',bH⟩:=h H enc w base spare lT n' cs' _ iV;obtain ⟨_,cV,fP⟩:=World.cells?_some fE;rw [hc] at fP cV;have bQ:vs.length=k*size:=by rw [RepL.length _ hr,jC hl,f8]
    refine ⟨xs++[x],vs++cs',S++S',by simp [f8],?_,?_,?_⟩
    ·intro z hz
     rcases aNT.1 hz with hz|hz
     ·exact hW z hz
     ·simp at hz;subst hz;exact hx
    ·rw [aPK]
     exact RepL.append_ _ hr (by simpa using bH)
    ·intro j u hu
     by_cases hj:j<vs.length
     ·rw [aQE hj] at hu
      exact bK j u hu
     ·rw [aPL (by omega)] at hu
      have bN:j-vs.length<cs'.length:=(aNP.1 hu).1;have h2:=fP (j-vs.length) (by omega)
      rw [hu,add_add,show k*size+(j-vs.length)=j by omega] at h2
      exact h2
  obtain ⟨xs,vs,S,f8,hW,hr,bK⟩:=key len (aOC _);have bQ:vs.length=len*size:=by rw [RepL.length _ hr,jC hl,f8]
  refine ⟨xs,hW,?_⟩;by_cases aJ:vs=[]
  ·subst aJ
   refine ⟨S,?_⟩;have bE:Rep w false (.sl size ty (xs.flatMap E)) (.slice (some a) len cap) S:=⟨[],[],S,⟨by simp,some a,len,cap,rfl,bQ,xU,n6,(λe=>nomatch e),by simp⟩,hr,rfl⟩
   have:=RepL.cons_ bE (RepL.nil_ (w:=w) (own:=false));simpa using this
  ·obtain ⟨u,us,rfl⟩:=List.exists_cons_of_ne_nil aJ
   have h0:=bK 0 u rfl;have ha:a.add 0=a:=by simp [Addr.add]
   rw [ha] at h0;have lM:=jy2 h0;have aB:=World.block_lt_of_cell? w _ h0;refine ⟨[a.block]++S,?_⟩
   have bE:Rep w false (.sl size ty (xs.flatMap E)) (.slice (some a) len cap) ([a.block]++S):=by
    refine ⟨u::us,[a.block],S,⟨by simpa using aB,some a,len,cap,rfl,bQ,xU,n6,(λe=>nomatch e),λ_=>⟨a.block,a.off,by rw [<-lM],rfl,λj v hv=>?_⟩⟩,hr,rfl⟩
    have:=bK j v hv;rw [lM] at this
    rwa [Addr.add_mid] at this
   have:=RepL.cons_ bE (RepL.nil_ (w:=w) (own:=false));simpa using this
end
open Go.RowKit Go.Sort Go.BigFrame
theorem ci {P:Program} {f:FuncId} {args:Array Value} {w:World} {b b':Int} (h:Calls P f args w λe w'=>e=.returned (.int .i64 b)/\Below w.heap.size w w') (hb:b=b'):Calls P f args w λe w'=>e=.returned (.int .i64 b')/\Below w.heap.size w w':=by subst hb;exact h
section
variable {w w':World} {own:Bool} {d:D} {v:Value} {S:List Nat}
theorem upA (h:Rep w own d v S) (o:Obj):Rep (w.alloc o) own d v S:=Rep.keep d h λb hb=>Below.heap_alloc w o b (Rep.lt d h b hb)
theorem up (h:Rep w own d v S) (hb:Below w.heap.size w w'):Rep w' own d v S:=h.below hb (aOC _)
theorem upB {w0:World} (h:Below w0.heap.size w0 w) (o:Obj):Below w0.heap.size w0 (w.alloc o):=h.alloc h.size o
end
open Go.RowKit Go.Sort Go.BigFrame
theorem cto {w w1:World} {b o:Nat} {v:Value} (hB:Below w.heap.size w w1) (h:w.cell? ⟨b,o,none⟩=some v):w1.cell? ⟨b,o,none⟩=some v:=
 (hB.cell (p:=⟨b,o,none⟩) (World.block_lt_of_cell? w _ h)).trans h
@[go_sem high] theorem equalEd (w:World) (x y:Ed):(Op.equalIn 10000 161 (.agg #[.int .i64 x.src,.int .i64 x.dst]) (.agg #[.int .i64 y.src,.int .i64 y.dst])).run Tryz.prog w=.ok (decide (x=y)) w:=by
  have u3:=Tryz.underlying3;have a3:=Tryz.isAgg3;have z3:=Tryz.sizeOf3;rw [show (10000:Nat)=9999+1 from rfl,run_equalIn_agg w 9999 161 _ _ (by kernel_rfl) (by kernel_rfl)]
  simp only [Program.fieldsOf,Tryz.underlying161];obtain ⟨xsrc,xdst⟩:=x;obtain ⟨ysrc,ydst⟩:=y
  go_simp
  by_cases h0:xsrc=ysrc<;>by_cases h1:xdst=ydst<;>simp [h0,h1]
theorem jvv (l m:List Ed) (a b:Value) (S S':List Nat) (w:World) (own own':Bool) (ha:Rep w own (js l) a S) (hb:Rep w own' (js m) b S'):
 Calls Tryz.prog 185 #[a,b] w λe w'=>e=.returned (.bool (decide (l=m)))/\Below w.heap.size w w':=by
 obtain ⟨A,c,rfl,c9,dL,d7⟩:=Rep.open_ (size:=2) (enc:=jK) (λ_=>rfl) (by decide) ha
 obtain ⟨B,d,rfl,o3,gF,eS⟩:=Rep.open_ (size:=2) (enc:=jK) (λ_=>rfl) (by decide) hb
 unfold maxLen at dL gF;have lR:l.length<=9223372036854775807:=by omega
 have nD:m.length<=9223372036854775807:=by omega
 clear ha hb;by_cases aD:l.length=m.length
 ·have HL:=Lib.hid aD
  have aJ:((l.length:Int) !=(m.length:Int))=false:=by rw [aD];simp
  clear aD
  go_enter Tryz.func185,Tryz.ntmps185
  go_wp2
  go_loopw [5,13] (λ_ i wr=>∃k:Nat,k<=l.length/\i=.int .i64 k/\l.take k=m.take k/\Below w.heap.size w wr) (λ_ i _=>l.length-(intOf i).toNat)
  case atStart=>exact ⟨0,by omega,rfl,rfl,Below.refl _ _⟩
  case round=>
   obtain ⟨k,hk,rfl,eR,aX⟩:=hrel;have HQ:=Lib.hid eR;clear eR;by_cases aB:k<l.length
   ·have aA:k<m.length:=by have:=HL.out;omega
    obtain ⟨x,hx⟩:=ja aB;obtain ⟨y,hy⟩:=ja aA;obtain ⟨b1,o1,vk1,T1,rfl,-,dC,-,-,aY,bL⟩:=d7 k x hx;obtain ⟨b2,o2,vk2,T2,rfl,-,cR,-,-,bM,cG⟩:=eS k y hy;clear d7 eS;obtain ⟨rfl,rfl⟩:=jtU dC;obtain ⟨rfl,rfl⟩:=jtU cR;have HX:=Lib.hid hx;have HY:=Lib.hid hy;clear hx hy;have p0:=cell_regrown (cto (b:=b1) (o:=o1+k*2) aX (bL 0 _ rfl));have q0:=cell_regrown (cto (b:=b2) (o:=o2+k*2) aX (cG 0 _ rfl));have p1:=cell_regrown (cto (b:=b1) (o:=o1+k*2+1) aX (bL 1 _ rfl));have q1:=cell_regrown (cto (b:=b2) (o:=o2+k*2+1) aX (cG 1 _ rfl));clear bL cG dC cR;by_cases v6:x=y
    ·have HXY:=Lib.hid v6
     have hd:decide (x=y)=true:=decide_eq_true v6;clear v6
     go_wp2
     refine wp_region_quiet_below (by kernel_rfl) (by kernel_rfl) ?_
     repeat (go_big_quiet_step (fail))
     refine wpQuiet_nil ?_;intro _ hw';obtain ⟨⟨dq,osq⟩,hw''⟩:=hw';subst hw'';have o5:=aX.trans ((below_regrown wr dq osq).mono aX.size)
     go_wp2
     go_roundw
     case rel=>exact ⟨k+1,by omega,by go_num,jA8 HX.out (HXY.out▸HY.out) HQ.out,o5⟩
     case measure=>simp [intOf];omega
    ·have HXY:=Lib.hid v6
     have hd:decide (x=y)=false:=decide_eq_false v6;clear v6
     go_wp2
     refine wp_region_quiet_below (by kernel_rfl) (by kernel_rfl) ?_
     repeat (go_big_quiet_step (fail))
     refine wpQuiet_nil ?_;intro _ hw';obtain ⟨⟨dq,osq⟩,hw''⟩:=hw';subst hw'';have o5:=aX.trans ((below_regrown wr dq osq).mono aX.size)
     go_wp2
     go_ret
     exact ⟨jX (decide_eq_false (jGR HX.out HY.out HXY.out)).symm,o5⟩
   ·clear d7 eS
    go_wp2
    go_ret
    exact ⟨jX (decide_eq_true (jA9 (k:=k) (by omega) (by have:=HL.out;omega) HQ.out)).symm,aX⟩
 ·have aJ:((l.length:Int) !=(m.length:Int))=true:=bne_iff_ne.2 (by omega)
  clear d7 eS
  go_enter Tryz.func185,Tryz.ntmps185
  go_wp2
  go_ret
  exact ⟨jX (decide_eq_false (λe=>aD (by rw [e]))).symm,Below.refl _ _⟩
theorem jsg (x y:Pl) (a b:Value) (S S':List Nat) (w:World) (own own':Bool) (ha:AggRep w own (jd x) a S) (hb:AggRep w own' (jd y) b S'):
 Calls Tryz.prog 146 #[a,b] w λe w'=>e=.returned (.bool (decide (x=y)))/\Below w.heap.size w w':=by
 obtain ⟨_,rfl,ha⟩:=ha;obtain ⟨_,rfl,hb⟩:=hb;obtain ⟨av0,rfl,ah0⟩:=jel ha;obtain ⟨bv0,rfl,bh0⟩:=jel hb;clear ha hb;obtain ⟨xprio,xmost,xwait,xtasks,xedges⟩:=x;obtain ⟨yprio,ymost,ywait,ytasks,yedges⟩:=y
 go_enter Tryz.func146,Tryz.ntmps146
 go_wp2_with (first
  |(go_at_call 185;refine (jvv xedges yedges _ _ _ _ _ _ _ (ah0.below (by repeat (first|exact Below.refl _ _|assumption|refine Below.alloc ?_ (by simp;try omega) _|refine kj ?_ (by assumption))) (aOC _)) (bh0.below (by repeat (first|exact Below.refl _ _|assumption|refine Below.alloc ?_ (by simp;try omega) _|refine kj ?_ (by assumption))) (aOC _))).mono ?_;rintro e w1 ⟨rfl,aY⟩;obtain ⟨c9,gT⟩:=jao aY))
 all_goals go_ret
 all_goals refine ⟨?_,(by repeat (first|exact Below.refl _ _|assumption|refine Below.alloc ?_ (by simp;try omega) _|refine kj ?_ (by assumption)))⟩
 all_goals (simp_all<;>rfl)
theorem jsh (x y:Dd) (a b:Value) (S S':List Nat) (w:World) (own own':Bool) (ha:AggRep w own (jR x) a S) (hb:AggRep w own' (jR y) b S'):
 Calls Tryz.prog 92 #[a,b] w λe w'=>e=.returned (.bool (decide (x=y)))/\Below w.heap.size w w':=by
 obtain ⟨_,rfl,ha⟩:=ha;obtain ⟨_,rfl,hb⟩:=hb;obtain ⟨av0,rfl,ah0⟩:=jtZ ha;obtain ⟨bv0,rfl,bh0⟩:=jtZ hb;clear ha hb;obtain ⟨xkind,xrun,xplan,xtask,xtri,xworker,xdraw⟩:=x;obtain ⟨ykind,yrun,yplan,ytask,ytri,yworker,ydraw⟩:=y
 go_enter Tryz.func92,Tryz.ntmps92
 go_wp2_with (first
  |(go_at_call 146;refine (jsg xplan yplan _ _ _ _ _ own own' ⟨_,rfl,jF0 (ah0.below (by repeat (first|exact Below.refl _ _|assumption|refine Below.alloc ?_ (by simp;try omega) _|refine kj ?_ (by assumption))) (aOC _))⟩ ⟨_,rfl,jF0 (bh0.below (by repeat (first|exact Below.refl _ _|assumption|refine Below.alloc ?_ (by simp;try omega) _|refine kj ?_ (by assumption))) (aOC _))⟩).mono ?_;rintro e w1 ⟨rfl,aY⟩;obtain ⟨c9,gT⟩:=jao aY))
 all_goals go_ret
 all_goals refine ⟨?_,(by repeat (first|exact Below.refl _ _|assumption|refine Below.alloc ?_ (by simp;try omega) _|refine kj ?_ (by assumption)))⟩
 all_goals (simp_all<;>rfl)
