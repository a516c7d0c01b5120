/- Parts. -/
import Derived.Test.YtcehjhiglmifjaaGreatQAb
import Derived.Laws.Strings
set_option linter.all false
set_option maxHeartbeats 4000000
set_option maxRecDepth 100000
namespace Go.Proofs.YtcehjhiglmifjaaGreat
theorem jdt:∀(n:Nat) (l:List Int),l.Nodup->(∀x∈l,0<=x/\x<n)->l.length<=n
 |0,l,_,h=>by
  cases l with
  |nil=>exact aPD _
  |cons x l=>have:=h x (by simp);omega
 |n+1,l,hd,h=>by
  by_cases hm:(n:Int)∈l
  ·have h1:=jdt n (l.erase n) (hd.erase _) (λx hx=>by
    have h2:=(hd.mem_erase_iff).1 hx;have:=h x h2.2;have:=h2.1;omega)
   rw [List.length_erase_of_mem hm] at h1;omega
  ·have h1:=jdt n l hd (λx hx=>by
    have:=h x hx;have:x≠n:=λe=>hm (e▸hx)
    omega)
   omega
def isE (es:List Ed) (a b:Int):Prop:=∃e∈es,e.src=a/\e.dst=b
inductive Rc (es:List Ed):Int->Int->Prop
 |one {a b:Int}:isE es a b->Rc es a b
 |step {a b c:Int}:Rc es a b->isE es b c->Rc es a c
def Rk (es:List Ed):Nat->Int->Int->Prop
 |0,_,_=>False
 |k+1,a,b=>isE es a b\/∃c,isE es a c/\Rk es k c b
section
variable {es:List Ed}
theorem Rk.mono {a b:Int}:∀{k:Nat},Rk es k a b->Rk es (k+1) a b:=by
 intro k
 induction k generalizing a with
 |zero=>intro h;exact h.elim
 |succ k ih=>
  rintro (h|⟨c,h1,h2⟩)
  ·exact .inl h
  ·exact .inr ⟨c,h1,ih h2⟩
theorem Rk.le {a b:Int} {k m:Nat} (h:Rk es k a b) (hk:k<=m):Rk es m a b:=by
 induction m with
 |zero=>obtain rfl:k=0:=by omega
        exact h
 |succ m ih=>
  by_cases e:k=m+1
  ·subst e;exact h
  ·exact (ih (by omega)).mono
theorem Rk.snoc {a b c:Int} (he:isE es b c):∀{k:Nat},Rk es k a b->Rk es (k+1) a c:=by
 intro k
 induction k generalizing a with
 |zero=>intro h;exact h.elim
 |succ k ih=>
  rintro (h|⟨d,h1,h2⟩)
  ·exact .inr ⟨b,h,.inl he⟩
  ·exact .inr ⟨d,h1,ih h2⟩
theorem Rc.rk {a b:Int} (h:Rc es a b):∃k,Rk es k a b:=by
 induction h with
 |one h=>exact ⟨1,.inl h⟩
 |step _ h ih=>obtain ⟨k,hk⟩:=ih;exact ⟨k+1,hk.snoc h⟩
theorem Rc.cons {a b c:Int} (he:isE es a b) (h:Rc es b c):Rc es a c:=by
 induction h with
 |one h=>exact .step (.one he) h
 |step _ h ih=>exact .step ih h
theorem jxu {α:Type} {p q:α->Bool} {l:List α} (h:∀x∈l,p x=true->q x=true) {x:α} (hx:x∈l) (hq:q x=true) (hp:p x=false):(l.filter p).length<(l.filter q).length:=by
 induction l with
 |nil=>simp at hx
 |cons a l ih=>
  have cR:(l.filter p).length<=(l.filter q).length:=by
   clear ih hx
   induction l with
   |nil=>simp
   |cons b l ih=>
    have:=ih (λx hx=>h x (by simp only [aPL] at hx⊢;rcases hx with rfl|hx<;>simp_all))
    by_cases hb:p b=true
    ·have:=h b (by simp) hb
     simp [hb,this];omega
    ·by_cases a9:q b=true<;>simp [hb,a9]<;>omega
  rcases aPL.1 hx with rfl|hx
  ·simp [hq,hp];omega
  ·have:=ih (λx hx=>h x (by simp [hx])) hx
   by_cases hb:p a=true
   ·have:=h a (by simp) hb
    simp [hb,this];omega
   ·by_cases a9:q a=true<;>simp [hb,a9]<;>omega
open Classical in
theorem Rc.enough {n:Nat} (bU:∀e∈es,0<=e.src/\e.src<n) {a b:Int} (h:Rc es a b):Rk es n a b:=by
 let f:Nat->List Nat:=λk=>(List.range n).filter λ(i:Nat)=>decide (Rk es k (i:Int) b)
 have lT:∀{k:Nat} {a:Int},Rk es k a b->∃i:Nat,i<n/\a=i:=by
  intro k a hk
  have:∃c,isE es a c:=by
   cases k with
   |zero=>exact hk.elim
   |succ k=>rcases hk with h|⟨c,h,_⟩<;>exact ⟨_,h⟩
  obtain ⟨c,e,he,rfl,rfl⟩:=this;have:=bU e he;exact ⟨e.src.toNat,by omega,by omega⟩
 have key:∀k,k<=n->(k<=(f k).length)\/∃m,m<k/\∀a,Rk es (m+1) a b->Rk es m a b:=by
  intro k
  induction k with
  |zero=>intro _;exact .inl (aPP _)
  |succ k ih=>
   intro hk;rcases ih (by omega) with h1|⟨m,h1,h2⟩
   ·by_cases hs:∀a,Rk es (k+1) a b->Rk es k a b
    ·exact .inr ⟨k,by omega,hs⟩
    ·simp only [Classical.not_forall] at hs
     obtain ⟨a,h3,h4⟩:=hs;obtain ⟨i,hi,rfl⟩:=lT h3;refine .inl (Nat.lt_of_le_of_lt h1 ?_);exact jxu (x:=i) (λx _ hx=>by simp at hx⊢;exact hx.mono) (by simpa using hi) (by simpa using h3) (by simpa using h4)
   ·exact .inr ⟨m,by omega,h2⟩
 obtain ⟨k,hk⟩:=h.rk;rcases key n (aPD _) with h1|⟨m,h1,h2⟩
 ·obtain ⟨i,hi,rfl⟩:=lT hk
  have cV:∀x∈List.range n,(λ(i:Nat)=>decide (Rk es n (i:Int) b)) x=true:=by
   have cR:=aPT (λ(i:Nat)=>decide (Rk es n (i:Int) b)) (List.range n)
   rw [List.length_range] at cR;refine List.length_filter_eq_length_iff.1 ?_;rw [List.length_range];exact Nat.le_antisymm cR h1
  simpa using cV i (by simpa using hi)
 ·have:∀k a,Rk es k a b->Rk es m a b:=by
   intro k
   induction k with
   |zero=>intro a h;exact h.elim
   |succ k ih=>
    rintro a (h|⟨c,h3,h4⟩)
    ·exact h2 a (.inl h)
    ·exact h2 a (.inr ⟨c,h3,ih c h4⟩)
  exact (this k a hk).le (by omega)
end
def jar (S:List Nat) (e:Ed):List Nat:=S.set e.src.toNat (S.getD e.src.toNat 0|||(2^e.dst.toNat|||S.getD e.dst.toNat 0))
def rnd (es:List Ed) (S:List Nat):List Nat:=es.foldl jar S
def jqV (es:List Ed):Nat->List Nat->List Nat
 |0,S=>S
 |k+1,S=>rnd es (jqV es k S)
def jeI (es:List Ed) (n:Nat):List Nat:=jqV es n (List.replicate n 0)
def okE (n:Nat) (e:Ed):Prop:=(0<=e.src/\e.src<n)/\(0<=e.dst/\e.dst<n)
section
variable {es:List Ed} {n:Nat}
theorem jc8 (S:List Nat) (e:Ed):(jar S e).length=S.length:=by simp [jar]
theorem jzU (S:List Nat) (i j v:Nat):(S.set i v).getD j 0=if i=j/\j<S.length then v else S.getD j 0:=by
 simp only [aQV,aQK];by_cases h:i=j
 ·subst h
  by_cases hl:i<S.length
  ·simp [hl]
  ·simp [hl]
 ·simp [h]
theorem jkz {S:List Nat} {e:Ed} (he:okE n e) (hS:S.length=n) (a b:Nat):((jar S e).getD a 0).testBit b=if a=e.src.toNat then ((S.getD a 0).testBit b||(decide (b=e.dst.toNat)||(S.getD e.dst.toNat 0).testBit b)) else (S.getD a 0).testBit b:=by
 obtain ⟨⟨h1,h2⟩,h3,h4⟩:=he;unfold jar;rw [jzU];by_cases h:a=e.src.toNat
 ·subst h
  rw [if_pos ⟨rfl,by omega⟩,if_pos rfl]
  simp only [Nat.testBit_or,Nat.testBit_two_pow]
  congr 2
  by_cases e:e.dst.toNat=b<;>simp [e]
  intro h;exact absurd h.symm e
 ·rw [if_neg (λh'=>h h'.1.symm),if_neg h]
def Snd (es:List Ed) (n:Nat) (S:List Nat):Prop:=S.length=n/\∀a b:Nat,(S.getD a 0).testBit b=true->Rc es a b
def Cpl (es:List Ed) (k:Nat) (S:List Nat):Prop:=∀a b:Nat,Rk es k a b->(S.getD a 0).testBit b=true
theorem jyV {S:List Nat} {e:Ed} (he:okE n e) (hm:e∈es) (h:Snd es n S):Snd es n (jar S e):=by
 refine ⟨by rw [jc8];exact h.1,λa b hb=>?_⟩
 rw [jkz he h.1] at hb;obtain ⟨⟨h1,h2⟩,h3,h4⟩:=he;split at hb
 ·rename_i ha
  simp only [Bool.or_eq_true,aPM] at hb;have hE:isE es a e.dst:=⟨e,hm,by omega,rfl⟩
  rcases hb with hb|hb|hb
  ·exact h.2 a b hb
  ·rw [show (b:Int)=e.dst by omega];exact .one hE
  ·have:=h.2 _ b hb
   rw [show ((e.dst.toNat:Nat):Int)=e.dst by omega] at this
   exact .cons hE this
 ·exact h.2 a b hb
theorem jsy:∀{l:List Ed} {S:List Nat},(∀e∈l,okE n e/\e∈es)->Snd es n S->Snd es n (l.foldl jar S)
 |[],_,_,h=>h
 |e::l,S,hl,h=>jsy (l:=l) (S:=jar S e) (λe he=>hl e (by simp [he])) (jyV (hl e (by simp)).1 (hl e (by simp)).2 h)
theorem jo8 {S:List Nat} {e:Ed} (he:okE n e) (hS:S.length=n) {a b:Nat} (h:(S.getD a 0).testBit b=true):((jar S e).getD a 0).testBit b=true:=by
 rw [jkz he hS];split<;>simp only [h,Bool.true_or]
theorem jqk:∀{l:List Ed} {S:List Nat},(∀e∈l,okE n e)->S.length=n->∀{a b:Nat},(S.getD a 0).testBit b=true->((l.foldl jar S).getD a 0).testBit b=true
 |[],_,_,_,_,_,h=>h
 |e::l,S,hl,hS,a,b,h=>jqk (l:=l) (S:=jar S e) (λe he=>hl e (by simp [he])) (by rw [jc8];exact hS) (jo8 (hl e (by simp)) hS h)
theorem joy:∀(l:List Ed) (S:List Nat),(l.foldl jar S).length=S.length
 |[],_=>rfl
 |e::l,S=>by rw [aRL,joy l,jc8]
theorem jox:∀{l:List Ed} {S:List Nat},(∀e∈l,okE n e)->S.length=n->∀{e:Ed} {b:Nat},e∈l->(b=e.dst.toNat\/(S.getD e.dst.toNat 0).testBit b=true)->((l.foldl jar S).getD e.src.toNat 0).testBit b=true
 |[],_,_,_,_,_,h,_=>by simp at h
 |e'::l,S,hl,hS,e,b,hm,hb=>by
  rw [aRL];by_cases dJ:e=e'
  ·subst dJ
   refine jqk (l:=l) (S:=jar S e) (λe he=>hl e (by simp [he])) (by rw [jc8];exact hS) ?_
   rw [jkz (hl e (by simp)) hS,if_pos rfl]
   rcases hb with hb|hb
   ·simp only [hb,decide_true,Bool.true_or,Bool.or_true]
   ·simp only [hb,Bool.or_true]
  ·have fY:e∈l:=(aPL.1 hm).resolve_left dJ
   refine jox (l:=l) (S:=jar S e') (λe he=>hl e (by simp [he])) (by rw [jc8];exact hS) fY (hb.imp id λhb=>jo8 (hl e' (by simp)) hS hb)
theorem jCm {S:List Nat} {k:Nat} (bU:∀e∈es,okE n e) (hS:S.length=n) (h:Cpl es k S):Cpl es (k+1) (rnd es S):=by
 rintro a b (⟨e,he,h1,h2⟩|⟨c,⟨e,he,h1,h2⟩,h3⟩)
 ·have:=jox bU hS (b:=b) he (.inl (by omega))
  rwa [show e.src.toNat=a by omega] at this
 ·have hc:(e.dst.toNat:Int)=c:=by have:=(bU e he).2.1;omega
  have:=jox bU hS (b:=b) he (.inr (h _ b (by rw [hc];exact h3)))
  rwa [show e.src.toNat=a by omega] at this
theorem jsK (k:Nat) (S:List Nat):(jqV es k S).length=S.length:=by
 induction k with
 |zero=>rfl
 |succ k ih=>rw [jqV,rnd,joy,ih]
theorem jvA:(jeI es n).length=n:=by rw [jeI,jsK,aRW]
theorem jzj (a:Nat):(List.replicate n 0).getD a 0=0:=by
 simp only [aQV,List.getElem?_replicate];split<;>rfl
theorem jvB (bU:∀e∈es,okE n e) (a b:Nat):((jeI es n).getD a 0).testBit b=true↔Rc es a b:=by
 have h1:∀k,Snd es n (jqV es k (List.replicate n 0)):=by
  intro k
  induction k with
  |zero=>exact ⟨by simp [jqV],λa b hb=>by rw [jqV,jzj] at hb;simp at hb⟩
  |succ k ih=>exact jsy (λe he=>⟨bU e he,he⟩) ih
 have h2:∀k,Cpl es k (jqV es k (List.replicate n 0)):=by
  intro k
  induction k with
  |zero=>exact λa b h=>h.elim
  |succ k ih=>exact jCm bU (h1 k).1 ih
 constructor
 ·exact (h1 n).2 a b
 ·intro h;exact h2 n a b (h.enough λe he=>(bU e he).1)
theorem jBN {S:List Nat} {e:Ed} (he:okE n e) (h:∀x∈S,x<2^n):∀x∈jar S e,x<2^n:=by
 have hg:∀i,S.getD i 0<2^n:=by
  intro i;rw [aQV];cases hi:S[i]? with
  |none=>simp;exact Nat.two_pow_pos n
  |some v=>exact h v (aOT hi)
 intro x hx;rcases List.mem_or_eq_of_mem_set hx with hx|rfl
 ·exact h x hx
 ·refine Nat.or_lt_two_pow (hg _) (Nat.or_lt_two_pow ?_ (hg _))
  obtain ⟨_,h3,h4⟩:=he;exact Nat.pow_lt_pow_right (by omega) (by omega)
end
def inB (n a b:Int):Bool:=decide (a<=n/\n<=b)
def vY (p:Pl):Bool:=!inB p.aOD 1 12||decide (30<p.aOI.length)||!inB p.aOL 0 9||!inB p.aOQ 1 5||!inB p.aOP 1 20
def jkk (n:Int) (e:Ed):Bool:=!inB e.src 0 (n-1)||!inB e.dst 0 (n-1)
open Classical in
noncomputable def jFV (p:Pl):Bool:=decide (∃t:Nat,(t:Int)<p.aOD/\Rc p.aOI t t)
noncomputable def jm (p:Pl):Int:=if vY p then 1 else if p.aOI.any (jkk p.aOD) then 2 else if decide (p.aOI.Nodup) then (if jFV p then 4 else 0) else 3
theorem jwS {n:Int} {es:List Ed} (h:es.any (jkk n)=false):∀e∈es,okE n.toNat e:=by
 intro e he;have:=List.any_eq_false.1 h e he;simp only [jkk,inB,Bool.or_eq_true,Bool.not_eq_true',aPX,not_or,Classical.not_not] at this;obtain ⟨⟨h1,h2⟩,h3,h4⟩:=this;exact ⟨⟨h1,by omega⟩,h3,by omega⟩
def jqM (n:Nat) (r:List Int):List Bool:=(List.range n).map λ(k:Nat)=>decide ((k:Int)∈r)
open Classical in
noncomputable def rcB (es:List Ed) (a b:Int):Bool:=decide (Rc es a b)
theorem rcB_iff {es:List Ed} {a b:Int}:rcB es a b=true↔Rc es a b:=by simp [rcB]
noncomputable def jli (es:List Ed) (n:Nat) (t:Int):List Bool:=(List.range n).map λ(k:Nat)=>rcB es t k
def jDz (es:List Ed) (n:Nat) (t:Int) (h:Nat) (r:List Int):Prop:=
 r.Nodup/\(∀x∈r,(0<=x/\x<n)/\Rc es t x)/\h<=(t::r).length/\∀j,j<h->∀x,(t::r)[j]?=some x->∀e∈es,e.src=x->e.dst∈r
def BIn (es:List Ed) (n:Nat) (t:Int) (h:Nat) (x:Int) (i:Nat) (r:List Int):Prop:=
 jDz es n t h r/\(t::r)[h]?=some x/\∀e∈es.take i,e.src=x->e.dst∈r
section
variable {es:List Ed} {n:Nat} {t x:Int} {h i:Nat} {r:List Int}
theorem jcv:(jqM n r).length=n:=by simp [jqM]
theorem jkl {k:Nat} (hk:k<n):(jqM n r)[k]?=some (decide ((k:Int)∈r)):=by simp [jqM,hk]
theorem jAt {k:Nat} (hk:k<n):(jqM n r).set k true=jqM n (r++[(k:Int)]):=by
 apply aRB
 intro j;rw [aQK];by_cases hj:j<n
 ·rw [jkl hj,jkl hj]
  by_cases e:k=j
  ·subst e;simp [jcv,hk]
  ·have e':¬(j:Int)=k:=by omega
   simp [e,e']
 ·have h1:(jqM n r)[j]?=none:=aQQ (by rw [jcv];omega)
  have h2:(jqM n (r++[(k:Int)]))[j]?=none:=aQQ (by rw [jcv];omega)
  rw [h1,h2,if_neg (by omega)]
theorem jF2:jDz es n t 0 []:=⟨List.nodup_nil,by simp,by simp,λj hj=>by omega⟩
theorem jtJ (h:jDz es n t h r):r.length<=n:=jdt n r h.1 λx hx=>(h.2.1 x hx).1
theorem bIn_0 (hb:jDz es n t h r) (hx:(t::r)[h]?=some x):BIn es n t h x 0 r:=⟨hb,hx,by simp⟩
theorem jBs {e:Ed} (hb:BIn es n t h x i r) (he:es[i]?=some e) (hq:e.src=x->e.dst∈r):BIn es n t h x (i+1) r:=by
 refine ⟨hb.1,hb.2.1,λe' eS=>?_⟩
 rw [aPE,he] at eS;rcases aOX.1 eS with h1|h1
 ·exact hb.2.2 e' h1
 ·simp at h1;subst h1;exact hq
theorem jDu {e:Ed} (hb:BIn es n t h x i r) (he:es[i]?=some e) (hs:e.src=x) (hd:e.dst∉r) (hr:0<=e.dst/\e.dst<n) (ht:h=0->x=t):BIn es n t h x (i+1) (r++[e.dst]):=by
 obtain ⟨⟨h1,h2,h3,h4⟩,h5,h6⟩:=hb;have hm:e∈es:=aOT he
 have hR:Rc es t e.dst:=by
  have hE:isE es x e.dst:=⟨e,hm,hs,rfl⟩;cases h with
  |zero=>simp at h5;subst h5;exact .one hE
  |succ h=>exact .step (h2 x (aOT (by simpa using h5))).2 hE
 have aB:h<(t::r).length:=(aOS.1 h5).1;refine ⟨⟨?_,λy hy=>?_,by simp at aB⊢;omega,λj hj y hy e' eS m8=>?_⟩,?_,λe' eS m8=>?_⟩
 ·rw [aPC];exact ⟨h1,by simp,λa ha b hb=>by simp at hb;subst hb;exact λe=>hd (e▸ha)⟩
 ·rcases aOX.1 hy with hy|hy
  ·exact h2 y hy
  ·simp at hy;subst hy;exact ⟨hr,hR⟩
 ·rw [show t::(r++[e.dst])=(t::r)++[e.dst] from rfl,aRH (by omega)] at hy
  exact List.mem_append_left _ (h4 j hj y hy e' eS m8)
 ·rw [show t::(r++[e.dst])=(t::r)++[e.dst] from rfl,aRH aB];exact h5
 ·rw [aPE,he] at eS
  rcases aOX.1 eS with h7|h7
  ·exact List.mem_append_left _ (h6 e' h7 m8)
  ·simp at h7;subst h7;simp
theorem jyd (hb:BIn es n t h x i r) (hi:es.length<=i):jDz es n t (h+1) r:=by
 obtain ⟨⟨h1,h2,h3,h4⟩,h5,h6⟩:=hb;rw [aOW hi] at h6;have aB:h<(t::r).length:=(aOS.1 h5).1;refine ⟨h1,h2,by omega,λj hj y hy=>?_⟩
 by_cases e:j=h
 ·subst e;rw [h5] at hy;cases hy;exact h6
 ·exact h4 j (by omega) y hy
theorem jye (hb:jDz es n t h r) (hl:(t::r).length<=h):jqM n r=jli es n t:=by
 obtain ⟨h1,h2,h3,h4⟩:=hb
 have dN:∀x∈t::r,∀e∈es,e.src=x->e.dst∈r:=λx hx=>by
  obtain ⟨j,hj,hxj⟩:=aPY hx;exact h4 j (by omega) x (by rw [aOV hj,hxj])
 have hR:∀y,Rc es t y->y∈r:=by
  intro y hy
  induction hy with
  |one h=>obtain ⟨e,he,h5,h6⟩:=h;exact h6▸dN _ (by simp) e he h5
  |step _ h ih=>obtain ⟨e,he,h5,h6⟩:=h;exact h6▸dN _ (List.mem_cons_of_mem _ ih) e he h5
 unfold jqM jli;refine List.map_congr_left λk _=>?_
 by_cases hk:(k:Int)∈r
 ·rw [decide_eq_true hk,rcB_iff.2 (h2 _ hk).2]
 ·rw [decide_eq_false hk]
  cases hq:rcB es t k with
  |true=>exact absurd (hR _ (rcB_iff.1 hq)) hk
  |false=>rfl
theorem jqj {k:Nat} (hk:k<n):(jli es n t)[k]?=some (rcB es t k):=by simp [jli,hk]
theorem jgK:(jli es n t).length=n:=by simp [jli]
end
def jkB (n:Nat) (A:List Int):List Int:=(List.range n).flatMap λ(t:Nat)=>List.replicate (A.count (t:Int)) (t:Int)
theorem jAI (A:List Int):jkB 0 A=[]:=rfl
theorem jc9 (n:Nat) (A:List Int):jkB (n+1) A=jkB n A++List.replicate (A.count (n:Int)) (n:Int):=by simp [jkB,List.range_succ]
theorem jge {A:List Int}:∀{n:Nat} {x:Int},x∈jkB n A->(0<=x/\x<n)/\x∈A
 |0,x,h=>by simp [jkB] at h
 |n+1,x,h=>by
  rw [jc9] at h;rcases aOX.1 h with h|h
  ·have:=jge h;exact ⟨by omega,this.2⟩
  ·obtain ⟨h1,h2⟩:=List.mem_replicate.1 h
   refine ⟨by omega,?_⟩
   rw [h2];exact List.count_pos_iff.1 (by omega)
theorem jkA (A:List Int):∀(n:Nat),(jkB n A).Pairwise (· <= ·)
 |0=>by simp [jkB]
 |n+1=>by
  rw [jc9,List.pairwise_append];refine ⟨jkA A n,?_,λa ha b hb=>?_⟩
  ·rw [List.pairwise_replicate];right;exact Int.le_refl _
  ·have:=jge ha
   have:=(List.mem_replicate.1 hb).2;omega
theorem jmI (A:List Int) (x:Int):∀(n:Nat),(jkB n A).count x=if 0<=x/\x<n then A.count x else 0
 |0=>by rw [if_neg (by omega)];simp [jkB]
 |n+1=>by
  rw [jc9,List.count_append,jmI A x n,List.count_replicate];by_cases h:x=n
  ·subst h
   rw [if_neg (by omega),if_pos (by simp),if_pos (by omega)];omega
  ·have h2:((n:Int)==x)=false:=by simpa using λe=>h e.symm
   simp only [h2,aRG,if_false];by_cases h3:0<=x/\x<n
   ·rw [if_pos h3,if_pos (by omega)];rfl
   ·rw [if_neg h3,if_neg (by omega)]
theorem jbJ {n:Nat} {A:List Int} (h:∀x∈A,0<=x/\x<n):(jkB n A).Perm A:=by
 rw [List.perm_iff_count];intro x;rw [jmI];split
 ·rfl
 ·rename_i hx
  exact (List.count_eq_zero.2 λhm=>hx (h x hm)).symm
theorem jyU {n:Nat} {A:List Int} (h:∀x∈A,0<=x/\x<n):(jkB n A).length=A.length:=(jbJ h).length_eq
theorem jo9:∀{s t:List Int},s.Perm t->s.Pairwise (· <= ·)->t.Pairwise (· <= ·)->s=t
 |[],t,h,_,_=>h.nil_eq
 |a::s,[],h,_,_=>absurd h.length_eq (by simp)
 |a::s,b::t,h,h1,h2=>by
  rw [List.pairwise_cons] at h1 h2
  have n4:a=b:=by
   have ha:a∈b::t:=h.mem_iff.1 (by simp)
   have hb:b∈a::s:=h.mem_iff.2 (by simp)
   rcases aPL.1 ha with ha|ha
   ·exact ha
   rcases aPL.1 hb with hb|hb
   ·exact hb.symm
   exact Int.le_antisymm (h1.1 b hb) (h2.1 a ha)
  subst n4;rw [jo9 ((List.perm_cons a).1 h) h1.2 h2.2]
theorem jtZ {n:Nat} {A s:List Int} (h:∀x∈A,0<=x/\x<n) (hp:s.Perm A) (hs:s.Pairwise (· <= ·)):s=jkB n A:=jo9 (hp.trans (jbJ h).symm) hs (jkA A n)
def swp (l:List Int) (j:Nat):List Int:=(l.set (j+1) (l.getD j 0)).set j (l.getD (j+1) 0)
theorem jyR {l:List Int} {j:Nat} (h:j+1<l.length):(swp l j).Perm l:=by
 have e:l=l.take j++l[j]::l[j+1]::l.drop (j+2):=by rw [<-aQT h,<-aQT,aQR]
 have e2:swp l j=l.take j++l[j+1]::l[j]::l.drop (j+2):=by
  apply aRB
  intro k;have h1:l.getD j 0=l[j]:=by rw [aQV,aOV (by omega)];rfl
  have h2:l.getD (j+1) 0=l[j+1]:=by rw [aQV,aOV h];rfl
  have ht:(l.take j).length=j:=by rw [aOZ];omega
  simp only [swp,h1,h2,aQK,aPF];by_cases k1:j=k
  ·subst k1;rw [if_pos rfl,if_pos (by omega),aQF (by omega),ht];simp
  ·rw [if_neg k1]
   by_cases k2:j+1=k
   ·subst k2;rw [if_pos rfl,if_pos (by omega),aQF (by omega),ht];simp
   ·rw [if_neg k2]
    by_cases k3:k<j
    ·rw [aRH (by omega),List.getElem?_take_of_lt k3]
    ·rw [aQF (by omega),ht]
     obtain ⟨m,rfl⟩:∃m,k=j+2+m:=⟨k-(j+2),by omega⟩
     rw [show j+2+m-j=m+2 by omega,List.getElem?_cons_succ,List.getElem?_cons_succ,aQU]
 rw [e2]
 conv=>rhs;rw [e]
 exact aRN _ (List.Perm.swap _ _ _)
theorem jvN {l:List Int} {j:Nat} (h:j+1<l.length) (p:Nat):(swp l j).getD p 0=if p=j then l.getD (j+1) 0 else if p=j+1 then l.getD j 0 else l.getD p 0:=by
 simp only [swp,aQV,aQK,aPF];by_cases k1:p=j
 ·subst k1;simp [show p<l.length from by omega]
 by_cases k2:p=j+1
 ·subst k2;simp [h]
 ·have k3:¬j=p:=λe=>k1 e.symm
  have k4:¬j+1=p:=λe=>k2 e.symm
  simp [k1,k2,k3,k4]
def SO (A l:List Int) (i:Nat):Prop:=l.Perm A/\∀p q:Nat,p<q->q<i->l.getD p 0<=l.getD q 0
def SI (A l:List Int) (i j:Nat):Prop:=l.Perm A/\j<=i/\∀p q:Nat,p<q->q<=i->q≠j->l.getD p 0<=l.getD q 0
theorem SO_1 (A:List Int):SO A A 1:=⟨.refl A,λp q h h'=>by omega⟩
theorem SI_0 {A l:List Int} {i:Nat} (h:SO A l i):SI A l i i:=⟨h.1,aPD _,λp q h1 h2 h3=>h.2 p q h1 (by omega)⟩
theorem jGb {A l:List Int} {i j:Nat} (h:SI A l i (j+1)) (hi:i<l.length) (aB:l.getD (j+1) 0<l.getD j 0):SI A (swp l j) i j:=by
 obtain ⟨h1,h2,h3⟩:=h;have hj:j+1<l.length:=by omega
 refine ⟨(jyR hj).trans h1,by omega,λp q xS hq aK=>?_⟩
 rw [jvN hj,jvN hj,if_neg aK];by_cases q1:q=j+1
 ·subst q1
  rw [if_pos rfl];by_cases p1:p=j
  ·rw [if_pos p1];omega
  ·rw [if_neg p1,if_neg (by omega)];exact h3 p j (by omega) (by omega) (by omega)
 ·rw [if_neg q1]
  by_cases p1:p=j
  ·rw [if_pos p1];exact h3 (j+1) q (by omega) hq q1
  ·rw [if_neg p1]
   by_cases p2:p=j+1
   ·rw [if_pos p2];exact h3 j q (by omega) hq q1
   ·rw [if_neg p2];exact h3 p q xS hq q1
theorem jBw {A l:List Int} {i j:Nat} (h:SI A l i j) (he:j=0\/∃k,j=k+1/\l.getD k 0<=l.getD j 0):SO A l (i+1):=by
 obtain ⟨h1,h2,h3⟩:=h;refine ⟨h1,λp q xS hq=>?_⟩
 by_cases e:q=j
 ·subst e
  rcases he with he|⟨k,rfl,h4⟩
  ·omega
  ·by_cases e2:p=k
   ·subst e2;exact h4
   ·exact Int.le_trans (h3 p k (by omega) (by omega) (by omega)) h4
 ·exact h3 p q xS (by omega) e
theorem jGa {A l:List Int} {i:Nat} (h:SO A l i) (hi:l.length<=i):l.Pairwise (· <= ·):=by
 rw [List.pairwise_iff_getElem];intro p q hp hq xS;have:=h.2 p q xS (by omega)
 rw [aQV,aQV,aOV hp,aOV hq] at this;exact this
theorem jAH {n:Nat} {A l:List Int} {i:Nat} (h:∀x∈A,0<=x/\x<n) (hs:SO A l i) (hi:l.length<=i):l=jkB n A:=jtZ h hs.1 (jGa hs hi)
def jf6 (es:List Ed) (t:Int):List Int:=(es.filter λe=>e.dst==t).map (·.src)
def jf5 (es:List Ed) (t:Int):List Int:=(es.filter λe=>e.src==t).map (·.dst)
def zK (p:Pl) (t:Int):List Int:=jkB p.aOD.toNat (jf6 p.aOI t)
def jca (p:Pl) (t:Int):List Int:=jkB p.aOD.toNat (jf5 p.aOI t)
section
variable {es:List Ed} {k n:Nat} {e:Ed}
theorem jqL (h:es[k]?=some e) (t:Int):jf6 (es.take (k+1)) t=jf6 (es.take k) t++(if e.dst=t then [e.src] else []):=by
 rw [aPE,h];by_cases ht:e.dst=t<;>simp [jf6,ht]
theorem jqK (h:es[k]?=some e) (t:Int):jf5 (es.take (k+1)) t=jf5 (es.take k) t++(if e.src=t then [e.dst] else []):=by
 rw [aPE,h];by_cases ht:e.src=t<;>simp [jf5,ht]
theorem jvh (h:es[k]?=some e) (x t:Int):(jf6 (es.take (k+1)) t).count x=(jf6 (es.take k) t).count x+(if e.src=x/\e.dst=t then 1 else 0):=by
 rw [jqL h,List.count_append];by_cases ht:e.dst=t<;>by_cases hx:e.src=x<;>simp [ht,hx]
theorem jvf (h:es[k]?=some e) (x t:Int):(jf5 (es.take (k+1)) t).count x=(jf5 (es.take k) t).count x+(if e.src=t/\e.dst=x then 1 else 0):=by
 rw [jqK h,List.count_append];by_cases ht:e.src=t<;>by_cases hx:e.dst=x<;>simp [ht,hx]
theorem jlU (bU:∀e∈es,okE n e) (t:Int):∀x∈jf6 es t,0<=x/\x<n:=by
 intro x hx;simp only [jf6,aQS,aQP] at hx;obtain ⟨e,⟨h1,-⟩,rfl⟩:=hx;exact (bU e h1).1
theorem joQ (bU:∀e∈es,okE n e) (t:Int):∀x∈jf5 es t,0<=x/\x<n:=by
 intro x hx;simp only [jf5,aQS,aQP] at hx;obtain ⟨e,⟨h1,-⟩,rfl⟩:=hx;exact (bU e h1).2
theorem jnp (h:es.Nodup) (t:Int):(jf6 es t).Nodup:=by
 unfold jf6 List.Nodup;rw [List.pairwise_map];refine List.Pairwise.imp_of_mem ?_ (List.Pairwise.filter _ h);intro a b ha hb aK n4;simp only [aQP,aQW] at ha hb;exact aK (by cases a;cases b;simp_all)
theorem jno (h:es.Nodup) (t:Int):(jf5 es t).Nodup:=by
 unfold jf5 List.Nodup;rw [List.pairwise_map];refine List.Pairwise.imp_of_mem ?_ (List.Pairwise.filter _ h);intro a b ha hb aK n4;simp only [aQP,aQW] at ha hb;exact aK (by cases a;cases b;simp_all)
theorem jtI (h:es.Nodup) (bU:∀e∈es,okE n e) (t:Int):(jf6 es t).length<=n:=jdt n _ (jnp h t) (jlU bU t)
theorem jAs (h:es.Nodup) (bU:∀e∈es,okE n e) (t:Int):(jf5 es t).length<=n:=jdt n _ (jno h t) (joQ bU t)
end
theorem ja8 {p:Pl} (h:jm p=0):∃n:Nat,p.aOD=n/\1<=n/\n<=12/\p.aOI.length<=30/\(∀e∈p.aOI,okE n e)/\p.aOI.Nodup/\(0<=p.aOL/\p.aOL<=9)/\(1<=p.aOQ/\p.aOQ<=5)/\(1<=p.aOP/\p.aOP<=20):=by
 unfold jm at h;cases hm:vY p
 ·rw [hm] at h
  simp only [aRG,if_false] at h;cases hb:p.aOI.any (jkk p.aOD)
  ·rw [hb] at h
   simp only [aRG,if_false] at h;by_cases hd:p.aOI.Nodup
   ·have bU:=jwS hb
    simp only [vY,inB,Bool.or_eq_false_iff,Bool.not_eq_false',aPM,aPX] at hm;obtain ⟨⟨⟨⟨h1,h2⟩,h3⟩,h4⟩,h5⟩:=hm;exact ⟨p.aOD.toNat,by omega,by omega,by omega,by omega,bU,hd,h3,h4,h5⟩
   ·rw [decide_eq_false hd] at h
    simp at h
  ·rw [hb] at h;simp at h
 ·rw [hm] at h;simp at h
def stT (ts:List Tk) (b:Int):Int:=((ts[b.toNat]?).getD default).aOG
theorem jnG {ts:List Tk} {b:Int} {x:Tk} (h:ts[b.toNat]?=some x):stT ts b=x.aOG:=by simp [stT,h]
theorem kr {ts:List Tk} {k:Nat} {x:Tk} (h:ts[k]?=some x):stT ts (k:Int)=x.aOG:=by simp [stT,h]
def zk (s:Int) (ts:List Tk) (k:Nat):List Int:=((List.range k).filter λ(j:Nat)=>stT ts (j:Int)==s).map λ(j:Nat)=>(j:Int)
def qG (s:Int) (ts:List Tk):List Int:=zk s ts ts.length
def cS (s:Int) (ts:List Tk):Nat:=(qG s ts).length
theorem jAD (s:Int) (ts:List Tk):zk s ts 0=[]:=rfl
theorem jc6 {ts:List Tk} {k:Nat} {x:Tk} (h:ts[k]?=some x) (s:Int):zk s ts (k+1)=zk s ts k++(if x.aOG=s then [(k:Int)] else []):=by
 have hs:=kr h;by_cases hx:x.aOG=s<;>simp [zk,List.range_succ,hs,hx]
theorem va (s:Int) (ts:List Tk) (k:Nat):(zk s ts k).length<=k:=by
 simp only [zk,aQI];exact aQJ (aPT _ _) (by simp)
theorem jc5 {ts:List Tk} (h:∀x∈ts,1<=x.aOG/\x.aOG<=6):∀(k:Nat),k<=ts.length->(zk 1 ts k).length+(zk 2 ts k).length+(zk 3 ts k).length+(zk 4 ts k).length+(zk 5 ts k).length+(zk 6 ts k).length=k
 |0,_=>rfl
 |k+1,hk=>by
  have ih:=jc5 h k (by omega)
  have hx:ts[k]?=some ts[k]:=aOV (by omega)
  have:=h ts[k] (List.getElem_mem _);have:ts[k].aOG=1\/ts[k].aOG=2\/ts[k].aOG=3\/ts[k].aOG=4\/ts[k].aOG=5\/ts[k].aOG=6:=by omega
  simp only [jc6 hx,aOU];rcases this with h1|h1|h1|h1|h1|h1<;>simp [h1]<;>omega
theorem jtF {s:Int} {ts:List Tk} (h:cS s ts=0) {k:Nat} {x:Tk} (hx:ts[k]?=some x):x.aOG≠s:=by
 intro e;have hk:=(aOS.1 hx).1
 have:(k:Int)∈qG s ts:=by
  simp only [qG,zk,aQS,aQP,aRZ];exact ⟨k,⟨hk,by rw [kr hx];simpa using e⟩,rfl⟩
 rw [cS,aRT] at h;rw [h] at this;simp at this
theorem jeG {s:Int} {ts:List Tk} (h:∀x∈ts,x.aOG≠s):cS s ts=0:=by
 rw [cS,aRT,qG,zk,List.map_eq_nil_iff,List.filter_eq_nil_iff];intro k hk;rw [aRZ] at hk;have hx:ts[k]?=some ts[k]:=aOV hk;rw [kr hx];simpa using h _ (List.getElem_mem hk)
theorem jtE {s:Int} {ts:List Tk} {k:Nat} {x:Tk} (hx:ts[k]?=some x) (h:x.aOG=s):0<cS s ts:=by
 rcases Nat.eq_zero_or_pos (cS s ts) with h0|h0
 ·exact absurd h (jtF h0 hx)
 ·exact h0
def jaZ (p:Pl) (ts:List Tk) (t:Int):Int:=((((zK p t).filter λb=>stT ts b !=4).length:Nat):Int)
def vn (p:Pl) (x:Tk):Bool:=if x.aOG=1 then decide (0<x.aOO) else if x.aOG=2 then (x.aOO==0&&decide (x.tri<p.aOQ)) else if x.aOG=6 then true else (x.aOO==0&&decide (1<=x.tri))
def jbB (x:Tk):Bool:=if x.aOG=3 then inB x.til 1 1000000000 else x.til==0
def jT (p:Pl) (ts:List Tk) (t:Nat) (x:Tk):Bool:=inB x.aOG 1 6&&x.aOO==jaZ p ts t&&inB x.tri 0 p.aOQ&&jbB x&&vn p x
def jgd (ts:List Tk):Int:=if cS 4 ts=ts.length then 2 else if cS 5 ts=1/\cS 4 ts+cS 5 ts+cS 6 ts=ts.length then 3 else if cS 5 ts=0/\0<cS 6 ts/\cS 4 ts+cS 5 ts+cS 6 ts=ts.length then 4 else if cS 5 ts=0/\cS 6 ts=0 then 1 else 0
structure RunOkP (r:Rn):Prop where
 id:inB r.id 1 9999=true
 aOF:jm r.aOF=0
 len:(r.aOD.length:Int)=r.aOF.aOD
 aOD:∀(t:Nat) (x:Tk),r.aOD[t]?=some x->jT r.aOF r.aOD t x=true
 aOG:r.aOG=jgd r.aOD
 live:r.aOG≠0
open Classical in
noncomputable def kI (r:Rn):Bool:=decide (RunOkP r)
theorem runOk_iff {r:Rn}:kI r=true↔RunOkP r:=by simp [kI]
theorem vd {r:Rn} (h:¬RunOkP r):kI r=false:=by simp [kI,h]
theorem RunOkP.st {r:Rn} (h:RunOkP r):∀x∈r.aOD,1<=x.aOG/\x.aOG<=6:=by
 intro x hx;obtain ⟨k,hk,rfl⟩:=aPY hx;have:=h.aOD k _ (aOV hk);simp only [jT,inB,aPG,aPM] at this;exact this.1.1.1.1
theorem RunOkP.aOH {r:Rn} (h:RunOkP r) {t:Nat} {x:Tk} (hx:r.aOD[t]?=some x) (hs:x.aOG=3):r.aOG=1/\cS 5 r.aOD=0/\cS 6 r.aOD=0/\cS 4 r.aOD<r.aOD.length:=by
 have h3:=jtE hx hs;have eI:=jc5 h.st r.aOD.length (aPD _);have e1:=h.aOG;have e2:=h.live;change cS 1 r.aOD+cS 2 r.aOD+cS 3 r.aOD+cS 4 r.aOD+cS 5 r.aOD+cS 6 r.aOD=_ at eI;unfold jgd at e1;split at e1
 ·omega
 ·split at e1
  ·omega
  ·split at e1
   ·omega
   ·split at e1
    ·exact ⟨e1,by omega,by omega,by omega⟩
    ·exact absurd e1 e2
def jba (ts:List Tk) (b:Int):List Tk:=match ts[b.toNat]? with
 |some x=>ts.set b.toNat ⟨if IntKind.i64.wrap (x.aOO-1)=0 then 2 else x.aOG,IntKind.i64.wrap (x.aOO-1),x.tri,x.til⟩
 |none=>ts
theorem jvO (ts:List Tk) (b:Int):(jba ts b).length=ts.length:=by unfold jba;split<;>simp
theorem jgN:∀(l:List Int) (ts:List Tk),(l.foldl jba ts).length=ts.length
 |[],_=>rfl
 |b::l,ts=>by rw [aRL,jgN l,jvO]
theorem jyT {ts:List Tk} {b:Int} {q:Int->Prop} (h2:q 2) (h:∀x∈ts,q x.aOG):∀x∈jba ts b,q x.aOG:=by
 unfold jba;cases hx:ts[b.toNat]? with
 |none=>exact h
 |some x=>
  intro y hy;rcases List.mem_or_eq_of_mem_set hy with hy|rfl
  ·exact h y hy
  ·dsimp only;split
   ·exact h2
   ·exact h x (aOT hx)
theorem jtk {q:Int->Prop} (h2:q 2):∀{l:List Int} {ts:List Tk},(∀x∈ts,q x.aOG)->∀x∈l.foldl jba ts,q x.aOG
 |[],_,h=>h
 |b::l,ts,h=>jtk h2 (l:=l) (ts:=jba ts b) (jyT h2 h)
def vZ (p:Pl) (ts:List Tk) (t:Nat) (x:Tk):List Tk:=(jca p t).foldl jba (ts.set t ⟨4,x.aOO,x.tri,0⟩)
def jjz (r:Rn) (t:Nat) (x:Tk):Rn:=⟨r.id,r.aOF,if cS 4 (vZ r.aOF r.aOD t x)=r.aOD.length then 2 else r.aOG,vZ r.aOF r.aOD t x⟩
theorem jbX (p:Pl) (ts:List Tk) (t:Nat) (x:Tk):(vZ p ts t x).length=ts.length:=by rw [vZ,jgN,aPF]
theorem ji4 {ts:List Tk} {t:Nat} {y:Tk} {q:Int->Prop} (hy:q y.aOG) (h:∀x∈ts,q x.aOG):∀x∈ts.set t y,q x.aOG:=by
 intro z hz;rcases List.mem_or_eq_of_mem_set hz with hz|rfl
 ·exact h z hz
 ·exact hy
theorem joD {p:Pl} {ts:List Tk} {t:Nat} {x:Tk} {q:Int->Prop} (h2:q 2) (h4:q 4) (h:∀x∈ts,q x.aOG):∀y∈vZ p ts t x,q y.aOG:=jtk h2 (ji4 h4 h)
theorem jnh {r:Rn} (h:RunOkP r) {t:Nat} {x:Tk} (hx:r.aOD[t]?=some x) (hs:x.aOG=3):jgd (vZ r.aOF r.aOD t x)=(jjz r t x).aOG:=by
 obtain ⟨e1,e2,e3,e4⟩:=h.aOH hx hs;have h5:∀y∈r.aOD,y.aOG≠5:=λy hy=>by obtain ⟨k,hk,rfl⟩:=aPY hy;exact jtF e2 (aOV hk)
 have h6:∀y∈r.aOD,y.aOG≠6:=λy hy=>by obtain ⟨k,hk,rfl⟩:=aPY hy;exact jtF e3 (aOV hk)
 have c5:=jeG (joD (p:=r.aOF) (t:=t) (x:=x) (q:=λs=>s≠5) (by decide) (by decide) h5)
 have c6:=jeG (joD (p:=r.aOF) (t:=t) (x:=x) (q:=λs=>s≠6) (by decide) (by decide) h6)
 simp only [jgd,c5,c6,jbX,jjz,e1];simp
def vv (f:Nat->Tk->Tk) (ts:List Tk) (k:Nat):List Tk:=ts.mapIdx λj x=>if j<k then f j x else x
section
variable {f:Nat->Tk->Tk} {ts:List Tk} {k:Nat} {x:Tk}
theorem zw:(vv f ts k).length=ts.length:=by simp [vv]
theorem js5:vv f ts 0=ts:=by
 apply aRB
 intro j;simp [vv,List.getElem?_mapIdx]
theorem jgu (h:ts[k]?=some x):(vv f ts k)[k]?=some x:=by simp [vv,List.getElem?_mapIdx,h]
theorem jgt (h:ts[k]?=some x):(vv f ts k).set k (f k x)=vv f ts (k+1):=by
 have hk:=(aOS.1 h).1
 apply aRB
 intro j;rw [aQK];by_cases e:k=j
 ·subst e
  rw [if_pos rfl,zw,if_pos hk];simp [vv,List.getElem?_mapIdx,h]
 ·rw [if_neg e]
  simp only [vv,List.getElem?_mapIdx];have:(j<k+1)=(j<k):=by apply propext;omega
  simp only [this]
theorem jpY (h:ts[k]?=some x) (hf:f k x=x):vv f ts (k+1)=vv f ts k:=by
 rw [<-jgt h,hf]
 apply aRB
 intro j;rw [aQK];by_cases e:k=j
 ·subst e
  rw [if_pos rfl,jgu h,if_pos (by rw [zw];exact (aOS.1 h).1)]
 ·rw [if_neg e]
theorem jm4 {g:Nat->Tk->Tk} (h:∀(j:Nat) (x:Tk),ts[j]?=some x->f j x=g j x) (k:Nat):vv f ts k=vv g ts k:=by
 apply aRB
 intro j;simp only [vv,List.getElem?_mapIdx];cases hx:ts[j]? with
 |none=>rfl
 |some x=>simp [h j x hx]
end
def qz (but:Int) (j:Nat) (x:Tk):Tk:=if (j:Int)≠but/\x.aOG≠4 then ⟨6,x.aOO,x.tri,0⟩ else x
def jy (j:Nat) (x:Tk):Tk:=if x.aOG≠4/\x.aOG≠5 then ⟨6,x.aOO,x.tri,0⟩ else x
def zH (r:Rn) (t:Nat) (x:Tk):Rn:=if x.tri<r.aOF.aOQ then ⟨r.id,r.aOF,r.aOG,r.aOD.set t ⟨2,x.aOO,x.tri,0⟩⟩ else ⟨r.id,r.aOF,3,vv jy (r.aOD.set t ⟨5,x.aOO,x.tri,0⟩) r.aOD.length⟩
theorem jr4 {r:Rn} (h:RunOkP r) {t:Nat} {x:Tk} (hx:r.aOD[t]?=some x) (hs:x.aOG=3) (k:Nat):vv (qz t) (r.aOD.set t ⟨5,x.aOO,x.tri,0⟩) k=vv jy (r.aOD.set t ⟨5,x.aOO,x.tri,0⟩) k:=by
 obtain ⟨e1,e2,e3,e4⟩:=h.aOH hx hs;refine jm4 (λj y hy=>?_) k
 have ht:=(aOS.1 hx).1;rw [aQK] at hy;by_cases e:t=j
 ·subst e
  rw [if_pos rfl,if_pos ht] at hy;simp only [Option.some.injEq] at hy;subst hy;simp [qz,jy]
 ·rw [if_neg e] at hy
  have h5:y.aOG≠5:=jtF e2 hy;have hj:(j:Int)≠t:=by omega
  simp [qz,jy,h5,hj]
noncomputable def vK (r:Rn) (t:Int):Bool:=inB t 0 (r.aOD.length-1)&&stT r.aOD t==3&&kI r
noncomputable def kZ (r:Rn) (t:Int):Rn:=if vK r t then jjz r t.toNat ((r.aOD[t.toNat]?).getD default) else r
noncomputable def jC (r:Rn) (t:Int):Rn:=if vK r t then zH r t.toNat ((r.aOD[t.toNat]?).getD default) else r
theorem jbh {r:Rn} {t:Int} (h:vK r t=true):∃k x,t=((k:Nat):Int)/\r.aOD[k]?=some x/\x.aOG=3/\RunOkP r:=by
 simp only [vK,inB,aPG,aPM,aQW,runOk_iff] at h;obtain ⟨⟨h1,h2⟩,h3⟩:=h;have hk:t.toNat<r.aOD.length:=by omega
 refine ⟨t.toNat,r.aOD[t.toNat],by omega,aOV hk,?_,h3⟩
 rw [jnG (aOV hk)] at h2;exact h2
theorem jfE {r:Rn} {k:Nat} {x:Tk} (hx:r.aOD[k]?=some x) (h:vK r k=true):kZ r k=jjz r k x:=by simp [kZ,h,hx]
theorem juf {r:Rn} {t:Int} (h:vK r t=false):kZ r t=r:=by simp [kZ,h]
theorem qR {r:Rn} {k:Nat} {x:Tk} (hx:r.aOD[k]?=some x) (h:vK r k=true):jC r k=zH r k x:=by simp [jC,h,hx]
theorem jfD {r:Rn} {t:Int} (h:vK r t=false):jC r t=r:=by simp [jC,h]
theorem jpn (r:Rn) (t:Int):qH (jC r t)=qH r:=by
 unfold jC;split
 ·unfold zH
  split
  ·simp only [qH,aPF]
  ·simp only [qH,zw,aPF]
 ·rfl
def km (a b:En):Bool:=decide (a.aOL>b.aOL\/a.aOL=b.aOL/\a.seq<b.seq)
structure jhU (l:List En):Prop where
 aOQ:l.length<=80
 ahead:∀(k:Nat) (a b:En),l[k]?=some a->l[k+1]?=some b->km a b=true
open Classical in
noncomputable def jaz (l:List En):Bool:=decide (jhU l)
theorem jgf {l:List En} (h:jhU l):jaz l=true:=by simp [jaz,h]
theorem jka {l:List En} (h:¬jhU l):jaz l=false:=by simp [jaz,h]
theorem shelf_iff {l:List En}:jaz l=true↔jhU l:=by simp [jaz]
structure SeqP (q:Int) (l:List En):Prop where
 range:∀e∈l,1<=e.seq/\e.seq<=q-1
 apart:(l.map (·.seq)).Nodup
def jaq (id t:Int) (l:List En):Nat:=(l.filter λe=>e.run==id&&e.aOK==t).length
def jkw (y:Yd) (r:Rn) (l:List En) (t:Nat) (x:Tk):Prop:=
 (x.aOG=2->(∀e∈l,e.run=r.id->e.aOK=t->e.aOL=r.aOF.aOL)/\jaq r.id t l=1)/\(x.aOG=3->y.now+1<=x.til/\x.til<=y.now+r.aOF.aOP)
def jqR (y:Yd) (r:Rn) (l:List En):Prop:=∀(t:Nat) (x:Tk),r.aOD[t]?=some x->jkw y r l t x
open Classical in
noncomputable def zG (y:Yd) (r:Rn) (l:List En):Bool:=decide (jqR y r l)
theorem jgi {y:Yd} {r:Rn} {l:List En} (h:jqR y r l):zG y r l=true:=by simp [zG,h]
theorem jee {y:Yd} {r:Rn} {l:List En} (h:¬jqR y r l):zG y r l=false:=by simp [zG,h]
theorem runIn_iff {y:Yd} {r:Rn} {l:List En}:zG y r l=true↔jqR y r l:=by simp [zG]
structure YardOkP (y:Yd):Prop where
 now:0<=y.now/\y.now<=999999980
 seq:1<=y.seq/\y.seq<=1000000000
 four:y.aOE.length=4
 eight:y.aOH.length<=8
 shelves:∀l∈y.aOE,jhU l
 seqs:SeqP y.seq y.aOE.flatten
 right:∀r∈y.aOH,RunOkP r
 place:∀(k:Nat) (r:Rn),y.aOH[k]?=some r->runAt y r.id=k
 aOH:∀r∈y.aOH,jqR y r y.aOE.flatten
 slots:kG y<=40
open Classical in
noncomputable def jt (y:Yd):Bool:=decide (YardOkP y)
theorem qX {y:Yd} (h:YardOkP y):jt y=true:=by simp [jt,h]
theorem qY {y:Yd} (h:¬YardOkP y):jt y=false:=by simp [jt,h]
theorem yard_iff {y:Yd}:jt y=true↔YardOkP y:=by simp [jt]
section
variable {l:List En} {k:Nat} {e:En} {id t:Int}
theorem jtB (h:l[k]?=some e) (h1:e.run=id) (h2:e.aOK=t):jaq id t (l.take (k+1))=jaq id t (l.take k)+1:=by
 rw [aPE,h];simp [jaq,aRD,h1,h2]
theorem joK (h:l[k]?=some e) (h1:¬(e.run=id/\e.aOK=t)):jaq id t (l.take (k+1))=jaq id t (l.take k):=by
 rw [aPE,h];by_cases h2:e.run=id
 ·have h3:¬e.aOK=t:=λh3=>h1 ⟨h2,h3⟩
  simp [jaq,aRD,h2,h3]
 ·simp [jaq,aRD,h2]
theorem jxV (l:List En) (id t:Int):jaq id t l<=l.length:=aPT _ _
theorem jv6 {j:Nat} {e2:En} (h:l[k]?=some e) (hj:j<k) (h2:l[j]?=some e2) (he:e2.seq=e.seq):¬(l.map (·.seq)).Nodup:=by
 intro hd;obtain ⟨a1,b1⟩:=aOS.1 h;obtain ⟨a2,b2⟩:=aOS.1 h2;have:=List.pairwise_iff_getElem.1 hd j k (by simpa using a2) (by simpa using a1) hj
 simp [b1,b2,he] at this
theorem jv5 (h:l[k]?=some e) (hn:((l.take k).map (·.seq)).Nodup) (hx:∀e2∈l.take k,e2.seq≠e.seq):((l.take (k+1)).map (·.seq)).Nodup:=by
 rw [aPE,h];simp only [Option.toList_some,aRF,aQX,List.map_nil];rw [aPC];refine ⟨hn,by simp,λa ha b hb e'=>?_⟩
 simp at hb;subst hb;obtain ⟨e2,h1,h2⟩:=aQS.1 ha;exact hx e2 h1 (by rw [h2,e'])
end
theorem jt9 {α:Type} {enc:α->List D} {size:Nat} (hs:∀x,(enc x).length=size) (l:List α) (k:Nat) (v:α):k<l.length->kz (l.flatMap enc) (k*size) (enc v)=(l.set k v).flatMap enc:=by
 intro hk;have h1:(l.flatMap enc).length=l.length*size:=jD hs l;have h2:(k+1)*size<=l.length*size:=aRY _ hk;rw [kY _ _ _ (by rw [hs,h1,<-Nat.succ_mul];exact h2),hs]
 have e:l=l.take k++l[k]::l.drop (k+1):=by rw [<-aQT hk,aQR]
 have e2:l.set k v=l.take k++v::l.drop (k+1):=by rw [List.set_eq_take_append_cons_drop,if_pos hk]
 have h3:((l.take k).flatMap enc).length=k*size:=by rw [jD hs,aOZ,aQL (by omega)]
 have h4:l.flatMap enc=(l.take k++l[k]::l.drop (k+1)).flatMap enc:=congrArg (List.flatMap enc) e;rw [aQO,aPQ] at h4;rw [e2,h4,List.take_left' h3];simp only [aQO,aPQ,aPH]
 congr 2
 rw [<-aPH,List.drop_left' (by rw [aOU,h3,hs])]
theorem jeg {α:Type} {enc:α->List D} {size ty:Nat} (hs:∀x,(enc x).length=size) {l:List α} {k:Nat} (v:α) (hk:k<l.length):D.put [] (k*size) (enc v) (.sl size ty (l.flatMap enc))=.sl size ty ((l.set k v).flatMap enc):=by
 simp only [D.put,jt9 hs l k v hk]
theorem jci {l:List Int} {k:Nat} (v:Int) (hk:k<l.length):D.put [] (k*1) [.val (.int .i64 v)] (jc l)=jc (l.set k v):=jeg (enc:=λn=>[iv n]) (λ_=>rfl) v hk
abbrev jBL:TypeId:=4
def qJ (l:List Bool):D:=.sl 1 jBL (l.flatMap (λb=>[D.val (.bool b)]))
section
variable {P:Program} {β:Nat} {s:St}
theorem jp1 (l:List Bool):(qJ l).len=l.length:=jbl (enc:=λb=>[D.val (.bool b)]) (λ_=>rfl) (by decide) _ _
theorem joC {l:List Bool} {k:Nat} {x:Bool} (h:l[k]?=some x):(qJ l).elem k=[D.val (.bool x)]:=jao (enc:=λb=>[D.val (.bool b)]) (λ_=>rfl) h
theorem jq8 (l:List Bool):(qJ l).isSl=true:=(rfl)
theorem jq5 (l:List Bool):(qJ l).size=1:=(rfl)
theorem jpS (l:List Bool) (g:Nat) (η:jg):(qJ l).obj g η=[(g,.loose (qJ l) η)]:=(rfl)
theorem jpQ (l:List Bool) (g c:Nat) (p:List Nat) (η:jg):(qJ l).toOwn g c p η=.h g c p (η p):=(rfl)
theorem jmw (l:List Bool):(qJ l).cells=l.flatMap (λb=>[D.val (.bool b)]):=(rfl)
theorem jf3 {l:List Bool} {k:Nat} {x:Bool} (h:l[k]?=some x):((l.flatMap (λb=>[D.val (.bool b)])).drop (k*1)).take 1=[D.val (.bool x)]:=joC h
theorem jcn {l:List Bool} {k:Nat} (h:k<l.length):k*1+1<=(l.flatMap (λb=>[D.val (.bool b)])).length:=by rw [jD (enc:=λb=>[D.val (.bool b)]) (size:=1) (λ_=>rfl)];omega
theorem jpy {l:List Bool} {k:Nat} (v:Bool) (hk:k<l.length):D.put [] (k*1) [D.val (.bool v)] (qJ l)=qJ (l.set k v):=jeg (enc:=λb=>[D.val (.bool b)]) (λ_=>rfl) v hk
attribute [go_sem] jp1 jq8 jq5 jpS jpQ jmw
theorem jeU (l:List Bool):ka (l.flatMap (λb=>[D.val (.bool b)]))=true:=by
 induction l with
 |nil=>rfl
 |cons x l ih=>rw [aPQ,vQ,ih];rfl
attribute [go_sem] jeU
end
theorem juo {l:List (En)} {k:Nat} (v:En) (hk:k<l.length):D.put [] (k*4) (jj v) (jf l)=jf (l.set k v):=jeg (enc:=jj) (λ_=>rfl) v hk
theorem jum {l:List (Tk)} {k:Nat} (v:Tk) (hk:k<l.length):D.put [] (k*4) (jz v) (ju l)=ju (l.set k v):=jeg (enc:=jz) (λ_=>rfl) v hk
theorem jun {l:List (Rn)} {k:Nat} (v:Rn) (hk:k<l.length):D.put [] (k*8) (jd v) (jG l)=jG (l.set k v):=jeg (enc:=jd) (λ_=>rfl) v hk
theorem jwv {l:List (List En)} {k:Nat} (v:List En) (hk:k<l.length):D.put [] (k*1) ([jf v]) (ke l)=ke (l.set k v):=jeg (enc:=λes=>[jf es]) (λ_=>rfl) v hk
theorem jcg {l:List Tk} {k:Nat} (a b c d:Int) (hk:k<l.length):D.put [] (k*4) [.val (.int .i64 a),.val (.int .i64 b),.val (.int .i64 c),.val (.int .i64 d)] (ju l)=ju (l.set k ⟨a,b,c,d⟩):=jum ⟨a,b,c,d⟩ hk
theorem jgQ:∀{l:List D} (a b:Nat),ka l=true->ka ((l.drop a).take b)=true
 |[],a,b,_=>by simp [ka]
 |.sl _ _ _::l,a,b,h=>by simp [ka] at h
 |.val u::l,0,0,_=>rfl
 |.val u::l,0,b+1,h=>by
  simp only [ka,aPG] at h;simp only [List.drop_zero,List.take_succ_cons,ka,h.1,Bool.true_and];exact jgQ (l:=l) 0 b h.2
 |.val u::l,a+1,b,h=>by
  simp only [ka,aPG] at h;exact jgQ (l:=l) a b h.2
theorem jr3 (l:List Int) (a b:Nat):ka (((l.flatMap (λn=>[iv n])).drop a).take b)=true:=jgQ a b (jgP l)
attribute [go_sem] jr3
theorem ju3 (l:List Tk) (a b:Nat):ka (((l.flatMap (jz)).drop a).take b)=true:=jgQ a b (jje l)
attribute [go_sem] ju3
theorem jqp (l:List Bool) (a b:Nat):ka (((l.flatMap (λb=>[D.val (.bool b)])).drop a).take b)=true:=jgQ a b (jeU l)
attribute [go_sem] jqp
theorem jCE (n:Nat):D.sl 1 jes (List.replicate n [D.val (.int .i64 0)]).flatten=jc (List.replicate n 0):=by simp [jc,List.flatMap,iv]
theorem jzD (n:Nat):D.sl 1 jBL (List.replicate n [D.val (.bool false)]).flatten=qJ (List.replicate n false):=by simp [qJ,List.flatMap]
theorem jqs {α:Type} {enc:α->List D} {size:Nat} (hs:∀x,(enc x).length=size):∀(l:List α) (k:Nat),(l.flatMap enc).drop (k*size)=(l.drop k).flatMap enc
 |[],k=>by simp
 |x::l,0=>by simp
 |x::l,k+1=>by
  rw [aPQ,List.drop_succ_cons,<-jqs hs l k,Nat.succ_mul,Nat.add_comm,<-List.drop_drop,List.drop_left' (hs x)]
theorem jo7 {α:Type} {enc:α->List D} {size:Nat} (hs:∀x,(enc x).length=size):∀(l:List α) (k:Nat),(l.flatMap enc).take (k*size)=(l.take k).flatMap enc
 |[],k=>by simp
 |x::l,0=>by simp
 |x::l,k+1=>by
  rw [aPQ,List.take_succ_cons,aPQ,<-jo7 hs l k,Nat.succ_mul,Nat.add_comm,List.take_append,hs,aQE,aOW (by rw [hs];omega)]
theorem jss {α:Type} {enc:α->List D} {size ty:Nat} (hs:∀x,(enc x).length=size) (l:List α) (a b:Nat):(D.sl size ty (l.flatMap enc)).sub a b=.sl size ty (((l.drop a).take (b-a)).flatMap enc):=by
 simp only [D.sub,jqs hs,jo7 hs]
theorem jtY (l:List Ed) (a b:Nat):(jn l).sub a b=jn ((l.drop a).take (b-a)):=jss (enc:=kb) (λ_=>rfl) l a b
theorem jtX (l:List En) (a b:Nat):(jf l).sub a b=jf ((l.drop a).take (b-a)):=jss (enc:=jj) (λ_=>rfl) l a b
attribute [go_sem] Nat.zero_le jtY jtX Nat.sub_zero List.drop_zero
def jew {α:Type} (f:α->Bool):List α->Int
 |[]=>-1
 |x::l=>if f x then 0 else match jew f l with
  |.ofNat k=>.ofNat (k+1)
  |.negSucc k=>.negSucc k
theorem jaO {α:Type} {f:α->Bool}:∀{l:List α},(∀y∈l,f y=false)->jew f l=-1
 |[],_=>rfl
 |x::l,h=>by rw [jew,h x (by simp),jaO λy hy=>h y (by simp [hy])];rfl
theorem jbW {α:Type} {f:α->Bool}:∀{l:List α} {k:Nat} {x:α},l[k]?=some x->f x=true->(∀y∈l.take k,f y=false)->jew f l=k
 |[],_,_,h,_,_=>by simp at h
 |a::l,0,x,h,hx,_=>by simp at h;subst h;rw [jew,hx];rfl
 |a::l,k+1,x,h,hx,hn=>by
  rw [jew,hn a (by simp),jbW (k:=k) (by simpa using h) hx λy hy=>hn y (by simp [hy])];rfl
theorem zW {α:Type} (f:α->Bool) (l:List α):(jew f l=-1/\∀y∈l,f y=false)\/∃k x,jew f l=((k:Nat):Int)/\l[k]?=some x/\f x=true/\∀y∈l.take k,f y=false:=by
 induction l with
 |nil=>exact .inl ⟨rfl,by simp⟩
 |cons a l ih=>
  cases ha:f a with
  |true=>exact .inr ⟨0,a,by rw [jew,ha];rfl,rfl,ha,by simp⟩
  |false=>
   rcases ih with ⟨h1,h2⟩|⟨k,x,h1,h2,h3,h4⟩
   ·exact .inl ⟨jaO (λy hy=>by rcases aPL.1 hy with rfl|hy<;>simp_all),λy hy=>by rcases aPL.1 hy with rfl|hy<;>simp_all⟩
   ·have h5:(a::l)[k+1]?=some x:=by simpa using h2
    have h6:∀y∈(a::l).take (k+1),f y=false:=λy hy=>by
     rw [List.take_succ_cons] at hy;rcases aPL.1 hy with rfl|hy
     ·exact ha
     ·exact h4 y hy
    exact .inr ⟨k+1,x,jbW h5 h3 h6,h5,h3,h6⟩
theorem jnD {α:Type} {f:α->Bool} {l:List α} {k:Nat} {x:α} (h:l[k]?=some x) (hx:f x=false) (hn:∀y∈l.take k,f y=false):∀y∈l.take (k+1),f y=false:=by
 intro y hy;rw [aPE,h] at hy;rcases aOX.1 hy with hy|hy
 ·exact hn y hy
 ·simp at hy;subst hy;exact hx
theorem ko (l:List Int) (a:Int):D.sl 1 jes (l.flatMap (λn=>[iv n])++[.val (.int .i64 a)])=jc (l++[a]):=by simp [jc]
theorem jzM (a:Int):D.sl 1 jes [.val (.int .i64 a)]=jc [a]:=by simp [jc]
theorem stH_t (p:List Nat) (k n:Nat) (η:jg) (K:jg->Prop):stH true p k n η K=K η:=(rfl)
attribute [go_sem] stH_t jDX
def jcU:C:=iS [aO 2 false] (iS [aM 3 0,aM 4 0,aP 5 .neq 3 3 4,aM 2 5] .ret)
theorem jf1:fnC Tryz.prog Tryz.f222=some (jcU,[.t 2],6):=by kernel_rfl
def jd5:C:=iS [aO 4 false] (iS [aM 5 0,iA 6 (iK 222 [5]),aM 7 6,iB 8 7 true (iM 1),iB 9 7 true (iK 222 [8]),iB 10 7 true (iU 9),iA 11 (iY 7 (.t 10) (oF)),aM 12 11,iB 13 12 false (iM 0),iB 14 12 false (iM 1),iB 15 12 false (iP .lss 3 13 14),iA 16 (iY 12 (oT) (.t 15)),aM 4 16] .ret)
theorem jhj:fnC Tryz.prog Tryz.f211=some (jd5,[.t 4],17):=by kernel_rfl
def qs:C:=iS [aM 8 1,aQ 9 .add 3 8 1,aM 6 9] (.blk 0 (.loop (.seq (iS [aM 10 6,aM 11 2,aP 12 .lss 3 10 11] (iD 12 .skip (.exit 0))) (.seq (.blk 1 (iS [aM 15 6,aM 7 15] (.blk 2 (.loop (.seq (.seq (.dreg (tA 0 16 (iM 7) (tA 1 17 (iM 1) (tA 2 18 (iP .gtr 3 16 17) (tA 3 19 (iM 18) (tB 4 20 19 true (iM 0) (tB 5 21 19 true (iM 7) (tB 6 22 19 true (iI 1 20 21) (tB 7 23 19 true (iL 22) (tB 8 24 19 true (iM 0) (tB 9 25 19 true (iM 7) (tB 10 26 19 true (iQ .sub 3 25 1) (tB 11 27 19 true (iI 1 24 26) (tB 12 28 19 true (iL 27) (.alt (iB 29 19 true (iK 211 [23,28])) [] (tA 14 30 (iY 19 (.t 29) (oF)) .done) .stop))))))))))))))) (iD 30 .skip (.exit 2))) (.seq (.blk 3 (.dreg (tA 0 33 (iM 0) (tA 1 34 (iM 7) (tA 2 35 (iM 0) (tA 3 36 (iM 7) (tA 4 37 (iQ .sub 3 36 1) (tA 5 38 (iM 0) (tA 6 39 (iM 7) (tA 7 40 (iQ .sub 3 39 1) (tA 8 41 (iI 1 38 40) (tA 9 42 (iL 41) (tA 10 43 (iM 0) (tA 11 44 (iM 7) (tA 12 45 (iI 1 43 44) (tA 13 46 (iL 45) (tA 14 47 (iI 1 33 34) (.alt (wAD 47 42) [4,3,2] (tA 16 48 (iI 1 35 37) (.alt (wAD 48 46) [] .done .stop)) .stop)))))))))))))))))) (.reg [aM 31 7,aQ 32 .sub 3 31 1,aM 7 32]))))))) (.reg [aM 13 6,aQ 14 .add 3 13 1,aM 6 14])))))
theorem vI:fnC Tryz.prog Tryz.f205=some (qs,[],49):=by kernel_rfl
def vr:C:=iS [aO 8 true] (iS [aO 9 true] (.blk 0 (.loop (.blk 1 (iS [aM 19 2,aM 20 1,aP 21 .sub 3 19 20,aM 10 21] (.seq (iS [aM 22 10,aQ 23 .leq 3 22 12] (iD 23 (iS [aM 24 0,aM 25 1,aM 26 2,iA 27 (iK 205 [24,25,26])] .ret) .skip)) (.seq (iS [aM 28 3,aQ 29 .eql 3 28 0] (iD 29 (iS [aM 30 0,aM 31 1,aM 32 2,iA 33 (iK 206 [30,31,32])] .ret) .skip)) (.seq (iS [aM 34 8,aU 35 34] (iD 35 (iS [aM 36 0,aM 37 1,aM 38 2,iA 39 (iK 207 [36,37,38])] (.reg [aM 40 3,aQ 41 .sub 3 40 1,aM 3 41])) .skip)) (iS [aM 43 0,aM 44 1,aM 45 2,iA 46 (iK 208 [43,44,45]),aM 42 46,aE 47 42 0,aE 48 42 1,aM 11 47,aM 12 48] (.seq (iS [aM 49 12,aQ 50 .eql 188 49 2] (iD 50 (iS [aM 51 0,aM 52 1,aM 53 2,iA 54 (iK 209 [51,52,53])] (iS [aM 55 2,aQ 56 .sub 3 55 1,aM 57 11,aM 58 1,aP 59 .sub 3 57 58,aP 60 .sub 3 56 59,aM 11 60] (.reg [aN 12 1]))) .skip)) (.seq (iS [aM 61 8,aM 62 61,iB 63 62 true (iM 9),iA 64 (iY 62 (.t 63) (oF)),aM 65 64,iB 66 65 true (iM 12),iB 67 65 true (iQ .eql 188 66 1),iA 68 (iY 65 (.t 67) (oF))] (iD 68 (iS [aM 69 0,aM 70 1,aM 71 2,iA 72 (iK 210 [69,70,71])] (iD 72 .ret .skip)) .skip)) (.seq (.seq (.dreg (tA 0 73 (iM 1) (tA 1 74 (iQ .gtr 3 73 0) (tA 2 75 (iM 74) (tB 3 76 75 true (iM 0) (tB 4 77 75 true (iM 1) (tB 5 78 75 true (iQ .sub 3 77 1) (tB 6 79 75 true (iI 1 76 78) (tB 7 80 75 true (iL 79) (tB 8 81 75 true (iM 0) (tB 9 82 75 true (iM 11) (tB 10 83 75 true (iI 1 81 82) (tB 11 84 75 true (iL 83) (.alt (iB 85 75 true (iK 211 [80,84])) [] (tB 13 86 75 true (iU 85) (tA 14 87 (iY 75 (.t 86) (oF)) .done)) .stop)))))))))))))) (iD 87 (iS [aM 88 0,aM 89 1,aM 90 2,aM 91 11,iA 92 (iK 212 [88,89,90,91]),aM 13 92] (iS [aM 93 13,aM 1 93] (.exit 1))) .skip)) (iS [aM 95 0,aM 96 1,aM 97 2,aM 98 11,iA 99 (iK 213 [95,96,97,98]),aM 94 99,aE 100 94 0,aE 101 94 1,aM 14 100,aM 15 101] (iS [aM 102 15,aM 9 102] (iS [aM 103 14,aM 104 1,aP 105 .sub 3 103 104,aM 106 2,aM 107 14,aP 108 .sub 3 106 107,aM 16 105,aM 17 108] (iS [aM 109 10,aQ 110 .quo 3 109 8,aM 18 110] (iS [aM 111 16,aM 112 17,aP 113 .lss 3 111 112] (iD 113 (iS [aM 114 16,aM 115 18,aP 116 .geq 3 114 115,aM 8 116] (iS [aM 117 0,aM 118 1,aM 119 14,aM 120 3,iA 121 (iK 202 [117,118,119,120])] (.reg [aM 122 14,aQ 123 .add 3 122 1,aM 1 123]))) (iS [aM 124 17,aM 125 18,aP 126 .geq 3 124 125,aM 8 126] (iS [aM 127 0,aM 128 14,aQ 129 .add 3 128 1,aM 130 2,aM 131 3,iA 132 (iK 202 [127,129,130,131])] (.reg [aM 133 14,aM 2 133])))))))))))))))))))))
theorem zX:fnC Tryz.prog Tryz.f202=some (vr,[],134):=by kernel_rfl
def zJ:C:=iS [aM 3 0,aG 4 3,aM 2 4] (.reg [aM 5 0,aM 6 2,aM 7 2,iA 8 (.cv (.num .u64) 0 (.t 7)),iA 9 (iK 203 [8]),iA 10 (.call 202 [.t 5,oI 0,.t 6,.t 9])])
theorem jbz:fnC Tryz.prog Tryz.f194=some (zJ,[],11):=by kernel_rfl
def jdP:C:=iS [aN 2 0] (.seq (.cond (oF) (iS [aM 3 0,iA 4 (.cv (.num .u32) 0 (.t 3)),iA 5 (iK 214 [4]),aM 2 5] .ret) .skip) (iS [aM 6 0,iA 7 (iK 215 [6]),aM 2 7] .ret))
theorem jg5:fnC Tryz.prog Tryz.f203=some (jdP,[.t 2],8):=by kernel_rfl
def jFf:ByteArray:=⟨(([0,1]:List UInt8)++List.replicate 2 2++List.replicate 4 3++List.replicate 8 4++List.replicate 16 5++List.replicate 32 6++List.replicate 64 7++List.replicate 128 8).toArray⟩
def jb6:C:=iS [aN 2 0] (.seq (iS [aM 3 0,iA 4 (.bin .geq 198 (.t 3) (.c (.int .u64 4294967296)))] (iD 4 (iS [aM 5 0,iA 6 (.bin .shr 198 (.t 5) (.c (.int .u64 32))),aM 0 6] (.reg [aN 2 32])) .skip)) (.seq (iS [aM 7 0,iA 8 (.bin .geq 198 (.t 7) (.c (.int .u64 65536)))] (iD 8 (iS [aM 9 0,iA 10 (.bin .shr 198 (.t 9) (.c (.int .u64 16))),aM 0 10] (.reg [aM 11 2,aQ 12 .add 3 11 16,aM 2 12])) .skip)) (.seq (iS [aM 13 0,iA 14 (.bin .geq 198 (.t 13) (.c (.int .u64 256)))] (iD 14 (iS [aM 15 0,iA 16 (.bin .shr 198 (.t 15) (.c (.int .u64 8))),aM 0 16] (.reg [aM 17 2,aQ 18 .add 3 17 8,aM 2 18])) .skip)) (iS [aM 19 2,aM 20 0,iA 21 (.cv (.num .u8) 0 (.t 20)),iA 22 (.sidx (.c (.string jFf)) (.t 21)),iA 23 (.cv (.num .i64) 0 (.t 22)),aP 24 .add 3 19 23,aM 2 24] .ret))))
theorem jeC:fnC Tryz.prog Tryz.f215=some (jb6,[.t 2],25):=by kernel_rfl
theorem jCx (a:Int):jZ Tryz.prog 222 [.c (.val (.int .i64 a))] (.c (.val (.bool false))):=by
 refine pf_ jf1 ?_;unfold jcU;simp only [go_sem,aRI]
theorem jEY (a b:Int):jZ Tryz.prog 211 [.c (.val (.int .i64 a)),.c (.val (.int .i64 b))] (.c (.val (.bool (decide (a<b))))):=by
 refine pf_ jhj ?_;unfold jd5;simp only [go_sem];refine jk (jCx a) λη=>?_
 simp only [go_sem]
def up1 (o:Nat->Ob) (g:Nat) (ob:Ob):Nat->Ob:=λk=>if k=g then ob else o k
theorem jsm (o:Nat->Ob) (g:Nat) (ob:Ob):up1 o g ob g=ob:=by simp [up1]
theorem jBF (o:Nat->Ob) (g:Nat) (a b:Ob):(λk=>if k=g then b else up1 o g a k)=up1 o g b:=by funext k;simp only [up1];split<;>rfl
theorem jDP {o:Nat->Ob} {g:Nat} {ob:Ob} (h:o g=ob):o=up1 o g ob:=by
 funext k
 simp only [up1];split
 ·rename_i e;rw [e,h]
 ·rfl
theorem jy3 (s:St) (g:Nat) (ob:Ob):(s.setO g ob).o=up1 s.o g ob:=rfl
theorem up1_2 (o:Nat->Ob) (g:Nat) (a b:Ob):up1 (up1 o g a) g b=up1 o g b:=jBF o g a b
theorem jEN (s:St) (d:Option Nat) (v:AV):(s.put d v).o=s.o:=by cases d<;>rfl
theorem juT (A:List Int) (hA:A.length<=12) (o:Nat->Ob) (g:Nat) (η:jg) (ho:o g=.loose (jc A) η):Inl Tryz.prog 205 [Hd g η,Ni 0,Ni A.length] o (λav o'=>av=.tup []/\∃(l:List Int) (i:Nat),o'=up1 o g (.loose (jc l) η)/\SO A l i/\A.length<=i):=by
 refine qm (β:=0) Tryz.func205 vI (by simp) ?_
 unfold qs;simp only [go_sem];refine qI (λs=>∃(l:List Int) (i:Nat),1<=i/\(i<=A.length\/i=1)/\SO A l i/\s.t 0=Hd g η/\s.t 1=Ni 0/\s.t 2=Ni A.length/\s.t 6=Ni i/\s.o=up1 o g (.loose (jc l) η)) (λs=>A.length-s.n 6) ?_ ?_
 ·exact ⟨A,1,by omega,.inr rfl,SO_1 A,by simp only [go_sem]<;>rfl,by simp only [go_sem]<;>rfl,by simp only [go_sem]<;>rfl,by simp only [go_sem]<;>rfl,jDP ho⟩
 ·rintro s ⟨l,i,hi,hi2,hso,h0,h1,h2,h6,bT⟩
  have hm:s.n 6=i:=jaG h6;rw [hm];by_cases aB:i<A.length
  ·have aA:(i:Int)<A.length:=by omega
   have hw:=kw i;have eR:=hso.1.length_eq;simp only [go_sem,h2,h6,aA];refine qI (λs=>∃(l:List Int) (j:Nat),SI A l i j/\s.t 0=Hd g η/\s.t 1=Ni 0/\s.t 2=Ni A.length/\s.t 6=Ni i/\s.t 7=Ni j/\s.o=up1 o g (.loose (jc l) η)) (λs=>s.n 7) ?_ ?_
   ·exact ⟨l,i,SI_0 hso,by simp only [go_sem,h0]<;>rfl,by simp only [go_sem,h1]<;>rfl,by simp only [go_sem,h2]<;>rfl,by simp only [go_sem,h6]<;>rfl,by simp only [go_sem]<;>rfl,bT⟩
   ·clear h0 h1 h2 h6 bT hso eR hm
    rintro s ⟨l,j,xK,h0,h1,h2,h6,h7,bT⟩;have eR:=xK.1.length_eq;have rX:=xK.2.1;have hm:s.n 7=j:=jaG h7;rw [hm];cases j with
    |zero=>
     simp only [go_sem,h0,h1,h2,h6,h7,hw];refine ⟨⟨l,i+1,by omega,.inl (by omega),jBw xK (.inl rfl),rfl,?_⟩,?_⟩
     ·exact bT
     ·rw [jaG (k:=.i64) (n:=((i+1:Nat):Int)) (by simp only [go_sem])];omega
    |succ j=>
     have hj0:((j+1:Nat):Int)>0:=by omega
     have bX:IntKind.i64.wrap (((j+1:Nat):Int)-1)=(j:Int):=by rw [kU (by omega) (by omega)];omega
     have sA:l[j+1]?=some (l.getD (j+1) 0):=by rw [aQV,aOV (by omega)];rfl
     have nU:l[j]?=some (l.getD j 0):=by rw [aQV,aOV (by omega)];rfl
     have rY:j+1<l.length:=by omega
     have nS:j<l.length:=by omega
     simp only [go_sem,h0,h1,h7,bT,hj0,bX,jq sA,jq nU,jsm,rY,nS,jp rY,jp nS];refine jk (jEY (l.getD (j+1) 0) (l.getD j 0)) λη=>?_
     simp only [go_sem];by_cases hc:l.getD (j+1) 0<l.getD j 0
     ·have fM:j<(l.set (j+1) (l.getD j 0)).length:=by rw [aPF];exact nS
      have aJ:(l.set (j+1) (l.getD j 0)).set j (l.getD (j+1) 0)=swp l j:=rfl;simp only [go_sem,h0,h1,h2,h6,h7,bT,bX,hc,jq sA,jq nU,jsm,rY,nS,jp rY,jp nS,jci _ rY,jci _ fM,jp fM,fM,aJ];refine ⟨⟨swp l j,j,jGb xK (by omega) hc,?_⟩,?_⟩
      ·refine ⟨rfl,?_⟩
       simp only [jEN,jy3,bT,up1_2]
      ·rw [jaG (k:=.i64) (n:=((j:Nat):Int)) (by simp only [go_sem])];omega
     ·simp only [go_sem,h0,h1,h2,h6,hw,hc]
      refine ⟨⟨l,i+1,by omega,.inl (by omega),jBw xK (.inr ⟨j,rfl,by omega⟩),rfl,?_⟩,?_⟩
      ·exact bT
      ·rw [jaG (k:=.i64) (n:=((i+1:Nat):Int)) (by simp only [go_sem])];omega
  ·have aA:¬(i:Int)<A.length:=by omega
   simp only [go_sem,h2,h6,aA];exact ⟨l,i,bT,hso,by omega⟩
theorem jkh {P:Program} {f:FuncId} {args:List AV} {o:Nat->Ob} {R R':AV->(Nat->Ob)->Prop} (h:Inl P f args o R) (hR:∀av o',R av o'->R' av o'):Inl P f args o R':=
 ⟨h.1,λB w F xs h1 h2=>(h.2 B w F xs h1 h2).mono λe w' ⟨v,av,o',F',k1,k2,k3,k4⟩=>⟨v,av,o',F',k1,k2,k3,hR _ _ k4⟩⟩
theorem wp_cf {P:Program} {β:Nat} {s:St} {Q:Ex->St->Prop} {a b:C}:wpC P β (.cond (.c (.bool false)) a b) Q s=wpC P β b Q s:=by
 apply propext
 constructor
 ·rintro ⟨t,h1,h2,h3⟩
  have:t=false:=by cases t<;>first|rfl|cases h1
  exact h3 this
 ·exact λh=>⟨false,rfl,λh'=>(by cases h'),λ_=>h⟩
def lenB (n:Nat):Int:=[0,1,2,2,3,3,3,3,4,4,4,4,4].getD n 0
theorem jrv (n:Nat) (hn:n<=12):jZ Tryz.prog 215 [.c (.val (.int .u64 n))] (.c (.val (.int .i64 (lenB n)))):=by
 refine pf_ jeC ?_;have:n=0\/n=1\/n=2\/n=3\/n=4\/n=5\/n=6\/n=7\/n=8\/n=9\/n=10\/n=11\/n=12:=by omega
 unfold jb6;rcases this with rfl|rfl|rfl|rfl|rfl|rfl|rfl|rfl|rfl|rfl|rfl|rfl|rfl
 all_goals
  simp only [go_sem];exact ⟨_,rfl,rfl⟩
theorem jwK (n:Nat) (hn:n<=12):jZ Tryz.prog 203 [.c (.val (.int .u64 n))] (.c (.val (.int .i64 (lenB n)))):=by
 refine pf_ jg5 ?_;unfold jdP;simp only [go_sem,wp_cf];refine jk (jrv n hn) λη=>?_
 simp only [go_sem]
theorem jCZ (A:List Int) (hA:A.length<=12) (o:Nat->Ob) (g:Nat) (η:jg) (ho:o g=.loose (jc A) η) (v:Int):Inl Tryz.prog 202 [Hd g η,Ni 0,Ni A.length,Ni v] o (λav o'=>av=.tup []/\∃(l:List Int) (i:Nat),o'=up1 o g (.loose (jc l) η)/\SO A l i/\A.length<=i):=by
 refine qm (β:=0) Tryz.func202 zX (by simp) ?_
 unfold vr;have cC:(A.length:Int)<=12:=by omega
 have hw:IntKind.i64.wrap ((A.length:Int)-0)=(A.length:Int):=by rw [Int.sub_zero];exact kU (by omega) (by omega)
 simp only [go_sem];refine jah 0 ?_;simp only [go_sem,hw,cC];refine kW (jkh (juT A hA o g η ho) ?_);rintro av o' ⟨rfl,l,i,rfl,h1,h2⟩;exact ⟨l,i,rfl,h1,h2⟩
theorem jtb (A:List Int) (hA:A.length<=12) (o:Nat->Ob) (g:Nat) (η:jg) (ho:o g=.loose (jc A) η):Inl Tryz.prog 194 [Hd g η] o (λav o'=>av=.tup []/\∃(l:List Int) (i:Nat),o'=up1 o g (.loose (jc l) η)/\SO A l i/\A.length<=i):=by
 refine qm (β:=0) Tryz.func194 jbz (by simp) ?_
 unfold zJ;have hw:IntKind.u64.wrap (A.length:Int)=(A.length:Int):=by generalize A.length=n at hA;have:n=0\/n=1\/n=2\/n=3\/n=4\/n=5\/n=6\/n=7\/n=8\/n=9\/n=10\/n=11\/n=12:=(by omega);rcases this with rfl|rfl|rfl|rfl|rfl|rfl|rfl|rfl|rfl|rfl|rfl|rfl|rfl<;>rfl
 simp only [go_sem,ho,hw];refine jk (jwK A.length hA) λaS=>?_
 simp only [go_sem];refine kW (jkh (jCZ A hA _ g η (by simp only [go_sem,ho]) (lenB A.length)) ?_)
 rintro av o' ⟨rfl,l,i,rfl,h1,h2⟩;exact ⟨l,i,rfl,h1,h2⟩
def jhl:C:=iS [aO 2 false] (iS [aM 3 0,iA 4 (.call 68 [.t 3,oI 0,oI 1000000000]),aM 2 4] .ret)
theorem jjA:fnC Tryz.prog Tryz.f186=some (jhl,[.t 2],5):=by kernel_rfl
def jcG:C:=iS [iA 1 (.box 49 5 (.t 0)),aO 2 false] (iS [aF 3 0 1,aL 4 3,aQ 5 .eql 3 4 0,aM 6 5,iB 7 6 true (iF 1 1),iB 8 6 true (iL 7),iB 9 6 true (iQ .eql 3 8 0),iA 10 (iY 6 (.t 9) (oF)),aM 11 10,iB 12 11 true (iF 2 1),iB 13 11 true (iL 12),iB 14 11 true (iQ .eql 3 13 0),iA 15 (iY 11 (.t 14) (oF)),aM 16 15,iB 17 16 true (iF 3 1),iB 18 16 true (iL 17),iB 19 16 true (iQ .eql 3 18 0),iA 20 (iY 16 (.t 19) (oF)),aM 21 20,iB 22 21 true (iF 4 1),iB 23 21 true (iL 22),iB 24 21 true (iG 23),iB 25 21 true (iQ .eql 3 24 0),iA 26 (iY 21 (.t 25) (oF)),aM 2 26] .ret)
theorem jfN:fnC Tryz.prog Tryz.f188=some (jcG,[.t 2],27):=by kernel_rfl
def jeY:C:=iS [iA 1 (.box 49 5 (.t 0)),aO 2 false] (.seq (iS [aF 4 0 1,aL 5 4,iA 6 (iK 186 [5]),aU 7 6,aM 8 7,iB 9 8 false (iF 1 1),iB 10 8 false (iL 9),iB 11 8 false (iK 186 [10]),iB 12 8 false (iU 11),iA 13 (iY 8 (oT) (.t 12)),aM 14 13,iB 15 14 false (iF 2 1),iB 16 14 false (iL 15),iB 17 14 false (iK 186 [16]),iB 18 14 false (iU 17),iA 19 (iY 14 (oT) (.t 18)),aM 20 19,iB 21 20 false (iF 3 1),iB 22 20 false (iL 21),iB 23 20 false (iK 186 [22]),iB 24 20 false (iU 23),iA 25 (iY 20 (oT) (.t 24)),aM 26 25,iB 27 26 false (iF 4 1),iB 28 26 false (iL 27),iB 29 26 false (iG 28),iB 30 26 false (iQ .gtr 3 29 31),iA 31 (iY 26 (oT) (.t 30))] (iD 31 (iS [aO 2 false] .ret) .skip)) (.seq (iS [aN 3 0] (.blk 0 (.loop (.seq (iS [aM 32 3,aF 33 4 1,aL 34 33,aG 35 34,aP 36 .lss 3 32 35] (iD 36 .skip (.exit 0))) (.seq (.blk 1 (iS [aF 39 4 1,aL 40 39,aM 41 3,aI 42 2 40 41,aF 43 0 42,aL 44 43,iA 45 (iK 186 [44]),aU 46 45,aM 47 46,iB 48 47 false (iF 4 1),iB 49 47 false (iL 48),iB 50 47 false (iM 3),iB 51 47 false (iI 2 49 50),iB 52 47 false (iF 1 51),iB 53 47 false (iL 52),iB 54 47 false (iK 186 [53]),iB 55 47 false (iU 54),iA 56 (iY 47 (oT) (.t 55))] (iD 56 (iS [aO 2 false] .ret) .skip))) (.reg [aM 37 3,aQ 38 .add 3 37 1,aM 3 38])))))) (iS [aO 2 true] .ret)))
theorem jin:fnC Tryz.prog Tryz.f187=some (jeY,[.t 2],57):=by kernel_rfl
def jhw:C:=iS [iA 1 (.box 60 11 (.t 0)),aO 2 false] (.seq (iS [aF 6 0 1,aL 7 6,iA 8 (.call 68 [.t 7,oI 1,oI 8]),aU 9 8] (iD 9 (iS [aO 2 false] .ret) .skip)) (iS [aF 10 0 1,aL 11 10,aQ 12 .eql 3 11 2,aM 3 12] (iS [aF 13 0 1,aL 14 13,aQ 15 .eql 3 14 3,aM 16 15,iB 17 16 false (iF 0 1),iB 18 16 false (iL 17),iB 19 16 false (iQ .eql 3 18 4),iA 20 (iY 16 (oT) (.t 19)),aM 4 20] (iS [aM 21 3,aU 22 21,aM 23 22,iB 24 23 true (iF 0 1),iB 25 23 true (iL 24),iB 26 23 true (iQ .neq 3 25 5),iA 27 (iY 23 (.t 26) (oF)),aM 28 27,iB 29 28 true (iF 0 1),iB 30 28 true (iL 29),iB 31 28 true (iQ .neq 3 30 8),iA 32 (iY 28 (.t 31) (oF)),aM 5 32] (.seq (iS [aM 33 5,aM 34 33,iB 35 34 true (iF 1 1),iB 36 34 true (iL 35),iB 37 34 true (iK 186 [36]),iB 38 34 true (iU 37),iA 39 (iY 34 (.t 38) (oF)),aM 40 39,iB 41 40 false (iM 5),iB 42 40 false (iU 41),iB 43 40 false (iM 42),iB 44 43 true (iF 1 1),iB 45 43 true (iL 44),iB 46 43 true (iQ .neq 3 45 0),iB 47 40 false (iY 43 (.t 46) (oF)),iA 48 (iY 40 (oT) (.t 47)),aM 49 48,iB 50 49 false (iM 4),iB 51 49 false (iM 50),iB 52 51 true (iF 7 1),iB 53 51 true (iL 52),iB 54 51 true (iK 186 [53]),iB 55 51 true (iU 54),iB 56 51 true (iM 55),iB 57 56 false (iF 8 1),iB 58 56 false (iL 57),iB 59 56 false (iK 186 [58]),iB 60 56 false (iU 59),iB 61 51 true (iY 56 (oT) (.t 60)),iB 62 49 false (iY 51 (.t 61) (oF)),iA 63 (iY 49 (oT) (.t 62)),aM 64 63,iB 65 64 false (iM 4),iB 66 64 false (iU 65),iB 67 64 false (iM 66),iB 68 67 true (iF 7 1),iB 69 67 true (iL 68),iB 70 67 true (iQ .neq 3 69 0),iB 71 67 true (iM 70),iB 72 71 false (iF 8 1),iB 73 71 false (iL 72),iB 74 71 false (iQ .neq 3 73 0),iB 75 67 true (iY 71 (oT) (.t 74)),iB 76 64 false (iY 67 (.t 75) (oF)),iA 77 (iY 64 (oT) (.t 76)),aM 78 77,iB 79 78 false (iM 3),iB 80 78 false (iM 79),iB 81 80 true (iF 9 1),iB 82 80 true (iL 81),iB 83 80 true (iK 186 [82]),iB 84 80 true (iU 83),iB 85 80 true (iM 84),iB 86 85 false (iF 10 1),iB 87 85 false (iL 86),iB 88 85 false (iK 186 [87]),iB 89 85 false (iU 88),iB 90 80 true (iY 85 (oT) (.t 89)),iB 91 78 false (iY 80 (.t 90) (oF)),iA 92 (iY 78 (oT) (.t 91)),aM 93 92,iB 94 93 false (iM 3),iB 95 93 false (iU 94),iB 96 93 false (iM 95),iB 97 96 true (iF 9 1),iB 98 96 true (iL 97),iB 99 96 true (iQ .neq 3 98 0),iB 100 96 true (iM 99),iB 101 100 false (iF 10 1),iB 102 100 false (iL 101),iB 103 100 false (iQ .neq 3 102 0),iB 104 96 true (iY 100 (oT) (.t 103)),iB 105 93 false (iY 96 (.t 104) (oF)),iA 106 (iY 93 (oT) (.t 105))] (iD 106 (iS [aO 2 false] .ret) .skip)) (.seq (iS [aF 107 0 1,aL 108 107,aQ 109 .eql 3 108 1] (iD 109 (iS [aF 110 2 1,aT 111 5 110,iA 112 (iK 187 [111]),aM 2 112] .ret) .skip)) (iS [aF 113 2 1,aT 114 5 113,iA 115 (iK 188 [114]),aM 2 115] .ret)))))))
theorem jjL:fnC Tryz.prog Tryz.f147=some (jhw,[.t 2],116):=by kernel_rfl
def qd:C:=iS [iA 1 (.box 60 11 (.t 0)),iA 2 wAS] (iS [aF 4 0 1,aL 5 4,iA 6 (wAV [(0,1,.t 5)]),iA 3 wAS,wAG 3 6] (.seq (iS [aF 7 0 1,aL 8 7] (.blk 0 (iS [aQ 10 .eql 3 8 1,aM 9 10] (iD 9 (.dreg (tA 0 11 (iF 1 1) (tA 1 12 (iL 11) (tA 2 13 (iF 2 1) (tA 3 14 (iT 5 13) (tA 4 15 (iF 1 3) (.alt (wAD 15 12) [3,2] (tA 6 16 (iF 2 3) (.alt (wAF 16 14) [] .done .stop)) .stop))))))) (iS [aQ 18 .eql 3 8 2,aM 17 18] (iD 17 (.dreg (tA 0 19 (iF 9 1) (tA 1 20 (iL 19) (tA 2 21 (iF 10 1) (tA 3 22 (iL 21) (tA 4 23 (iF 9 3) (.alt (wAD 23 20) [3,2] (tA 6 24 (iF 10 3) (.alt (wAD 24 22) [] .done .stop)) .stop))))))) (.seq (iS [aQ 26 .eql 3 8 3,aM 25 26] (iD 25 .skip (.reg [aQ 27 .eql 3 8 4,aM 25 27]))) (iD 25 (.dreg (tA 0 28 (iF 1 1) (tA 1 29 (iL 28) (tA 2 30 (iF 7 1) (tA 3 31 (iL 30) (tA 4 32 (iF 8 1) (tA 5 33 (iL 32) (tA 6 34 (iF 1 3) (.alt (wAD 34 29) [5,4,3,2] (tA 8 35 (iF 7 3) (.alt (wAD 35 31) [5,4] (tA 10 36 (iF 8 3) (.alt (wAD 36 33) [] .done .stop)) .stop)) .stop))))))))) (.seq (iS [aQ 38 .eql 3 8 6,aM 37 38] (iD 37 .skip (.reg [aQ 39 .eql 3 8 7,aM 37 39]))) (iD 37 (.reg [aF 40 1 1,aL 41 40,aF 42 1 3,wAD 42 41]) .skip)))))))))) (iS [aT 43 11 3,wAG 2 43] .ret)))
theorem kF:fnC Tryz.prog Tryz.f93=some (qd,[.cell 2 true 11],44):=by kernel_rfl
def jbq:C:=iS [iA 1 (.box 60 11 (.t 0)),iA 2 (.mov (.c (.slice none 0 0)))] (.seq (iS [aF 6 0 1,aL 7 6] (.blk 0 (iS [aQ 9 .eql 3 7 1,aM 8 9] (iD 8 (iS [aF 10 1 1,aL 11 10,aF 12 2 1,aF 13 0 12,aL 14 13,aF 15 2 1,aF 16 1 15,aL 17 16,aF 18 2 1,aF 19 2 18,aL 20 19,aF 21 2 1,aF 22 3 21,aL 23 22,aF 24 2 1,aF 25 4 24,aL 26 25,aG 27 26,iA 28 (.bsl 3 1 6 [none,none,none,none,none,none] [(0,1,.t 11),(1,1,.t 14),(2,1,.t 17),(3,1,.t 20),(4,1,.t 23),(5,1,.t 27)]),aM 3 28] (.seq (iS [aF 29 2 1,aF 30 4 29,aL 31 30,aG 32 31,aN 33 0] (.blk 1 (.loop (iS [aP 34 .lss 3 33 32] (.seq (iD 34 .skip (.exit 1)) (.seq (.blk 2 (iS [aI 35 2 31 33,aT 36 2 35,iA 5 wAQ,wAH 5 36] (.reg [aM 37 3,aF 38 0 5,aL 39 38,aF 40 1 5,aL 41 40,iA 42 (wA2 [(0,1,.t 39),(1,1,.t 41)]),iA 43 (wA7 37 42),aM 3 43]))) (.reg [aQ 44 .add 3 33 1,aM 33 44]))))))) (iS [aM 45 3,aM 2 45] .ret))) (iS [aQ 47 .eql 3 7 2,aM 46 47] (iD 46 (iS [aF 48 9 1,aL 49 48,aF 50 10 1,aL 51 50,iA 52 (wA2 [(0,1,.t 49),(1,1,.t 51)]),aM 2 52] .ret) (.seq (iS [aQ 54 .eql 3 7 3,aM 53 54] (iD 53 .skip (.reg [aQ 55 .eql 3 7 4,aM 53 55]))) (iD 53 (iS [aF 56 1 1,aL 57 56,aF 58 7 1,aL 59 58,aF 60 8 1,aL 61 60,iA 62 (wA5 [(0,1,.t 57),(1,1,.t 59),(2,1,.t 61)]),aM 2 62] .ret) (.seq (iS [aQ 64 .eql 3 7 6,aM 63 64] (iD 63 .skip (.reg [aQ 65 .eql 3 7 7,aM 63 65]))) (iD 63 (iS [aF 66 1 1,aL 67 66,iA 68 (wAY [(0,1,.t 67)]),aM 2 68] .ret) .skip)))))))))) (iS [iA 2 (.mov (.c (.slice none 0 0)))] .ret))
theorem jdD:fnC Tryz.prog Tryz.f94=some (jbq,[.t 2],69):=by kernel_rfl
def vg:C:=iS [iA 1 (.box 60 11 (.t 0)),aO 2 false] (.seq (.seq (.dreg (tA 0 5 (iF 0 1) (tA 1 6 (iL 5) (tC 7 (.call 62 [.t 6,oI 1,oI 8]) [] (tA 3 8 (iU 7) (tA 4 9 (iM 8) (tB 5 10 9 false (iF 2 1) (tB 6 11 9 false (iF 4 10) (tB 7 12 9 false (iL 11) (tB 8 13 9 false (iG 12) (tB 9 14 9 false (iQ .gtr 3 13 31) (tA 10 15 (iY 9 (oT) (.t 14)) (tA 11 16 (iM 15) (tB 12 17 16 false (iT 11 1) (tB 13 18 16 false (iT 11 1) (.alt (iB 19 16 false (iK 93 [18])) [12] (.alt (iB 20 16 false (iK 92 [17,19])) [] (tB 16 21 16 false (iU 20) (tA 17 22 (iY 16 (oT) (.t 21)) .done)) .stop) .stop)))))))))))) .stop)))) (iD 22 (iS [aO 2 false] .ret) .skip)) (.seq (iS [aT 23 11 1,iA 24 (iK 94 [23]),aG 25 24,aN 26 0] (.blk 0 (.loop (iS [aP 27 .lss 3 26 25] (.seq (iD 27 .skip (.exit 0)) (.seq (.blk 1 (iS [aI 28 1 24 26,aL 29 28,aM 4 29] (iS [aM 30 4,iA 31 (.call 62 [.t 30,oI 0,oI 1000000000]),aU 32 31] (iD 32 (iS [aO 2 false] .ret) .skip)))) (.reg [aQ 33 .add 3 26 1,aM 26 33]))))))) (iS [aO 2 true] .ret)))
theorem jj2:fnC Tryz.prog Tryz.f30=some (vg,[.t 2],34):=by kernel_rfl
def zT (n:Int):Bool:=decide (0<=n/\n<=1000000000)
theorem qy (n:Int):jZ Tryz.prog 186 [.c (.val (.int .i64 n))] (.c (.val (.bool (zT n)))):=by
 refine pf_ jjA ?_;unfold jhl;simp only [go_sem];refine jk (jK n 0 1000000000) λη=>?_
 simp only [go_sem];rfl
def jck (p:Pl):Bool:=p.aOL==0&&p.aOQ==0&&p.aOP==0&&p.aOD==0&&((p.aOI.length:Int)==0)
theorem vX (p:Pl):jZ Tryz.prog 188 [.agg (je p)] (.c (.val (.bool (jck p)))):=by
 refine pf_ jfN ?_;unfold jcG;cases h1:p.aOL==0<;>cases h2:p.aOQ==0<;>cases h3:p.aOP==0<;>cases h4:p.aOD==0
 all_goals
  simp only [go_sem,je,h1,h2,h3,h4];intros;simp [jck,h1,h2,h3,h4]
def edB (e:Ed):Bool:=zT e.src&&zT e.dst
def jh9 (p:Pl):Bool:=zT p.aOL&&zT p.aOQ&&zT p.aOP&&zT p.aOD&&decide (p.aOI.length<=31)&&p.aOI.all edB
theorem jtP {α:Type} {f:α->Bool} {l:List α} {k:Nat} {x:α} (h:l[k]?=some x) (ht:(l.take k).all f=true) (hx:f x=true):(l.take (k+1)).all f=true:=by
 rw [aPE,h];simp only [List.all_append,ht,Option.toList_some,List.all_cons,hx,List.all_nil,Bool.and_self]
theorem jyn {α:Type} {f:α->Bool} {l:List α} {k:Nat} {x:α} (h:l[k]?=some x) (hx:f x=false):l.all f=false:=by
 rw [List.all_eq_false];exact ⟨x,aOT h,by simp [hx]⟩
theorem jwJ (p:Pl) (hb:p.aOI.length<=4000000):jZ Tryz.prog 187 [.agg (je p)] (.c (.val (.bool (jh9 p)))):=by
 refine pf_ jin ?_;unfold jeY;simp only [go_sem,je];intros;refine jk (qy p.aOL) λη=>?_
 cases h1:zT p.aOL
 ·simp only [go_sem]
  simp [jh9,h1]
 simp only [go_sem];refine jk (qy p.aOQ) λη=>?_
 cases h2:zT p.aOQ
 ·simp only [go_sem]
  simp [jh9,h1,h2]
 simp only [go_sem];refine jk (qy p.aOP) λη=>?_
 cases h3:zT p.aOP
 ·simp only [go_sem]
  simp [jh9,h1,h2,h3]
 simp only [go_sem];refine jk (qy p.aOD) λη=>?_
 cases h4:zT p.aOD
 ·simp only [go_sem]
  simp [jh9,h1,h2,h3,h4]
 by_cases h5:p.aOI.length<=31
 ·have mV:¬(31:Int)<p.aOI.length:=by omega
  simp only [go_sem,mV];refine qI (λs=>∃(k b:Nat) (ty:Nat),k<=p.aOI.length/\(p.aOI.take k).all edB=true/\s.t 3=.c (.v (.int .i64 k))/\s.t 1=.c (.bp 100 0 b)/\s.o 100=.box b ty [.a (.v (.int .i64 p.aOL)),.a (.v (.int .i64 p.aOQ)),.a (.v (.int .i64 p.aOP)),.a (.v (.int .i64 p.aOD)),.a (.ro (jn p.aOI))]) (λs=>p.aOI.length-s.n 3) ?_ ?_
  ·exact ⟨0,_,_,aPP _,rfl,by simp only [go_sem]<;>rfl,by simp only [go_sem]<;>rfl,by simp only [go_sem]<;>rfl⟩
  ·rintro s ⟨k,b,ty,hk,ha,oR,ht1,bT⟩
   by_cases aB:k<p.aOI.length
   ·have aA:(k:Int)<p.aOI.length:=by omega
    obtain ⟨x,hx⟩:=ja aB;have hw:=kw k;simp only [go_sem,oR,ht1,bT,aB,aA,jE hx,kb];refine jk (qy x.src) λη=>?_
    cases h6:zT x.src
    ·simp only [go_sem]
     have:=jyn (f:=edB) hx (by simp [edB,h6])
     simp [jh9,this]
    simp only [go_sem,oR,ht1,bT,aB,jE hx,kb];refine jk (qy x.dst) λη=>?_
    cases h7:zT x.dst
    ·simp only [go_sem]
     have:=jyn (f:=edB) hx (by simp [edB,h6,h7])
     simp [jh9,this]
    simp only [go_sem,oR,ht1,bT,hw];refine ⟨⟨k+1,b,ty,?_⟩,?_⟩
    ·and_intros<;>first|rfl|omega|exact jtP hx ha (by simp [edB,h6,h7])
    ·rw [jaG (k:=.i64) (n:=((k+1:Nat):Int)) (by simp only [go_sem]),jaG oR];omega
   ·have aA:¬(k:Int)<p.aOI.length:=by omega
    rw [aOW (by omega)] at ha
    simp only [go_sem,oR,ht1,bT,aA];simp [jh9,h1,h2,h3,h4,h5,ha]
 ·have mV:(31:Int)<p.aOI.length:=by omega
  simp only [go_sem,mV];simp [jh9,h5]
def kg (d:Dd):Bool:=
 if d.aON=1 then zT d.run&&d.aOK==0&&d.tri==0&&d.aOJ==0&&d.aOM==0&&jh9 d.aOF
 else if d.aON=2 then d.run==0&&d.aOK==0&&d.tri==0&&zT d.aOJ&&zT d.aOM&&jck d.aOF
 else if d.aON=3\/d.aON=4 then zT d.run&&zT d.aOK&&zT d.tri&&d.aOJ==0&&d.aOM==0&&jck d.aOF
 else if d.aON=5\/d.aON=8 then d.run==0&&d.aOK==0&&d.tri==0&&d.aOJ==0&&d.aOM==0&&jck d.aOF
 else if d.aON=6\/d.aON=7 then zT d.run&&d.aOK==0&&d.tri==0&&d.aOJ==0&&d.aOM==0&&jck d.aOF
 else false
theorem jn4 (d:Dd) (hb:jjr d<=2000000):jZ Tryz.prog 147 [.agg (kN d)] (.c (.val (.bool (kg d)))):=by
 refine pf_ jjL ?_;unfold jhw;obtain ⟨aON,run,aOF,aOK,tri,aOJ,aOM⟩:=d;have hp:aOF.aOI.length<=4000000:=by simp only [jjr,jf9] at hb;omega
 by_cases hk:1<=aON/\aON<=8
 ·have:aON=1\/aON=2\/aON=3\/aON=4\/aON=5\/aON=6\/aON=7\/aON=8:=by omega
  simp only [go_sem,kN,je];intros;refine jk (jK aON 1 8) λη=>?_
  rcases this with rfl|rfl|rfl|rfl|rfl|rfl|rfl|rfl
  ·simp only [go_sem]
   refine jk (qy run) λη=>?_
   cases g0:zT run
   ·simp only [go_sem]
    simp [kg,g0]
   simp only [go_sem];by_cases e1:aOK=0;rotate_left
   ·have g1:(aOK !=0)=true:=by simpa using e1
    simp only [go_sem,g1];simp [kg,e1,g0]
   subst e1;simp only [go_sem];by_cases e2:tri=0;rotate_left
   ·have g2:(tri !=0)=true:=by simpa using e2
    simp only [go_sem,g2];simp [kg,e2,g0]
   subst e2;simp only [go_sem];by_cases e3:aOJ=0;rotate_left
   ·have g3:(aOJ !=0)=true:=by simpa using e3
    simp only [go_sem,g3];simp [kg,e3,g0]
   subst e3;simp only [go_sem];by_cases e4:aOM=0;rotate_left
   ·have g4:(aOM !=0)=true:=by simpa using e4
    simp only [go_sem,g4];simp [kg,e4,g0]
   subst e4;simp only [go_sem];refine jk (jwJ aOF hp) λη=>?_
   simp only [go_sem];simp [kg,g0]
  ·simp only [go_sem]
   by_cases e0:run=0;rotate_left
   ·have g0:(run !=0)=true:=by simpa using e0
    simp only [go_sem,g0];simp [kg,e0]
   subst e0;simp only [go_sem];by_cases e1:aOK=0;rotate_left
   ·have g1:(aOK !=0)=true:=by simpa using e1
    simp only [go_sem,g1];simp [kg,e1]
   subst e1;simp only [go_sem];by_cases e2:tri=0;rotate_left
   ·have g2:(tri !=0)=true:=by simpa using e2
    simp only [go_sem,g2];simp [kg,e2]
   subst e2;simp only [go_sem];refine jk (qy aOJ) λη=>?_
   cases g3:zT aOJ
   ·simp only [go_sem]
    simp [kg,g3]
   simp only [go_sem];refine jk (qy aOM) λη=>?_
   cases g4:zT aOM
   ·simp only [go_sem]
    simp [kg,g3,g4]
   simp only [go_sem];refine jk (vX aOF) λη=>?_
   simp only [go_sem];simp [kg,g3,g4]
  ·simp only [go_sem]
   refine jk (qy run) λη=>?_
   cases g0:zT run
   ·simp only [go_sem]
    simp [kg,g0]
   simp only [go_sem];refine jk (qy aOK) λη=>?_
   cases g1:zT aOK
   ·simp only [go_sem]
    simp [kg,g0,g1]
   simp only [go_sem];refine jk (qy tri) λη=>?_
   cases g2:zT tri
   ·simp only [go_sem]
    simp [kg,g0,g1,g2]
   simp only [go_sem];by_cases e3:aOJ=0;rotate_left
   ·have g3:(aOJ !=0)=true:=by simpa using e3
    simp only [go_sem,g3];simp [kg,e3,g0,g1,g2]
   subst e3;simp only [go_sem];by_cases e4:aOM=0;rotate_left
   ·have g4:(aOM !=0)=true:=by simpa using e4
    simp only [go_sem,g4];simp [kg,e4,g0,g1,g2]
   subst e4;simp only [go_sem];refine jk (vX aOF) λη=>?_
   simp only [go_sem];simp [kg,g0,g1,g2]
  ·simp only [go_sem]
   refine jk (qy run) λη=>?_
   cases g0:zT run
   ·simp only [go_sem]
    simp [kg,g0]
   simp only [go_sem];refine jk (qy aOK) λη=>?_
   cases g1:zT aOK
   ·simp only [go_sem]
    simp [kg,g0,g1]
   simp only [go_sem];refine jk (qy tri) λη=>?_
   cases g2:zT tri
   ·simp only [go_sem]
    simp [kg,g0,g1,g2]
   simp only [go_sem];by_cases e3:aOJ=0;rotate_left
   ·have g3:(aOJ !=0)=true:=by simpa using e3
    simp only [go_sem,g3];simp [kg,e3,g0,g1,g2]
   subst e3;simp only [go_sem];by_cases e4:aOM=0;rotate_left
   ·have g4:(aOM !=0)=true:=by simpa using e4
    simp only [go_sem,g4];simp [kg,e4,g0,g1,g2]
   subst e4;simp only [go_sem];refine jk (vX aOF) λη=>?_
   simp only [go_sem];simp [kg,g0,g1,g2]
  ·simp only [go_sem]
   by_cases e0:run=0;rotate_left
   ·have g0:(run !=0)=true:=by simpa using e0
    simp only [go_sem,g0];simp [kg,e0]
   subst e0;simp only [go_sem];by_cases e1:aOK=0;rotate_left
   ·have g1:(aOK !=0)=true:=by simpa using e1
    simp only [go_sem,g1];simp [kg,e1]
   subst e1;simp only [go_sem];by_cases e2:tri=0;rotate_left
   ·have g2:(tri !=0)=true:=by simpa using e2
    simp only [go_sem,g2];simp [kg,e2]
   subst e2;simp only [go_sem];by_cases e3:aOJ=0;rotate_left
   ·have g3:(aOJ !=0)=true:=by simpa using e3
    simp only [go_sem,g3];simp [kg,e3]
   subst e3;simp only [go_sem];by_cases e4:aOM=0;rotate_left
   ·have g4:(aOM !=0)=true:=by simpa using e4
    simp only [go_sem,g4];simp [kg,e4]
   subst e4;simp only [go_sem];refine jk (vX aOF) λη=>?_
   simp only [go_sem];simp [kg]
  ·simp only [go_sem]
   refine jk (qy run) λη=>?_
   cases g0:zT run
   ·simp only [go_sem]
    simp [kg,g0]
   simp only [go_sem];by_cases e1:aOK=0;rotate_left
   ·have g1:(aOK !=0)=true:=by simpa using e1
    simp only [go_sem,g1];simp [kg,e1,g0]
   subst e1;simp only [go_sem];by_cases e2:tri=0;rotate_left
   ·have g2:(tri !=0)=true:=by simpa using e2
    simp only [go_sem,g2];simp [kg,e2,g0]
   subst e2;simp only [go_sem];by_cases e3:aOJ=0;rotate_left
   ·have g3:(aOJ !=0)=true:=by simpa using e3
    simp only [go_sem,g3];simp [kg,e3,g0]
   subst e3;simp only [go_sem];by_cases e4:aOM=0;rotate_left
   ·have g4:(aOM !=0)=true:=by simpa using e4
    simp only [go_sem,g4];simp [kg,e4,g0]
   subst e4;simp only [go_sem];refine jk (vX aOF) λη=>?_
   simp only [go_sem];simp [kg,g0]
  ·simp only [go_sem]
   refine jk (qy run) λη=>?_
   cases g0:zT run
   ·simp only [go_sem]
    simp [kg,g0]
   simp only [go_sem];by_cases e1:aOK=0;rotate_left
   ·have g1:(aOK !=0)=true:=by simpa using e1
    simp only [go_sem,g1];simp [kg,e1,g0]
   subst e1;simp only [go_sem];by_cases e2:tri=0;rotate_left
   ·have g2:(tri !=0)=true:=by simpa using e2
    simp only [go_sem,g2];simp [kg,e2,g0]
   subst e2;simp only [go_sem];by_cases e3:aOJ=0;rotate_left
   ·have g3:(aOJ !=0)=true:=by simpa using e3
    simp only [go_sem,g3];simp [kg,e3,g0]
   subst e3;simp only [go_sem];by_cases e4:aOM=0;rotate_left
   ·have g4:(aOM !=0)=true:=by simpa using e4
    simp only [go_sem,g4];simp [kg,e4,g0]
   subst e4;simp only [go_sem];refine jk (vX aOF) λη=>?_
   simp only [go_sem];simp [kg,g0]
  ·simp only [go_sem]
   by_cases e0:run=0;rotate_left
   ·have g0:(run !=0)=true:=by simpa using e0
    simp only [go_sem,g0];simp [kg,e0]
   subst e0;simp only [go_sem];by_cases e1:aOK=0;rotate_left
   ·have g1:(aOK !=0)=true:=by simpa using e1
    simp only [go_sem,g1];simp [kg,e1]
   subst e1;simp only [go_sem];by_cases e2:tri=0;rotate_left
   ·have g2:(tri !=0)=true:=by simpa using e2
    simp only [go_sem,g2];simp [kg,e2]
   subst e2;simp only [go_sem];by_cases e3:aOJ=0;rotate_left
   ·have g3:(aOJ !=0)=true:=by simpa using e3
    simp only [go_sem,g3];simp [kg,e3]
   subst e3;simp only [go_sem];by_cases e4:aOM=0;rotate_left
   ·have g4:(aOM !=0)=true:=by simpa using e4
    simp only [go_sem,g4];simp [kg,e4]
   subst e4;simp only [go_sem];refine jk (vX aOF) λη=>?_
   simp only [go_sem];simp [kg]
 ·simp only [go_sem,kN,je]
  intros;refine jk (jK aON 1 8) λη=>?_
  simp only [go_sem,hk];have h1:aON≠1:=by omega
  have h2:aON≠2:=by omega
  have h3:aON≠3:=by omega
  have h4:aON≠4:=by omega
  have h5:aON≠5:=by omega
  have h6:aON≠6:=by omega
  have h7:aON≠7:=by omega
  have h8:aON≠8:=by omega
  simp [kg,h1,h2,h3,h4,h5,h6,h7,h8]
theorem ze (x y:Dd):jZ Tryz.prog 92 [.agg (kN x),.agg (kN y)] (.c (.val (.bool (decide (x=y))))):=jpB ⟨_,Tryz.func92,by kernel_rfl,by kernel_rfl⟩ λw a b ⟨S,ha⟩ ⟨S2,hb⟩=>jrS x y a b S S2 w false false ha hb
def jbd (d:Dd):List Int:=
 if d.aON=1 then [d.run,d.aOF.aOL,d.aOF.aOQ,d.aOF.aOP,d.aOF.aOD,d.aOF.aOI.length]++d.aOF.aOI.flatMap λe=>[e.src,e.dst]
 else if d.aON=2 then [d.aOJ,d.aOM]
 else if d.aON=3\/d.aON=4 then [d.run,d.aOK,d.tri]
 else if d.aON=6\/d.aON=7 then [d.run]
 else []
theorem jBe (l:List Ed):(l.flatMap λe=>[e.src,e.dst]).length=2*l.length:=by
 induction l with
 |nil=>rfl
 |cons x l ih=>simp only [aPQ,aOU,ih,aPI,aPU];omega
theorem jog (d:Dd) (hb:jjr d<=2000000):jZ Tryz.prog 94 [.agg (kN d)] (.c (jc (jbd d))):=by
 refine pf_ jdD ?_;unfold jbq;obtain ⟨aON,run,aOF,aOK,tri,aOJ,aOM⟩:=d;have hp:aOF.aOI.length<=4000000:=by simp only [jjr,jf9] at hb;omega
 by_cases k1:aON=1
 ·subst k1
  simp only [go_sem,kN,je];intro b0 eP
  refine qI (λs=>∃(k g:Nat) (η:jg),k<=aOF.aOI.length/\(g=2800\/g=4300)/\s.t 31=.c (.ro (jn aOF.aOI))/\s.t 32=.c (.v (.int .i64 aOF.aOI.length))/\s.t 33=.c (.v (.int .i64 k))/\s.t 3=.c (.h g 0 [] (η []))/\
   s.o g=.loose (jc ([run,aOF.aOL,aOF.aOQ,aOF.aOP,aOF.aOD,(aOF.aOI.length:Int)]++(aOF.aOI.take k).flatMap λe=>[e.src,e.dst])) η) (λs=>aOF.aOI.length-s.n 33) ?_ ?_
  ·exact ⟨0,2800,eP,aPP _,.inl rfl,by simp only [go_sem]<;>rfl,by simp only [go_sem]<;>rfl,by simp only [go_sem]<;>rfl,by simp only [go_sem]<;>rfl,by simp only [go_sem]<;>rfl⟩
  ·rintro s ⟨k,g,η,hk,hg,h31,h32,h33,h3,bT⟩
   by_cases aB:k<aOF.aOI.length
   ·have aA:(k:Int)<aOF.aOI.length:=by omega
    obtain ⟨x,hx⟩:=ja aB;have hw:=kw k;generalize hl:[run,aOF.aOL,aOF.aOQ,aOF.aOP,aOF.aOD,(aOF.aOI.length:Int)]++(aOF.aOI.take k).flatMap (λe=>[e.src,e.dst])=l at bT
    have eR:l.length=6+2*k:=by rw [<-hl,aOU,jBe,aOZ,aQL hk];rfl
    have dG:l.length+2<=maxLen:=vT;have bP:(l.length+2)*8<=140737488355328:=by omega
    have fE:l++[x.src,x.dst]=[run,aOF.aOL,aOF.aOQ,aOF.aOP,aOF.aOD,(aOF.aOI.length:Int)]++(aOF.aOI.take (k+1)).flatMap (λe=>[e.src,e.dst]):=by
     rw [<-hl,aPE,hx];simp
    rcases hg with rfl|rfl
    all_goals
     simp only [go_sem,h31,h32,h33,h3,bT,aB,aA,jE hx,kb,dG,bP,hw,jih];intro b1 dF aS;refine ⟨⟨k+1,4300,aS,?_⟩,?_⟩
     ·and_intros<;>first|rfl|omega|exact .inr rfl|(rw [fE];rfl)
     ·rw [jaG (k:=.i64) (n:=((k+1:Nat):Int)) (by simp only [go_sem]),jaG h33];omega
   ·have aA:¬(k:Int)<aOF.aOI.length:=by omega
    rw [aOW (by omega)] at bT
    rcases hg with rfl|rfl
    ·simp only [go_sem,h32,h33,h3,bT,aA]
     rfl
    ·simp only [go_sem,h32,h33,h3,bT,aA]
     rfl
 ·have g1:(aON==1)=false:=by simpa using k1
  by_cases k2:aON=2
  ·subst k2
   simp only [go_sem,kN,je];intros;rfl
  ·have g2:(aON==2)=false:=by simpa using k2
   by_cases k3:aON=3
   ·subst k3
    simp only [go_sem,kN,je];intros;rfl
   ·have g3:(aON==3)=false:=by simpa using k3
    by_cases k4:aON=4
    ·subst k4
     simp only [go_sem,kN,je];intros;rfl
    ·have g4:(aON==4)=false:=by simpa using k4
     by_cases k6:aON=6
     ·subst k6
      simp only [go_sem,kN,je];intros;rfl
     ·have g6:(aON==6)=false:=by simpa using k6
      by_cases k7:aON=7
      ·subst k7
       simp only [go_sem,kN,je];intros;rfl
      ·have g7:(aON==7)=false:=by simpa using k7
       have e:jbd ⟨aON,run,aOF,aOK,tri,aOJ,aOM⟩=[]:=by simp [jbd,k1,k2,k3,k4,k6,k7]
       simp only [go_sem,kN,je,g1,g2,g3,g4,g6,g7,e]
def zeroPl:Pl:=⟨0,0,0,0,[]⟩
def zj (d:Dd):Dd:=
 if d.aON=1 then ⟨1,d.run,d.aOF,0,0,0,0⟩
 else if d.aON=2 then ⟨2,0,zeroPl,0,0,d.aOJ,d.aOM⟩
 else if d.aON=3\/d.aON=4 then ⟨d.aON,d.run,zeroPl,d.aOK,d.tri,0,0⟩
 else if d.aON=6\/d.aON=7 then ⟨d.aON,d.run,zeroPl,0,0,0,0⟩
 else ⟨d.aON,0,zeroPl,0,0,0,0⟩
def okI (d:Dd):Bool:=decide (1<=d.aON/\d.aON<=8)&&decide (d.aOF.aOI.length<=31)&&decide (d=zj d)&&(jbd d).all zT
def jx2:C:=match vg with
 |.seq _ (.seq _ c)=>c
 |c=>c
theorem jo0 (d:Dd) (hb:jjr d<=2000000) {s:St} {b ty:Nat} (h1:s.t 1=.c (.bp 100 0 b)) (ho:s.o 100=.box b ty ((kN d).map λx=>.a x.toRo)):wpC Tryz.prog 0 jx2 (jzf [.t 2] (.c (.val (.bool ((jbd d).all zT))))) s:=by
 unfold jx2 vg
 have hn:(jbd d).length<=20000000:=by
  have hp:d.aOF.aOI.length<=2000000:=hb;unfold jbd;split
  ·rw [aOU,jBe];simp;omega
  ·split
   ·simp
   ·split
    ·simp
    ·split<;>simp
 simp only [go_sem,h1,ho,kN,je];refine jk (jog d hb) λη=>?_
 generalize jbd d=l at*;simp only [go_sem];refine qI (λs=>∃(k:Nat) (η:jg),k<=l.length/\(l.take k).all zT=true/\s.t 24=.c (.h 2400 0 [] (η []))/\s.t 25=.c (.v (.int .i64 l.length))/\s.t 26=.c (.v (.int .i64 k))/\s.o 2400=.loose (jc l) η) (λs=>l.length-s.n 26) ?_ ?_
 ·exact ⟨0,η 0,aPP _,rfl,by simp only [go_sem]<;>rfl,by simp only [go_sem]<;>rfl,by simp only [go_sem]<;>rfl,by simp only [go_sem]<;>rfl⟩
 ·rintro s ⟨k,wH,hk,ha,h24,h25,h26,bT⟩
  by_cases aB:k<l.length
  ·have aA:(k:Int)<l.length:=by omega
   obtain ⟨x,hx⟩:=ja aB;have hw:=kw k;simp only [go_sem,h24,h25,h26,bT,aB,aA,jq hx,jp aB];refine jk (jx x 0 1000000000) λη=>?_
   have hd:decide (0<=x/\x<=1000000000)=zT x:=rfl;cases h6:zT x
   ·simp only [go_sem,hd,h6]
    simp [jyn (f:=zT) hx h6]
   simp only [go_sem,h24,h25,h26,bT,hd,h6,hw];refine ⟨⟨k+1,wH,?_⟩,?_⟩
   ·and_intros<;>first|rfl|omega|exact jtP hx ha h6
   ·rw [jaG (k:=.i64) (n:=((k+1:Nat):Int)) (by simp only [go_sem]),jaG h26];omega
  ·have aA:¬(k:Int)<l.length:=by omega
   rw [aOW (by omega)] at ha
   simp only [go_sem,h25,h26,aA];simp [ha]
def c_dA:C:=match vg with
 |.seq c _=>c
 |c=>c
def c_dB:C:=match vg with
 |.seq _ (.seq c _)=>c
 |c=>c
set_option maxRecDepth 1000000 in
theorem jmj (d:Dd) (hb:jjr d<=2000000):jZ Tryz.prog 30 [.agg (kN d)] (.c (.val (.bool (okI d)))):=by
 refine pf_ jj2 ?_;have cP:=λ(s:St) (b ty:Nat)=>jo0 d hb (s:=s) (b:=b) (ty:=ty)
 rw [show vg=.seq c_dA (.seq c_dB jx2) from rfl]
 unfold c_dA c_dB vg;obtain ⟨aON,run,aOF,aOK,tri,aOJ,aOM⟩:=d;by_cases hk:1<=aON/\aON<=8
 ·by_cases hl:aOF.aOI.length<=31
  ·have o7:¬(31:Int)<aOF.aOI.length:=by omega
   simp only [go_sem,kN,je];intro b;refine jk (jx aON 1 8) λη=>?_
   simp only [go_sem,hk,o7];have:aON=1\/aON=2\/aON=3\/aON=4\/aON=5\/aON=6\/aON=7\/aON=8:=by omega
   rcases this with rfl|rfl|rfl|rfl|rfl|rfl|rfl|rfl
   ·refine kW (qm (β:=7000000) Tryz.func93 kF (by simp) ?_)
    unfold qd;simp only [go_sem];intros;have hu:zj ⟨1,run,aOF,aOK,tri,aOJ,aOM⟩=⟨1,run,aOF,0,0,0,0⟩:=by simp [zj]
    refine jk (ze ⟨1,run,aOF,aOK,tri,aOJ,aOM⟩ ⟨1,run,aOF,0,0,0,0⟩) λaS=>?_
    simp only [<-hu];cases hs:decide ((⟨1,run,aOF,aOK,tri,aOJ,aOM⟩:Dd)=zj ⟨1,run,aOF,aOK,tri,aOJ,aOM⟩)
    ·simp only [go_sem]
     simp [okI,hs]
    ·have e:okI ⟨1,run,aOF,aOK,tri,aOJ,aOM⟩=(jbd ⟨1,run,aOF,aOK,tri,aOJ,aOM⟩).all zT:=by simp only [okI,hs];simp [hl]
     rw [e];simp only [go_sem];exact cP _ b _ (by simp only [go_sem]) (by simp only [go_sem,kN,je]<;>rfl)
   ·refine kW (qm (β:=7000000) Tryz.func93 kF (by simp) ?_)
    unfold qd;simp only [go_sem];intros;have hu:zj ⟨2,run,aOF,aOK,tri,aOJ,aOM⟩=⟨2,0,⟨0,0,0,0,[]⟩,0,0,aOJ,aOM⟩:=by simp [zj,zeroPl]
    refine jk (ze ⟨2,run,aOF,aOK,tri,aOJ,aOM⟩ ⟨2,0,⟨0,0,0,0,[]⟩,0,0,aOJ,aOM⟩) λaS=>?_
    simp only [<-hu];cases hs:decide ((⟨2,run,aOF,aOK,tri,aOJ,aOM⟩:Dd)=zj ⟨2,run,aOF,aOK,tri,aOJ,aOM⟩)
    ·simp only [go_sem]
     simp [okI,hs]
    ·have e:okI ⟨2,run,aOF,aOK,tri,aOJ,aOM⟩=(jbd ⟨2,run,aOF,aOK,tri,aOJ,aOM⟩).all zT:=by simp only [okI,hs];simp [hl]
     rw [e];simp only [go_sem];exact cP _ b _ (by simp only [go_sem]) (by simp only [go_sem,kN,je]<;>rfl)
   ·refine kW (qm (β:=7000000) Tryz.func93 kF (by simp) ?_)
    unfold qd;simp only [go_sem];intros;have hu:zj ⟨3,run,aOF,aOK,tri,aOJ,aOM⟩=⟨3,run,⟨0,0,0,0,[]⟩,aOK,tri,0,0⟩:=by simp [zj,zeroPl]
    refine jk (ze ⟨3,run,aOF,aOK,tri,aOJ,aOM⟩ ⟨3,run,⟨0,0,0,0,[]⟩,aOK,tri,0,0⟩) λaS=>?_
    simp only [<-hu];cases hs:decide ((⟨3,run,aOF,aOK,tri,aOJ,aOM⟩:Dd)=zj ⟨3,run,aOF,aOK,tri,aOJ,aOM⟩)
    ·simp only [go_sem]
     simp [okI,hs]
    ·have e:okI ⟨3,run,aOF,aOK,tri,aOJ,aOM⟩=(jbd ⟨3,run,aOF,aOK,tri,aOJ,aOM⟩).all zT:=by simp only [okI,hs];simp [hl]
     rw [e];simp only [go_sem];exact cP _ b _ (by simp only [go_sem]) (by simp only [go_sem,kN,je]<;>rfl)
   ·refine kW (qm (β:=7000000) Tryz.func93 kF (by simp) ?_)
    unfold qd;simp only [go_sem];intros;have hu:zj ⟨4,run,aOF,aOK,tri,aOJ,aOM⟩=⟨4,run,⟨0,0,0,0,[]⟩,aOK,tri,0,0⟩:=by simp [zj,zeroPl]
    refine jk (ze ⟨4,run,aOF,aOK,tri,aOJ,aOM⟩ ⟨4,run,⟨0,0,0,0,[]⟩,aOK,tri,0,0⟩) λaS=>?_
    simp only [<-hu];cases hs:decide ((⟨4,run,aOF,aOK,tri,aOJ,aOM⟩:Dd)=zj ⟨4,run,aOF,aOK,tri,aOJ,aOM⟩)
    ·simp only [go_sem]
     simp [okI,hs]
    ·have e:okI ⟨4,run,aOF,aOK,tri,aOJ,aOM⟩=(jbd ⟨4,run,aOF,aOK,tri,aOJ,aOM⟩).all zT:=by simp only [okI,hs];simp [hl]
     rw [e];simp only [go_sem];exact cP _ b _ (by simp only [go_sem]) (by simp only [go_sem,kN,je]<;>rfl)
   ·refine kW (qm (β:=7000000) Tryz.func93 kF (by simp) ?_)
    unfold qd;simp only [go_sem];intros;have hu:zj ⟨5,run,aOF,aOK,tri,aOJ,aOM⟩=⟨5,0,⟨0,0,0,0,[]⟩,0,0,0,0⟩:=by simp [zj,zeroPl]
    refine jk (ze ⟨5,run,aOF,aOK,tri,aOJ,aOM⟩ ⟨5,0,⟨0,0,0,0,[]⟩,0,0,0,0⟩) λaS=>?_
    simp only [<-hu];cases hs:decide ((⟨5,run,aOF,aOK,tri,aOJ,aOM⟩:Dd)=zj ⟨5,run,aOF,aOK,tri,aOJ,aOM⟩)
    ·simp only [go_sem]
     simp [okI,hs]
    ·have e:okI ⟨5,run,aOF,aOK,tri,aOJ,aOM⟩=(jbd ⟨5,run,aOF,aOK,tri,aOJ,aOM⟩).all zT:=by simp only [okI,hs];simp [hl]
     rw [e];simp only [go_sem];exact cP _ b _ (by simp only [go_sem]) (by simp only [go_sem,kN,je]<;>rfl)
   ·refine kW (qm (β:=7000000) Tryz.func93 kF (by simp) ?_)
    unfold qd;simp only [go_sem];intros;have hu:zj ⟨6,run,aOF,aOK,tri,aOJ,aOM⟩=⟨6,run,⟨0,0,0,0,[]⟩,0,0,0,0⟩:=by simp [zj,zeroPl]
    refine jk (ze ⟨6,run,aOF,aOK,tri,aOJ,aOM⟩ ⟨6,run,⟨0,0,0,0,[]⟩,0,0,0,0⟩) λaS=>?_
    simp only [<-hu];cases hs:decide ((⟨6,run,aOF,aOK,tri,aOJ,aOM⟩:Dd)=zj ⟨6,run,aOF,aOK,tri,aOJ,aOM⟩)
    ·simp only [go_sem]
     simp [okI,hs]
    ·have e:okI ⟨6,run,aOF,aOK,tri,aOJ,aOM⟩=(jbd ⟨6,run,aOF,aOK,tri,aOJ,aOM⟩).all zT:=by simp only [okI,hs];simp [hl]
     rw [e];simp only [go_sem];exact cP _ b _ (by simp only [go_sem]) (by simp only [go_sem,kN,je]<;>rfl)
   ·refine kW (qm (β:=7000000) Tryz.func93 kF (by simp) ?_)
    unfold qd;simp only [go_sem];intros;have hu:zj ⟨7,run,aOF,aOK,tri,aOJ,aOM⟩=⟨7,run,⟨0,0,0,0,[]⟩,0,0,0,0⟩:=by simp [zj,zeroPl]
    refine jk (ze ⟨7,run,aOF,aOK,tri,aOJ,aOM⟩ ⟨7,run,⟨0,0,0,0,[]⟩,0,0,0,0⟩) λaS=>?_
    simp only [<-hu];cases hs:decide ((⟨7,run,aOF,aOK,tri,aOJ,aOM⟩:Dd)=zj ⟨7,run,aOF,aOK,tri,aOJ,aOM⟩)
    ·simp only [go_sem]
     simp [okI,hs]
    ·have e:okI ⟨7,run,aOF,aOK,tri,aOJ,aOM⟩=(jbd ⟨7,run,aOF,aOK,tri,aOJ,aOM⟩).all zT:=by simp only [okI,hs];simp [hl]
     rw [e];simp only [go_sem];exact cP _ b _ (by simp only [go_sem]) (by simp only [go_sem,kN,je]<;>rfl)
   ·refine kW (qm (β:=7000000) Tryz.func93 kF (by simp) ?_)
    unfold qd;simp only [go_sem];intros;have hu:zj ⟨8,run,aOF,aOK,tri,aOJ,aOM⟩=⟨8,0,⟨0,0,0,0,[]⟩,0,0,0,0⟩:=by simp [zj,zeroPl]
    refine jk (ze ⟨8,run,aOF,aOK,tri,aOJ,aOM⟩ ⟨8,0,⟨0,0,0,0,[]⟩,0,0,0,0⟩) λaS=>?_
    simp only [<-hu];cases hs:decide ((⟨8,run,aOF,aOK,tri,aOJ,aOM⟩:Dd)=zj ⟨8,run,aOF,aOK,tri,aOJ,aOM⟩)
    ·simp only [go_sem]
     simp [okI,hs]
    ·have e:okI ⟨8,run,aOF,aOK,tri,aOJ,aOM⟩=(jbd ⟨8,run,aOF,aOK,tri,aOJ,aOM⟩).all zT:=by simp only [okI,hs];simp [hl]
     rw [e];simp only [go_sem];exact cP _ b _ (by simp only [go_sem]) (by simp only [go_sem,kN,je]<;>rfl)
  ·have o7:(31:Int)<aOF.aOI.length:=by omega
   simp only [go_sem,kN,je];intro b;refine jk (jx aON 1 8) λη=>?_
   simp only [go_sem,hk,o7];simp [okI,hl]
 ·simp only [go_sem,kN,je]
  intro b;refine jk (jx aON 1 8) λη=>?_
  simp only [go_sem,hk];have:decide (1<=aON/\aON<=8)=false:=decide_eq_false hk;simp only [okI,this,Bool.false_and]
theorem jei (p:Pl):jck p=decide (p=zeroPl):=by
 obtain ⟨a,b,c,d,e⟩:=p;rw [Bool.eq_iff_iff];simp only [jck,zeroPl,aPG,aQW,aPM,Pl.mk.injEq];constructor
 ·rintro ⟨⟨⟨⟨h1,h2⟩,h3⟩,h4⟩,h5⟩
  exact ⟨h1,h2,h3,h4,aPS (by omega)⟩
 ·rintro ⟨h1,h2,h3,h4,rfl⟩
  exact ⟨⟨⟨⟨h1,h2⟩,h3⟩,h4⟩,rfl⟩
theorem jF8 (l:List Ed):(l.flatMap λe=>[e.src,e.dst]).all zT=l.all edB:=by
 induction l with
 |nil=>rfl
 |cons x l ih=>simp [aPQ,ih,edB,Bool.and_assoc]
theorem jwR (d:Dd):okI d=kg d:=by
 have hz:zeroPl.aOI.length=0:=rfl;obtain ⟨aON,run,aOF,aOK,tri,aOJ,aOM⟩:=d;by_cases h1:aON=1
 ·subst h1
  have e:(jbd ⟨1,run,aOF,aOK,tri,aOJ,aOM⟩).all zT=(zT run&&zT aOF.aOL&&zT aOF.aOQ&&zT aOF.aOP&&zT aOF.aOD&&zT aOF.aOI.length&&aOF.aOI.all edB):=by
   simp only [jbd,if_true,List.all_append,jF8];simp [Bool.and_assoc]
  have e2:decide (aOF.aOI.length<=31)=true->zT (aOF.aOI.length:Int)=true:=by
   intro h;have h:=aPV h;exact decide_eq_true (by omega)
  rw [okI,e,kg];simp only [zj,jh9,if_true,Dd.mk.injEq,true_and];rw [Bool.eq_iff_iff];simp only [aPG,aPM,aQW] at e2⊢;constructor
  ·rintro ⟨⟨⟨_,h2⟩,h3⟩,h4⟩
   grind
  ·intro h
   have h5:aOF.aOI.length<=31:=by grind
   have:=e2 h5
   grind
 ·by_cases h2:aON=2
  ·subst h2
   rw [Bool.eq_iff_iff];simp only [okI,kg,zj,jbd,jei,aPG,aPM,aQW,Dd.mk.injEq,List.all_cons,List.all_nil,Int.reduceEq,if_false,if_true,true_and,and_true];constructor
   ·rintro h;grind
   ·rintro ⟨⟨⟨⟨⟨a,b⟩,c⟩,d⟩,e⟩,f⟩
    subst f;exact ⟨⟨⟨by omega,by rw [hz];omega⟩,a,rfl,b,c⟩,d,e⟩
  ·by_cases h34:aON=3\/aON=4
   ·rw [Bool.eq_iff_iff]
    simp only [okI,kg,zj,jbd,jei,h1,h2,h34,aPG,aPM,aQW,Dd.mk.injEq,List.all_cons,List.all_nil,if_false,if_true,true_and,and_true];constructor
    ·rintro h;grind
    ·rintro ⟨⟨⟨⟨⟨a,b⟩,c⟩,d⟩,e⟩,f⟩
     subst f;exact ⟨⟨⟨by omega,by rw [hz];omega⟩,rfl,d,e⟩,a,b,c⟩
   ·by_cases h67:aON=6\/aON=7
    ·have h58:¬(aON=5\/aON=8):=by omega
     rw [Bool.eq_iff_iff];simp only [okI,kg,zj,jbd,jei,h1,h2,h34,h67,h58,aPG,aPM,aQW,Dd.mk.injEq,List.all_cons,List.all_nil,if_false,if_true,true_and,and_true];constructor
     ·rintro h;grind
     ·rintro ⟨⟨⟨⟨⟨a,b⟩,c⟩,d⟩,e⟩,f⟩
      subst f;exact ⟨⟨⟨by omega,by rw [hz];omega⟩,rfl,b,c,d,e⟩,a⟩
    ·by_cases h58:aON=5\/aON=8
     ·rw [Bool.eq_iff_iff]
      simp only [okI,kg,zj,jbd,jei,h1,h2,h34,h67,h58,aPG,aPM,aQW,Dd.mk.injEq,List.all_nil,if_false,if_true,true_and,and_true];constructor
      ·rintro h;grind
      ·rintro ⟨⟨⟨⟨⟨a,b⟩,c⟩,d⟩,e⟩,f⟩
       subst f;exact ⟨⟨by omega,by rw [hz];omega⟩,a,rfl,b,c,d,e⟩
     ·have hk:¬(1<=aON/\aON<=8):=by omega
      simp [okI,kg,h1,h2,h34,h67,h58,hk]
theorem joe (d:Dd) (hb:jjr d<=2000000):jZ Tryz.prog 30 [.agg (kN d)] (.c (.val (.bool (kg d)))):=by
 rw [<-jwR];exact jmj d hb
def jfa:C:=iS [iA 2 (.mov (.c (.string ⟨⟨[]⟩⟩)))] (iS [iA 3 (.mov (.c (.string ⟨⟨[]⟩⟩)))] (.seq (iS [aN 4 0] (.blk 0 (.loop (.seq (iS [aM 5 4,aM 6 0,aG 7 6,aP 8 .lss 3 5 7] (iD 8 .skip (.exit 0))) (.seq (.blk 1 (.reg [aM 11 3,aM 12 0,aM 13 4,aI 14 1 12 13,aL 15 14,iA 16 (iK 159 [15]),aP 17 .add 9 11 16,aM 3 17])) (.reg [aM 9 4,aQ 10 .add 3 9 1,aM 4 10])))))) (iS [aM 18 3,aM 2 18] .ret)))
theorem jiz:fnC Tryz.prog Tryz.f107=some (jfa,[.t 2],19):=by kernel_rfl
def jlM:C:=iS [iA 2 (.mov (.c (.string ⟨⟨[]⟩⟩)))] (iS [iA 3 (.mov (.c (.slice none 0 0)))] (.seq (iS [aM 6 0,aG 7 6,aN 8 0] (.blk 0 (.loop (iS [aP 9 .lss 3 8 7] (.seq (iD 9 .skip (.exit 0)) (.seq (.blk 1 (iS [aI 10 1 6 8,aL 11 10,aM 5 11] (.reg [aM 12 3,aM 13 5,iA 14 (iK 153 [13]),iA 15 (.apps 5 (.t 12) (.t 14)),aM 3 15]))) (.reg [aQ 16 .add 3 8 1,aM 8 16]))))))) (iS [aM 17 3,iA 18 (.cv .text 5 (.t 17)),aM 2 18] .ret)))
theorem jmq:fnC Tryz.prog Tryz.f101=some (jlM,[.t 2],19):=by kernel_rfl
theorem jxR {d:Option Nat} {s:St} {K:St->Prop} (hk:K (s.put d (.c (.v (.string ⟨#[]⟩))))):cvK d s K .text (.c (.v (.slice none 0 0))):=
 ⟨_,⟨_,0,[],rfl,by simp [Is],rfl⟩,hk⟩
theorem jBE (k:Nat):∀v:Nat,v<128^(k+1)->(za v).length<=k+1:=by
 induction k with
 |zero=>
  intro v h;rw [za,if_pos (by simpa using h)];simp
 |succ k ih=>
  intro v h;rw [za];split
  ·simp
  ·have:=ih (v/128) (by rw [Nat.pow_succ] at h;omega)
   simp only [aPI];omega
theorem jnx (n:Int):(jd8 n).data.toList.length<=5:=by
 unfold jd8;split
 ·have:=jBE 4 n.toNat (by simp;omega)
  simpa using this
 ·simp
def qO (l:List Int):List UInt8:=l.flatMap λn=>(jd8 n).data.toList
def jkr (l:List Int):ByteArray:=⟨(qO l).toArray⟩
theorem jnw (l:List Int):(qO l).length<=5*l.length:=by
 induction l with
 |nil=>simp [qO]
 |cons x l ih=>
  have:=jnx x;simp only [qO,aPQ,aOU,aPI] at ih⊢;omega
theorem jtT (l:List Int) (x:Int):qO (l++[x])=qO l++(jd8 x).data.toList:=by simp [qO]
theorem jmB {l:List Int} {k:Nat} {x:Int} (h:l[k]?=some x):qO (l.take (k+1))=qO (l.take k)++(jd8 x).data.toList:=by
 rw [aPE,h];exact jtT _ _
theorem jhX (l:List Int):(jkr l).size=(qO l).length:=by
 show (qO l).toArray.size=_;simp
theorem jtS {l:List Int} {k:Nat} {x:Int} (h:l[k]?=some x):jkr (l.take k)++jd8 x=jkr (l.take (k+1)):=by
 apply ByteArray.ext
 rw [ByteArray.data_append];show (qO (l.take k)).toArray++(jd8 x).data=(qO (l.take (k+1))).toArray;rw [jmB h];simp
theorem jl8 (l:List Int) (hl:l.length<=20000000):jZ Tryz.prog 107 [.c (jc l)] (.c (.val (.string (jkr l)))):=by
 refine pf_ jiz ?_;unfold jfa;simp only [go_sem];refine qI (λs=>∃k:Nat,k<=l.length/\s.t 0=.c (.ro (jc l))/\s.t 4=.c (.v (.int .i64 k))/\s.t 3=.c (.v (.string (jkr (l.take k))))) (λs=>l.length-s.n 4) ?_ ?_
 ·exact ⟨0,aPP _,by simp only [go_sem]<;>rfl,by simp only [go_sem]<;>rfl,by simp only [go_sem]<;>rfl⟩
 ·rintro s ⟨k,hk,h0,h4,h3⟩
  by_cases aB:k<l.length
  ·have aA:(k:Int)<l.length:=by omega
   obtain ⟨x,hx⟩:=ja aB;have hw:=kw k
   have cW:(jkr (l.take k)).size+(jd8 x).size<=maxLen:=by
    have h1:=jnw (l.take k);have h2:=jnx x;rw [<-jhX,aOZ] at h1;have bP:(jd8 x).size<=5:=h2;unfold maxLen;omega
   simp only [go_sem,h0,h4,h3,aB,aA,qV hx];refine jk (jeO x) λη=>?_
   simp only [go_sem,h0,h4,hw,jtS hx,cW];refine ⟨⟨k+1,?_⟩,?_⟩
   ·and_intros<;>first|rfl|omega
   ·rw [jaG (k:=.i64) (n:=((k+1:Nat):Int)) (by simp only [go_sem]),jaG h4];omega
  ·have aA:¬(k:Int)<l.length:=by omega
   rw [aOW (by omega)] at h3
   simp only [go_sem,h0,h4,h3,aA]
theorem jrs (l:List Int) (hl:l.length<=20000000):jZ Tryz.prog 101 [.c (jc l)] (.c (.val (.string (jkr l)))):=by
 refine pf_ jmq ?_;unfold jlM;simp only [go_sem];refine qI (λs=>∃k:Nat,k<=l.length/\s.t 6=.c (.ro (jc l))/\s.t 7=.c (.v (.int .i64 l.length))/\s.t 8=.c (.v (.int .i64 k))/\((k=0/\s.t 3=.c (.v (.slice none 0 0)))\/∃η,s.t 3=.c (.h 1500 0 [] (η []))/\s.o 1500=.loose (.sl 1 5 ((qO (l.take k)).map qv)) η)) (λs=>l.length-s.n 8) ?_ ?_
 ·exact ⟨0,aPP _,by simp only [go_sem]<;>rfl,by simp only [go_sem]<;>rfl,by simp only [go_sem]<;>rfl,.inl ⟨rfl,by simp only [go_sem]⟩⟩
 ·rintro s ⟨k,hk,h6,h7,h8,hg⟩
  by_cases aB:k<l.length
  ·have aA:(k:Int)<l.length:=by omega
   obtain ⟨x,hx⟩:=ja aB;have hw:=kw k;have h2:(jd8 x).size<=5:=jnx x;have h1:=jnw (l.take k);rw [aOZ] at h1;have nY:(qO (l.take k)).map qv++strCells (jd8 x)=(qO (l.take (k+1))).map qv:=by rw [jmB hx,aRF];rfl
   have yB:((qO (l.take k)).map qv).length+(jd8 x).size<=140737488355328:=by rw [aQI];omega
   rcases hg with ⟨cI,h3⟩|⟨η,h3,ho⟩
   ·have aDF:(jd8 x).size<=140737488355328:=by omega
    have y3:strCells (jd8 x)=(qO (l.take (k+1))).map qv:=by rw [<-nY,cI];rfl
    simp only [go_sem,h3,h6,h7,h8,aB,aA,qV hx];refine jk (jae x) λη=>?_
    simp only [go_sem,jsG,h6,h7,h8,hw];refine ⟨_,rfl,?_⟩;simp only [go_sem,aDF];intro dF;refine ⟨⟨k+1,by omega,rfl,.inr ⟨dF,rfl,by rw [y3]⟩⟩,?_⟩
    rw [jaG (k:=.i64) (n:=((k+1:Nat):Int)) (by simp only [go_sem]),jaG h8];omega
   ·simp only [go_sem,h3,h6,h7,h8,aB,aA,qV hx]
    refine jk (jae x) λη=>?_
    simp only [go_sem,jsG,h6,h7,h8,ho,hw];refine ⟨_,rfl,?_⟩;simp only [go_sem,yB];intro dF;refine ⟨⟨k+1,by omega,rfl,.inr ⟨dF,rfl,by rw [nY]⟩⟩,?_⟩
    rw [jaG (k:=.i64) (n:=((k+1:Nat):Int)) (by simp only [go_sem]),jaG h8];omega
  ·have aA:¬(k:Int)<l.length:=by omega
   have tM:k=l.length:=by omega
   rcases hg with ⟨cI,h3⟩|⟨η,h3,ho⟩
   ·have uN:l=[]:=aPS (by omega)
    simp only [go_sem,h3,h7,h8,aA];refine jxR ?_;simp only [go_sem];rw [uN];rfl
   ·rw [aOW (by omega)] at ho
    simp only [go_sem,h3,h7,h8,aA];refine jgV (ty:=5) (cs:=(qO l).map qv) (η:=η) (bs:=qO l) (by simp only [go_sem,ho]) rfl rfl ?_
    simp only [go_sem];rfl
abbrev zE (l:List UInt8):D:=.sl 1 5 (l.map qv)
theorem ja1 (l:List UInt8):(zE l).len=l.length:=by simp [D.len,D.cells,D.size]
def enI (e:En):List Int:=[e.aOL,e.seq,e.run,e.aOK]
def edI (e:Ed):List Int:=[e.src,e.dst]
def tkI (t:Tk):List Int:=[t.aOG,t.aOO,t.tri,t.til]
def plI (p:Pl):List Int:=[p.aOL,p.aOQ,p.aOP,p.aOD,(p.aOI.length:Int)]++p.aOI.flatMap edI
def rnI (r:Rn):List Int:=(r.id::plI r.aOF)++(r.aOG::r.aOD.flatMap tkI)
def shI (l:List En):List Int:=(l.length:Int)::l.flatMap enI
def zM (y:Yd):List Int:=([y.now,y.seq]++y.aOE.flatMap shI)++((y.aOH.length:Int)::y.aOH.flatMap rnI)
noncomputable def qh (y:Yd):ByteArray:=if jt y=true then jkr (zM y) else ⟨⟨[]⟩⟩
theorem jrY {α β:Type} {f:α->List β} {c:Nat}:∀{L:List α},(∀x∈L,(f x).length<=c)->(L.flatMap f).length<=c*L.length
 |[],_=>by simp
 |x::L,h=>by
  have h1:=h x (by simp)
  have h2:=jrY (L:=L) (c:=c) λy hy=>h y (by simp [hy])
  rw [aPQ,aOU,aPI,Nat.mul_succ];omega
theorem jbV {α β:Type} {f:α->List β} {c:Nat} {L:List α} (h:∀x∈L,(f x).length<=c) (k:Nat):((L.take k).flatMap f).length<=c*L.length:=by
 have h1:=jrY (L:=L.take k) (c:=c) λy hy=>h y (aRU hy)
 have h2:(L.take k).length<=L.length:=by rw [aOZ];omega
 exact aQJ h1 (Nat.mul_le_mul_left _ h2)
theorem jln {α β:Type} {f:α->List β} {L:List α} {k:Nat} {x:α} (h:L[k]?=some x):(L.take (k+1)).flatMap f=(L.take k).flatMap f++f x:=by
 rw [aPE,h];simp
theorem jA0 {p:Pl} (h:p.aOI.length<=30):(plI p).length<=65:=by
 have:=jrY (f:=edI) (c:=2) (L:=p.aOI) λ_ _=>aPD 2
 simp only [plI,aOU,aPI,aPU];omega
theorem jAT {r:Rn} (h:RunOkP r):(rnI r).length<=120:=by
 obtain ⟨n,hn,eB,cC,dI,-⟩:=ja8 h.aOF;have h1:=jA0 dI;have h2:=jrY (f:=tkI) (c:=4) (L:=r.aOD) λ_ _=>aPD 4
 have h3:=h.len;simp only [rnI,aOU,aPI];omega
theorem jAL {l:List En} (h:jhU l):(shI l).length<=330:=by
 have:=jrY (f:=enI) (c:=4) (L:=l) λ_ _=>aPD 4
 have:=h.aOQ;simp only [shI,aPI];omega
theorem jyA {y:Yd} (h:YardOkP y):(zM y).length<=3000:=by
 have h1:=jrY (f:=shI) (c:=330) (L:=y.aOE) λl hl=>jAL (h.shelves l hl)
 have h2:=jrY (f:=rnI) (c:=120) (L:=y.aOH) λr hr=>jAT (h.right r hr)
 have h3:=h.four;have h4:=h.eight;simp only [zM,aOU,aPI,aPU];omega
theorem jyy (y:Yd):(qh y).size<=15000:=by
 unfold qh;split
 ·rename_i h
  have h1:=jyA (yard_iff.1 h);have h2:=jnw (zM y);rw [jhX];omega
 ·exact aPP _
noncomputable def jaw (r:Rn):Rn:=if (kI r&&r.aOG==1)=true then ⟨r.id,r.aOF,4,vv jy r.aOD r.aOD.length⟩ else r
theorem jkf {r:Rn} (h:(kI r&&r.aOG==1)=false):jaw r=r:=by simp [jaw,h]
theorem jp2 {r:Rn} (h:(kI r&&r.aOG==1)=true):jaw r=⟨r.id,r.aOF,4,vv jy r.aOD r.aOD.length⟩:=by simp [jaw,h]
theorem jFe {r:Rn} (h:RunOkP r) (h1:r.aOG=1):cS 5 r.aOD=0:=by
 have h2:=h.aOG;rw [h1] at h2;unfold jgd at h2;split at h2
 ·omega
 split at h2
 ·omega
 split at h2
 ·omega
 split at h2
 ·rename_i h3;exact h3.1
 ·omega
theorem juM {ts:List Tk} (h:cS 5 ts=0) (k:Nat):vv (qz (-1)) ts k=vv jy ts k:=by
 refine jm4 (λj y hy=>?_) k
 have h5:y.aOG≠5:=jtF h hy;have hj:(j:Int)≠-1:=by omega
 simp [qz,jy,h5,hj]
def ji5 (y:Yd) (k:Nat) (r:Rn):Yd:=⟨y.now,y.seq,y.aOE,y.aOH.set k r⟩
noncomputable def qp (y:Yd) (id:Int):Int:=if jt y=false then 8 else if runAt y id<0 then 10 else if ((y.aOH[(runAt y id).toNat]?).getD default).aOG=1 then 0 else 12
noncomputable def kT (y:Yd) (id:Int):Yd:=if qp y id=0 then ji5 y (runAt y id).toNat (jaw ((y.aOH[(runAt y id).toNat]?).getD default)) else y
def jgT:List UInt8->Nat
 |[]=>0
 |b::l=>b.toNat%128+128*jgT l
def jev:List UInt8->Bool
 |[]=>false
 |[b]=>decide (b.toNat<128)
 |b::c::l=>decide (128<=b.toNat)&&jev (c::l)
theorem jny {v:Nat} (h:v<128):za v=[UInt8.ofNat v]:=by unfold za;rw [if_pos h]
theorem jq0 {v:Nat} (h:¬v<128):za v=UInt8.ofNat (128+v%128)::za (v/128):=by rw [za,if_neg h]
theorem jc2 (v:Nat):za v≠ []:=by
 by_cases h:v<128
 ·rw [jny h];simp
 ·rw [jq0 h];simp
theorem jvD (v:Nat):jev (za v)=true/\jgT (za v)=v:=by
 induction v using Nat.strongRecOn with
 |_ v ih=>
  by_cases h:v<128
  ·rw [jny h]
   have:(UInt8.ofNat v).toNat=v:=by simp [Nat.mod_eq_of_lt (show v<256 by omega)]
   simp only [jev,jgT,this,aPM];omega
  ·rw [jq0 h]
   obtain ⟨h1,h2⟩:=ih (v/128) (by omega)
   have hb:(UInt8.ofNat (128+v%128)).toNat=128+v%128:=by simp [Nat.mod_eq_of_lt (show 128+v%128<256 by omega)]
   refine ⟨?_,by simp only [jgT,hb,h2];omega⟩
   cases hl:za (v/128) with
   |nil=>exact absurd hl (jc2 _)
   |cons c l=>rw [hl] at h1;simp only [jev,hb,aPG,aPM];exact ⟨by omega,h1⟩
theorem jti:∀l:List UInt8,jev l=true->(za (jgT l)).length<=l.length/\((za (jgT l)).length=l.length->za (jgT l)=l)
 |[],h=>by simp [jev] at h
 |[b],h=>by
  have hb:b.toNat<128:=by simpa [jev] using h
  have e:jgT [b]=b.toNat:=by simp only [jgT];omega
  rw [e,jny hb];exact ⟨by simp,λ_=>by simp⟩
 |b::c::l,h=>by
  simp only [jev,aPG,aPM] at h;obtain ⟨h1,h2⟩:=jti (c::l) h.2;have hb:=h.1;have bF:=b.toNat_lt;have e:jgT (b::c::l)=b.toNat%128+128*jgT (c::l):=rfl;by_cases hz:jgT (b::c::l)<128
  ·rw [jny hz];exact ⟨by simp,λhl=>by simp at hl⟩
  ·have e1:jgT (b::c::l)/128=jgT (c::l):=by omega
   have e2:128+jgT (b::c::l)%128=b.toNat:=by omega
   rw [jq0 hz,e1,e2];refine ⟨by simp only [aPI] at h1⊢;omega,λhl=>?_⟩
   rw [h2 (by simpa using hl)]
   simp
def vGo:Nat->List UInt8->Nat->Nat->Option (Nat×Nat)
 |0,_,_,_=>none
 |_+1,[],_,_=>none
 |f+1,b::l,n,i=>if b.toNat<128 then (if n+b.toNat%128*128^i<=1000000000/\(za (n+b.toNat%128*128^i)).length=i+1 then some (n+b.toNat%128*128^i,i+1) else none)
  else vGo f l (n+b.toNat%128*128^i) (i+1)
theorem jbY (l:List UInt8) (b:UInt8):jgT (l++[b])=jgT l+b.toNat%128*128^l.length:=by
 induction l with
 |nil=>simp [jgT]
 |cons c l ih=>
  simp only [aRE,jgT,ih,aPI,Nat.pow_succ];generalize b.toNat%128=q;generalize 128^l.length=z;rw [Nat.mul_add,<-aSF,Nat.mul_left_comm 128 q z,Nat.mul_comm 128 z]
theorem jqh:∀(l:List UInt8) (b:UInt8),(∀c∈l,128<=c.toNat)->b.toNat<128->jev (l++[b])=true
 |[],b,_,hb=>by simpa [jev] using hb
 |[c],b,h,hb=>by have:=h c (by simp);simp [jev,hb,this]
 |c::d::l,b,h,hb=>by
  have:=jqh (d::l) b (λx hx=>h x (by simp [hx])) hb
  have h1:=h c (by simp)
  simp only [aRE,jev,aPG,aPM] at this⊢;exact ⟨h1,this⟩
theorem jAC:∀(f:Nat) (l p:List UInt8) (v k:Nat),(∀c∈p,128<=c.toNat)->vGo f l (jgT p) p.length=some (v,k)->v<=1000000000/\∃r,p++l=za v++r/\k=(za v).length
 |0,_,_,_,_,_,h=>by simp [vGo] at h
 |_+1,[],_,_,_,_,h=>by simp [vGo] at h
 |f+1,b::l,p,v,k,hp,h=>by
  simp only [vGo] at h;split at h
  ·rename_i hb
   split at h
   ·rename_i hc
    simp only [Option.some.injEq,Prod.mk.injEq] at h;obtain ⟨rfl,rfl⟩:=h;rw [<-jbY] at hc⊢;have hg:=jqh p b hp hb;have:=(jti _ hg).2 (by rw [hc.2];simp)
    exact ⟨hc.1,l,by rw [this];simp,hc.2.symm⟩
   ·simp at h
  ·rename_i hb
   rw [<-jbY] at h;have e:p.length+1=(p++[b]).length:=by simp
   rw [e] at h
   obtain ⟨h1,r,h2,h3⟩:=jAC f l (p++[b]) v k (λc hc=>by
    rcases aOX.1 hc with hc|hc
    ·exact hp c hc
    ·simp at hc;subst hc;omega) h
   exact ⟨h1,r,by rw [<-h2];simp,h3⟩
theorem jyI {v:Nat} (h:v<=1000000000):(za v).length<=5:=by
 have:=jnx (v:Int)
 rwa [jhY h] at this
theorem jnc:∀l:List UInt8,jev l=true->∃p b,l=p++[b]/\(∀c∈p,128<=c.toNat)/\b.toNat<128
 |[],h=>by simp [jev] at h
 |[b],h=>⟨[],b,rfl,by simp,by simpa [jev] using h⟩
 |b::c::l,h=>by
  simp only [jev,aPG,aPM] at h;obtain ⟨p,d,h1,h2,h3⟩:=jnc (c::l) h.2
  exact ⟨b::p,d,by rw [h1];rfl,λx hx=>by
   rcases aPL.1 hx with rfl|hx
   ·exact h.1
   ·exact h2 x hx,h3⟩
theorem jq3:∀(f:Nat) (q p l:List UInt8) (b:UInt8),(∀c∈q,128<=c.toNat)->b.toNat<128->q.length+1<=f->
 vGo f (q++b::l) (jgT p) p.length=if jgT (p++q++[b])<=1000000000/\(za (jgT (p++q++[b]))).length=p.length+q.length+1 then some (jgT (p++q++[b]),p.length+q.length+1) else none
 |0,_,_,_,_,_,_,h=>by omega
 |f+1,[],p,l,b,_,hb,_=>by
  simp only [aQG,vGo,if_pos hb,aPR,<-jbY,aPU,aPO]
 |f+1,c::q,p,l,b,hq,hb,hf=>by
  have hc:=hq c (by simp)
  have:=jq3 f q (p++[c]) l b (λx hx=>hq x (by simp [hx])) hb (by simp at hf;omega)
  simp only [aRE,vGo,if_neg (show¬c.toNat<128 by omega),<-jbY]
  rw [show p.length+1=(p++[c]).length by simp,this]
  have e1:p++[c]++q++[b]=p++c::q++[b]:=by simp
  have e2:(p++[c]).length+q.length+1=p.length+(c::q).length+1:=by simp;omega
  rw [e1,e2]
def jf8 (l:List UInt8):Option (Nat×Nat):=vGo 5 l 0 0
theorem jd9 {l:List UInt8} {v k:Nat} (h:jf8 l=some (v,k)):v<=1000000000/\∃r,l=za v++r/\k=(za v).length:=by
 obtain ⟨h1,r,h2,h3⟩:=jAC 5 l [] v k (by simp) h
 exact ⟨h1,r,h2,h3⟩
theorem jks {v:Nat} (h:v<=1000000000) (r:List UInt8):jf8 (za v++r)=some (v,(za v).length):=by
 obtain ⟨h1,h2⟩:=jvD v;obtain ⟨p,b,h3,h4,h5⟩:=jnc _ h1;have h6:=jyI h;have e:za v++r=p++b::r:=by rw [h3];simp
 have h7:(za v).length=p.length+1:=by rw [h3];simp
 have:=jq3 5 p [] r b h4 h5 (by omega)
 rw [jf8,e];simp only [aQG,aPU,aQN] at this;rw [<-h3,h2] at this;rw [show vGo 5 (p++b::r) 0 0=vGo 5 (p++b::r) (jgT []) 0 from rfl,this,if_pos ⟨h,by rw [h7]⟩,h7]
def vAt (s:ByteArray) (k:Int):Int×Int:=if k<0 then (0,-1) else match jf8 (s.data.toList.drop k.toNat) with
 |some (v,m)=>((v:Int),k+(m:Int))
 |none=>(0,-1)
theorem jvE {l:List UInt8} {v k:Nat} (h:jf8 l=some (v,k)):0<k/\k<=l.length:=by
 obtain ⟨_,r,h1,h2⟩:=jd9 h;have:=aRP.2 (jc2 v);rw [h1,aOU];omega
def rvF:Nat->List UInt8->Option (List Int)
 |_,[]=>some []
 |0,_::_=>none
 |f+1,b::l=>match jf8 (b::l) with
  |some (v,k)=>(rvF f ((b::l).drop k)).map λr=>(v:Int)::r
  |none=>none
def jds (n:Int):Prop:=0<=n/\n<=1000000000
theorem jd7 {n:Int} (h:jds n):∃v:Nat,n=v/\v<=1000000000/\(jd8 n).data.toList=za v:=by
 obtain ⟨v,rfl⟩:=Int.eq_ofNat_of_zero_le h.1;have h2:=h.2;exact ⟨v,rfl,by omega,by rw [jhY (by omega)]⟩
theorem zN (n:Int) (l:List Int):qO (n::l)=(jd8 n).data.toList++qO l:=by simp [qO]
theorem jsD:∀(L:List Int) (f:Nat),(∀n∈L,jds n)->(qO L).length<=f->rvF f (qO L)=some L
 |[],f,_,_=>by cases f<;>simp [qO,rvF]
 |n::L,f,h,hf=>by
  obtain ⟨v,rfl,hv,e⟩:=jd7 (h n (by simp))
  have aK:=jc2 v;rw [zN,e] at hf⊢;rw [aOU] at hf;have hp:=aRP.2 aK;obtain ⟨f,rfl⟩:∃g,f=g+1:=⟨f-1,by omega⟩
  cases hl:za v++qO L with
  |nil=>simp [aK] at hl
  |cons b l=>
   have hh:=jks hv (qO L);rw [hl] at hh;simp only [rvF,hh];have hd:(b::l).drop (za v).length=qO L:=by rw [<-hl];simp
   rw [hd,jsD L f (λm hm=>h m (by simp [hm])) (by omega)]
   rfl
theorem jnL:∀(f:Nat) (l:List UInt8) (L:List Int),rvF f l=some L->l=qO L/\∀n∈L,jds n
 |0,[],L,h=>by simp [rvF] at h;subst h;simp [qO]
 |_+1,[],L,h=>by simp [rvF] at h;subst h;simp [qO]
 |0,_::_,L,h=>by simp [rvF] at h
 |f+1,b::l,L,h=>by
  simp only [rvF] at h;cases hv:jf8 (b::l) with
  |none=>rw [hv] at h;simp at h
  |some p=>
   obtain ⟨v,k⟩:=p;rw [hv] at h;simp only [Option.map_eq_some_iff] at h;obtain ⟨r,h1,rfl⟩:=h;obtain ⟨h2,h3⟩:=jnL f _ _ h1;obtain ⟨h4,q,h5,rfl⟩:=jd9 hv;refine ⟨?_,λn hn=>?_⟩
   ·rw [zN,jhY h4,<-h2,h5];simp
   ·rcases aPL.1 hn with rfl|hn
    ·exact ⟨by omega,by omega⟩
    ·exact h3 n hn
section
variable {σ:Type}
def RdSeq (nx:σ->Int×σ) (bd:σ->Bool):σ->List Int->σ->Prop
 |s,[],s'=>s'=s
 |s,x::l,s'=>bd s=false/\(nx s).1=x/\RdSeq nx bd (nx s).2 l s'
variable {nx:σ->Int×σ} {bd:σ->Bool} {sb:σ->σ}
theorem RdSeq.app:∀{l m:List Int} {s s' s'':σ},RdSeq nx bd s l s'->RdSeq nx bd s' m s''->RdSeq nx bd s (l++m) s''
 |[],_,_,_,_,h,h'=>by rw [show _=_ from h] at h';exact h'
 |_::_,_,_,_,_,⟨h1,h2,h3⟩,h'=>⟨h1,h2,h3.app h'⟩
theorem RdSeq.split:∀{l m:List Int} {s s'':σ},RdSeq nx bd s (l++m) s''->∃s',RdSeq nx bd s l s'/\RdSeq nx bd s' m s''
 |[],_,s,_,h=>⟨s,rfl,h⟩
 |_::_,_,_,_,⟨h1,h2,h3⟩=>by
  obtain ⟨s',h4,h5⟩:=RdSeq.split h3;exact ⟨s',⟨h1,h2,h4⟩,h5⟩
def vt {α:Type} (bd:σ->Bool) (rd:σ->α×σ):Nat->List α×σ->List α×σ
 |0,s=>s
 |n+1,s=>if bd s.2=true then s else vt bd rd n (s.1++[(rd s.2).1],(rd s.2).2)
theorem jgk {α:Type} {rd:σ->α×σ} {s:List α×σ} (h:bd s.2=true):∀n,vt bd rd n s=s
 |0=>rfl
 |n+1=>by rw [vt,if_pos h]
theorem jdf {α:Type} {rd:σ->α×σ} {pr:α->List Int} (aK:∀x,pr x≠ []) (ok:α->Prop) (h:∀x s s',ok x->RdSeq nx bd s (pr x) s'->rd s=(x,s')):
 ∀(l:List α) (acc:List α) (s s':σ),(∀x∈l,ok x)->RdSeq nx bd s (l.flatMap pr) s'->vt bd rd l.length (acc,s)=(acc++l,s')
 |[],acc,s,s',_,h'=>by simp only [aPU,vt,aPR];rw [show s'=s from h']
 |x::l,acc,s,s',ho,h'=>by
  rw [aPQ] at h';obtain ⟨s1,h1,h2⟩:=h'.split;have e:=h x s s1 (ho x (by simp)) h1
  have hb:bd s=false:=by
   cases hx:pr x with
   |nil=>exact absurd hx (aK x)
   |cons a m=>rw [hx] at h1;exact h1.1
  rw [aPI,vt,if_neg (by rw [hb];decide),e,jdf aK ok h l _ s1 s' (λz hz=>ho z (by simp [hz])) h2]
  simp
theorem jmQ {α:Type} {rd:σ->α×σ} {pr:α->List Int} (mR:∀s,bd s=true->bd (rd s).2=true) (h:∀s,bd (rd s).2=false->RdSeq nx bd s (pr (rd s).1) (rd s).2):
 ∀(n:Nat) (acc:List α) (s:σ),bd (vt bd rd n (acc,s)).2=false->∃l,l.length=n/\(vt bd rd n (acc,s)).1=acc++l/\RdSeq nx bd s (l.flatMap pr) (vt bd rd n (acc,s)).2
 |0,acc,s,_=>⟨[],rfl,by simp [vt],rfl⟩
 |n+1,acc,s,hb=>by
  rw [vt] at hb⊢;by_cases h0:bd s=true
  ·rw [if_pos h0] at hb;simp only at hb;rw [h0] at hb;cases hb
  ·rw [if_neg h0] at hb⊢
   have h1:bd (rd s).2=false:=by
    cases hq:bd (rd s).2 with
    |false=>rfl
    |true=>rw [jgk (by exact hq)] at hb;simp only at hb;rw [hq] at hb;cases hb
   obtain ⟨l,e1,e2,e3⟩:=jmQ mR h n (acc++[(rd s).1]) (rd s).2 hb;exact ⟨(rd s).1::l,by simp [e1],by rw [e2];simp,by rw [aPQ];exact (h s h1).app e3⟩
def jsN (nx:σ->Int×σ) (s:σ):Ed×σ:=(⟨(nx s).1,(nx (nx s).2).1⟩,(nx (nx s).2).2)
def jrh (nx:σ->Int×σ) (s:σ):Tk×σ:=let a:=nx s;let b:=nx a.2;let c:=nx b.2;let d:=nx c.2;(⟨a.1,b.1,c.1,d.1⟩,d.2)
def jvp (nx:σ->Int×σ) (s:σ):En×σ:=let a:=nx s;let b:=nx a.2;let c:=nx b.2;let d:=nx c.2;(⟨a.1,b.1,c.1,d.1⟩,d.2)
def jhW (cap:Option Int) (sb:σ->σ) (m:Int) (s:σ):σ:=match cap with
 |some c=>if m>c then sb s else s
 |none=>s
def rdPl (cap:Option Int) (nx:σ->Int×σ) (bd:σ->Bool) (sb:σ->σ) (s:σ):Pl×σ:=
 let a:=nx s;let b:=nx a.2;let c:=nx b.2;let d:=nx c.2;let m:=nx d.2
 let e:=vt bd (jsN nx) m.1.toNat ([],jhW cap sb m.1 m.2)
 (⟨a.1,b.1,c.1,d.1,e.1⟩,e.2)
theorem jDa (x:Ed) (s s':σ) (h:RdSeq nx bd s (edI x) s'):jsN nx s=(x,s'):=by
 obtain ⟨_,h1,_,h2,h3⟩:=h;rw [show s'=_ from h3,jsN,h1,h2]
theorem jr8 {cap:Option Int} {m:Int} {s:σ} (h:∀c,cap=some c->m<=c):jhW cap sb m s=s:=by
 unfold jhW;split
 ·rename_i c;rw [if_neg (by have:=h c rfl;omega)]
 ·rfl
theorem jCu {cap:Option Int} {p:Pl} {s s':σ} (hc:∀c,cap=some c->(p.aOI.length:Int)<=c) (h:RdSeq nx bd s (plI p) s'):rdPl cap nx bd sb s=(p,s'):=by
 obtain ⟨s1,h1,h2⟩:=RdSeq.split (l:=[p.aOL,p.aOQ,p.aOP,p.aOD,(p.aOI.length:Int)]) h;obtain ⟨_,e1,_,e2,_,e3,_,e4,_,e5,e6⟩:=h1;have hr:=jdf (rd:=jsN nx) (pr:=edI) (by intro x;simp [edI]) (λ_=>True) (λx s s' _ h=>jDa x s s' h) p.aOI [] s1 s' (by simp) h2
 rw [show s1=_ from e6] at hr
 simp only [rdPl,e1,e2,e3,e4,e5,aPB,jr8 hc,hr,aQG]
end
def jai (L:List Int) (s:Nat×Bool):Int×(Nat×Bool):=match L[s.1]? with
 |some v=>(v,(s.1+1,s.2))
 |none=>(0,(s.1,true))
theorem jke {L:List Int}:∀(xs:List Int) {rest:List Int} {lo:Nat},L.drop lo=xs++rest->RdSeq (jai L) (·.2) (lo,false) xs (lo+xs.length,false)
 |[],_,_,_=>rfl
 |x::xs,rest,lo,h=>by
  have h0:L[lo]?=some x:=by
   have:=congrArg (·[0]?) h
   simpa using this
  have h1:L.drop (lo+1)=xs++rest:=by
   have:=congrArg List.tail h;simpa using this
  have e:jai L (lo,false)=(x,(lo+1,false)):=by simp only [jai,h0]
  refine ⟨rfl,by rw [e],?_⟩
  rw [e];have:=jke xs h1;rw [aPI,show lo+(xs.length+1)=lo+1+xs.length by omega]
  exact this
open Go.RowKit Go.ChangeShapes Go.WideShapes Go.Deep Go.ChangeAt
theorem rByte:ReadsAs Tryz.prog 5 (λu:UInt8=>[qv u]) (λ_=>True):=by
 intro H enc w base spare l4 n cs y hy;obtain ⟨i,rfl,_,hw⟩:=DataW.trod_int (k:=.u8) (by kernel_rfl) hy
 have hi:0<=i/\i<=255:=by simpa [Lit.wf,IntKind.min,IntKind.max,IntKind.signed,IntKind.bits] using hw
 refine ⟨UInt8.ofNat i.toNat,trivial,[],?_⟩
 have he:((UInt8.ofNat i.toNat).toNat:Int)=i:=by
  rw [UInt8.toNat_ofNat'];omega
 have hb:qv (UInt8.ofNat i.toNat)=D.val (.int .u8 i):=by simp only [qv];rw [he]
 dsimp only;rw [hb];exact RepL.val_ RepL.nil_
theorem jws:ReadsAs Tryz.prog 22 (λl=>[zE l]) (λl=>∀e∈l,True):=by
 have h:=jzm (size:=1) (ty:=5) (P:=Tryz.prog) (t:=22) (e:=5) (by kernel_rfl) rByte (by kernel_rfl) (λ_=>rfl) (by decide)
 refine h.map id (λl=>?_) (λ_ h=>h)
 have e:l.flatMap (λu=>[qv u])=l.map qv:=by
  induction l with
  |nil=>rfl
  |cons x l ih=>simp only [aPQ,aQX,ih];rfl
 simp only [zE,id];rw [e]
