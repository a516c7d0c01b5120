/- Parts. -/
import Derived.Test.YtcehjhiglmifjaaGreatQE6
set_option linter.all false
set_option maxHeartbeats 4000000
set_option maxRecDepth 100000
namespace Go.Proofs.YtcehjhiglmifjaaGreat
theorem jc0:∀(n:Nat) (l:List Int),l.Nodup->(∀x∈l,0<=x/\x<n)->l.length<=n
 |0,l,_,h=>by
  cases l with
  |nil=>exact aMV _
  |cons x l=>have:=h x (by simp);omega
 |n+1,l,hd,h=>by
  by_cases hm:(n:Int)∈l
  ·have h1:=jc0 n (l.erase n) (hd.erase _) (λx hx=>by
    have h2:=(hd.mem_erase_iff).1 hx;have:=h x h2.2;have:=h2.1;omega)
   rw [List.length_erase_of_mem hm] at h1;omega
  ·have h1:=jc0 n l hd (λx hx=>by
    have:=h x hx;have:x≠n:=λe=>hm (e▸hx)
    omega)
   omega
def isE (es:List Ed) (a b:Int):Prop:=∃e∈es,e.src=a/\e.dst=b
inductive Rc (es:List Ed):Int->Int->Prop
 |one {a b:Int}:isE es a b->Rc es a b
 |step {a b c:Int}:Rc es a b->isE es b c->Rc es a c
def Rk (es:List Ed):Nat->Int->Int->Prop
 |0,_,_=>False
 |k+1,a,b=>isE es a b\/∃c,isE es a c/\Rk es k c b
section
variable {es:List Ed}
theorem Rk.mono {a b:Int}:∀{k:Nat},Rk es k a b->Rk es (k+1) a b:=by
 intro k
 induction k generalizing a with
 |zero=>intro h;exact h.elim
 |succ k ih=>
  rintro (h|⟨c,h1,h2⟩)
  ·exact .inl h
  ·exact .inr ⟨c,h1,ih h2⟩
theorem Rk.le {a b:Int} {k m:Nat} (h:Rk es k a b) (hk:k<=m):Rk es m a b:=by
 induction m with
 |zero=>obtain rfl:k=0:=by omega
        exact h
 |succ m ih=>
  by_cases e:k=m+1
  ·subst e;exact h
  ·exact (ih (by omega)).mono
theorem Rk.snoc {a b c:Int} (he:isE es b c):∀{k:Nat},Rk es k a b->Rk es (k+1) a c:=by
 intro k
 induction k generalizing a with
 |zero=>intro h;exact h.elim
 |succ k ih=>
  rintro (h|⟨d,h1,h2⟩)
  ·exact .inr ⟨b,h,.inl he⟩
  ·exact .inr ⟨d,h1,ih h2⟩
theorem Rc.rk {a b:Int} (h:Rc es a b):∃k,Rk es k a b:=by
 induction h with
 |one h=>exact ⟨1,.inl h⟩
 |step _ h ih=>obtain ⟨k,hk⟩:=ih;exact ⟨k+1,hk.snoc h⟩
theorem Rc.cons {a b c:Int} (he:isE es a b) (h:Rc es b c):Rc es a c:=by
 induction h with
 |one h=>exact .step (.one he) h
 |step _ h ih=>exact .step ih h
theorem jvN {α:Type} {p q:α->Bool} {l:List α} (h:∀x∈l,p x=true->q x=true) {x:α} (hx:x∈l) (hq:q x=true) (hp:p x=false):(l.filter p).length<(l.filter q).length:=by
 induction l with
 |nil=>simp at hx
 |cons a l ih=>
  have cX:(l.filter p).length<=(l.filter q).length:=by
   clear ih hx
   induction l with
   |nil=>simp
   |cons b l ih=>
    have:=ih (λx hx=>h x (by simp only [aNB] at hx⊢;rcases hx with rfl|hx<;>simp_all))
    by_cases hb:p b=true
    ·have:=h b (by simp) hb
     simp [aOX,hb,this];omega
    ·by_cases bA:q b=true<;>simp [aOX,hb,bA]<;>omega
  rcases aNB.1 hx with rfl|hx
  ·simp [aOX,hq,hp];omega
  ·have:=ih (λx hx=>h x (by simp [hx])) hx
   by_cases hb:p a=true
   ·have:=h a (by simp) hb
    simp [aOX,hb,this];omega
   ·by_cases bA:q a=true<;>simp [aOX,hb,bA]<;>omega
open Classical in
theorem Rc.enough {n:Nat} (bV:∀e∈es,0<=e.src/\e.src<n) {a b:Int} (h:Rc es a b):Rk es n a b:=by
 let f:Nat->List Nat:=λk=>(List.range n).filter λ(i:Nat)=>decide (Rk es k (i:Int) b)
 have lF:∀{k:Nat} {a:Int},Rk es k a b->∃i:Nat,i<n/\a=i:=by
  intro k a hk
  have:∃c,isE es a c:=by
   cases k with
   |zero=>exact hk.elim
   |succ k=>rcases hk with h|⟨c,h,_⟩<;>exact ⟨_,h⟩
  obtain ⟨c,e,he,rfl,rfl⟩:=this;have:=bV e he;exact ⟨e.src.toNat,by omega,by omega⟩
 have key:∀k,k<=n->(k<=(f k).length)\/∃m,m<k/\∀a,Rk es (m+1) a b->Rk es m a b:=by
  intro k
  induction k with
  |zero=>intro _;exact .inl (aNE _)
  |succ k ih=>
   intro hk;rcases ih (by omega) with h1|⟨m,h1,h2⟩
   ·by_cases hs:∀a,Rk es (k+1) a b->Rk es k a b
    ·exact .inr ⟨k,by omega,hs⟩
    ·simp only [Classical.not_forall] at hs
     obtain ⟨a,h3,h4⟩:=hs;obtain ⟨i,hi,rfl⟩:=lF h3;refine .inl (Nat.lt_of_le_of_lt h1 ?_);exact jvN (x:=i) (λx _ hx=>by simp at hx⊢;exact hx.mono) (by simpa using hi) (by simpa using h3) (by simpa using h4)
   ·exact .inr ⟨m,by omega,h2⟩
 obtain ⟨k,hk⟩:=h.rk;rcases key n (aMV _) with h1|⟨m,h1,h2⟩
 ·obtain ⟨i,hi,rfl⟩:=lF hk
  have cK:∀x∈List.range n,(λ(i:Nat)=>decide (Rk es n (i:Int) b)) x=true:=by
   have cX:=aNH (λ(i:Nat)=>decide (Rk es n (i:Int) b)) (List.range n)
   rw [List.length_range] at cX;refine List.length_filter_eq_length_iff.1 ?_;rw [List.length_range];exact Nat.le_antisymm cX h1
  simpa using cK i (by simpa using hi)
 ·have:∀k a,Rk es k a b->Rk es m a b:=by
   intro k
   induction k with
   |zero=>intro a h;exact h.elim
   |succ k ih=>
    rintro a (h|⟨c,h3,h4⟩)
    ·exact h2 a (.inl h)
    ·exact h2 a (.inr ⟨c,h3,ih c h4⟩)
  exact (this k a hk).le (by omega)
end
def jal (S:List Nat) (e:Ed):List Nat:=S.set e.src.toNat (S.getD e.src.toNat 0|||(2^e.dst.toNat|||S.getD e.dst.toNat 0))
def rnd (es:List Ed) (S:List Nat):List Nat:=es.foldl jal S
def jpz (es:List Ed):Nat->List Nat->List Nat
 |0,S=>S
 |k+1,S=>rnd es (jpz es k S)
def jd8 (es:List Ed) (n:Nat):List Nat:=jpz es n (List.replicate n 0)
def okE (n:Nat) (e:Ed):Prop:=(0<=e.src/\e.src<n)/\(0<=e.dst/\e.dst<n)
section
variable {es:List Ed} {n:Nat}
theorem jcM (S:List Nat) (e:Ed):(jal S e).length=S.length:=by simp [jal]
theorem jxP (S:List Nat) (i j v:Nat):(S.set i v).getD j 0=if i=j/\j<S.length then v else S.getD j 0:=by
 simp only [aOJ,aNY];by_cases h:i=j
 ·subst h
  by_cases hl:i<S.length
  ·simp [hl]
  ·simp [hl]
 ·simp [h]
theorem jjy {S:List Nat} {e:Ed} (he:okE n e) (hS:S.length=n) (a b:Nat):((jal S e).getD a 0).testBit b=if a=e.src.toNat then ((S.getD a 0).testBit b||(decide (b=e.dst.toNat)||(S.getD e.dst.toNat 0).testBit b)) else (S.getD a 0).testBit b:=by
 obtain ⟨⟨h1,h2⟩,h3,h4⟩:=he;unfold jal;rw [jxP];by_cases h:a=e.src.toNat
 ·subst h
  rw [if_pos ⟨rfl,by omega⟩,if_pos rfl]
  simp only [Nat.testBit_or,Nat.testBit_two_pow]
  congr 2
  by_cases e:e.dst.toNat=b<;>simp [e,eq_comm]
  intro h;exact absurd h.symm e
 ·rw [if_neg (λh'=>h h'.1.symm),if_neg h]
def Snd (es:List Ed) (n:Nat) (S:List Nat):Prop:=S.length=n/\∀a b:Nat,(S.getD a 0).testBit b=true->Rc es a b
def Cpl (es:List Ed) (k:Nat) (S:List Nat):Prop:=∀a b:Nat,Rk es k a b->(S.getD a 0).testBit b=true
theorem jw2 {S:List Nat} {e:Ed} (he:okE n e) (hm:e∈es) (h:Snd es n S):Snd es n (jal S e):=by
 refine ⟨by rw [jcM];exact h.1,λa b hb=>?_⟩
 rw [jjy he h.1] at hb;obtain ⟨⟨h1,h2⟩,h3,h4⟩:=he;split at hb
 ·rename_i ha
  simp only [Bool.or_eq_true,aNC] at hb;have hE:isE es a e.dst:=⟨e,hm,by omega,rfl⟩
  rcases hb with hb|hb|hb
  ·exact h.2 a b hb
  ·rw [show (b:Int)=e.dst by omega];exact .one hE
  ·have:=h.2 _ b hb
   rw [show ((e.dst.toNat:Nat):Int)=e.dst by omega] at this
   exact .cons hE this
 ·exact h.2 a b hb
theorem jq0:∀{l:List Ed} {S:List Nat},(∀e∈l,okE n e/\e∈es)->Snd es n S->Snd es n (l.foldl jal S)
 |[],_,_,h=>h
 |e::l,S,hl,h=>jq0 (l:=l) (S:=jal S e) (λe he=>hl e (by simp [he])) (jw2 (hl e (by simp)).1 (hl e (by simp)).2 h)
theorem jnN {S:List Nat} {e:Ed} (he:okE n e) (hS:S.length=n) {a b:Nat} (h:(S.getD a 0).testBit b=true):((jal S e).getD a 0).testBit b=true:=by
 rw [jjy he hS];split<;>simp only [h,Bool.true_or]
theorem joU:∀{l:List Ed} {S:List Nat},(∀e∈l,okE n e)->S.length=n->∀{a b:Nat},(S.getD a 0).testBit b=true->((l.foldl jal S).getD a 0).testBit b=true
 |[],_,_,_,_,_,h=>h
 |e::l,S,hl,hS,a,b,h=>joU (l:=l) (S:=jal S e) (λe he=>hl e (by simp [he])) (by rw [jcM];exact hS) (jnN (hl e (by simp)) hS h)
theorem jnj:∀(l:List Ed) (S:List Nat),(l.foldl jal S).length=S.length
 |[],_=>rfl
 |e::l,S=>by rw [aPC,jnj l,jcM]
theorem jni:∀{l:List Ed} {S:List Nat},(∀e∈l,okE n e)->S.length=n->∀{e:Ed} {b:Nat},e∈l->(b=e.dst.toNat\/(S.getD e.dst.toNat 0).testBit b=true)->((l.foldl jal S).getD e.src.toNat 0).testBit b=true
 |[],_,_,_,_,_,h,_=>by simp at h
 |e'::l,S,hl,hS,e,b,hm,hb=>by
  rw [aPC];by_cases fD:e=e'
  ·subst fD
   refine joU (l:=l) (S:=jal S e) (λe he=>hl e (by simp [he])) (by rw [jcM];exact hS) ?_
   rw [jjy (hl e (by simp)) hS,if_pos rfl]
   rcases hb with hb|hb
   ·simp only [hb,decide_true,Bool.true_or,Bool.or_true]
   ·simp only [hb,Bool.or_true]
  ·have nC:e∈l:=(aNB.1 hm).resolve_left fD
   refine jni (l:=l) (S:=jal S e') (λe he=>hl e (by simp [he])) (by rw [jcM];exact hS) nC (hb.imp id λhb=>jnN (hl e' (by simp)) hS hb)
theorem jzS {S:List Nat} {k:Nat} (bV:∀e∈es,okE n e) (hS:S.length=n) (h:Cpl es k S):Cpl es (k+1) (rnd es S):=by
 rintro a b (⟨e,he,h1,h2⟩|⟨c,⟨e,he,h1,h2⟩,h3⟩)
 ·have:=jni bV hS (b:=b) he (.inl (by omega))
  rwa [show e.src.toNat=a by omega] at this
 ·have hc:(e.dst.toNat:Int)=c:=by have:=(bV e he).2.1;omega
  have:=jni bV hS (b:=b) he (.inr (h _ b (by rw [hc];exact h3)))
  rwa [show e.src.toNat=a by omega] at this
theorem jq8 (k:Nat) (S:List Nat):(jpz es k S).length=S.length:=by
 induction k with
 |zero=>rfl
 |succ k ih=>rw [jpz,rnd,jnj,ih]
theorem jtT:(jd8 es n).length=n:=by rw [jd8,jq8,aPN]
theorem jxn (a:Nat):(List.replicate n 0).getD a 0=0:=by
 simp only [aOJ,List.getElem?_replicate];split<;>rfl
theorem jtU (bV:∀e∈es,okE n e) (a b:Nat):((jd8 es n).getD a 0).testBit b=true↔Rc es a b:=by
 have h1:∀k,Snd es n (jpz es k (List.replicate n 0)):=by
  intro k
  induction k with
  |zero=>exact ⟨by simp [jpz],λa b hb=>by rw [jpz,jxn] at hb;simp at hb⟩
  |succ k ih=>exact jq0 (λe he=>⟨bV e he,he⟩) ih
 have h2:∀k,Cpl es k (jpz es k (List.replicate n 0)):=by
  intro k
  induction k with
  |zero=>exact λa b h=>h.elim
  |succ k ih=>exact jzS bV (h1 k).1 ih
 constructor
 ·exact (h1 n).2 a b
 ·intro h;exact h2 n a b (h.enough λe he=>(bV e he).1)
theorem jzq {S:List Nat} {e:Ed} (he:okE n e) (h:∀x∈S,x<2^n):∀x∈jal S e,x<2^n:=by
 have hg:∀i,S.getD i 0<2^n:=by
  intro i;rw [aOJ];cases hi:S[i]? with
  |none=>simp;exact Nat.two_pow_pos n
  |some v=>exact h v (aMJ hi)
 intro x hx;rcases List.mem_or_eq_of_mem_set hx with hx|rfl
 ·exact h x hx
 ·refine Nat.or_lt_two_pow (hg _) (Nat.or_lt_two_pow ?_ (hg _))
  obtain ⟨_,h3,h4⟩:=he;exact Nat.pow_lt_pow_right (by omega) (by omega)
end
def inB (n a b:Int):Bool:=decide (a<=n/\n<=b)
def zb (p:Pl):Bool:=!inB p.aLT 1 12||decide (30<p.aLY.length)||!inB p.aMC 0 9||!inB p.aMG 1 5||!inB p.aMF 1 20
def jjq (n:Int) (e:Ed):Bool:=!inB e.src 0 (n-1)||!inB e.dst 0 (n-1)
open Classical in
noncomputable def jC3 (p:Pl):Bool:=decide (∃t:Nat,(t:Int)<p.aLT/\Rc p.aLY t t)
noncomputable def jr (p:Pl):Int:=if zb p then 1 else if p.aLY.any (jjq p.aLT) then 2 else if decide (p.aLY.Nodup) then (if jC3 p then 4 else 0) else 3
theorem jvc {n:Int} {es:List Ed} (h:es.any (jjq n)=false):∀e∈es,okE n.toNat e:=by
 intro e he;have:=List.any_eq_false.1 h e he;simp only [jjq,inB,Bool.or_eq_true,Bool.not_eq_true',aNK,not_or,Classical.not_not] at this;obtain ⟨⟨h1,h2⟩,h3,h4⟩:=this;exact ⟨⟨h1,by omega⟩,h3,by omega⟩
def jpp (n:Nat) (r:List Int):List Bool:=(List.range n).map λ(k:Nat)=>decide ((k:Int)∈r)
open Classical in
noncomputable def rcB (es:List Ed) (a b:Int):Bool:=decide (Rc es a b)
theorem rcB_iff {es:List Ed} {a b:Int}:rcB es a b=true↔Rc es a b:=by simp [rcB]
noncomputable def jj8 (es:List Ed) (n:Nat) (t:Int):List Bool:=(List.range n).map λ(k:Nat)=>rcB es t k
def jAZ (es:List Ed) (n:Nat) (t:Int) (h:Nat) (r:List Int):Prop:=
 r.Nodup/\(∀x∈r,(0<=x/\x<n)/\Rc es t x)/\h<=(t::r).length/\∀j,j<h->∀x,(t::r)[j]?=some x->∀e∈es,e.src=x->e.dst∈r
def BIn (es:List Ed) (n:Nat) (t:Int) (h:Nat) (x:Int) (i:Nat) (r:List Int):Prop:=
 jAZ es n t h r/\(t::r)[h]?=some x/\∀e∈es.take i,e.src=x->e.dst∈r
section
variable {es:List Ed} {n:Nat} {t x:Int} {h i:Nat} {r:List Int}
theorem jaB:(jpp n r).length=n:=by simp [jpp]
theorem jjr {k:Nat} (hk:k<n):(jpp n r)[k]?=some (decide ((k:Int)∈r)):=by simp [jpp,hk]
theorem jyp {k:Nat} (hk:k<n):(jpp n r).set k true=jpp n (r++[(k:Int)]):=by
 apply aOR
 intro j;rw [aNY];by_cases hj:j<n
 ·rw [jjr hj,jjr hj]
  by_cases e:k=j
  ·subst e;simp [jaB,hk]
  ·have e':¬(j:Int)=k:=by omega
   simp [e,e']
 ·have h1:(jpp n r)[j]?=none:=aOH (by rw [jaB];omega)
  have h2:(jpp n (r++[(k:Int)]))[j]?=none:=aOH (by rw [jaB];omega)
  rw [h1,h2,if_neg (by omega)]
theorem jDa:jAZ es n t 0 []:=⟨List.nodup_nil,by simp,by simp,λj hj=>by omega⟩
theorem jr5 (h:jAZ es n t h r):r.length<=n:=jc0 n r h.1 λx hx=>(h.2.1 x hx).1
theorem bIn_0 (hb:jAZ es n t h r) (hx:(t::r)[h]?=some x):BIn es n t h x 0 r:=⟨hb,hx,by simp⟩
theorem jza {e:Ed} (hb:BIn es n t h x i r) (he:es[i]?=some e) (hq:e.src=x->e.dst∈r):BIn es n t h x (i+1) r:=by
 refine ⟨hb.1,hb.2.1,λe' fE=>?_⟩
 rw [aMT,he] at fE;rcases aMN.1 fE with h1|h1
 ·exact hb.2.2 e' h1
 ·simp at h1;subst h1;exact hq
theorem jAV {e:Ed} (hb:BIn es n t h x i r) (he:es[i]?=some e) (hs:e.src=x) (hd:e.dst∉r) (hr:0<=e.dst/\e.dst<n) (ht:h=0->x=t):BIn es n t h x (i+1) (r++[e.dst]):=by
 obtain ⟨⟨h1,h2,h3,h4⟩,h5,h6⟩:=hb;have hm:e∈es:=aMJ he
 have hR:Rc es t e.dst:=by
  have hE:isE es x e.dst:=⟨e,hm,hs,rfl⟩;cases h with
  |zero=>simp at h5;subst h5;exact .one hE
  |succ h=>exact .step (h2 x (aMJ (by simpa using h5))).2 hE
 have aB:h<(t::r).length:=(aMI.1 h5).1;refine ⟨⟨?_,λy hy=>?_,by simp at aB⊢;omega,λj hj y hy e' fE mJ=>?_⟩,?_,λe' fE mJ=>?_⟩
 ·rw [aMS];exact ⟨h1,by simp,λa ha b hb=>by simp at hb;subst hb;exact λe=>hd (e▸ha)⟩
 ·rcases aMN.1 hy with hy|hy
  ·exact h2 y hy
  ·simp at hy;subst hy;exact ⟨hr,hR⟩
 ·rw [show t::(r++[e.dst])=(t::r)++[e.dst] from rfl,aPA (by omega)] at hy
  exact List.mem_append_left _ (h4 j hj y hy e' fE mJ)
 ·rw [show t::(r++[e.dst])=(t::r)++[e.dst] from rfl,aPA aB];exact h5
 ·rw [aMT,he] at fE
  rcases aMN.1 fE with h7|h7
  ·exact List.mem_append_left _ (h6 e' h7 mJ)
  ·simp at h7;subst h7;simp
theorem jws (hb:BIn es n t h x i r) (hi:es.length<=i):jAZ es n t (h+1) r:=by
 obtain ⟨⟨h1,h2,h3,h4⟩,h5,h6⟩:=hb;rw [aMO hi] at h6;have aB:h<(t::r).length:=(aMI.1 h5).1;refine ⟨h1,h2,by omega,λj hj y hy=>?_⟩
 by_cases e:j=h
 ·subst e;rw [h5] at hy;cases hy;exact h6
 ·exact h4 j (by omega) y hy
theorem jwt (hb:jAZ es n t h r) (hl:(t::r).length<=h):jpp n r=jj8 es n t:=by
 obtain ⟨h1,h2,h3,h4⟩:=hb
 have dG:∀x∈t::r,∀e∈es,e.src=x->e.dst∈r:=λx hx=>by
  obtain ⟨j,hj,hxj⟩:=aNO hx;exact h4 j (by omega) x (by rw [aMK hj,hxj])
 have hR:∀y,Rc es t y->y∈r:=by
  intro y hy
  induction hy with
  |one h=>obtain ⟨e,he,h5,h6⟩:=h;exact h6▸dG _ (by simp) e he h5
  |step _ h ih=>obtain ⟨e,he,h5,h6⟩:=h;exact h6▸dG _ (List.mem_cons_of_mem _ ih) e he h5
 unfold jpp jj8;refine List.map_congr_left λk _=>?_
 by_cases hk:(k:Int)∈r
 ·rw [decide_eq_true hk,rcB_iff.2 (h2 _ hk).2]
 ·rw [decide_eq_false hk]
  cases hq:rcB es t k with
  |true=>exact absurd (hR _ (rcB_iff.1 hq)) hk
  |false=>rfl
theorem joT {k:Nat} (hk:k<n):(jj8 es n t)[k]?=some (rcB es t k):=by simp [jj8,hk]
theorem jf1:(jj8 es n t).length=n:=by simp [jj8]
end
def jjA (n:Nat) (A:List Int):List Int:=(List.range n).flatMap λ(t:Nat)=>List.replicate (A.count (t:Int)) (t:Int)
theorem jyE (A:List Int):jjA 0 A=[]:=rfl
theorem jcN (n:Nat) (A:List Int):jjA (n+1) A=jjA n A++List.replicate (A.count (n:Int)) (n:Int):=by simp [jjA,List.range_succ]
theorem jfD {A:List Int}:∀{n:Nat} {x:Int},x∈jjA n A->(0<=x/\x<n)/\x∈A
 |0,x,h=>by simp [jjA] at h
 |n+1,x,h=>by
  rw [jcN] at h;rcases aMN.1 h with h|h
  ·have:=jfD h;exact ⟨by omega,this.2⟩
  ·obtain ⟨h1,h2⟩:=List.mem_replicate.1 h
   refine ⟨by omega,?_⟩
   rw [h2];exact List.count_pos_iff.1 (by omega)
theorem jjz (A:List Int):∀(n:Nat),(jjA n A).Pairwise (· <= ·)
 |0=>by simp [jjA]
 |n+1=>by
  rw [jcN,List.pairwise_append];refine ⟨jjz A n,?_,λa ha b hb=>?_⟩
  ·rw [List.pairwise_replicate];right;exact Int.le_refl _
  ·have:=jfD ha
   have:=(List.mem_replicate.1 hb).2;omega
theorem jlx (A:List Int) (x:Int):∀(n:Nat),(jjA n A).count x=if 0<=x/\x<n then A.count x else 0
 |0=>by rw [if_neg (by omega)];simp [jjA]
 |n+1=>by
  rw [jcN,List.count_append,jlx A x n,List.count_replicate];by_cases h:x=n
  ·subst h
   rw [if_neg (by omega),if_pos (by simp),if_pos (by omega)];omega
  ·have h2:((n:Int)==x)=false:=by simpa using λe=>h e.symm
   simp only [h2,aOZ,if_false];by_cases h3:0<=x/\x<n
   ·rw [if_pos h3,if_pos (by omega)];rfl
   ·rw [if_neg h3,if_neg (by omega)]
theorem jbA {n:Nat} {A:List Int} (h:∀x∈A,0<=x/\x<n):(jjA n A).Perm A:=by
 rw [List.perm_iff_count];intro x;rw [jlx];split
 ·rfl
 ·rename_i hx
  exact (List.count_eq_zero.2 λhm=>hx (h x hm)).symm
theorem jw1 {n:Nat} {A:List Int} (h:∀x∈A,0<=x/\x<n):(jjA n A).length=A.length:=(jbA h).length_eq
theorem jnO:∀{s t:List Int},s.Perm t->s.Pairwise (· <= ·)->t.Pairwise (· <= ·)->s=t
 |[],t,h,_,_=>h.nil_eq
 |a::s,[],h,_,_=>absurd h.length_eq (by simp)
 |a::s,b::t,h,h1,h2=>by
  rw [List.pairwise_cons] at h1 h2
  have nL:a=b:=by
   have ha:a∈b::t:=h.mem_iff.1 (by simp)
   have hb:b∈a::s:=h.mem_iff.2 (by simp)
   rcases aNB.1 ha with ha|ha
   ·exact ha
   rcases aNB.1 hb with hb|hb
   ·exact hb.symm
   exact Int.le_antisymm (h1.1 b hb) (h2.1 a ha)
  subst nL;rw [jnO ((List.perm_cons a).1 h) h1.2 h2.2]
theorem jsm {n:Nat} {A s:List Int} (h:∀x∈A,0<=x/\x<n) (hp:s.Perm A) (hs:s.Pairwise (· <= ·)):s=jjA n A:=jnO (hp.trans (jbA h).symm) hs (jjz A n)
def swp (l:List Int) (j:Nat):List Int:=(l.set (j+1) (l.getD j 0)).set j (l.getD (j+1) 0)
theorem jwY {l:List Int} {j:Nat} (h:j+1<l.length):(swp l j).Perm l:=by
 have e:l=l.take j++l[j]::l[j+1]::l.drop (j+2):=by rw [<-aOC h,<-aOC,aNW]
 have e2:swp l j=l.take j++l[j+1]::l[j]::l.drop (j+2):=by
  apply aOR
  intro k;have h1:l.getD j 0=l[j]:=by rw [aOJ,aMK (by omega)];rfl
  have h2:l.getD (j+1) 0=l[j+1]:=by rw [aOJ,aMK h];rfl
  have ht:(l.take j).length=j:=by rw [aMP];omega
  simp only [swp,h1,h2,aNY,aMU];by_cases k1:j=k
  ·subst k1;rw [if_pos rfl,if_pos (by omega),aOA (by omega),ht];simp
  ·rw [if_neg k1]
   by_cases k2:j+1=k
   ·subst k2;rw [if_pos rfl,if_pos (by omega),aOA (by omega),ht];simp
   ·rw [if_neg k2]
    by_cases k3:k<j
    ·rw [aPA (by omega),List.getElem?_take_of_lt k3]
    ·rw [aOA (by omega),ht]
     obtain ⟨m,rfl⟩:∃m,k=j+2+m:=⟨k-(j+2),by omega⟩
     rw [show j+2+m-j=m+2 by omega,List.getElem?_cons_succ,List.getElem?_cons_succ,aOF]
 rw [e2]
 conv=>rhs;rw [e]
 exact aPD _ (List.Perm.swap _ _ _)
theorem jud {l:List Int} {j:Nat} (h:j+1<l.length) (p:Nat):(swp l j).getD p 0=if p=j then l.getD (j+1) 0 else if p=j+1 then l.getD j 0 else l.getD p 0:=by
 simp only [swp,aOJ,aNY,aMU];by_cases k1:p=j
 ·subst k1;simp [show p<l.length from by omega]
 by_cases k2:p=j+1
 ·subst k2;simp [h]
 ·have k3:¬j=p:=λe=>k1 e.symm
  have k4:¬j+1=p:=λe=>k2 e.symm
  simp [k1,k2,k3,k4]
def SO (A l:List Int) (i:Nat):Prop:=l.Perm A/\∀p q:Nat,p<q->q<i->l.getD p 0<=l.getD q 0
def SI (A l:List Int) (i j:Nat):Prop:=l.Perm A/\j<=i/\∀p q:Nat,p<q->q<=i->q≠j->l.getD p 0<=l.getD q 0
theorem SO_1 (A:List Int):SO A A 1:=⟨.refl A,λp q h h'=>by omega⟩
theorem SI_0 {A l:List Int} {i:Nat} (h:SO A l i):SI A l i i:=⟨h.1,aMV _,λp q h1 h2 h3=>h.2 p q h1 (by omega)⟩
theorem jDj {A l:List Int} {i j:Nat} (h:SI A l i (j+1)) (hi:i<l.length) (aB:l.getD (j+1) 0<l.getD j 0):SI A (swp l j) i j:=by
 obtain ⟨h1,h2,h3⟩:=h;have hj:j+1<l.length:=by omega
 refine ⟨(jwY hj).trans h1,by omega,λp q wW hq aR=>?_⟩
 rw [jud hj,jud hj,if_neg aR];by_cases q1:q=j+1
 ·subst q1
  rw [if_pos rfl];by_cases p1:p=j
  ·rw [if_pos p1];omega
  ·rw [if_neg p1,if_neg (by omega)];exact h3 p j (by omega) (by omega) (by omega)
 ·rw [if_neg q1]
  by_cases p1:p=j
  ·rw [if_pos p1];exact h3 (j+1) q (by omega) hq q1
  ·rw [if_neg p1]
   by_cases p2:p=j+1
   ·rw [if_pos p2];exact h3 j q (by omega) hq q1
   ·rw [if_neg p2];exact h3 p q wW hq q1
theorem jze {A l:List Int} {i j:Nat} (h:SI A l i j) (he:j=0\/∃k,j=k+1/\l.getD k 0<=l.getD j 0):SO A l (i+1):=by
 obtain ⟨h1,h2,h3⟩:=h;refine ⟨h1,λp q wW hq=>?_⟩
 by_cases e:q=j
 ·subst e
  rcases he with he|⟨k,rfl,h4⟩
  ·omega
  ·by_cases e2:p=k
   ·subst e2;exact h4
   ·exact Int.le_trans (h3 p k (by omega) (by omega) (by omega)) h4
 ·exact h3 p q wW (by omega) e
theorem jDi {A l:List Int} {i:Nat} (h:SO A l i) (hi:l.length<=i):l.Pairwise (· <= ·):=by
 rw [List.pairwise_iff_getElem];intro p q hp hq wW;have:=h.2 p q wW (by omega)
 rw [aOJ,aOJ,aMK hp,aMK hq] at this;exact this
theorem jyD {n:Nat} {A l:List Int} {i:Nat} (h:∀x∈A,0<=x/\x<n) (hs:SO A l i) (hi:l.length<=i):l=jjA n A:=jsm h hs.1 (jDi hs hi)
def jft (es:List Ed) (t:Int):List Int:=(es.filter λe=>e.dst==t).map (·.src)
def jfs (es:List Ed) (t:Int):List Int:=(es.filter λe=>e.src==t).map (·.dst)
def zQ (p:Pl) (t:Int):List Int:=jjA p.aLT.toNat (jft p.aLY t)
def jbW (p:Pl) (t:Int):List Int:=jjA p.aLT.toNat (jfs p.aLY t)
section
variable {es:List Ed} {k n:Nat} {e:Ed}
theorem jpo (h:es[k]?=some e) (t:Int):jft (es.take (k+1)) t=jft (es.take k) t++(if e.dst=t then [e.src] else []):=by
 rw [aMT,h];by_cases ht:e.dst=t<;>simp [jft,ht]
theorem jpn (h:es[k]?=some e) (t:Int):jfs (es.take (k+1)) t=jfs (es.take k) t++(if e.src=t then [e.dst] else []):=by
 rw [aMT,h];by_cases ht:e.src=t<;>simp [jfs,ht]
theorem jtF (h:es[k]?=some e) (x t:Int):(jft (es.take (k+1)) t).count x=(jft (es.take k) t).count x+(if e.src=x/\e.dst=t then 1 else 0):=by
 rw [jpo h,List.count_append];by_cases ht:e.dst=t<;>by_cases hx:e.src=x<;>simp [ht,hx]
theorem jtD (h:es[k]?=some e) (x t:Int):(jfs (es.take (k+1)) t).count x=(jfs (es.take k) t).count x+(if e.src=t/\e.dst=x then 1 else 0):=by
 rw [jpn h,List.count_append];by_cases ht:e.src=t<;>by_cases hx:e.dst=x<;>simp [ht,hx]
theorem jkI (bV:∀e∈es,okE n e) (t:Int):∀x∈jft es t,0<=x/\x<n:=by
 intro x hx;simp only [jft,aOB,aOD] at hx;obtain ⟨e,⟨h1,-⟩,rfl⟩:=hx;exact (bV e h1).1
theorem jnB (bV:∀e∈es,okE n e) (t:Int):∀x∈jfs es t,0<=x/\x<n:=by
 intro x hx;simp only [jfs,aOB,aOD] at hx;obtain ⟨e,⟨h1,-⟩,rfl⟩:=hx;exact (bV e h1).2
theorem jmf (h:es.Nodup) (t:Int):(jft es t).Nodup:=by
 unfold jft List.Nodup;rw [List.pairwise_map];refine List.Pairwise.imp_of_mem ?_ (List.Pairwise.filter _ h);intro a b ha hb aR nL;simp only [aOD,aOO] at ha hb;exact aR (by cases a;cases b;simp_all)
theorem jme (h:es.Nodup) (t:Int):(jfs es t).Nodup:=by
 unfold jfs List.Nodup;rw [List.pairwise_map];refine List.Pairwise.imp_of_mem ?_ (List.Pairwise.filter _ h);intro a b ha hb aR nL;simp only [aOD,aOO] at ha hb;exact aR (by cases a;cases b;simp_all)
theorem jr4 (h:es.Nodup) (bV:∀e∈es,okE n e) (t:Int):(jft es t).length<=n:=jc0 n _ (jmf h t) (jkI bV t)
theorem jyo (h:es.Nodup) (bV:∀e∈es,okE n e) (t:Int):(jfs es t).length<=n:=jc0 n _ (jme h t) (jnB bV t)
end
theorem jcH {p:Pl} (h:jr p=0):∃n:Nat,p.aLT=n/\1<=n/\n<=12/\p.aLY.length<=30/\(∀e∈p.aLY,okE n e)/\p.aLY.Nodup/\(0<=p.aMC/\p.aMC<=9)/\(1<=p.aMG/\p.aMG<=5)/\(1<=p.aMF/\p.aMF<=20):=by
 unfold jr at h;cases hm:zb p
 ·rw [hm] at h
  simp only [aOZ,if_false] at h;cases hb:p.aLY.any (jjq p.aLT)
  ·rw [hb] at h
   simp only [aOZ,if_false] at h;by_cases hd:p.aLY.Nodup
   ·have bV:=jvc hb
    simp only [zb,inB,Bool.or_eq_false_iff,Bool.not_eq_false',aNC,aNK] at hm;obtain ⟨⟨⟨⟨h1,h2⟩,h3⟩,h4⟩,h5⟩:=hm;exact ⟨p.aLT.toNat,by omega,by omega,by omega,by omega,bV,hd,h3,h4,h5⟩
   ·rw [decide_eq_false hd] at h
    simp at h
  ·rw [hb] at h;simp at h
 ·rw [hm] at h;simp at h
def stT (ts:List Tk) (b:Int):Int:=((ts[b.toNat]?).getD default).aLV
theorem jmw {ts:List Tk} {b:Int} {x:Tk} (h:ts[b.toNat]?=some x):stT ts b=x.aLV:=by simp [stT,h]
theorem kt {ts:List Tk} {k:Nat} {x:Tk} (h:ts[k]?=some x):stT ts (k:Int)=x.aLV:=by simp [stT,h]
def zh (s:Int) (ts:List Tk) (k:Nat):List Int:=((List.range k).filter λ(j:Nat)=>stT ts (j:Int)==s).map λ(j:Nat)=>(j:Int)
def qQ (s:Int) (ts:List Tk):List Int:=zh s ts ts.length
def cS (s:Int) (ts:List Tk):Nat:=(qQ s ts).length
theorem jyz (s:Int) (ts:List Tk):zh s ts 0=[]:=rfl
theorem jcK {ts:List Tk} {k:Nat} {x:Tk} (h:ts[k]?=some x) (s:Int):zh s ts (k+1)=zh s ts k++(if x.aLV=s then [(k:Int)] else []):=by
 have hs:=kt h;by_cases hx:x.aLV=s<;>simp [zh,List.range_succ,hs,hx]
theorem vx (s:Int) (ts:List Tk) (k:Nat):(zh s ts k).length<=k:=by
 simp only [zh,aNT];exact aNX (aNH _ _) (by simp)
theorem jcJ {ts:List Tk} (h:∀x∈ts,1<=x.aLV/\x.aLV<=6):∀(k:Nat),k<=ts.length->(zh 1 ts k).length+(zh 2 ts k).length+(zh 3 ts k).length+(zh 4 ts k).length+(zh 5 ts k).length+(zh 6 ts k).length=k
 |0,_=>rfl
 |k+1,hk=>by
  have ih:=jcJ h k (by omega)
  have hx:ts[k]?=some ts[k]:=aMK (by omega)
  have:=h ts[k] (List.getElem_mem _);have:ts[k].aLV=1\/ts[k].aLV=2\/ts[k].aLV=3\/ts[k].aLV=4\/ts[k].aLV=5\/ts[k].aLV=6:=by omega
  simp only [jcK hx,aMR];rcases this with h1|h1|h1|h1|h1|h1<;>simp [h1]<;>omega
theorem jr1 {s:Int} {ts:List Tk} (h:cS s ts=0) {k:Nat} {x:Tk} (hx:ts[k]?=some x):x.aLV≠s:=by
 intro e;have hk:=(aMI.1 hx).1
 have:(k:Int)∈qQ s ts:=by
  simp only [qQ,zh,aOB,aOD,aPJ];exact ⟨k,⟨hk,by rw [kt hx];simpa using e⟩,rfl⟩
 rw [cS,aPH] at h;rw [h] at this;simp at this
theorem jd6 {s:Int} {ts:List Tk} (h:∀x∈ts,x.aLV≠s):cS s ts=0:=by
 rw [cS,aPH,qQ,zh,List.map_eq_nil_iff,List.filter_eq_nil_iff];intro k hk;rw [aPJ] at hk;have hx:ts[k]?=some ts[k]:=aMK hk;rw [kt hx];simpa using h _ (List.getElem_mem hk)
theorem jr0 {s:Int} {ts:List Tk} {k:Nat} {x:Tk} (hx:ts[k]?=some x) (h:x.aLV=s):0<cS s ts:=by
 rcases Nat.eq_zero_or_pos (cS s ts) with h0|h0
 ·exact absurd h (jr1 h0 hx)
 ·exact h0
def ja8 (p:Pl) (ts:List Tk) (t:Int):Int:=((((zQ p t).filter λb=>stT ts b !=4).length:Nat):Int)
def vg (p:Pl) (x:Tk):Bool:=if x.aLV=1 then decide (0<x.aME) else if x.aLV=2 then (x.aME==0&&decide (x.tri<p.aMG)) else if x.aLV=6 then true else (x.aME==0&&decide (1<=x.tri))
def jbz (x:Tk):Bool:=if x.aLV=3 then inB x.til 1 1000000000 else x.til==0
def jT (p:Pl) (ts:List Tk) (t:Nat) (x:Tk):Bool:=inB x.aLV 1 6&&x.aME==ja8 p ts t&&inB x.tri 0 p.aMG&&jbz x&&vg p x
def jg4 (ts:List Tk):Int:=if cS 4 ts=ts.length then 2 else if cS 5 ts=1/\cS 4 ts+cS 5 ts+cS 6 ts=ts.length then 3 else if cS 5 ts=0/\0<cS 6 ts/\cS 4 ts+cS 5 ts+cS 6 ts=ts.length then 4 else if cS 5 ts=0/\cS 6 ts=0 then 1 else 0
structure RunOkP (r:Rn):Prop where
 id:inB r.id 1 9999=true
 aLW:jr r.aLW=0
 len:(r.aLT.length:Int)=r.aLW.aLT
 aLT:∀(t:Nat) (x:Tk),r.aLT[t]?=some x->jT r.aLW r.aLT t x=true
 aLV:r.aLV=jg4 r.aLT
 live:r.aLV≠0
open Classical in
noncomputable def kO (r:Rn):Bool:=decide (RunOkP r)
theorem runOk_iff {r:Rn}:kO r=true↔RunOkP r:=by simp [kO]
theorem qZ {r:Rn} (h:¬RunOkP r):kO r=false:=by simp [kO,h]
theorem RunOkP.st {r:Rn} (h:RunOkP r):∀x∈r.aLT,1<=x.aLV/\x.aLV<=6:=by
 intro x hx;obtain ⟨k,hk,rfl⟩:=aNO hx;have:=h.aLT k _ (aMK hk);simp only [jT,inB,aMY,aNC] at this;exact this.1.1.1.1
theorem RunOkP.aLX {r:Rn} (h:RunOkP r) {t:Nat} {x:Tk} (hx:r.aLT[t]?=some x) (hs:x.aLV=3):r.aLV=1/\cS 5 r.aLT=0/\cS 6 r.aLT=0/\cS 4 r.aLT<r.aLT.length:=by
 have h3:=jr0 hx hs;have eF:=jcJ h.st r.aLT.length (aMV _);have e1:=h.aLV;have e2:=h.live;change cS 1 r.aLT+cS 2 r.aLT+cS 3 r.aLT+cS 4 r.aLT+cS 5 r.aLT+cS 6 r.aLT=_ at eF;unfold jg4 at e1;split at e1
 ·omega
 ·split at e1
  ·omega
  ·split at e1
   ·omega
   ·split at e1
    ·exact ⟨e1,by omega,by omega,by omega⟩
    ·exact absurd e1 e2
def ja4 (ts:List Tk) (b:Int):List Tk:=match ts[b.toNat]? with
 |some x=>ts.set b.toNat ⟨if IntKind.i64.wrap (x.aME-1)=0 then 2 else x.aLV,IntKind.i64.wrap (x.aME-1),x.tri,x.til⟩
 |none=>ts
theorem jue (ts:List Tk) (b:Int):(ja4 ts b).length=ts.length:=by unfold ja4;split<;>simp
theorem jf5:∀(l:List Int) (ts:List Tk),(l.foldl ja4 ts).length=ts.length
 |[],_=>rfl
 |b::l,ts=>by rw [aPC,jf5 l,jue]
theorem jw0 {ts:List Tk} {b:Int} {q:Int->Prop} (h2:q 2) (h:∀x∈ts,q x.aLV):∀x∈ja4 ts b,q x.aLV:=by
 unfold ja4;cases hx:ts[b.toNat]? with
 |none=>exact h
 |some x=>
  intro y hy;rcases List.mem_or_eq_of_mem_set hy with hy|rfl
  ·exact h y hy
  ·dsimp only;split
   ·exact h2
   ·exact h x (aMJ hx)
theorem jrH {q:Int->Prop} (h2:q 2):∀{l:List Int} {ts:List Tk},(∀x∈ts,q x.aLV)->∀x∈l.foldl ja4 ts,q x.aLV
 |[],_,h=>h
 |b::l,ts,h=>jrH h2 (l:=l) (ts:=ja4 ts b) (jw0 h2 h)
def vS (p:Pl) (ts:List Tk) (t:Nat) (x:Tk):List Tk:=(jbW p t).foldl ja4 (ts.set t ⟨4,x.aME,x.tri,0⟩)
def jhn (r:Rn) (t:Nat) (x:Tk):Rn:=⟨r.id,r.aLW,if cS 4 (vS r.aLW r.aLT t x)=r.aLT.length then 2 else r.aLV,vS r.aLW r.aLT t x⟩
theorem jaW (p:Pl) (ts:List Tk) (t:Nat) (x:Tk):(vS p ts t x).length=ts.length:=by rw [vS,jf5,aMU]
theorem jh4 {ts:List Tk} {t:Nat} {y:Tk} {q:Int->Prop} (hy:q y.aLV) (h:∀x∈ts,q x.aLV):∀x∈ts.set t y,q x.aLV:=by
 intro z hz;rcases List.mem_or_eq_of_mem_set hz with hz|rfl
 ·exact h z hz
 ·exact hy
theorem jnn {p:Pl} {ts:List Tk} {t:Nat} {x:Tk} {q:Int->Prop} (h2:q 2) (h4:q 4) (h:∀x∈ts,q x.aLV):∀y∈vS p ts t x,q y.aLV:=jrH h2 (jh4 h4 h)
theorem jl8 {r:Rn} (h:RunOkP r) {t:Nat} {x:Tk} (hx:r.aLT[t]?=some x) (hs:x.aLV=3):jg4 (vS r.aLW r.aLT t x)=(jhn r t x).aLV:=by
 obtain ⟨e1,e2,e3,e4⟩:=h.aLX hx hs;have h5:∀y∈r.aLT,y.aLV≠5:=λy hy=>by obtain ⟨k,hk,rfl⟩:=aNO hy;exact jr1 e2 (aMK hk)
 have h6:∀y∈r.aLT,y.aLV≠6:=λy hy=>by obtain ⟨k,hk,rfl⟩:=aNO hy;exact jr1 e3 (aMK hk)
 have c5:=jd6 (jnn (p:=r.aLW) (t:=t) (x:=x) (q:=λs=>s≠5) (by decide) (by decide) h5)
 have c6:=jd6 (jnn (p:=r.aLW) (t:=t) (x:=x) (q:=λs=>s≠6) (by decide) (by decide) h6)
 simp only [jg4,c5,c6,jaW,jhn,e1];simp
def vn (f:Nat->Tk->Tk) (ts:List Tk) (k:Nat):List Tk:=ts.mapIdx λj x=>if j<k then f j x else x
section
variable {f:Nat->Tk->Tk} {ts:List Tk} {k:Nat} {x:Tk}
theorem vX:(vn f ts k).length=ts.length:=by simp [vn]
theorem jrt:vn f ts 0=ts:=by
 apply aOR
 intro j;simp [vn,List.getElem?_mapIdx]
theorem jfP (h:ts[k]?=some x):(vn f ts k)[k]?=some x:=by simp [vn,List.getElem?_mapIdx,h]
theorem jfO (h:ts[k]?=some x):(vn f ts k).set k (f k x)=vn f ts (k+1):=by
 have hk:=(aMI.1 h).1
 apply aOR
 intro j;rw [aNY];by_cases e:k=j
 ·subst e
  rw [if_pos rfl,vX,if_pos hk];simp [vn,List.getElem?_mapIdx,h]
 ·rw [if_neg e]
  simp only [vn,List.getElem?_mapIdx];have:(j<k+1)=(j<k):=by apply propext;omega
  simp only [this]
theorem joA (h:ts[k]?=some x) (hf:f k x=x):vn f ts (k+1)=vn f ts k:=by
 rw [<-jfO h,hf]
 apply aOR
 intro j;rw [aNY];by_cases e:k=j
 ·subst e
  rw [if_pos rfl,jfP h,if_pos (by rw [vX];exact (aMI.1 h).1)]
 ·rw [if_neg e]
theorem jlV {g:Nat->Tk->Tk} (h:∀(j:Nat) (x:Tk),ts[j]?=some x->f j x=g j x) (k:Nat):vn f ts k=vn g ts k:=by
 apply aOR
 intro j;simp only [vn,List.getElem?_mapIdx];cases hx:ts[j]? with
 |none=>rfl
 |some x=>simp [h j x hx]
end
def qu (but:Int) (j:Nat) (x:Tk):Tk:=if (j:Int)≠but/\x.aLV≠4 then ⟨6,x.aME,x.tri,0⟩ else x
def jA (j:Nat) (x:Tk):Tk:=if x.aLV≠4/\x.aLV≠5 then ⟨6,x.aME,x.tri,0⟩ else x
def zC (r:Rn) (t:Nat) (x:Tk):Rn:=if x.tri<r.aLW.aMG then ⟨r.id,r.aLW,r.aLV,r.aLT.set t ⟨2,x.aME,x.tri,0⟩⟩ else ⟨r.id,r.aLW,3,vn jA (r.aLT.set t ⟨5,x.aME,x.tri,0⟩) r.aLT.length⟩
theorem jqy {r:Rn} (h:RunOkP r) {t:Nat} {x:Tk} (hx:r.aLT[t]?=some x) (hs:x.aLV=3) (k:Nat):vn (qu t) (r.aLT.set t ⟨5,x.aME,x.tri,0⟩) k=vn jA (r.aLT.set t ⟨5,x.aME,x.tri,0⟩) k:=by
 obtain ⟨e1,e2,e3,e4⟩:=h.aLX hx hs;refine jlV (λj y hy=>?_) k
 have ht:=(aMI.1 hx).1;rw [aNY] at hy;by_cases e:t=j
 ·subst e
  rw [if_pos rfl,if_pos ht] at hy;simp only [Option.some.injEq] at hy;subst hy;simp [qu,jA]
 ·rw [if_neg e] at hy
  have h5:y.aLV≠5:=jr1 e2 hy;have hj:(j:Int)≠t:=by omega
  simp [qu,jA,h5,hj]
noncomputable def vL (r:Rn) (t:Int):Bool:=inB t 0 (r.aLT.length-1)&&stT r.aLT t==3&&kO r
noncomputable def kx (r:Rn) (t:Int):Rn:=if vL r t then jhn r t.toNat ((r.aLT[t.toNat]?).getD default) else r
noncomputable def jz (r:Rn) (t:Int):Rn:=if vL r t then zC r t.toNat ((r.aLT[t.toNat]?).getD default) else r
theorem jbc {r:Rn} {t:Int} (h:vL r t=true):∃k x,t=((k:Nat):Int)/\r.aLT[k]?=some x/\x.aLV=3/\RunOkP r:=by
 simp only [vL,inB,aMY,aNC,aOO,runOk_iff] at h;obtain ⟨⟨h1,h2⟩,h3⟩:=h;have hk:t.toNat<r.aLT.length:=by omega
 refine ⟨t.toNat,r.aLT[t.toNat],by omega,aMK hk,?_,h3⟩
 rw [jmw (aMK hk)] at h2;exact h2
theorem jb0 {r:Rn} {k:Nat} {x:Tk} (hx:r.aLT[k]?=some x) (h:vL r k=true):kx r k=jhn r k x:=by simp [kx,h,hx]
theorem jsC {r:Rn} {t:Int} (h:vL r t=false):kx r t=r:=by simp [kx,h]
theorem qR {r:Rn} {k:Nat} {x:Tk} (hx:r.aLT[k]?=some x) (h:vL r k=true):jz r k=zC r k x:=by simp [jz,h,hx]
theorem je3 {r:Rn} {t:Int} (h:vL r t=false):jz r t=r:=by simp [jz,h]
theorem jpM (r:Rn) (t:Int):kQ (kx r t)=kQ r:=by
 unfold kx;split
 ·simp only [kQ,jhn,jaW]
 ·rfl
theorem jh5 (r:Rn) (t:Int):kQ (jz r t)=kQ r:=by
 unfold jz;split
 ·unfold zC
  split
  ·simp only [kQ,aMU]
  ·simp only [kQ,vX,aMU]
 ·rfl
def kr (a b:En):Bool:=decide (a.aMC>b.aMC\/a.aMC=b.aMC/\a.seq<b.seq)
structure jir (l:List En):Prop where
 aMG:l.length<=80
 ahead:∀(k:Nat) (a b:En),l[k]?=some a->l[k+1]?=some b->kr a b=true
open Classical in
noncomputable def jar (l:List En):Bool:=decide (jir l)
theorem jfE {l:List En} (h:jir l):jar l=true:=by simp [jar,h]
theorem jjc {l:List En} (h:¬jir l):jar l=false:=by simp [jar,h]
theorem shelf_iff {l:List En}:jar l=true↔jir l:=by simp [jar]
structure SeqP (q:Int) (l:List En):Prop where
 range:∀e∈l,1<=e.seq/\e.seq<=q-1
 apart:(l.map (·.seq)).Nodup
def jaj (id t:Int) (l:List En):Nat:=(l.filter λe=>e.run==id&&e.aMA==t).length
def jjx (y:Yd) (r:Rn) (l:List En) (t:Nat) (x:Tk):Prop:=
 (x.aLV=2->(∀e∈l,e.run=r.id->e.aMA=t->e.aMC=r.aLW.aMC)/\jaj r.id t l=1)/\(x.aLV=3->y.now+1<=x.til/\x.til<=y.now+r.aLW.aMF)
def jpv (y:Yd) (r:Rn) (l:List En):Prop:=∀(t:Nat) (x:Tk),r.aLT[t]?=some x->jjx y r l t x
open Classical in
noncomputable def zB (y:Yd) (r:Rn) (l:List En):Bool:=decide (jpv y r l)
theorem jfH {y:Yd} {r:Rn} {l:List En} (h:jpv y r l):zB y r l=true:=by simp [zB,h]
theorem jdE {y:Yd} {r:Rn} {l:List En} (h:¬jpv y r l):zB y r l=false:=by simp [zB,h]
theorem runIn_iff {y:Yd} {r:Rn} {l:List En}:zB y r l=true↔jpv y r l:=by simp [zB]
structure YardOkP (y:Yd):Prop where
 now:0<=y.now/\y.now<=999999980
 seq:1<=y.seq/\y.seq<=1000000000
 four:y.aLU.length=4
 eight:y.aLX.length<=8
 shelves:∀l∈y.aLU,jir l
 seqs:SeqP y.seq y.aLU.flatten
 right:∀r∈y.aLX,RunOkP r
 place:∀(k:Nat) (r:Rn),y.aLX[k]?=some r->runAt y r.id=k
 aLX:∀r∈y.aLX,jpv y r y.aLU.flatten
 slots:kw y<=40
open Classical in
noncomputable def jw (y:Yd):Bool:=decide (YardOkP y)
theorem qF {y:Yd} (h:YardOkP y):jw y=true:=by simp [jw,h]
theorem qX {y:Yd} (h:¬YardOkP y):jw y=false:=by simp [jw,h]
theorem yard_iff {y:Yd}:jw y=true↔YardOkP y:=by simp [jw]
section
variable {l:List En} {k:Nat} {e:En} {id t:Int}
theorem jrX (h:l[k]?=some e) (h1:e.run=id) (h2:e.aMA=t):jaj id t (l.take (k+1))=jaj id t (l.take k)+1:=by
 rw [aMT,h];simp [jaj,aOV,h1,h2]
theorem jnv (h:l[k]?=some e) (h1:¬(e.run=id/\e.aMA=t)):jaj id t (l.take (k+1))=jaj id t (l.take k):=by
 rw [aMT,h];by_cases h2:e.run=id
 ·have h3:¬e.aMA=t:=λh3=>h1 ⟨h2,h3⟩
  simp [jaj,aOV,h2,h3]
 ·simp [jaj,aOV,h2]
theorem jwc (l:List En) (id t:Int):jaj id t l<=l.length:=aNH _ _
theorem jux {j:Nat} {e2:En} (h:l[k]?=some e) (hj:j<k) (h2:l[j]?=some e2) (he:e2.seq=e.seq):¬(l.map (·.seq)).Nodup:=by
 intro hd;obtain ⟨a1,b1⟩:=aMI.1 h;obtain ⟨a2,b2⟩:=aMI.1 h2;have:=List.pairwise_iff_getElem.1 hd j k (by simpa using a2) (by simpa using a1) hj
 simp [b1,b2,he] at this
theorem juw (h:l[k]?=some e) (hn:((l.take k).map (·.seq)).Nodup) (hx:∀e2∈l.take k,e2.seq≠e.seq):((l.take (k+1)).map (·.seq)).Nodup:=by
 rw [aMT,h];simp only [Option.toList_some,aOT,aNQ,List.map_nil];rw [aMS];refine ⟨hn,by simp,λa ha b hb e'=>?_⟩
 simp at hb;subst hb;obtain ⟨e2,h1,h2⟩:=aOB.1 ha;exact hx e2 h1 (by rw [h2,e'])
end
theorem jsx {α:Type} {enc:α->List D} {size:Nat} (hs:∀x,(enc x).length=size) (l:List α) (k:Nat) (v:α):k<l.length->kI (l.flatMap enc) (k*size) (enc v)=(l.set k v).flatMap enc:=by
 intro hk;have h1:(l.flatMap enc).length=l.length*size:=jG hs l;have h2:(k+1)*size<=l.length*size:=aPI _ hk;rw [qd _ _ _ (by rw [hs,h1,<-Nat.succ_mul];exact h2),hs]
 have e:l=l.take k++l[k]::l.drop (k+1):=by rw [<-aOC hk,aNW]
 have e2:l.set k v=l.take k++v::l.drop (k+1):=by rw [List.set_eq_take_append_cons_drop,if_pos hk]
 have h3:((l.take k).flatMap enc).length=k*size:=by rw [jG hs,aMP,aNZ (by omega)]
 have h4:l.flatMap enc=(l.take k++l[k]::l.drop (k+1)).flatMap enc:=congrArg (List.flatMap enc) e;rw [aOE,aNL] at h4;rw [e2,h4,List.take_left' h3];simp only [aOE,aNL,aNA]
 congr 2
 rw [<-aNA,List.drop_left' (by rw [aMR,h3,hs])]
theorem jdG {α:Type} {enc:α->List D} {size ty:Nat} (hs:∀x,(enc x).length=size) {l:List α} {k:Nat} (v:α) (hk:k<l.length):D.put [] (k*size) (enc v) (.sl size ty (l.flatMap enc))=.sl size ty ((l.set k v).flatMap enc):=by
 simp only [D.put,jsx hs l k v hk]
theorem jb3 {l:List Int} {k:Nat} (v:Int) (hk:k<l.length):D.put [] (k*1) [.val (.int .i64 v)] (je l)=je (l.set k v):=jdG (enc:=λn=>[iv n]) (λ_=>rfl) v hk
abbrev jzp:TypeId:=4
def qH (l:List Bool):D:=.sl 1 jzp (l.flatMap (λb=>[D.val (.bool b)]))
section
variable {P:Program} {β:Nat} {s:St}
theorem joC (l:List Bool):(qH l).len=l.length:=zZ (enc:=λb=>[D.val (.bool b)]) (λ_=>rfl) (by decide) _ _
theorem jga {l:List Bool} {k:Nat} {x:Bool} (h:l[k]?=some x):(qH l).elem k=[D.val (.bool x)]:=vQ (enc:=λb=>[D.val (.bool b)]) (λ_=>rfl) h
theorem jpJ (l:List Bool):(qH l).isSl=true:=(rfl)
theorem jpG (l:List Bool):(qH l).size=1:=(rfl)
theorem jou (l:List Bool) (g:Nat) (η:jm):(qH l).obj g η=[(g,.loose (qH l) η)]:=(rfl)
theorem jos (l:List Bool) (g c:Nat) (p:List Nat) (η:jm):(qH l).toOwn g c p η=.h g c p (η p):=(rfl)
theorem jll (l:List Bool):(qH l).cells=l.flatMap (λb=>[D.val (.bool b)]):=(rfl)
theorem jfr {l:List Bool} {k:Nat} {x:Bool} (h:l[k]?=some x):((l.flatMap (λb=>[D.val (.bool b)])).drop (k*1)).take 1=[D.val (.bool x)]:=jga h
theorem jb7 {l:List Bool} {k:Nat} (h:k<l.length):k*1+1<=(l.flatMap (λb=>[D.val (.bool b)])).length:=by rw [jG (enc:=λb=>[D.val (.bool b)]) (size:=1) (λ_=>rfl)];omega
theorem jn9 {l:List Bool} {k:Nat} (v:Bool) (hk:k<l.length):D.put [] (k*1) [D.val (.bool v)] (qH l)=qH (l.set k v):=jdG (enc:=λb=>[D.val (.bool b)]) (λ_=>rfl) v hk
attribute [go_sem] joC jpJ jpG jou jos jll
theorem jek (l:List Bool):jZ (l.flatMap (λb=>[D.val (.bool b)]))=true:=by
 induction l with
 |nil=>rfl
 |cons x l ih=>rw [aNL,vR,ih];rfl
attribute [go_sem] jek
end
theorem jsJ {l:List (En)} {k:Nat} (v:En) (hk:k<l.length):D.put [] (k*4) (jh v) (ji l)=ji (l.set k v):=jdG (enc:=jh) (λ_=>rfl) v hk
theorem jsG {l:List (Tk)} {k:Nat} (v:Tk) (hk:k<l.length):D.put [] (k*4) (jk v) (jC l)=jC (l.set k v):=jdG (enc:=jk) (λ_=>rfl) v hk
theorem jsI {l:List (Rn)} {k:Nat} (v:Rn) (hk:k<l.length):D.put [] (k*8) (jc v) (jI l)=jI (l.set k v):=jdG (enc:=jc) (λ_=>rfl) v hk
theorem jn8 {l:List (List En)} {k:Nat} (v:List En) (hk:k<l.length):D.put [] (k*1) ([ji v]) (ku l)=ku (l.set k v):=jdG (enc:=λes=>[ji es]) (λ_=>rfl) v hk
theorem jb2 {l:List Tk} {k:Nat} (a b c d:Int) (hk:k<l.length):D.put [] (k*4) [.val (.int .i64 a),.val (.int .i64 b),.val (.int .i64 c),.val (.int .i64 d)] (jC l)=jC (l.set k ⟨a,b,c,d⟩):=jsG ⟨a,b,c,d⟩ hk
theorem jf7:∀{l:List D} (a b:Nat),jZ l=true->jZ ((l.drop a).take b)=true
 |[],a,b,_=>by simp [jZ]
 |.sl _ _ _::l,a,b,h=>by simp [jZ] at h
 |.val u::l,0,0,_=>rfl
 |.val u::l,0,b+1,h=>by
  simp only [jZ,aMY] at h;simp only [List.drop_zero,List.take_succ_cons,jZ,h.1,Bool.true_and];exact jf7 (l:=l) 0 b h.2
 |.val u::l,a+1,b,h=>by
  simp only [jZ,aMY] at h;exact jf7 (l:=l) a b h.2
theorem jqx (l:List Int) (a b:Nat):jZ (((l.flatMap (λn=>[iv n])).drop a).take b)=true:=jf7 a b (jf6 l)
attribute [go_sem] jqx
theorem jtq (l:List Tk) (a b:Nat):jZ (((l.flatMap (jk)).drop a).take b)=true:=jf7 a b (jie l)
attribute [go_sem] jtq
theorem joZ (l:List Bool) (a b:Nat):jZ (((l.flatMap (λb=>[D.val (.bool b)])).drop a).take b)=true:=jf7 a b (jek l)
attribute [go_sem] joZ
theorem jz8 (n:Nat):D.sl 1 jg3 (List.replicate n [D.val (.int .i64 0)]).flatten=je (List.replicate n 0):=by simp [je,List.flatMap,iv]
theorem jxA (n:Nat):D.sl 1 jzp (List.replicate n [D.val (.bool false)]).flatten=qH (List.replicate n false):=by simp [qH,List.flatMap]
theorem jo3 {α:Type} {enc:α->List D} {size:Nat} (hs:∀x,(enc x).length=size):∀(l:List α) (k:Nat),(l.flatMap enc).drop (k*size)=(l.drop k).flatMap enc
 |[],k=>by simp
 |x::l,0=>by simp
 |x::l,k+1=>by
  rw [aNL,List.drop_succ_cons,<-jo3 hs l k,Nat.succ_mul,Nat.add_comm,<-List.drop_drop,List.drop_left' (hs x)]
theorem jnM {α:Type} {enc:α->List D} {size:Nat} (hs:∀x,(enc x).length=size):∀(l:List α) (k:Nat),(l.flatMap enc).take (k*size)=(l.take k).flatMap enc
 |[],k=>by simp
 |x::l,0=>by simp
 |x::l,k+1=>by
  rw [aNL,List.take_succ_cons,aNL,<-jnM hs l k,Nat.succ_mul,Nat.add_comm,List.take_append,hs,aNR,aMO (by rw [hs];omega)]
theorem jmt {α:Type} {enc:α->List D} {size ty:Nat} (hs:∀x,(enc x).length=size) (l:List α) (a b:Nat):(D.sl size ty (l.flatMap enc)).sub a b=.sl size ty (((l.drop a).take (b-a)).flatMap enc):=by
 simp only [D.sub,jo3 hs,jnM hs]
theorem jsl (l:List Ed) (a b:Nat):(jv l).sub a b=jv ((l.drop a).take (b-a)):=jmt (enc:=jR) (λ_=>rfl) l a b
theorem jsk (l:List En) (a b:Nat):(ji l).sub a b=ji ((l.drop a).take (b-a)):=jmt (enc:=jh) (λ_=>rfl) l a b
attribute [go_sem] Nat.zero_le jsl jsk Nat.sub_zero List.drop_zero
def jdY {α:Type} (f:α->Bool):List α->Int
 |[]=>-1
 |x::l=>if f x then 0 else match jdY f l with
  |.ofNat k=>.ofNat (k+1)
  |.negSucc k=>.negSucc k
theorem jaC {α:Type} {f:α->Bool}:∀{l:List α},(∀y∈l,f y=false)->jdY f l=-1
 |[],_=>rfl
 |x::l,h=>by rw [jdY,h x (by simp),jaC λy hy=>h y (by simp [hy])];rfl
theorem jbN {α:Type} {f:α->Bool}:∀{l:List α} {k:Nat} {x:α},l[k]?=some x->f x=true->(∀y∈l.take k,f y=false)->jdY f l=k
 |[],_,_,h,_,_=>by simp at h
 |a::l,0,x,h,hx,_=>by simp at h;subst h;rw [jdY,hx];rfl
 |a::l,k+1,x,h,hx,hn=>by
  rw [jdY,hn a (by simp),jbN (k:=k) (by simpa using h) hx λy hy=>hn y (by simp [hy])];rfl
theorem zO {α:Type} (f:α->Bool) (l:List α):(jdY f l=-1/\∀y∈l,f y=false)\/∃k x,jdY f l=((k:Nat):Int)/\l[k]?=some x/\f x=true/\∀y∈l.take k,f y=false:=by
 induction l with
 |nil=>exact .inl ⟨rfl,by simp⟩
 |cons a l ih=>
  cases ha:f a with
  |true=>exact .inr ⟨0,a,by rw [jdY,ha];rfl,rfl,ha,by simp⟩
  |false=>
   rcases ih with ⟨h1,h2⟩|⟨k,x,h1,h2,h3,h4⟩
   ·exact .inl ⟨jaC (λy hy=>by rcases aNB.1 hy with rfl|hy<;>simp_all),λy hy=>by rcases aNB.1 hy with rfl|hy<;>simp_all⟩
   ·have h5:(a::l)[k+1]?=some x:=by simpa using h2
    have h6:∀y∈(a::l).take (k+1),f y=false:=λy hy=>by
     rw [List.take_succ_cons] at hy;rcases aNB.1 hy with rfl|hy
     ·exact ha
     ·exact h4 y hy
    exact .inr ⟨k+1,x,jbN h5 h3 h6,h5,h3,h6⟩
theorem jmq {α:Type} {f:α->Bool} {l:List α} {k:Nat} {x:α} (h:l[k]?=some x) (hx:f x=false) (hn:∀y∈l.take k,f y=false):∀y∈l.take (k+1),f y=false:=by
 intro y hy;rw [aMT,h] at hy;rcases aMN.1 hy with hy|hy
 ·exact hn y hy
 ·simp at hy;subst hy;exact hx
theorem vC (l:List Int) (a:Int):D.sl 1 jg3 (l.flatMap (λn=>[iv n])++[.val (.int .i64 a)])=je (l++[a]):=by simp [je]
theorem jxI (a:Int):D.sl 1 jg3 [.val (.int .i64 a)]=je [a]:=by simp [je]
theorem stH_t (p:List Nat) (k n:Nat) (η:jm) (K:jm->Prop):stH true p k n η K=K η:=(rfl)
attribute [go_sem] stH_t jBf
def jev:C:=iS [iA 1 (.box 49 5 (.t 0)),aO 2 false] (iS [aF 3 3 1,aL 4 3,iA 5 (.call 68 [.t 4,oI 1,oI 12]),aU 6 5,aM 7 6,iB 8 7 false (iF 4 1),iB 9 7 false (iL 8),iB 10 7 false (iG 9),iB 11 7 false (iQ .gtr 3 10 30),iA 12 (iY 7 (oT) (.t 11)),aM 13 12,iB 14 13 false (iF 0 1),iB 15 13 false (iL 14),iB 16 13 false (.call 68 [.t 15,oI 0,oI 9]),iB 17 13 false (iU 16),iA 18 (iY 13 (oT) (.t 17)),aM 19 18,iB 20 19 false (iF 1 1),iB 21 19 false (iL 20),iB 22 19 false (.call 68 [.t 21,oI 1,oI 5]),iB 23 19 false (iU 22),iA 24 (iY 19 (oT) (.t 23)),aM 25 24,iB 26 25 false (iF 2 1),iB 27 25 false (iL 26),iB 28 25 false (.call 68 [.t 27,oI 1,oI 20]),iB 29 25 false (iU 28),iA 30 (iY 25 (oT) (.t 29)),aM 2 30] .ret)
theorem jhy:fnC Tryz.prog Tryz.f166=some (jev,[.t 2],31):=by kernel_rfl
def jew:C:=iS [iA 2 (.box 49 5 (.t 0)),iA 4 (.mov (.c (.slice none 0 0)))] (iS [aF 10 3 2,aL 11 10,iA 12 (.mks 4 1 1 [D.val (.bool false)] (.t 11) (.t 11)),aM 5 12] (iS [aM 13 1,iA 14 (wAW [(0,1,.t 13)]),aM 6 14] (.seq (iS [aN 7 0] (.blk 0 (.loop (.seq (iS [aM 15 7,aM 16 6,aG 17 16,aP 18 .lss 3 15 17] (iD 18 .skip (.exit 0))) (.seq (.blk 1 (iS [aN 8 0] (.blk 2 (.loop (.seq (iS [aM 21 8,aF 22 4 2,aL 23 22,aG 24 23,aP 25 .lss 3 21 24] (iD 25 .skip (.exit 2))) (.seq (.blk 3 (iS [aF 28 4 2,aL 29 28,aM 30 8,aI 31 2 29 30,aT 32 2 31,iA 9 wAO,wAG 9 32] (.seq (.dreg (tA 0 33 (iF 0 9) (tA 1 34 (iL 33) (tA 2 35 (iM 6) (tA 3 36 (iM 7) (tA 4 37 (iI 1 35 36) (tA 5 38 (iL 37) (tA 6 39 (iP .eql 3 34 38) (tA 7 40 (iM 39) (tB 8 41 40 true (iM 5) (tB 9 42 40 true (iF 1 9) (tB 10 43 40 true (iL 42) (tB 11 44 40 true (iI 1 41 43) (tB 12 45 40 true (iL 44) (tB 13 46 40 true (iU 45) (tA 14 47 (iY 40 (.t 46) (oF)) .done)))))))))))))))) (iD 47 (iS [aM 48 5,aF 49 1 9,aL 50 49,aI 51 1 48 50,iC (.st 1 [none] (.t 51) (oT))] (.reg [aM 52 6,aF 53 1 9,aL 54 53,iA 55 (wAW [(0,1,.t 54)]),iA 56 (wA3 52 55),aM 6 56])) .skip)))) (.reg [aM 26 8,aQ 27 .add 3 26 1,aM 8 27]))))))) (.reg [aM 19 7,aQ 20 .add 3 19 1,aM 7 20])))))) (iS [aM 57 5,aM 4 57] .ret))))
theorem jhz:fnC Tryz.prog Tryz.f167=some (jew,[.t 4],58):=by kernel_rfl
def jct:C:=iS [iA 1 (.box 49 5 (.t 0)),aN 2 0] (.seq (iS [aT 7 5 1,iA 8 (iK 166 [7])] (iD 8 (iS [aN 2 1] .ret) .skip)) (.seq (iS [aN 3 0] (.blk 0 (.loop (.seq (iS [aM 9 3,aF 10 4 1,aL 11 10,aG 12 11,aP 13 .lss 3 9 12] (iD 13 .skip (.exit 0))) (.seq (.blk 1 (.seq (.dreg (tA 0 16 (iF 4 1) (tA 1 17 (iL 16) (tA 2 18 (iM 3) (tA 3 19 (iI 2 17 18) (tA 4 20 (iF 0 19) (tA 5 21 (iL 20) (tA 6 22 (iF 3 1) (tA 7 23 (iL 22) (tA 8 24 (iQ .sub 3 23 1) (tC 25 (.call 68 [.t 21,oI 0,.t 24]) [] (tA 10 26 (iU 25) (tA 11 27 (iM 26) (tB 12 28 27 false (iF 4 1) (tB 13 29 27 false (iL 28) (tB 14 30 27 false (iM 3) (tB 15 31 27 false (iI 2 29 30) (tB 16 32 27 false (iF 1 31) (tB 17 33 27 false (iL 32) (tB 18 34 27 false (iF 3 1) (tB 19 35 27 false (iL 34) (tB 20 36 27 false (iQ .sub 3 35 1) (.alt (iB 37 27 false (.call 68 [.t 33,oI 0,.t 36])) [] (tB 22 38 27 false (iU 37) (tA 23 39 (iY 27 (oT) (.t 38)) .done)) .stop)))))))))))) .stop))))))))))) (iD 39 (iS [aN 2 2] .ret) .skip))) (.reg [aM 14 3,aQ 15 .add 3 14 1,aM 3 15])))))) (.seq (iS [aN 4 0] (.blk 2 (.loop (.seq (iS [aM 40 4,aF 41 4 1,aL 42 41,aG 43 42,aP 44 .lss 3 40 43] (iD 44 .skip (.exit 2))) (.seq (.blk 3 (iS [aN 5 0] (.blk 4 (.loop (.seq (iS [aM 47 5,aM 48 4,aP 49 .lss 3 47 48] (iD 49 .skip (.exit 4))) (.seq (.blk 5 (.seq (.dreg (tA 0 52 (iF 4 1) (tA 1 53 (iL 52) (tA 2 54 (iM 4) (tA 3 55 (iI 2 53 54) (tA 4 56 (iT 2 55) (tA 5 57 (iF 4 1) (tA 6 58 (iL 57) (tA 7 59 (iM 5) (tA 8 60 (iI 2 58 59) (tA 9 61 (iT 2 60) (tA 10 62 (iP .eql 161 56 61) .done)))))))))))) (iD 62 (iS [aN 2 3] .ret) .skip))) (.reg [aM 50 5,aQ 51 .add 3 50 1,aM 5 51]))))))) (.reg [aM 45 4,aQ 46 .add 3 45 1,aM 4 46])))))) (.seq (iS [aN 6 0] (.blk 6 (.loop (.seq (iS [aM 63 6,aF 64 3 1,aL 65 64,aP 66 .lss 3 63 65] (iD 66 .skip (.exit 6))) (.seq (.blk 7 (iS [aT 69 5 1,aM 70 6,iA 71 (iK 167 [69,70]),aM 72 6,aI 73 1 71 72,aL 74 73] (iD 74 (iS [aN 2 4] .ret) .skip))) (.reg [aM 67 6,aQ 68 .add 3 67 1,aM 6 68])))))) (iS [aN 2 0] .ret)))))
theorem jfh:fnC Tryz.prog Tryz.f112=some (jct,[.t 2],75):=by kernel_rfl
def qk:C:=iS [iA 3 (.box 161 2 (.t 1)),aN 4 0] (.seq (iS [aM 6 0,aG 7 6,aN 8 0] (.blk 0 (.loop (iS [aP 9 .lss 3 8 7] (.seq (iD 9 .skip (.exit 0)) (.seq (.blk 1 (iS [aM 10 8,aM 5 10] (.seq (.dreg (tA 0 11 (iT 2 3) (tA 1 12 (iM 0) (tA 2 13 (iM 5) (tA 3 14 (iI 2 12 13) (tA 4 15 (iT 2 14) (tA 5 16 (iP .eql 161 11 15) .done))))))) (iD 16 (iS [aM 17 5,aM 4 17] .ret) .skip)))) (.reg [aQ 18 .add 3 8 1,aM 8 18]))))))) (iS [aN 4 (-1)] .ret))
theorem vD:fnC Tryz.prog Tryz.f193=some (qk,[.t 4],19):=by kernel_rfl
def kZ:C:=iS [iA 3 (.box 161 2 (.t 1)),aO 4 false] (iS [aM 5 0,aT 6 2 3,iA 7 (iK 193 [5,6]),aQ 8 .geq 3 7 0,aM 4 8] .ret)
theorem vh:fnC Tryz.prog Tryz.f161=some (kZ,[.t 4],9):=by kernel_rfl
theorem jkR (p:Pl):kg Tryz.prog 166 [.agg (ja p)] (.c (.val (.bool (zb p)))):=by
 refine pf_ jhy ?_;unfold jev;simp only [go_sem,ja];intro b;refine jx (jJ p.aLT 1 12) λη=>?_
 simp only [go_sem,ja];cases h1:decide (1<=p.aLT/\p.aLT<=12)
 ·simp only [go_sem,ja,h1,zb,inB]
 ·by_cases h2:30<p.aLY.length
  ·have bI:(p.aLY.length:Int)>30:=by omega
   simp only [go_sem,ja,h1,h2,bI,zb,inB]
  ·have bI:¬(p.aLY.length:Int)>30:=by omega
   simp only [go_sem,ja,h1,h2,bI];refine jx (jJ p.aMC 0 9) λη=>?_
   simp only [go_sem,ja];cases h3:decide (0<=p.aMC/\p.aMC<=9)
   ·simp only [go_sem,ja,h1,h2,bI,h3,zb,inB]
   ·simp only [go_sem,ja,h1,h2,bI,h3]
    refine jx (jJ p.aMG 1 5) λη=>?_
    simp only [go_sem,ja];cases h4:decide (1<=p.aMG/\p.aMG<=5)
    ·simp only [go_sem,ja,h1,h2,bI,h3,h4,zb,inB]
    ·simp only [go_sem,ja,h1,h2,bI,h3,h4]
     refine jx (jJ p.aMF 1 20) λη=>?_
     simp only [go_sem,ja];cases h5:decide (1<=p.aMF/\p.aMF<=20)
     ·simp only [go_sem,ja,h1,h2,bI,h3,h4,h5,zb,inB]
     ·simp only [go_sem,ja,h1,h2,bI,h3,h4,h5,zb,inB]
theorem jkS (p:Pl) (n:Nat) (hn:p.aLT=n) (cC:n<=12) (dS:p.aLY.length<=30) (bV:∀e∈p.aLY,okE n e) (t:Nat) (ht:t<n):kg Tryz.prog 167 [.agg (ja p),.c (.val (.int .i64 t))] (.c (qH (jj8 p.aLY n t))):=by
 refine pf_ jhz ?_;unfold jew;have hm:1*n<=281474976710656:=by omega
 have d9:n<=maxLen:=by unfold maxLen;omega
 have bG:D.sl 1 jzp (List.replicate n [D.val (.bool false)]).flatten=qH (jpp n []):=by
  rw [jxA]
  congr 1
  apply aOR
  intro k;by_cases hk:k<n
  ·rw [jjr hk];simp [hk]
  ·rw [aOH (by simp;omega),aOH (by rw [jaB];omega)]
 have aCD:D.sl 1 jg3 [D.val (.int .i64 t)]=je [(t:Int)]:=by simp [je]
 simp only [go_sem,ja,hn];intro b;rw [juB];refine ⟨.i64,.i64,n,by simp only [go_sem],by simp only [go_sem],hm,d9,λη=>?_⟩
 simp only [go_sem,ja,hn,bG,aCD];intro dB;refine kN (λi:Nat×List Int×jm×jm=>St.of [(2,Bx 200 b),(5,Hd 5 i.2.2.1),(6,Hd 6 i.2.2.2),(7,Ni i.1)] [(200,Bi b _ (ja p)),(5,.loose (qH (jpp n i.2.1)) i.2.2.1),(6,.loose (je ((t:Int)::i.2.1)) i.2.2.2)]) (λi=>jAZ p.aLY n t i.1 i.2.1) (λi=>n+1-i.1) (0,[],η,dB) (jDa) (jy [200,1200,1400] (by simp only [go_sem,ja,hn]<;>trivial)) ?_
 rintro ⟨h,r,aV,cT⟩ hb;dsimp only at hb;have bZ:=jr5 hb;have eV:((t:Int)::r).length=r.length+1:=rfl;by_cases aB:h<r.length+1
 ·have aA:(h:Int)<((r.length+1:Nat):Int):=by omega
  obtain ⟨x,hx⟩:=jd (l:=(t:Int)::r) aB;have hwh:=kX h;simp only [go_sem,aB,aA];refine kN (λi:Nat×List Int×jm×jm=>St.of [(2,Bx 200 b),(5,Hd 5 i.2.2.1),(6,Hd 6 i.2.2.2),(7,Ni h),(8,Ni i.1)] [(200,Bi b _ (ja p)),(5,.loose (qH (jpp n i.2.1)) i.2.2.1),(6,.loose (je ((t:Int)::i.2.1)) i.2.2.2)]) (λi=>BIn p.aLY n t h x i.1 i.2.1/\i.1<=p.aLY.length) (λi=>p.aLY.length-i.1) (0,r,aV,cT) (⟨bIn_0 hb hx,aNE _⟩) (jy [200,5,6] (by simp only [go_sem,ja,hn]<;>trivial)) ?_
  rintro ⟨j,r1,fO,bP⟩ ⟨hj,bJ⟩;dsimp only at hj bJ;have aHS:=jr5 hj.1;have aBU:((t:Int)::r1).length=r1.length+1:=rfl;by_cases dA:j<p.aLY.length
  ·have aZ:(j:Int)<p.aLY.length:=by omega
   obtain ⟨e,he⟩:=jd dA;obtain ⟨⟨e1,e2⟩,e3,e4⟩:=bV e (aMJ he);have dM:=kX j;have hqx:((t:Int)::r1)[h]?=some x:=hj.2.1;have fR:h<((t:Int)::r1).length:=(aMI.1 hqx).1;have hd:e.dst.toNat<n:=by omega
   have hdi:((e.dst.toNat:Nat):Int)=e.dst:=by omega
   have uX:(jpp n r1)[e.dst.toNat]?=some (decide (e.dst∈r1)):=by rw [jjr hd,hdi]
   have fN:e.dst.toNat<(jpp n r1).length:=by rw [jaB];exact hd
   have cJ:(jpp n r1).set e.dst.toNat true=jpp n (r1++[e.dst]):=by rw [jyp hd,hdi]
   have eZ:1<=maxLen:=by unfold maxLen;omega
   have l0:((t:Int)::r1).length+1<=maxLen:=by unfold maxLen;omega
   have lZ:(((t:Int)::r1).length+1)*8<=140737488355328:=by omega
   have aFH:D.sl 1 jg3 [D.val (.int .i64 e.dst)]=je [e.dst]:=by simp [je]
   dsimp only;generalize hq:(t:Int)::r1=q at hqx fR aBU l0 lZ⊢;simp only [go_sem,ja,hn,dA,aZ,ju he,jR,jaB,e3,hd];intro b2;simp only [go_sem,ja,hn,jR,jg hqx,jf fR,fR,e3,hd,jaB];cases nP:(e.src==x)
   ·have aR:e.src≠x:=by simpa using nP
    simp only [go_sem,dM];exact ⟨(j+1,r1,fO,bP),⟨jza hj he λh'=>absurd h' aR,by omega⟩,(jy [200,5,6] (by simp only [go_sem,ja,hn,<-hq]<;>trivial)),by (try dsimp only);omega⟩
   ·have mJ:e.src=x:=by simpa using nP
    simp only [go_sem,jR,e3,hd,jaB,jfr uX,jb7 fN,jga uX];by_cases dC:e.dst∈r1
    ·simp only [go_sem,dC,dM]
     exact ⟨(j+1,r1,fO,bP),⟨jza hj he λ_=>dC,by omega⟩,(jy [200,5,6] (by simp only [go_sem,ja,hn,<-hq]<;>trivial)),by (try dsimp only);omega⟩
    ·simp only [go_sem,dC,dM,jR,e3,hd,jaB,jn9 true fN,jb7 fN,cJ,l0,lZ,jxI,vC]
     intro v9 bF;exact ⟨(j+1,r1++[e.dst],fO,bF),⟨jAV hj he mJ dC ⟨e3,e4⟩ (λh0=>by subst h0;simpa using hj.2.1.symm),by omega⟩,(jy [200,5,5600] (by simp only [go_sem,ja,hn,<-hq,aOS]<;>trivial)),by (try dsimp only);omega⟩
  ·have aZ:¬(j:Int)<p.aLY.length:=by omega
   simp only [go_sem,ja,hn,aZ,hwh];exact ⟨(h+1,r1,fO,bP),jws hj (by omega),(jy [200,5,6] (by simp only [go_sem,ja,hn]<;>trivial)),by (try dsimp only);omega⟩
 ·have aA:¬(h:Int)<((r.length+1:Nat):Int):=by omega
  simp only [go_sem,ja,hn,aA,jwt hb (by omega)]
theorem jvi {p:Pl} (h:zb p=false):∃n:Nat,p.aLT=n/\1<=n/\n<=12/\p.aLY.length<=30/\(0<=p.aMC/\p.aMC<=9)/\(1<=p.aMG/\p.aMG<=5)/\(1<=p.aMF/\p.aMF<=20):=by
 simp only [zb,inB,Bool.or_eq_false_iff,Bool.not_eq_false',aNC,aNK] at h;obtain ⟨⟨⟨⟨h1,h2⟩,h3⟩,h4⟩,h5⟩:=h;exact ⟨p.aLT.toNat,by omega,by omega,by omega,by omega,h3,h4,h5⟩
theorem jhg {p:Pl} (h:zb p=true):jr p=1:=by simp [jr,h]
theorem jmJ {p:Pl} (h:zb p=false) {e:Ed} (he:e∈p.aLY) (h2:jjq p.aLT e=true):jr p=2:=by
 have:p.aLY.any (jjq p.aLT)=true:=List.any_eq_true.2 ⟨e,he,h2⟩;simp [jr,h,this]
theorem jyO {p:Pl} (h:zb p=false) (h2:p.aLY.any (jjq p.aLT)=false) (h3:¬p.aLY.Nodup):jr p=3:=by simp [jr,h,h2,h3]
theorem jyP {p:Pl} (h:zb p=false) (h2:p.aLY.any (jjq p.aLT)=false) (h3:p.aLY.Nodup) {t:Nat} (ht:(t:Int)<p.aLT) (h4:Rc p.aLY t t):jr p=4:=by
 have:jC3 p=true:=by simp only [jC3,aNC];exact ⟨t,ht,h4⟩
 simp [jr,h,h2,h3,this]
theorem jz0 {p:Pl} (h:zb p=false) (h2:p.aLY.any (jjq p.aLT)=false) (h3:p.aLY.Nodup) (h4:∀t:Nat,(t:Int)<p.aLT->¬Rc p.aLY t t):jr p=0:=by
 have:jC3 p=false:=by simp only [jC3,aNK,not_exists,not_and];exact h4
 simp [jr,h,h2,h3,this]
theorem jr9 {α:Type} {f:α->Bool} {l:List α} {k:Nat} {x:α} (h:l[k]?=some x) (hx:f x=false) (hn:(l.take k).any f=false):(l.take (k+1)).any f=false:=by
 rw [aMT,h];simp_all
theorem jrP {l:List Ed} {k j:Nat} {x:Ed} (h:l[k]?=some x) (hj:j<k) (hx:l[j]?=some x):¬l.Nodup:=by
 intro hd;obtain ⟨h1,h2⟩:=aMI.1 h;obtain ⟨h3,h4⟩:=aMI.1 hx;exact List.pairwise_iff_getElem.1 hd j k h3 h1 hj (h4.trans h2.symm)
theorem jlR {l:List Ed} {k:Nat} {x:Ed} (h:l[k]?=some x) (hn:(l.take k).Nodup) (hx:x∉l.take k):(l.take (k+1)).Nodup:=by
 rw [aMT,h];simp only [Option.toList_some];rw [aMS];exact ⟨hn,by simp,λa ha b hb e=>by simp at hb;subst hb;exact hx (e▸ha)⟩
theorem vW (p:Pl):kg Tryz.prog 112 [.agg (ja p)] (.c (.val (.int .i64 (jr p)))):=by
 refine pf_ jfh ?_;unfold jct;simp only [go_sem,ja];intro b;refine jx (jkR p) λη=>?_
 simp only [go_sem,ja];cases hm:zb p;rotate_left
 ·simp only [go_sem,ja,hm,jhg hm]
 obtain ⟨n,hn,d8,nB,hel,-⟩:=jvi hm;have eL:IntKind.i64.wrap ((n:Int)-1)=n-1:=zy;simp only [go_sem,ja,hm];refine vo (λi:Nat=>St.of [(1,Bx 100 b),(3,Ni i)] [(100,Bi b _ (ja p))]) (λi=>i<=p.aLY.length/\(p.aLY.take i).any (jjq n)=false) (λi=>p.aLY.length-i) 0 (jy [100] (by simp only [go_sem,ja]<;>trivial)) ?_
 rintro k ⟨hk,cM⟩;by_cases aB:k<p.aLY.length
 ·have aA:(k:Int)<p.aLY.length:=by omega
  obtain ⟨e,he⟩:=jd aB;have hw:=kX k;simp only [go_sem,ja,hn,aB,aA,ju he,jR,eL];refine jn (jJ e.src 0 (n-1)) (by simp only [go_sem,ja,aB,aA,ju he,jR,eL]) λη=>?_
  simp only [go_sem,ja,aB,aA,ju he,jR,eL];cases h1:decide (0<=e.src/\e.src<=n-1)
  ·have gD:jjq p.aLT e=true:=by simp [jjq,inB,hn,h1]
   simp only [go_sem,ja,h1,jmJ hm (aMJ he) gD]
  ·simp only [go_sem,ja,h1,aB,aA,ju he,jR,eL,hn]
   refine jn (jJ e.dst 0 (n-1)) (by simp only [go_sem,ja,aB,aA,ju he,jR,eL]) λη=>?_
   simp only [go_sem,ja,aB,aA,ju he,jR,eL];cases h2:decide (0<=e.dst/\e.dst<=n-1)
   ·have gD:jjq p.aLT e=true:=by simp [jjq,inB,hn,h2]
    simp only [go_sem,ja,h2,jmJ hm (aMJ he) gD]
   ·have gD:jjq n e=false:=by simp [jjq,inB,h1,h2]
    simp only [go_sem,ja,h2,hw];exact ⟨k+1,⟨aB,jr9 he gD cM⟩,(jy [100] (by simp only [go_sem,ja]<;>trivial)),by (try dsimp only);omega⟩
 have aA:¬(k:Int)<p.aLY.length:=by omega
 rw [aMO (by omega),<-hn] at cM
 have bV:=jvc cM;simp only [go_sem,ja,aA];refine vo (λi:Nat=>St.of [(1,Bx 100 b),(4,Ni i)] [(100,Bi b _ (ja p))]) (λi=>i<=p.aLY.length/\(p.aLY.take i).Nodup) (λi=>p.aLY.length-i) 0 (jy [100] (by simp only [go_sem,ja]<;>trivial)) ?_
 rintro j ⟨hj,eA⟩;by_cases bJ:j<p.aLY.length
 ·have aY:(j:Int)<p.aLY.length:=by omega
  obtain ⟨e,he⟩:=jd bJ;have hw:=kX j;simp only [go_sem,ja,aY];refine vo (λi:Nat=>St.of [(1,Bx 100 b),(4,Ni j),(5,Ni i)] [(100,Bi b _ (ja p))]) (λi=>i<=j/\e∉p.aLY.take i) (λi=>j-i) 0 (jy [100] (by simp only [go_sem,ja]<;>trivial)) ?_
  rintro m ⟨eI,sC⟩;by_cases d9:m<j
  ·have fL:(m:Int)<j:=by omega
   obtain ⟨e2,cB⟩:=jd (show m<p.aLY.length by omega)
   have bS:=kX m;have xC:m<p.aLY.length:=by omega
   have xB:(m:Int)<p.aLY.length:=by omega
   by_cases fD:e=e2
   ·subst fD
    simp only [go_sem,ja,fL,bJ,aY,xC,xB,ju he,ju cB,jR,jyO hm cM (jrP he d9 cB)]
   ·simp only [go_sem,ja,fL,bJ,aY,xC,xB,ju he,ju cB,jR,fD,bS]
    exact ⟨m+1,⟨d9,λh'=>by rw [aMT,cB] at h';simp at h';rcases h' with h'|h';exact sC h';exact fD h'⟩,(jy [100] (by simp only [go_sem,ja]<;>trivial)),by (try dsimp only);omega⟩
  ·have fL:¬(m:Int)<j:=by omega
   obtain rfl:m=j:=by omega
   simp only [go_sem,ja,fL,hw];exact ⟨m+1,⟨bJ,jlR he eA sC⟩,(jy [100] (by simp only [go_sem,ja]<;>trivial)),by (try dsimp only);omega⟩
 have aY:¬(j:Int)<p.aLY.length:=by omega
 rw [aMO (by omega)] at eA
 simp only [go_sem,ja,aY];refine vo (λi:Nat=>St.of [(1,Bx 100 b),(6,Ni i)] [(100,Bi b _ (ja p))]) (λi=>i<=n/\∀t:Nat,t<i->¬Rc p.aLY t t) (λi=>n-i) 0 (jy [100] (by simp only [go_sem,ja]<;>trivial)) ?_
 rintro t ⟨ht,wM⟩;by_cases cP:t<n
 ·have dV:(t:Int)<n:=by omega
  have hw:=kX t;have oY:∀e∈p.aLY,okE n e:=λe he=>by have:=bV e he;rwa [hn,aMQ] at this
  simp only [go_sem,ja,hn,dV];refine jn (jkS p n hn nB hel oY t cP) (by simp only [go_sem,ja,hn]) λη=>?_
  simp only [go_sem,ja,hn];cases hr:rcB p.aLY t t
  ·have hg:(jj8 p.aLY n t)[t]?=some false:=by rw [joT cP,hr]
   simp only [go_sem,ja,cP,dV,jf1,jfr hg,jb7 (show t<(jj8 p.aLY n t).length by rw [jf1];exact cP),hw]
   exact ⟨t+1,⟨cP,λs hs h'=>by rcases Nat.lt_or_ge s t with h2|h2;exact wM s h2 h';obtain rfl:s=t:=(by omega);rw [rcB_iff.2 h'] at hr;cases hr⟩,(jy [100] (by simp only [go_sem,ja]<;>trivial)),by (try dsimp only);omega⟩
  ·have hg:(jj8 p.aLY n t)[t]?=some true:=by rw [joT cP,hr]
   simp only [go_sem,ja,cP,dV,jf1,jfr hg,jb7 (show t<(jj8 p.aLY n t).length by rw [jf1];exact cP),hw,jyP hm cM eA (by rw [hn];exact dV) (rcB_iff.1 hr)]
 ·have dV:¬(t:Int)<n:=by omega
  simp only [go_sem,ja,hn,dV,jz0 hm cM eA (λs hs=>wM s (by omega))]
theorem ju4 (l:List Ed) (e:Ed) (hl:l.length<=4000000):kg Tryz.prog 193 [.c (jv l),.agg (jR e)] (.c (.val (.int .i64 (jdY (λx=>decide (e=x)) l)))):=by
 refine pf_ vD ?_;unfold qk;simp only [go_sem,jR];intro b;refine vo (λi:Nat=>St.of [(0,Ro (jv l)),(3,Bx 300 b),(7,Ni l.length),(8,Ni i)] [(300,Bi b _ (jR e))]) (λi=>i<=l.length/\∀y∈l.take i,(λx=>decide (e=x)) y=false) (λi=>l.length-i) 0 (jy [300] (by simp only [go_sem,jR]<;>trivial)) ?_
 rintro k ⟨hk,cM⟩;by_cases aB:k<l.length
 ·have aA:(k:Int)<l.length:=by omega
  obtain ⟨x,hx⟩:=jd aB;have hw:=kX k;by_cases fD:e=x
  ·subst fD
   simp only [go_sem,jR,aB,aA,ju hx,jbN hx (decide_eq_true rfl) cM]
  ·simp only [go_sem,jR,aB,aA,ju hx,fD,hw]
   exact ⟨k+1,⟨aB,jmq hx (decide_eq_false fD) cM⟩,(jy [300] (by simp only [go_sem,jR]<;>trivial)),by (try dsimp only);omega⟩
 ·have aA:¬(k:Int)<l.length:=by omega
  rw [aMO (by omega)] at cM
  simp only [go_sem,jR,aA,jaC cM]
theorem jor (l:List Ed) (e:Ed) (hl:l.length<=4000000):kg Tryz.prog 161 [.c (jv l),.agg (jR e)] (.c (.val (.bool (decide (e∈l))))):=by
 refine pf_ vh ?_;unfold kZ;simp only [go_sem,jR];intro b;refine jx (ju4 l e hl) λη=>?_
 simp only [go_sem,jR];rcases zO (λx=>decide (e=x)) l with ⟨h1,h2⟩|⟨k,x,h1,h2,h3,-⟩
 ·have hm:decide (e∈l)=false:=decide_eq_false λh=>by have:=h2 e h;simp at this
  rw [h1,hm];simp only [go_sem]
 ·have hm:decide (e∈l)=true:=decide_eq_true (by have:e=x:=by simpa using h3
                                                exact this▸aMJ h2)
  have hk:=qT k;rw [h1,hm];simp only [go_sem,hk]
theorem jqD {a:Nat} (h:a<4096):(BitVec.ofInt 64 (a:Int))=BitVec.ofNat 64 a:=by
 apply BitVec.eq_of_toNat_eq
 simp
theorem jxs {a b:Nat} (ha:a<4096) (hb:b<4096):IntKind.i64.wrap ((BitVec.ofInt 64 (a:Int)|||BitVec.ofInt 64 (b:Int)).toNat:Int)=((a|||b:Nat):Int):=by
 have nL:a|||b<2^12:=Nat.or_lt_two_pow ha hb
 have e:(BitVec.ofInt 64 (a:Int)|||BitVec.ofInt 64 (b:Int)).toNat=a|||b:=by
  rw [jqD ha,jqD hb,BitVec.toNat_or,BitVec.toNat_ofNat,BitVec.toNat_ofNat,Nat.mod_eq_of_lt (by omega),Nat.mod_eq_of_lt (by omega)]
 rw [e];exact qE (by omega) (by omega)
theorem jut {d:Int} (h0:0<=d) (h:d<12):IntKind.i64.wrap (1*2^min d.toNat 64)=((2^d.toNat:Nat):Int):=by
 have e:min d.toNat 64=d.toNat:=aNZ (by omega)
 have aB:2^d.toNat<4096:=(show 2^d.toNat<2^12 from Nat.pow_lt_pow_right (by omega) (by omega))
 rw [e,Int.one_mul,show (2:Int)^d.toNat=((2^d.toNat:Nat):Int) by simp]
 generalize 2^d.toNat=q at*;exact qE (by omega) (by omega)
theorem jym {a t:Nat} (ha:a<4096) (ht:t<12):(IntKind.i64.wrap ((BitVec.ofInt 64 (Int.fdiv (a:Int) (2^min t 64))&&&BitVec.ofInt 64 1).toNat:Int)==1)=a.testBit t:=by
 have e:min t 64=t:=aNZ (by omega)
 have e1:Int.fdiv (a:Int) (2^t)=((a/2^t:Nat):Int):=by
  rw [show (2:Int)^t=((2^t:Nat):Int) by simp,Int.fdiv_eq_ediv_of_nonneg _ (Int.natCast_nonneg _)];rfl
 have hq:a/2^t<4096:=Nat.lt_of_le_of_lt (Nat.div_le_self _ _) ha
 have e2:(BitVec.ofInt 64 ((a/2^t:Nat):Int)&&&BitVec.ofInt 64 1).toNat=(a/2^t)%2:=by
  rw [jqD hq,show BitVec.ofInt 64 1=BitVec.ofNat 64 1 from rfl,BitVec.toNat_and,BitVec.toNat_ofNat,BitVec.toNat_ofNat,Nat.mod_eq_of_lt (by omega),Nat.mod_eq_of_lt (by omega)]
  exact Nat.and_one_is_mod _
 rw [e,e1,e2,qE (by omega) (by omega),Nat.testBit_eq_decide_div_mod_eq]
 by_cases h:a/2^t%2=1
 ·rw [h];rfl
 ·have h0:a/2^t%2=0:=by omega
  rw [h0];rfl
theorem jot {a b:Nat} (ha:a<4096) (hb:b<4096):IntKind.i64.wrap ((@BitVec.toNat 64 (@HOr.hOr (BitVec 64) (BitVec 64) (BitVec 64) (@instHOrOfOrOp (BitVec IntKind.i64.bits) (@BitVec.instOrOp IntKind.i64.bits)) (BitVec.ofInt 64 (a:Int)) (BitVec.ofInt 64 (b:Int))):Nat):Int)=((a|||b:Nat):Int):=jxs ha hb
theorem jwl {a t:Nat} (ha:a<4096) (ht:t<12):(IntKind.i64.wrap ((@BitVec.toNat 64 (@HAnd.hAnd (BitVec 64) (BitVec 64) (BitVec 64) (@instHAndOfAndOp (BitVec IntKind.i64.bits) (@BitVec.instAndOp IntKind.i64.bits)) (BitVec.ofInt 64 (Int.fdiv (a:Int) (2^min t 64))) (BitVec.ofInt 64 1)):Nat):Int)==1)=a.testBit t:=jym ha ht
def zL (S:List Nat):List Int:=S.map λ(k:Nat)=>(k:Int)
theorem jfu (S:List Nat):(zL S).length=S.length:=by simp [zL]
theorem jtN {S:List Nat} {k:Nat} (h:k<S.length):(zL S)[k]?=some ((S.getD k 0:Nat):Int):=by simp [zL,h]
theorem jA2 (S:List Nat) (k v:Nat):(zL S).set k (v:Int)=zL (S.set k v):=by simp [zL,List.map_set]
theorem jxh {es:List Ed} {k:Nat} {e:Ed} (h:es[k]?=some e) (S:List Nat):(es.take (k+1)).foldl jal S=jal ((es.take k).foldl jal S) e:=by
 rw [aMT,h];simp
theorem jqq {n:Nat}:∀{l:List Ed} {S:List Nat},(∀e∈l,okE n e)->(∀x∈S,x<2^n)->∀x∈l.foldl jal S,x<2^n
 |[],_,_,h=>h
 |e::l,S,hl,h=>jqq (l:=l) (S:=jal S e) (λe he=>hl e (by simp [he])) (jzq (hl e (by simp)) h)
theorem jpO {n:Nat} {es:List Ed} (bV:∀e∈es,okE n e):∀(k:Nat),∀x∈jpz es k (List.replicate n 0),x<2^n
 |0=>λx hx=>by simp [jpz] at hx;have:=Nat.two_pow_pos n;omega
 |k+1=>jqq bV (jpO bV k)
theorem jqp {S:List Nat} {n:Nat} (h:∀x∈S,x<2^n) (hn:n<=12) (k:Nat):S.getD k 0<4096:=by
 have h2:2^n<=2^12:=Nat.pow_le_pow_right (by omega) hn
 rw [aOJ];cases hk:S[k]? with
 |none=>simp
 |some v=>have:=h v (aMJ hk);simp;omega
def jik:C:=iS [iA 1 (.box 49 5 (.t 0)),iA 2 (.mov (.c (.slice none 0 0)))] (iS [aF 6 3 1,aL 7 6,iA 8 (.mks 3 1 8 [D.val (.int .i64 0)] (.t 7) (.t 7)),aM 3 8] (.seq (iS [aF 9 3 1,aL 10 9,aN 11 0] (.blk 0 (.loop (iS [aP 12 .lss 3 11 10] (.seq (iD 12 .skip (.exit 0)) (.seq (.blk 1 (iS [aF 13 4 1,aL 14 13,aG 15 14,aN 16 0] (.blk 2 (.loop (iS [aP 17 .lss 3 16 15] (.seq (iD 17 .skip (.exit 2)) (.seq (.blk 3 (iS [aI 18 2 14 16,aT 19 2 18,iA 5 wAO,wAG 5 19] (.dreg (tA 0 20 (iM 3) (tA 1 21 (iF 0 5) (tA 2 22 (iL 21) (tA 3 23 (iI 1 20 22) (tA 4 24 (iL 23) (tA 5 25 (iF 1 5) (tA 6 26 (iL 25) (tA 7 27 (.bin .shl 3 (oI 1) (.t 26)) (tA 8 28 (iM 3) (tA 9 29 (iF 1 5) (tA 10 30 (iL 29) (tA 11 31 (iI 1 28 30) (tA 12 32 (iL 31) (tA 13 33 (iP .or 3 27 32) (tA 14 34 (iP .or 3 24 33) (tA 15 35 (iI 1 20 22) (.alt (wAD 35 34) [] .done .stop)))))))))))))))))))) (.reg [aQ 36 .add 3 16 1,aM 16 36])))))))) (.reg [aQ 37 .add 3 11 1,aM 11 37]))))))) (iS [aM 38 3,aM 2 38] .ret)))
theorem jks:fnC Tryz.prog Tryz.f162=some (jik,[.t 2],39):=by kernel_rfl
def jcB:C:=iS [iA 1 (.box 49 5 (.t 0)),aN 2 0] (.seq (iS [aF 9 3 1,aL 10 9,iA 11 (.call 62 [.t 10,oI 1,oI 12]),aU 12 11,aM 13 12,iB 14 13 false (iF 4 1),iB 15 13 false (iL 14),iB 16 13 false (iG 15),iB 17 13 false (iQ .gtr 3 16 30),iA 18 (iY 13 (oT) (.t 17)),aM 19 18,iB 20 19 false (iF 0 1),iB 21 19 false (iL 20),iB 22 19 false (.call 62 [.t 21,oI 0,oI 9]),iB 23 19 false (iU 22),iA 24 (iY 19 (oT) (.t 23)),aM 25 24,iB 26 25 false (iF 1 1),iB 27 25 false (iL 26),iB 28 25 false (.call 62 [.t 27,oI 1,oI 5]),iB 29 25 false (iU 28),iA 30 (iY 25 (oT) (.t 29)),aM 31 30,iB 32 31 false (iF 2 1),iB 33 31 false (iL 32),iB 34 31 false (.call 62 [.t 33,oI 1,oI 20]),iB 35 31 false (iU 34),iA 36 (iY 31 (oT) (.t 35))] (iD 36 (iS [aN 2 1] .ret) .skip)) (.seq (iS [aF 37 4 1,aL 38 37,aG 39 38,aN 40 0] (.blk 0 (.loop (iS [aP 41 .lss 3 40 39] (.seq (iD 41 .skip (.exit 0)) (.seq (.blk 1 (iS [aI 42 2 38 40,aT 43 2 42,iA 4 wAO,wAG 4 43] (iS [aF 44 0 4,aL 45 44,aF 46 3 1,aL 47 46,aQ 48 .sub 3 47 1,iA 49 (.call 62 [.t 45,oI 0,.t 48]),aU 50 49,aM 51 50,iB 52 51 false (iF 1 4),iB 53 51 false (iL 52),iB 54 51 false (iF 3 1),iB 55 51 false (iL 54),iB 56 51 false (iQ .sub 3 55 1),iB 57 51 false (.call 62 [.t 53,oI 0,.t 56]),iB 58 51 false (iU 57),iA 59 (iY 51 (oT) (.t 58))] (iD 59 (iS [aN 2 2] .ret) .skip)))) (.reg [aQ 60 .add 3 40 1,aM 40 60]))))))) (.seq (iS [aF 61 4 1,aL 62 61,aG 63 62,aN 64 0] (.blk 2 (.loop (iS [aP 65 .lss 3 64 63] (.seq (iD 65 .skip (.exit 2)) (.seq (.blk 3 (iS [aM 66 64,aI 67 2 62 64,aT 68 2 67,iA 6 wAO,aM 5 66,wAG 6 68] (.seq (.dreg (tA 0 69 (iF 4 1) (tA 1 70 (iL 69) (tA 2 71 (iM 5) (tA 3 72 (.sl 2 (.t 70) none (some (.t 71))) (tA 4 73 (iT 2 6) (tC 74 (iK 161 [72,73]) [] .done .stop))))))) (iD 74 (iS [aN 2 3] .ret) .skip)))) (.reg [aQ 75 .add 3 64 1,aM 64 75]))))))) (.seq (iS [aT 76 5 1,iA 77 (iK 162 [76]),aG 78 77,aN 79 0] (.blk 4 (.loop (iS [aP 80 .lss 3 79 78] (.seq (iD 80 .skip (.exit 4)) (.seq (.blk 5 (iS [aM 81 79,aI 82 1 77 79,aL 83 82,aM 7 81,aM 8 83] (iS [aM 84 8,aM 85 7,aP 86 .shr 3 84 85,aQ 87 .and 3 86 1,aQ 88 .eql 3 87 1] (iD 88 (iS [aN 2 4] .ret) .skip)))) (.reg [aQ 89 .add 3 79 1,aM 79 89]))))))) (iS [aN 2 0] .ret)))))
theorem jfp:fnC Tryz.prog Tryz.f109=some (jcB,[.t 2],90):=by kernel_rfl
theorem jon (p:Pl) (n:Nat) (hn:p.aLT=n) (cC:n<=12) (dS:p.aLY.length<=30) (bV:∀e∈p.aLY,okE n e):kg Tryz.prog 162 [.agg (ja p)] (.c (je (zL (jd8 p.aLY n)))):=by
 refine pf_ jks ?_;unfold jik;have bG:je (List.replicate n 0)=je (zL (jpz p.aLY 0 (List.replicate n 0))):=by simp [jpz,zL]
 simp only [go_sem,ja,hn];intro b;rw [juB];refine ⟨.i64,.i64,n,by simp only [go_sem],by simp only [go_sem],by omega,by unfold maxLen;omega,λη=>?_⟩
 simp only [go_sem,ja,hn,jz8,bG];refine vo (λi:Nat×jm=>St.of [(1,Bx 100 b),(3,Hd 3 i.2),(10,Ni n),(11,Ni i.1)] [(100,Bi b _ (ja p)),(3,.loose (je (zL (jpz p.aLY i.1 (List.replicate n 0)))) i.2)]) (λi=>i.1<=n) (λi=>n-i.1) (0,η) (jy [100,800] (by simp only [go_sem,ja,hn]<;>trivial)) ?_
 rintro ⟨k,dB⟩ hk;dsimp only at hk;by_cases aB:k<n
 ·have aA:(k:Int)<n:=by omega
  have hw:=kX k;have iZ:=jq8 (es:=p.aLY) k (List.replicate n 0);have hSb:=jpO bV k;rw [aPN] at iZ;have oL:jpz p.aLY (k+1) (List.replicate n 0)=p.aLY.foldl jal (jpz p.aLY k (List.replicate n 0)):=rfl;dsimp only;generalize jpz p.aLY k (List.replicate n 0)=S at*;simp only [go_sem,ja,aA,hn];refine vo (λi:Nat×jm=>St.of [(1,Bx 100 b),(3,Hd 3 i.2),(10,Ni n),(11,Ni k),(14,Ro (jv p.aLY)),(15,Ni p.aLY.length),(16,Ni i.1)] [(100,Bi b _ (ja p)),(3,.loose (je (zL ((p.aLY.take i.1).foldl jal S))) i.2)]) (λi=>i.1<=p.aLY.length) (λi=>p.aLY.length-i.1) (0,dB) (jy [100,3] (by simp only [go_sem,ja,hn,aNM,List.foldl_nil]<;>trivial)) ?_
  rintro ⟨j,aV⟩ hj;dsimp only at hj;by_cases dA:j<p.aLY.length
  ·have aZ:(j:Int)<p.aLY.length:=by omega
   obtain ⟨e,he⟩:=jd dA;have hm:e∈p.aLY:=aMJ he;obtain ⟨⟨e1,e2⟩,e3,e4⟩:=bV e hm;have dM:=kX j;have y6:=jnj (p.aLY.take j) S;have hTb:=jqq (n:=n) (l:=p.aLY.take j) (S:=S) (λe he=>bV e (aPQ he)) hSb
   have dO:=jxh he S;dsimp only;generalize (p.aLY.take j).foldl jal S=U at*;have fP:e.src.toNat<U.length:=by omega
   have fN:e.dst.toNat<U.length:=by omega
   have lG:=jtN fP;have rG:=jtN fN;have mW:e.src.toNat<(zL U).length:=by rw [jfu];exact fP
   have hzd:e.dst.toNat<(zL U).length:=by rw [jfu];exact fN
   have hu1:=jqp hTb cC e.src.toNat;have wL:=jqp hTb cC e.dst.toNat;have hp:2^e.dst.toNat<4096:=(show 2^e.dst.toNat<2^12 from Nat.pow_lt_pow_right (by omega) (by omega))
   have ho:2^e.dst.toNat|||U.getD e.dst.toNat 0<4096:=Nat.or_lt_two_pow (n:=12) hp wL
   have aJ:(zL U).set e.src.toNat ((U.getD e.src.toNat 0|||(2^e.dst.toNat|||U.getD e.dst.toNat 0):Nat):Int)=zL (jal U e):=jA2 _ _ _
   simp only [go_sem,ja,hn,dA,aZ,ju he,jR,e1,e3,fP,fN,jfu];intro b2;simp only [go_sem,ja,hn,dA,aZ,jR,e1,e3,fP,fN,jfu,jg lG,jf mW,jg rG,jf hzd,jut e3 (by omega),jot hp wL,jot hu1 ho,jb3 _ mW,aJ,dM]
   exact ql (j+1,aV) (jy [100,3] (by simp only [go_sem,ja,hn,dO]<;>trivial))
  ·have aZ:¬(j:Int)<p.aLY.length:=by omega
   rw [aMO (by omega)]
   simp only [go_sem,ja,hn,aZ,hw];exact ql (k+1,aV) (jy [100,3] (by simp only [go_sem,ja,hn,oL]<;>trivial))
 ·have aA:¬(k:Int)<n:=by omega
  obtain rfl:k=n:=by omega
  simp only [go_sem,ja,hn,aA,jd8]
theorem qp (p:Pl) (iW:p.aLY.length<=4000000):kg Tryz.prog 109 [.agg (ja p)] (.c (.val (.int .i64 (jr p)))):=by
 refine pf_ jfp ?_;unfold jcB;simp only [go_sem,ja];intro b;refine jx (jE p.aLT 1 12) λη=>?_
 simp only [go_sem,ja];cases h1:decide (1<=p.aLT/\p.aLT<=12)
 ·simp only [go_sem,ja,h1,jhg (show zb p=true by simp [zb,inB,h1])]
 by_cases h2:30<p.aLY.length
 ·have bI:(p.aLY.length:Int)>30:=by omega
  simp only [go_sem,ja,h1,bI,jhg (show zb p=true by simp [zb,inB,h1,h2])]
 have bI:¬(p.aLY.length:Int)>30:=by omega
 simp only [go_sem,ja,h1,bI];refine jx (jE p.aMC 0 9) λη=>?_
 simp only [go_sem,ja];cases h3:decide (0<=p.aMC/\p.aMC<=9)
 ·simp only [go_sem,ja,h3,jhg (show zb p=true by simp [zb,inB,h3])]
 simp only [go_sem,ja,h3];refine jx (jE p.aMG 1 5) λη=>?_
 simp only [go_sem,ja];cases h4:decide (1<=p.aMG/\p.aMG<=5)
 ·simp only [go_sem,ja,h4,jhg (show zb p=true by simp [zb,inB,h4])]
 simp only [go_sem,ja,h4];refine jx (jE p.aMF 1 20) λη=>?_
 simp only [go_sem,ja];cases h5:decide (1<=p.aMF/\p.aMF<=20)
 ·simp only [go_sem,ja,h5,jhg (show zb p=true by simp [zb,inB,h5])]
 have hm:zb p=false:=by simp [zb,inB,h1,h2,h3,h4,h5]
 obtain ⟨n,hn,d8,nB,hel,-⟩:=jvi hm;have eL:IntKind.i64.wrap ((n:Int)-1)=n-1:=zy;simp only [go_sem,ja,h5,hn];refine vo (λi:Nat=>St.of [(1,Bx 100 b),(38,Ro (jv p.aLY)),(39,Ni p.aLY.length),(40,Ni i)] [(100,Bi b _ (ja p))]) (λi=>i<=p.aLY.length/\(p.aLY.take i).any (jjq n)=false) (λi=>p.aLY.length-i) 0 (jy [100] (by simp only [go_sem,ja,hn]<;>trivial)) ?_
 rintro k ⟨hk,cM⟩;by_cases aB:k<p.aLY.length
 ·have aA:(k:Int)<p.aLY.length:=by omega
  obtain ⟨e,he⟩:=jd aB;have hw:=kX k;simp only [go_sem,ja,hn,aB,aA,ju he,jR,eL];intro b2;refine jn (jE e.src 0 (n-1)) (by simp only [go_sem,ja,jR,eL]) λη=>?_
  simp only [go_sem,ja,jR,eL];cases h1:decide (0<=e.src/\e.src<=n-1)
  ·have gD:jjq p.aLT e=true:=by simp [jjq,inB,hn,h1]
   simp only [go_sem,ja,h1,jmJ hm (aMJ he) gD]
  ·simp only [go_sem,ja,h1,jR,eL,hn]
   refine jn (jE e.dst 0 (n-1)) (by simp only [go_sem,ja,jR,eL]) λη=>?_
   simp only [go_sem,ja,jR,eL];cases h2:decide (0<=e.dst/\e.dst<=n-1)
   ·have gD:jjq p.aLT e=true:=by simp [jjq,inB,hn,h2]
    simp only [go_sem,ja,h2,jmJ hm (aMJ he) gD]
   ·have gD:jjq n e=false:=by simp [jjq,inB,h1,h2]
    simp only [go_sem,ja,h2,hw];exact ⟨k+1,⟨aB,jr9 he gD cM⟩,(jy [100] (by simp only [go_sem,ja,hn]<;>trivial)),by (try dsimp only);omega⟩
 have aA:¬(k:Int)<p.aLY.length:=by omega
 rw [aMO (by omega),<-hn] at cM
 have bV:=jvc cM;have oY:∀e∈p.aLY,okE n e:=λe he=>by have:=bV e he;rwa [hn,aMQ] at this
 simp only [go_sem,ja,aA,hn];refine vo (λi:Nat=>St.of [(1,Bx 100 b),(62,Ro (jv p.aLY)),(63,Ni p.aLY.length),(64,Ni i)] [(100,Bi b _ (ja p))]) (λi=>i<=p.aLY.length/\(p.aLY.take i).Nodup) (λi=>p.aLY.length-i) 0 (jy [100] (by simp only [go_sem,ja,hn]<;>trivial)) ?_
 rintro j ⟨hj,eA⟩;by_cases bJ:j<p.aLY.length
 ·have aY:(j:Int)<p.aLY.length:=by omega
  obtain ⟨e,he⟩:=jd bJ;have hw:=kX j;have aCB:j<=p.aLY.length:=by omega
  simp only [go_sem,ja,bJ,aY,aCB,ju he,jR,hn];intro b2;refine jx (jor (p.aLY.take j) e (by rw [aMP];omega)) λη=>?_
  simp only [go_sem,ja,jR];by_cases dC:e∈p.aLY.take j
  ·have hd:¬p.aLY.Nodup:=by
    obtain ⟨m,eI,eC⟩:=aNO dC;rw [aMP] at eI;rw [List.getElem_take] at eC;exact jrP he (show m<j by omega) (by rw [aMK (by omega),eC])
   simp only [go_sem,ja,dC,jyO hm cM hd]
  ·simp only [go_sem,ja,dC,hw]
   exact ⟨j+1,⟨bJ,jlR he eA dC⟩,(jy [100] (by simp only [go_sem,ja,hn]<;>trivial)),by (try dsimp only);omega⟩
 have aY:¬(j:Int)<p.aLY.length:=by omega
 rw [aMO (by omega)] at eA
 simp only [go_sem,ja,aY,hn];refine jn (jon p n hn nB hel oY) (by simp only [go_sem,ja,hn]) λη=>?_
 simp only [go_sem,ja,hn];have wJ:=jtT (es:=p.aLY) (n:=n);have hwb:=jtU (n:=n) oY;have hwm:∀k:Nat,(jd8 p.aLY n).getD k 0<4096:=jqp (jpO oY n) nB;simp only [go_sem,jfu,wJ];refine vo (λi:Nat=>St.of [(77,Hd 7700 (η 0)),(78,Ni n),(79,Ni i)] [(7700,.loose (je (zL (jd8 p.aLY n))) (η 0))]) (λi=>i<=n/\∀t:Nat,t<i->¬Rc p.aLY t t) (λi=>n-i) 0 (jy [7700] (by simp only [go_sem,jfu,wJ]<;>trivial)) ?_
 rintro t ⟨ht,wM⟩;by_cases cP:t<n
 ·have dV:(t:Int)<n:=by omega
  have hw:=kX t;have htw:t<(jd8 p.aLY n).length:=by rw [wJ];exact cP
  have hg:=jtN htw;have sU:t<(zL (jd8 p.aLY n)).length:=by rw [jfu];exact htw
  have u5:=jwl (hwm t) (show t<12 by omega)
  have eY:=qT t;cases hr:((jd8 p.aLY n).getD t 0).testBit t
  ·rw [hr] at u5
   simp only [go_sem,cP,dV,jfu,wJ,jg hg,jf sU,u5,hw];exact ⟨t+1,⟨cP,λs hs h'=>by rcases Nat.lt_or_ge s t with h2|h2;exact wM s h2 h';obtain rfl:s=t:=(by omega);rw [(hwb s s).2 h'] at hr;cases hr⟩,(jy [7700]),by (try dsimp only);omega⟩
  ·rw [hr] at u5
   simp only [go_sem,cP,dV,jfu,wJ,jg hg,jf sU,u5,hw,jyP hm cM eA (by rw [hn];exact dV) ((hwb t t).1 hr)]
 ·have dV:¬(t:Int)<n:=by omega
  simp only [go_sem,dV,jz0 hm cM eA (λs hs=>wM s (by omega))]
def jcC:C:=iS [aO 2 false] (iS [aM 3 0,aM 4 0,aP 5 .neq 3 3 4,aM 2 5] .ret)
theorem jfq:fnC Tryz.prog Tryz.f222=some (jcC,[.t 2],6):=by kernel_rfl
def jdy:C:=iS [aO 4 false] (iS [aM 5 0,iA 6 (iK 222 [5]),aM 7 6,iB 8 7 true (iM 1),iB 9 7 true (iK 222 [8]),iB 10 7 true (iU 9),iA 11 (iY 7 (.t 10) (oF)),aM 12 11,iB 13 12 false (iM 0),iB 14 12 false (iM 1),iB 15 12 false (iP .lss 3 13 14),iA 16 (iY 12 (oT) (.t 15)),aM 4 16] .ret)
theorem jgw:fnC Tryz.prog Tryz.f211=some (jdy,[.t 4],17):=by kernel_rfl
def qn:C:=iS [aM 8 1,aQ 9 .add 3 8 1,aM 6 9] (.blk 0 (.loop (.seq (iS [aM 10 6,aM 11 2,aP 12 .lss 3 10 11] (iD 12 .skip (.exit 0))) (.seq (.blk 1 (iS [aM 15 6,aM 7 15] (.blk 2 (.loop (.seq (.seq (.dreg (tA 0 16 (iM 7) (tA 1 17 (iM 1) (tA 2 18 (iP .gtr 3 16 17) (tA 3 19 (iM 18) (tB 4 20 19 true (iM 0) (tB 5 21 19 true (iM 7) (tB 6 22 19 true (iI 1 20 21) (tB 7 23 19 true (iL 22) (tB 8 24 19 true (iM 0) (tB 9 25 19 true (iM 7) (tB 10 26 19 true (iQ .sub 3 25 1) (tB 11 27 19 true (iI 1 24 26) (tB 12 28 19 true (iL 27) (.alt (iB 29 19 true (iK 211 [23,28])) [] (tA 14 30 (iY 19 (.t 29) (oF)) .done) .stop))))))))))))))) (iD 30 .skip (.exit 2))) (.seq (.blk 3 (.dreg (tA 0 33 (iM 0) (tA 1 34 (iM 7) (tA 2 35 (iM 0) (tA 3 36 (iM 7) (tA 4 37 (iQ .sub 3 36 1) (tA 5 38 (iM 0) (tA 6 39 (iM 7) (tA 7 40 (iQ .sub 3 39 1) (tA 8 41 (iI 1 38 40) (tA 9 42 (iL 41) (tA 10 43 (iM 0) (tA 11 44 (iM 7) (tA 12 45 (iI 1 43 44) (tA 13 46 (iL 45) (tA 14 47 (iI 1 33 34) (.alt (wAD 47 42) [4,3,2] (tA 16 48 (iI 1 35 37) (.alt (wAD 48 46) [] .done .stop)) .stop)))))))))))))))))) (.reg [aM 31 7,aQ 32 .sub 3 31 1,aM 7 32]))))))) (.reg [aM 13 6,aQ 14 .add 3 13 1,aM 6 14])))))
theorem vI:fnC Tryz.prog Tryz.f205=some (qn,[],49):=by kernel_rfl
def vm:C:=iS [aO 8 true] (iS [aO 9 true] (.blk 0 (.loop (.blk 1 (iS [aM 19 2,aM 20 1,aP 21 .sub 3 19 20,aM 10 21] (.seq (iS [aM 22 10,aQ 23 .leq 3 22 12] (iD 23 (iS [aM 24 0,aM 25 1,aM 26 2,iA 27 (iK 205 [24,25,26])] .ret) .skip)) (.seq (iS [aM 28 3,aQ 29 .eql 3 28 0] (iD 29 (iS [aM 30 0,aM 31 1,aM 32 2,iA 33 (iK 206 [30,31,32])] .ret) .skip)) (.seq (iS [aM 34 8,aU 35 34] (iD 35 (iS [aM 36 0,aM 37 1,aM 38 2,iA 39 (iK 207 [36,37,38])] (.reg [aM 40 3,aQ 41 .sub 3 40 1,aM 3 41])) .skip)) (iS [aM 43 0,aM 44 1,aM 45 2,iA 46 (iK 208 [43,44,45]),aM 42 46,aE 47 42 0,aE 48 42 1,aM 11 47,aM 12 48] (.seq (iS [aM 49 12,aQ 50 .eql 188 49 2] (iD 50 (iS [aM 51 0,aM 52 1,aM 53 2,iA 54 (iK 209 [51,52,53])] (iS [aM 55 2,aQ 56 .sub 3 55 1,aM 57 11,aM 58 1,aP 59 .sub 3 57 58,aP 60 .sub 3 56 59,aM 11 60] (.reg [aN 12 1]))) .skip)) (.seq (iS [aM 61 8,aM 62 61,iB 63 62 true (iM 9),iA 64 (iY 62 (.t 63) (oF)),aM 65 64,iB 66 65 true (iM 12),iB 67 65 true (iQ .eql 188 66 1),iA 68 (iY 65 (.t 67) (oF))] (iD 68 (iS [aM 69 0,aM 70 1,aM 71 2,iA 72 (iK 210 [69,70,71])] (iD 72 .ret .skip)) .skip)) (.seq (.seq (.dreg (tA 0 73 (iM 1) (tA 1 74 (iQ .gtr 3 73 0) (tA 2 75 (iM 74) (tB 3 76 75 true (iM 0) (tB 4 77 75 true (iM 1) (tB 5 78 75 true (iQ .sub 3 77 1) (tB 6 79 75 true (iI 1 76 78) (tB 7 80 75 true (iL 79) (tB 8 81 75 true (iM 0) (tB 9 82 75 true (iM 11) (tB 10 83 75 true (iI 1 81 82) (tB 11 84 75 true (iL 83) (.alt (iB 85 75 true (iK 211 [80,84])) [] (tB 13 86 75 true (iU 85) (tA 14 87 (iY 75 (.t 86) (oF)) .done)) .stop)))))))))))))) (iD 87 (iS [aM 88 0,aM 89 1,aM 90 2,aM 91 11,iA 92 (iK 212 [88,89,90,91]),aM 13 92] (iS [aM 93 13,aM 1 93] (.exit 1))) .skip)) (iS [aM 95 0,aM 96 1,aM 97 2,aM 98 11,iA 99 (iK 213 [95,96,97,98]),aM 94 99,aE 100 94 0,aE 101 94 1,aM 14 100,aM 15 101] (iS [aM 102 15,aM 9 102] (iS [aM 103 14,aM 104 1,aP 105 .sub 3 103 104,aM 106 2,aM 107 14,aP 108 .sub 3 106 107,aM 16 105,aM 17 108] (iS [aM 109 10,aQ 110 .quo 3 109 8,aM 18 110] (iS [aM 111 16,aM 112 17,aP 113 .lss 3 111 112] (iD 113 (iS [aM 114 16,aM 115 18,aP 116 .geq 3 114 115,aM 8 116] (iS [aM 117 0,aM 118 1,aM 119 14,aM 120 3,iA 121 (iK 202 [117,118,119,120])] (.reg [aM 122 14,aQ 123 .add 3 122 1,aM 1 123]))) (iS [aM 124 17,aM 125 18,aP 126 .geq 3 124 125,aM 8 126] (iS [aM 127 0,aM 128 14,aQ 129 .add 3 128 1,aM 130 2,aM 131 3,iA 132 (iK 202 [127,129,130,131])] (.reg [aM 133 14,aM 2 133])))))))))))))))))))))
theorem zP:fnC Tryz.prog Tryz.f202=some (vm,[],134):=by kernel_rfl
def zE:C:=iS [aM 3 0,aG 4 3,aM 2 4] (.reg [aM 5 0,aM 6 2,aM 7 2,iA 8 (.cv (.num .u64) 0 (.t 7)),iA 9 (iK 203 [8]),iA 10 (.call 202 [.t 5,oI 0,.t 6,.t 9])])
theorem jbq:fnC Tryz.prog Tryz.f194=some (zE,[],11):=by kernel_rfl
def jdl:C:=iS [aN 2 0] (.seq (.cond (oF) (iS [aM 3 0,iA 4 (.cv (.num .u32) 0 (.t 3)),iA 5 (iK 214 [4]),aM 2 5] .ret) .skip) (iS [aM 6 0,iA 7 (iK 215 [6]),aM 2 7] .ret))
theorem jgl:fnC Tryz.prog Tryz.f203=some (jdl,[.t 2],8):=by kernel_rfl
def jCq:ByteArray:=⟨(([0,1]:List UInt8)++List.replicate 2 2++List.replicate 4 3++List.replicate 8 4++List.replicate 16 5++List.replicate 32 6++List.replicate 64 7++List.replicate 128 8).toArray⟩
def jbS:C:=iS [aN 2 0] (.seq (iS [aM 3 0,iA 4 (.bin .geq 198 (.t 3) (.c (.int .u64 4294967296)))] (iD 4 (iS [aM 5 0,iA 6 (.bin .shr 198 (.t 5) (.c (.int .u64 32))),aM 0 6] (.reg [aN 2 32])) .skip)) (.seq (iS [aM 7 0,iA 8 (.bin .geq 198 (.t 7) (.c (.int .u64 65536)))] (iD 8 (iS [aM 9 0,iA 10 (.bin .shr 198 (.t 9) (.c (.int .u64 16))),aM 0 10] (.reg [aM 11 2,aQ 12 .add 3 11 16,aM 2 12])) .skip)) (.seq (iS [aM 13 0,iA 14 (.bin .geq 198 (.t 13) (.c (.int .u64 256)))] (iD 14 (iS [aM 15 0,iA 16 (.bin .shr 198 (.t 15) (.c (.int .u64 8))),aM 0 16] (.reg [aM 17 2,aQ 18 .add 3 17 8,aM 2 18])) .skip)) (iS [aM 19 2,aM 20 0,iA 21 (.cv (.num .u8) 0 (.t 20)),iA 22 (.sidx (.c (.string jCq)) (.t 21)),iA 23 (.cv (.num .i64) 0 (.t 22)),aP 24 .add 3 19 23,aM 2 24] .ret))))
theorem jd2:fnC Tryz.prog Tryz.f215=some (jbS,[.t 2],25):=by kernel_rfl
theorem jz1 (a:Int):kg Tryz.prog 222 [.c (.val (.int .i64 a))] (.c (.val (.bool false))):=by
 refine pf_ jfq ?_;unfold jcC;simp only [go_sem,aOU]
theorem jB6 (a b:Int):kg Tryz.prog 211 [.c (.val (.int .i64 a)),.c (.val (.int .i64 b))] (.c (.val (.bool (decide (a<b))))):=by
 refine pf_ jgw ?_;unfold jdy;simp only [go_sem];refine jx (jz1 a) λη=>?_
 simp only [go_sem]
def up1 (o:Nat->Ob) (g:Nat) (ob:Ob):Nat->Ob:=λk=>if k=g then ob else o k
theorem jqO (o:Nat->Ob) (g:Nat) (ob:Ob):up1 o g ob g=ob:=by simp [up1]
theorem jzl (o:Nat->Ob) (g:Nat) (a b:Ob):(λk=>if k=g then b else up1 o g a k)=up1 o g b:=by funext k;simp only [up1];split<;>rfl
theorem jA8 {o:Nat->Ob} {g:Nat} {ob:Ob} (h:o g=ob):o=up1 o g ob:=by
 funext k
 simp only [up1];split
 ·rename_i e;rw [e,h]
 ·rfl
theorem jw8 (s:St) (g:Nat) (ob:Ob):(s.setO g ob).o=up1 s.o g ob:=rfl
theorem up1_2 (o:Nat->Ob) (g:Nat) (a b:Ob):up1 (up1 o g a) g b=up1 o g b:=jzl o g a b
theorem jBZ (s:St) (d:Option Nat) (v:AV):(s.put d v).o=s.o:=by cases d<;>rfl
theorem jti (A:List Int) (hA:A.length<=12) (o:Nat->Ob) (g:Nat) (η:jm) (ho:o g=.loose (je A) η):Inl Tryz.prog 205 [Hd g η,Ni 0,Ni A.length] o (λav o'=>av=.tup []/\∃(l:List Int) (i:Nat),o'=up1 o g (.loose (je l) η)/\SO A l i/\A.length<=i):=by
 refine qv (β:=0) Tryz.func205 vI (by simp) ?_
 unfold qn;simp only [go_sem];refine vV (λs=>∃(l:List Int) (i:Nat),1<=i/\(i<=A.length\/i=1)/\SO A l i/\s.t 0=Hd g η/\s.t 1=Ni 0/\s.t 2=Ni A.length/\s.t 6=Ni i/\s.o=up1 o g (.loose (je l) η)) (λs=>A.length-s.n 6) ?_ ?_
 ·exact ⟨A,1,by omega,.inr rfl,SO_1 A,by simp only [go_sem]<;>rfl,by simp only [go_sem]<;>rfl,by simp only [go_sem]<;>rfl,by simp only [go_sem]<;>rfl,jA8 ho⟩
 ·rintro s ⟨l,i,hi,hi2,yT,h0,h1,h2,h6,bL⟩
  have hm:s.n 6=i:=je1 h6;rw [hm];by_cases aB:i<A.length
  ·have aA:(i:Int)<A.length:=by omega
   have hw:=kX i;have eV:=yT.1.length_eq;simp only [go_sem,h0,h1,h2,h6,bL,aA];refine vV (λs=>∃(l:List Int) (j:Nat),SI A l i j/\s.t 0=Hd g η/\s.t 1=Ni 0/\s.t 2=Ni A.length/\s.t 6=Ni i/\s.t 7=Ni j/\s.o=up1 o g (.loose (je l) η)) (λs=>s.n 7) ?_ ?_
   ·exact ⟨l,i,SI_0 yT,by simp only [go_sem,h0,h1,h2,h6,bL]<;>rfl,by simp only [go_sem,h0,h1,h2,h6,bL]<;>rfl,by simp only [go_sem,h0,h1,h2,h6,bL]<;>rfl,by simp only [go_sem,h0,h1,h2,h6,bL]<;>rfl,by simp only [go_sem,h0,h1,h2,h6,bL]<;>rfl,bL⟩
   ·clear h0 h1 h2 h6 bL yT eV hm
    rintro s ⟨l,j,wP,h0,h1,h2,h6,h7,bL⟩;have eV:=wP.1.length_eq;have rD:=wP.2.1;have hm:s.n 7=j:=je1 h7;rw [hm];cases j with
    |zero=>
     simp only [go_sem,h0,h1,h2,h6,h7,bL,hw];refine ⟨⟨l,i+1,by omega,.inl (by omega),jze wP (.inl rfl),rfl,?_⟩,?_⟩
     ·exact bL
     ·rw [je1 (k:=.i64) (n:=((i+1:Nat):Int)) (by simp only [go_sem])];omega
    |succ j=>
     have xJ:((j+1:Nat):Int)>0:=by omega
     have bS:IntKind.i64.wrap (((j+1:Nat):Int)-1)=(j:Int):=by rw [qE (by omega) (by omega)];omega
     have tU:l[j+1]?=some (l.getD (j+1) 0):=by rw [aOJ,aMK (by omega)];rfl
     have nF:l[j]?=some (l.getD j 0):=by rw [aOJ,aMK (by omega)];rfl
     have rE:j+1<l.length:=by omega
     have mQ:j<l.length:=by omega
     simp only [go_sem,h0,h1,h2,h6,h7,bL,xJ,bS,jg tU,jg nF,jqO,rE,mQ,jf rE,jf mQ];refine jn (jB6 (l.getD (j+1) 0) (l.getD j 0)) (by simp only [go_sem,h0,h1,h2,h6,h7,bL,xJ,bS]) λη=>?_
     simp only [go_sem,h0,h1,h2,h6,h7,bL,xJ,bS];by_cases hc:l.getD (j+1) 0<l.getD j 0
     ·have fI:j<(l.set (j+1) (l.getD j 0)).length:=by rw [aMU];exact mQ
      have aJ:(l.set (j+1) (l.getD j 0)).set j (l.getD (j+1) 0)=swp l j:=rfl;simp only [go_sem,h0,h1,h2,h6,h7,bL,xJ,bS,hc,jg tU,jg nF,jqO,rE,mQ,jf rE,jf mQ,jb3 _ rE,jb3 _ fI,jf fI,fI,aJ];refine ⟨⟨swp l j,j,jDj wP (by omega) hc,?_⟩,?_⟩
      ·refine ⟨rfl,?_⟩
       simp only [jBZ,jw8,bL,up1_2]
      ·rw [je1 (k:=.i64) (n:=((j:Nat):Int)) (by simp only [go_sem])];omega
     ·simp only [go_sem,h0,h1,h2,h6,h7,bL,xJ,hw,hc]
      refine ⟨⟨l,i+1,by omega,.inl (by omega),jze wP (.inr ⟨j,rfl,by omega⟩),rfl,?_⟩,?_⟩
      ·exact bL
      ·rw [je1 (k:=.i64) (n:=((i+1:Nat):Int)) (by simp only [go_sem])];omega
  ·have aA:¬(i:Int)<A.length:=by omega
   simp only [go_sem,h0,h1,h2,h6,bL,aA];exact ⟨l,i,bL,yT,by omega⟩
theorem jjl {P:Program} {f:FuncId} {args:List AV} {o:Nat->Ob} {R R':AV->(Nat->Ob)->Prop} (h:Inl P f args o R) (hR:∀av o',R av o'->R' av o'):Inl P f args o R':=
 ⟨h.1,λB w F xs h1 h2=>(h.2 B w F xs h1 h2).mono λe w' ⟨v,av,o',F',k1,k2,k3,k4⟩=>⟨v,av,o',F',k1,k2,k3,hR _ _ k4⟩⟩
theorem wp_cf {P:Program} {β:Nat} {s:St} {Q:Ex->St->Prop} {a b:C}:wpC P β (.cond (.c (.bool false)) a b) Q s=wpC P β b Q s:=by
 apply propext
 constructor
 ·rintro ⟨t,h1,h2,h3⟩
  have:t=false:=by cases t<;>first|rfl|cases h1
  exact h3 this
 ·exact λh=>⟨false,rfl,λh'=>(by cases h'),λ_=>h⟩
def lenB (n:Nat):Int:=[0,1,2,2,3,3,3,3,4,4,4,4,4].getD n 0
theorem jp2 (n:Nat) (hn:n<=12):kg Tryz.prog 215 [.c (.val (.int .u64 n))] (.c (.val (.int .i64 (lenB n)))):=by
 refine pf_ jd2 ?_;have:n=0\/n=1\/n=2\/n=3\/n=4\/n=5\/n=6\/n=7\/n=8\/n=9\/n=10\/n=11\/n=12:=by omega
 unfold jbS;rcases this with rfl|rfl|rfl|rfl|rfl|rfl|rfl|rfl|rfl|rfl|rfl|rfl|rfl
 all_goals
  simp only [go_sem];exact ⟨_,rfl,rfl⟩
theorem ju3 (n:Nat) (hn:n<=12):kg Tryz.prog 203 [.c (.val (.int .u64 n))] (.c (.val (.int .i64 (lenB n)))):=by
 refine pf_ jgl ?_;unfold jdl;simp only [go_sem,wp_cf];refine jx (jp2 n hn) λη=>?_
 simp only [go_sem]
theorem jAs (A:List Int) (hA:A.length<=12) (o:Nat->Ob) (g:Nat) (η:jm) (ho:o g=.loose (je A) η) (v:Int):Inl Tryz.prog 202 [Hd g η,Ni 0,Ni A.length,Ni v] o (λav o'=>av=.tup []/\∃(l:List Int) (i:Nat),o'=up1 o g (.loose (je l) η)/\SO A l i/\A.length<=i):=by
 refine qv (β:=0) Tryz.func202 zP (by simp) ?_
 unfold vm;have cC:(A.length:Int)<=12:=by omega
 have hw:IntKind.i64.wrap ((A.length:Int)-0)=(A.length:Int):=by rw [Int.sub_zero];exact qE (by omega) (by omega)
 simp only [go_sem];refine jab 0 ?_;simp only [go_sem,hw,cC];refine qe (jjl (jti A hA o g η ho) ?_);rintro av o' ⟨rfl,l,i,rfl,h1,h2⟩;exact ⟨l,i,rfl,h1,h2⟩
theorem jrz (A:List Int) (hA:A.length<=12) (o:Nat->Ob) (g:Nat) (η:jm) (ho:o g=.loose (je A) η):Inl Tryz.prog 194 [Hd g η] o (λav o'=>av=.tup []/\∃(l:List Int) (i:Nat),o'=up1 o g (.loose (je l) η)/\SO A l i/\A.length<=i):=by
 refine qv (β:=0) Tryz.func194 jbq (by simp) ?_
 unfold zE;have hw:IntKind.u64.wrap (A.length:Int)=(A.length:Int):=by generalize A.length=n at hA;have:n=0\/n=1\/n=2\/n=3\/n=4\/n=5\/n=6\/n=7\/n=8\/n=9\/n=10\/n=11\/n=12:=(by omega);rcases this with rfl|rfl|rfl|rfl|rfl|rfl|rfl|rfl|rfl|rfl|rfl|rfl|rfl<;>rfl
 simp only [go_sem,ho,hw];refine jx (ju3 A.length hA) λaV=>?_
 simp only [go_sem];refine qe (jjl (jAs A hA _ g η (by simp only [go_sem,ho]) (lenB A.length)) ?_)
 rintro av o' ⟨rfl,l,i,rfl,h1,h2⟩;exact ⟨l,i,rfl,h1,h2⟩
