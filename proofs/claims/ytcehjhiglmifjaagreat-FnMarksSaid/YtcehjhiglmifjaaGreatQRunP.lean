/- Parts. -/
import Derived.Test.YtcehjhiglmifjaaGreatQAb
set_option linter.all false
set_option maxHeartbeats 4000000
set_option maxRecDepth 100000
namespace Go.Proofs.YtcehjhiglmifjaaGreat
theorem jdu:∀(n:Nat) (l:List Int),l.Nodup->(∀x∈l,0<=x/\x<n)->l.length<=n
 |0,l,_,h=>by
  cases l with
  |nil=>exact aOC _
  |cons x l=>have:=h x (by simp);omega
 |n+1,l,hd,h=>by
  by_cases hm:(n:Int)∈l
  ·have h1:=jdu n (l.erase n) (hd.erase _) (λx hx=>by
    have h2:=(hd.mem_erase_iff).1 hx;have:=h x h2.2;have:=h2.1;omega)
   rw [List.length_erase_of_mem hm] at h1;omega
  ·have h1:=jdu n l hd (λx hx=>by
    have:=h x hx;have:x≠n:=λe=>hm (e▸hx)
    omega)
   omega
def isE (es:List Ed) (a b:Int):Prop:=∃e∈es,e.src=a/\e.dst=b
inductive Rc (es:List Ed):Int->Int->Prop
 |one {a b:Int}:isE es a b->Rc es a b
 |step {a b c:Int}:Rc es a b->isE es b c->Rc es a c
def Rk (es:List Ed):Nat->Int->Int->Prop
 |0,_,_=>False
 |k+1,a,b=>isE es a b\/∃c,isE es a c/\Rk es k c b
section
variable {es:List Ed}
theorem Rk.mono {a b:Int}:∀{k:Nat},Rk es k a b->Rk es (k+1) a b:=by
 intro k
 induction k generalizing a with
 |zero=>intro h;exact h.elim
 |succ k ih=>
  rintro (h|⟨c,h1,h2⟩)
  ·exact .inl h
  ·exact .inr ⟨c,h1,ih h2⟩
theorem Rk.le {a b:Int} {k m:Nat} (h:Rk es k a b) (hk:k<=m):Rk es m a b:=by
 induction m with
 |zero=>obtain rfl:k=0:=by omega
        exact h
 |succ m ih=>
  by_cases e:k=m+1
  ·subst e;exact h
  ·exact (ih (by omega)).mono
theorem Rk.snoc {a b c:Int} (he:isE es b c):∀{k:Nat},Rk es k a b->Rk es (k+1) a c:=by
 intro k
 induction k generalizing a with
 |zero=>intro h;exact h.elim
 |succ k ih=>
  rintro (h|⟨d,h1,h2⟩)
  ·exact .inr ⟨b,h,.inl he⟩
  ·exact .inr ⟨d,h1,ih h2⟩
theorem Rc.rk {a b:Int} (h:Rc es a b):∃k,Rk es k a b:=by
 induction h with
 |one h=>exact ⟨1,.inl h⟩
 |step _ h ih=>obtain ⟨k,hk⟩:=ih;exact ⟨k+1,hk.snoc h⟩
theorem Rc.cons {a b c:Int} (he:isE es a b) (h:Rc es b c):Rc es a c:=by
 induction h with
 |one h=>exact .step (.one he) h
 |step _ h ih=>exact .step ih h
theorem jyr {α:Type} {p q:α->Bool} {l:List α} (h:∀x∈l,p x=true->q x=true) {x:α} (hx:x∈l) (hq:q x=true) (hp:p x=false):(l.filter p).length<(l.filter q).length:=by
 induction l with
 |nil=>simp at hx
 |cons a l ih=>
  have cE:(l.filter p).length<=(l.filter q).length:=by
   clear ih hx
   induction l with
   |nil=>simp
   |cons b l ih=>
    have:=ih (λx hx=>h x (by simp only [aOK] at hx⊢;rcases hx with rfl|hx<;>simp_all))
    by_cases hb:p b=true
    ·have:=h b (by simp) hb
     simp [hb,this];omega
    ·by_cases aZ:q b=true<;>simp [hb,aZ]<;>omega
  rcases aOK.1 hx with rfl|hx
  ·simp [hq,hp];omega
  ·have:=ih (λx hx=>h x (by simp [hx])) hx
   by_cases hb:p a=true
   ·have:=h a (by simp) hb
    simp [hb,this];omega
   ·by_cases aZ:q a=true<;>simp [hb,aZ]<;>omega
open Classical in
theorem Rc.enough {n:Nat} (bU:∀e∈es,0<=e.src/\e.src<n) {a b:Int} (h:Rc es a b):Rk es n a b:=by
 let f:Nat->List Nat:=λk=>(List.range n).filter λ(i:Nat)=>decide (Rk es k (i:Int) b)
 have lL:∀{k:Nat} {a:Int},Rk es k a b->∃i:Nat,i<n/\a=i:=by
  intro k a hk
  have:∃c,isE es a c:=by
   cases k with
   |zero=>exact hk.elim
   |succ k=>rcases hk with h|⟨c,h,_⟩<;>exact ⟨_,h⟩
  obtain ⟨c,e,he,rfl,rfl⟩:=this;have:=bU e he;exact ⟨e.src.toNat,by omega,by omega⟩
 have key:∀k,k<=n->(k<=(f k).length)\/∃m,m<k/\∀a,Rk es (m+1) a b->Rk es m a b:=by
  intro k
  induction k with
  |zero=>intro _;exact .inl (aOL _)
  |succ k ih=>
   intro hk;rcases ih (by omega) with h1|⟨m,h1,h2⟩
   ·by_cases hs:∀a,Rk es (k+1) a b->Rk es k a b
    ·exact .inr ⟨k,by omega,hs⟩
    ·simp only [Classical.not_forall] at hs
     obtain ⟨a,h3,h4⟩:=hs;obtain ⟨i,hi,rfl⟩:=lL h3;refine .inl (Nat.lt_of_le_of_lt h1 ?_);exact jyr (x:=i) (λx _ hx=>by simp at hx⊢;exact hx.mono) (by simpa using hi) (by simpa using h3) (by simpa using h4)
   ·exact .inr ⟨m,by omega,h2⟩
 obtain ⟨k,hk⟩:=h.rk;rcases key n (aOC _) with h1|⟨m,h1,h2⟩
 ·obtain ⟨i,hi,rfl⟩:=lL hk
  have cX:∀x∈List.range n,(λ(i:Nat)=>decide (Rk es n (i:Int) b)) x=true:=by
   have cE:=aOT (λ(i:Nat)=>decide (Rk es n (i:Int) b)) (List.range n)
   rw [List.length_range] at cE;refine List.length_filter_eq_length_iff.1 ?_;rw [List.length_range];exact Nat.le_antisymm cE h1
  simpa using cX i (by simpa using hi)
 ·have:∀k a,Rk es k a b->Rk es m a b:=by
   intro k
   induction k with
   |zero=>intro a h;exact h.elim
   |succ k ih=>
    rintro a (h|⟨c,h3,h4⟩)
    ·exact h2 a (.inl h)
    ·exact h2 a (.inr ⟨c,h3,ih c h4⟩)
  exact (this k a hk).le (by omega)
end
def jak (S:List Nat) (e:Ed):List Nat:=S.set e.src.toNat (S.getD e.src.toNat 0|||(2^e.dst.toNat|||S.getD e.dst.toNat 0))
def rnd (es:List Ed) (S:List Nat):List Nat:=es.foldl jak S
def jrd (es:List Ed):Nat->List Nat->List Nat
 |0,S=>S
 |k+1,S=>rnd es (jrd es k S)
def jeM (es:List Ed) (n:Nat):List Nat:=jrd es n (List.replicate n 0)
def okE (n:Nat) (e:Ed):Prop:=(0<=e.src/\e.src<n)/\(0<=e.dst/\e.dst<n)
section
variable {es:List Ed} {n:Nat}
theorem jc9 (S:List Nat) (e:Ed):(jak S e).length=S.length:=by simp [jak]
theorem jAW (S:List Nat) (i j v:Nat):(S.set i v).getD j 0=if i=j/\j<S.length then v else S.getD j 0:=by
 simp only [aPU,aPO];by_cases h:i=j
 ·subst h
  by_cases hl:i<S.length
  ·simp [hl]
  ·simp [hl]
 ·simp [h]
theorem jkD {S:List Nat} {e:Ed} (he:okE n e) (hS:S.length=n) (a b:Nat):((jak S e).getD a 0).testBit b=if a=e.src.toNat then ((S.getD a 0).testBit b||(decide (b=e.dst.toNat)||(S.getD e.dst.toNat 0).testBit b)) else (S.getD a 0).testBit b:=by
 obtain ⟨⟨h1,h2⟩,h3,h4⟩:=he;unfold jak;rw [jAW];by_cases h:a=e.src.toNat
 ·subst h
  rw [if_pos ⟨rfl,by omega⟩,if_pos rfl]
  simp only [Nat.testBit_or,Nat.testBit_two_pow]
  congr 2
  by_cases e:e.dst.toNat=b<;>simp [e]
  intro h;exact absurd h.symm e
 ·rw [if_neg (λh'=>h h'.1.symm),if_neg h]
def Snd (es:List Ed) (n:Nat) (S:List Nat):Prop:=S.length=n/\∀a b:Nat,(S.getD a 0).testBit b=true->Rc es a b
def Cpl (es:List Ed) (k:Nat) (S:List Nat):Prop:=∀a b:Nat,Rk es k a b->(S.getD a 0).testBit b=true
theorem jzZ {S:List Nat} {e:Ed} (he:okE n e) (hm:e∈es) (h:Snd es n S):Snd es n (jak S e):=by
 refine ⟨by rw [jc9];exact h.1,λa b hb=>?_⟩
 rw [jkD he h.1] at hb;obtain ⟨⟨h1,h2⟩,h3,h4⟩:=he;split at hb
 ·rename_i ha
  simp only [Bool.or_eq_true,aOJ] at hb;have hE:isE es a e.dst:=⟨e,hm,by omega,rfl⟩
  rcases hb with hb|hb|hb
  ·exact h.2 a b hb
  ·rw [show (b:Int)=e.dst by omega];exact .one hE
  ·have:=h.2 _ b hb
   rw [show ((e.dst.toNat:Nat):Int)=e.dst by omega] at this
   exact .cons hE this
 ·exact h.2 a b hb
theorem jsY:∀{l:List Ed} {S:List Nat},(∀e∈l,okE n e/\e∈es)->Snd es n S->Snd es n (l.foldl jak S)
 |[],_,_,h=>h
 |e::l,S,hl,h=>jsY (l:=l) (S:=jak S e) (λe he=>hl e (by simp [he])) (jzZ (hl e (by simp)).1 (hl e (by simp)).2 h)
theorem jpi {S:List Nat} {e:Ed} (he:okE n e) (hS:S.length=n) {a b:Nat} (h:(S.getD a 0).testBit b=true):((jak S e).getD a 0).testBit b=true:=by
 rw [jkD he hS];split<;>simp only [h,Bool.true_or]
theorem jqx:∀{l:List Ed} {S:List Nat},(∀e∈l,okE n e)->S.length=n->∀{a b:Nat},(S.getD a 0).testBit b=true->((l.foldl jak S).getD a 0).testBit b=true
 |[],_,_,_,_,_,h=>h
 |e::l,S,hl,hS,a,b,h=>jqx (l:=l) (S:=jak S e) (λe he=>hl e (by simp [he])) (by rw [jc9];exact hS) (jpi (hl e (by simp)) hS h)
theorem joF:∀(l:List Ed) (S:List Nat),(l.foldl jak S).length=S.length
 |[],_=>rfl
 |e::l,S=>by rw [aQI,joF l,jc9]
theorem joE:∀{l:List Ed} {S:List Nat},(∀e∈l,okE n e)->S.length=n->∀{e:Ed} {b:Nat},e∈l->(b=e.dst.toNat\/(S.getD e.dst.toNat 0).testBit b=true)->((l.foldl jak S).getD e.src.toNat 0).testBit b=true
 |[],_,_,_,_,_,h,_=>by simp at h
 |e'::l,S,hl,hS,e,b,hm,hb=>by
  rw [aQI];by_cases eR:e=e'
  ·subst eR
   refine jqx (l:=l) (S:=jak S e) (λe he=>hl e (by simp [he])) (by rw [jc9];exact hS) ?_
   rw [jkD (hl e (by simp)) hS,if_pos rfl]
   rcases hb with hb|hb
   ·simp only [hb,decide_true,Bool.true_or,Bool.or_true]
   ·simp only [hb,Bool.or_true]
  ·have fT:e∈l:=(aOK.1 hm).resolve_left eR
   refine joE (l:=l) (S:=jak S e') (λe he=>hl e (by simp [he])) (by rw [jc9];exact hS) fT (hb.imp id λhb=>jpi (hl e' (by simp)) hS hb)
theorem jDn {S:List Nat} {k:Nat} (bU:∀e∈es,okE n e) (hS:S.length=n) (h:Cpl es k S):Cpl es (k+1) (rnd es S):=by
 rintro a b (⟨e,he,h1,h2⟩|⟨c,⟨e,he,h1,h2⟩,h3⟩)
 ·have:=joE bU hS (b:=b) he (.inl (by omega))
  rwa [show e.src.toNat=a by omega] at this
 ·have hc:(e.dst.toNat:Int)=c:=by have:=(bU e he).2.1;omega
  have:=joE bU hS (b:=b) he (.inr (h _ b (by rw [hc];exact h3)))
  rwa [show e.src.toNat=a by omega] at this
theorem js9 (k:Nat) (S:List Nat):(jrd es k S).length=S.length:=by
 induction k with
 |zero=>rfl
 |succ k ih=>rw [jrd,rnd,joF,ih]
theorem jwd:(jeM es n).length=n:=by rw [jeM,js9,aQU]
theorem jAn (a:Nat):(List.replicate n 0).getD a 0=0:=by
 simp only [aPU,List.getElem?_replicate];split<;>rfl
theorem jwe (bU:∀e∈es,okE n e) (a b:Nat):((jeM es n).getD a 0).testBit b=true↔Rc es a b:=by
 have h1:∀k,Snd es n (jrd es k (List.replicate n 0)):=by
  intro k
  induction k with
  |zero=>exact ⟨by simp [jrd],λa b hb=>by rw [jrd,jAn] at hb;simp at hb⟩
  |succ k ih=>exact jsY (λe he=>⟨bU e he,he⟩) ih
 have h2:∀k,Cpl es k (jrd es k (List.replicate n 0)):=by
  intro k
  induction k with
  |zero=>exact λa b h=>h.elim
  |succ k ih=>exact jDn bU (h1 k).1 ih
 constructor
 ·exact (h1 n).2 a b
 ·intro h;exact h2 n a b (h.enough λe he=>(bU e he).1)
theorem jCP {S:List Nat} {e:Ed} (he:okE n e) (h:∀x∈S,x<2^n):∀x∈jak S e,x<2^n:=by
 have hg:∀i,S.getD i 0<2^n:=by
  intro i;rw [aPU];cases hi:S[i]? with
  |none=>simp;exact Nat.two_pow_pos n
  |some v=>exact h v (aNQ hi)
 intro x hx;rcases List.mem_or_eq_of_mem_set hx with hx|rfl
 ·exact h x hx
 ·refine Nat.or_lt_two_pow (hg _) (Nat.or_lt_two_pow ?_ (hg _))
  obtain ⟨_,h3,h4⟩:=he;exact Nat.pow_lt_pow_right (by omega) (by omega)
end
def inB (n a b:Int):Bool:=decide (a<=n/\n<=b)
def vW (p:Pl):Bool:=!inB p.aNA 1 12||decide (30<p.aNF.length)||!inB p.aNI 0 9||!inB p.aNN 1 5||!inB p.aNM 1 20
def jku (n:Int) (e:Ed):Bool:=!inB e.src 0 (n-1)||!inB e.dst 0 (n-1)
open Classical in
noncomputable def jG4 (p:Pl):Bool:=decide (∃t:Nat,(t:Int)<p.aNA/\Rc p.aNF t t)
noncomputable def jo (p:Pl):Int:=if vW p then 1 else if p.aNF.any (jku p.aNA) then 2 else if decide (p.aNF.Nodup) then (if jG4 p then 4 else 0) else 3
theorem jxG {n:Int} {es:List Ed} (h:es.any (jku n)=false):∀e∈es,okE n.toNat e:=by
 intro e he;have:=List.any_eq_false.1 h e he;simp only [jku,inB,Bool.or_eq_true,Bool.not_eq_true',aOV,not_or,Classical.not_not] at this;obtain ⟨⟨h1,h2⟩,h3,h4⟩:=this;exact ⟨⟨h1,by omega⟩,h3,by omega⟩
def jq4 (n:Nat) (r:List Int):List Bool:=(List.range n).map λ(k:Nat)=>decide ((k:Int)∈r)
open Classical in
noncomputable def rcB (es:List Ed) (a b:Int):Bool:=decide (Rc es a b)
theorem rcB_iff {es:List Ed} {a b:Int}:rcB es a b=true↔Rc es a b:=by simp [rcB]
noncomputable def jlh (es:List Ed) (n:Nat) (t:Int):List Bool:=(List.range n).map λ(k:Nat)=>rcB es t k
def jEH (es:List Ed) (n:Nat) (t:Int) (h:Nat) (r:List Int):Prop:=
 r.Nodup/\(∀x∈r,(0<=x/\x<n)/\Rc es t x)/\h<=(t::r).length/\∀j,j<h->∀x,(t::r)[j]?=some x->∀e∈es,e.src=x->e.dst∈r
def BIn (es:List Ed) (n:Nat) (t:Int) (h:Nat) (x:Int) (i:Nat) (r:List Int):Prop:=
 jEH es n t h r/\(t::r)[h]?=some x/\∀e∈es.take i,e.src=x->e.dst∈r
section
variable {es:List Ed} {n:Nat} {t x:Int} {h i:Nat} {r:List Int}
theorem jct:(jq4 n r).length=n:=by simp [jq4]
theorem jkv {k:Nat} (hk:k<n):(jq4 n r)[k]?=some (decide ((k:Int)∈r)):=by simp [jq4,hk]
theorem jBz {k:Nat} (hk:k<n):(jq4 n r).set k true=jq4 n (r++[(k:Int)]):=by
 apply aPY
 intro j;rw [aPO];by_cases hj:j<n
 ·rw [jkv hj,jkv hj]
  by_cases e:k=j
  ·subst e;simp [jct,hk]
  ·have e':¬(j:Int)=k:=by omega
   simp [e,e']
 ·have h1:(jq4 n r)[j]?=none:=aPN (by rw [jct];omega)
  have h2:(jq4 n (r++[(k:Int)]))[j]?=none:=aPN (by rw [jct];omega)
  rw [h1,h2,if_neg (by omega)]
theorem jHb:jEH es n t 0 []:=⟨List.nodup_nil,by simp,by simp,λj hj=>by omega⟩
theorem juc (h:jEH es n t h r):r.length<=n:=jdu n r h.1 λx hx=>(h.2.1 x hx).1
theorem bIn_0 (hb:jEH es n t h r) (hx:(t::r)[h]?=some x):BIn es n t h x 0 r:=⟨hb,hx,by simp⟩
theorem jCt {e:Ed} (hb:BIn es n t h x i r) (he:es[i]?=some e) (hq:e.src=x->e.dst∈r):BIn es n t h x (i+1) r:=by
 refine ⟨hb.1,hb.2.1,λe' eZ=>?_⟩
 rw [aOA,he] at eZ;rcases aNT.1 eZ with h1|h1
 ·exact hb.2.2 e' h1
 ·simp at h1;subst h1;exact hq
theorem jEC {e:Ed} (hb:BIn es n t h x i r) (he:es[i]?=some e) (hs:e.src=x) (hd:e.dst∉r) (hr:0<=e.dst/\e.dst<n) (ht:h=0->x=t):BIn es n t h x (i+1) (r++[e.dst]):=by
 obtain ⟨⟨h1,h2,h3,h4⟩,h5,h6⟩:=hb;have hm:e∈es:=aNQ he
 have hR:Rc es t e.dst:=by
  have hE:isE es x e.dst:=⟨e,hm,hs,rfl⟩;cases h with
  |zero=>simp at h5;subst h5;exact .one hE
  |succ h=>exact .step (h2 x (aNQ (by simpa using h5))).2 hE
 have aB:h<(t::r).length:=(aNP.1 h5).1;refine ⟨⟨?_,λy hy=>?_,by simp at aB⊢;omega,λj hj y hy e' eZ mM=>?_⟩,?_,λe' eZ mM=>?_⟩
 ·rw [aNY];exact ⟨h1,by simp,λa ha b hb=>by simp at hb;subst hb;exact λe=>hd (e▸ha)⟩
 ·rcases aNT.1 hy with hy|hy
  ·exact h2 y hy
  ·simp at hy;subst hy;exact ⟨hr,hR⟩
 ·rw [show t::(r++[e.dst])=(t::r)++[e.dst] from rfl,aQE (by omega)] at hy
  exact List.mem_append_left _ (h4 j hj y hy e' eZ mM)
 ·rw [show t::(r++[e.dst])=(t::r)++[e.dst] from rfl,aQE aB];exact h5
 ·rw [aOA,he] at eZ
  rcases aNT.1 eZ with h7|h7
  ·exact List.mem_append_left _ (h6 e' h7 mM)
  ·simp at h7;subst h7;simp
theorem jzg (hb:BIn es n t h x i r) (hi:es.length<=i):jEH es n t (h+1) r:=by
 obtain ⟨⟨h1,h2,h3,h4⟩,h5,h6⟩:=hb;rw [aNU hi] at h6;have aB:h<(t::r).length:=(aNP.1 h5).1;refine ⟨h1,h2,by omega,λj hj y hy=>?_⟩
 by_cases e:j=h
 ·subst e;rw [h5] at hy;cases hy;exact h6
 ·exact h4 j (by omega) y hy
theorem jzh (hb:jEH es n t h r) (hl:(t::r).length<=h):jq4 n r=jlh es n t:=by
 obtain ⟨h1,h2,h3,h4⟩:=hb
 have cV:∀x∈t::r,∀e∈es,e.src=x->e.dst∈r:=λx hx=>by
  obtain ⟨j,hj,hxj⟩:=aOZ hx;exact h4 j (by omega) x (by rw [aNS hj,hxj])
 have hR:∀y,Rc es t y->y∈r:=by
  intro y hy
  induction hy with
  |one h=>obtain ⟨e,he,h5,h6⟩:=h;exact h6▸cV _ (by simp) e he h5
  |step _ h ih=>obtain ⟨e,he,h5,h6⟩:=h;exact h6▸cV _ (List.mem_cons_of_mem _ ih) e he h5
 unfold jq4 jlh;refine List.map_congr_left λk _=>?_
 by_cases hk:(k:Int)∈r
 ·rw [decide_eq_true hk,rcB_iff.2 (h2 _ hk).2]
 ·rw [decide_eq_false hk]
  cases hq:rcB es t k with
  |true=>exact absurd (hR _ (rcB_iff.1 hq)) hk
  |false=>rfl
theorem jqv {k:Nat} (hk:k<n):(jlh es n t)[k]?=some (rcB es t k):=by simp [jlh,hk]
theorem jgD:(jlh es n t).length=n:=by simp [jlh]
end
def jkF (n:Nat) (A:List Int):List Int:=(List.range n).flatMap λ(t:Nat)=>List.replicate (A.count (t:Int)) (t:Int)
theorem jBN (A:List Int):jkF 0 A=[]:=rfl
theorem jda (n:Nat) (A:List Int):jkF (n+1) A=jkF n A++List.replicate (A.count (n:Int)) (n:Int):=by simp [jkF,List.range_succ]
theorem jgg {A:List Int}:∀{n:Nat} {x:Int},x∈jkF n A->(0<=x/\x<n)/\x∈A
 |0,x,h=>by simp [jkF] at h
 |n+1,x,h=>by
  rw [jda] at h;rcases aNT.1 h with h|h
  ·have:=jgg h;exact ⟨by omega,this.2⟩
  ·obtain ⟨h1,h2⟩:=List.mem_replicate.1 h
   refine ⟨by omega,?_⟩
   rw [h2];exact List.count_pos_iff.1 (by omega)
theorem jkE (A:List Int):∀(n:Nat),(jkF n A).Pairwise (· <= ·)
 |0=>by simp [jkF]
 |n+1=>by
  rw [jda,List.pairwise_append];refine ⟨jkE A n,?_,λa ha b hb=>?_⟩
  ·rw [List.pairwise_replicate];right;exact Int.le_refl _
  ·have:=jgg ha
   have:=(List.mem_replicate.1 hb).2;omega
theorem jmK (A:List Int) (x:Int):∀(n:Nat),(jkF n A).count x=if 0<=x/\x<n then A.count x else 0
 |0=>by rw [if_neg (by omega)];simp [jkF]
 |n+1=>by
  rw [jda,List.count_append,jmK A x n,List.count_replicate];by_cases h:x=n
  ·subst h
   rw [if_neg (by omega),if_pos (by simp),if_pos (by omega)];omega
  ·have h2:((n:Int)==x)=false:=by simpa using λe=>h e.symm
   simp only [h2,aQF,if_false];by_cases h3:0<=x/\x<n
   ·rw [if_pos h3,if_pos (by omega)];rfl
   ·rw [if_neg h3,if_neg (by omega)]
theorem jbA {n:Nat} {A:List Int} (h:∀x∈A,0<=x/\x<n):(jkF n A).Perm A:=by
 rw [List.perm_iff_count];intro x;rw [jmK];split
 ·rfl
 ·rename_i hx
  exact (List.count_eq_zero.2 λhm=>hx (h x hm)).symm
theorem jzY {n:Nat} {A:List Int} (h:∀x∈A,0<=x/\x<n):(jkF n A).length=A.length:=(jbA h).length_eq
theorem jpj:∀{s t:List Int},s.Perm t->s.Pairwise (· <= ·)->t.Pairwise (· <= ·)->s=t
 |[],t,h,_,_=>h.nil_eq
 |a::s,[],h,_,_=>absurd h.length_eq (by simp)
 |a::s,b::t,h,h1,h2=>by
  rw [List.pairwise_cons] at h1 h2
  have nP:a=b:=by
   have ha:a∈b::t:=h.mem_iff.1 (by simp)
   have hb:b∈a::s:=h.mem_iff.2 (by simp)
   rcases aOK.1 ha with ha|ha
   ·exact ha
   rcases aOK.1 hb with hb|hb
   ·exact hb.symm
   exact Int.le_antisymm (h1.1 b hb) (h2.1 a ha)
  subst nP;rw [jpj ((List.perm_cons a).1 h) h1.2 h2.2]
theorem juu {n:Nat} {A s:List Int} (h:∀x∈A,0<=x/\x<n) (hp:s.Perm A) (hs:s.Pairwise (· <= ·)):s=jkF n A:=jpj (hp.trans (jbA h).symm) hs (jkE A n)
def swp (l:List Int) (j:Nat):List Int:=(l.set (j+1) (l.getD j 0)).set j (l.getD (j+1) 0)
theorem jzU {l:List Int} {j:Nat} (h:j+1<l.length):(swp l j).Perm l:=by
 have e:l=l.take j++l[j]::l[j+1]::l.drop (j+2):=by rw [<-aPG h,<-aPG,aPF]
 have e2:swp l j=l.take j++l[j+1]::l[j]::l.drop (j+2):=by
  apply aPY
  intro k;have h1:l.getD j 0=l[j]:=by rw [aPU,aNS (by omega)];rfl
  have h2:l.getD (j+1) 0=l[j+1]:=by rw [aPU,aNS h];rfl
  have ht:(l.take j).length=j:=by rw [aNV];omega
  simp only [swp,h1,h2,aPO,aOE];by_cases k1:j=k
  ·subst k1;rw [if_pos rfl,if_pos (by omega),aPL (by omega),ht];simp
  ·rw [if_neg k1]
   by_cases k2:j+1=k
   ·subst k2;rw [if_pos rfl,if_pos (by omega),aPL (by omega),ht];simp
   ·rw [if_neg k2]
    by_cases k3:k<j
    ·rw [aQE (by omega),List.getElem?_take_of_lt k3]
    ·rw [aPL (by omega),ht]
     obtain ⟨m,rfl⟩:∃m,k=j+2+m:=⟨k-(j+2),by omega⟩
     rw [show j+2+m-j=m+2 by omega,List.getElem?_cons_succ,List.getElem?_cons_succ,aPR]
 rw [e2]
 conv=>rhs;rw [e]
 exact aQG _ (List.Perm.swap _ _ _)
theorem jwC {l:List Int} {j:Nat} (h:j+1<l.length) (p:Nat):(swp l j).getD p 0=if p=j then l.getD (j+1) 0 else if p=j+1 then l.getD j 0 else l.getD p 0:=by
 simp only [swp,aPU,aPO,aOE];by_cases k1:p=j
 ·subst k1;simp [show p<l.length from by omega]
 by_cases k2:p=j+1
 ·subst k2;simp [h]
 ·have k3:¬j=p:=λe=>k1 e.symm
  have k4:¬j+1=p:=λe=>k2 e.symm
  simp [k1,k2,k3,k4]
def SO (A l:List Int) (i:Nat):Prop:=l.Perm A/\∀p q:Nat,p<q->q<i->l.getD p 0<=l.getD q 0
def SI (A l:List Int) (i j:Nat):Prop:=l.Perm A/\j<=i/\∀p q:Nat,p<q->q<=i->q≠j->l.getD p 0<=l.getD q 0
theorem SO_1 (A:List Int):SO A A 1:=⟨.refl A,λp q h h'=>by omega⟩
theorem SI_0 {A l:List Int} {i:Nat} (h:SO A l i):SI A l i i:=⟨h.1,aOC _,λp q h1 h2 h3=>h.2 p q h1 (by omega)⟩
theorem jHk {A l:List Int} {i j:Nat} (h:SI A l i (j+1)) (hi:i<l.length) (aB:l.getD (j+1) 0<l.getD j 0):SI A (swp l j) i j:=by
 obtain ⟨h1,h2,h3⟩:=h;have hj:j+1<l.length:=by omega
 refine ⟨(jzU hj).trans h1,by omega,λp q xJ hq aJ=>?_⟩
 rw [jwC hj,jwC hj,if_neg aJ];by_cases q1:q=j+1
 ·subst q1
  rw [if_pos rfl];by_cases p1:p=j
  ·rw [if_pos p1];omega
  ·rw [if_neg p1,if_neg (by omega)];exact h3 p j (by omega) (by omega) (by omega)
 ·rw [if_neg q1]
  by_cases p1:p=j
  ·rw [if_pos p1];exact h3 (j+1) q (by omega) hq q1
  ·rw [if_neg p1]
   by_cases p2:p=j+1
   ·rw [if_pos p2];exact h3 j q (by omega) hq q1
   ·rw [if_neg p2];exact h3 p q xJ hq q1
theorem jCx {A l:List Int} {i j:Nat} (h:SI A l i j) (he:j=0\/∃k,j=k+1/\l.getD k 0<=l.getD j 0):SO A l (i+1):=by
 obtain ⟨h1,h2,h3⟩:=h;refine ⟨h1,λp q xJ hq=>?_⟩
 by_cases e:q=j
 ·subst e
  rcases he with he|⟨k,rfl,h4⟩
  ·omega
  ·by_cases e2:p=k
   ·subst e2;exact h4
   ·exact Int.le_trans (h3 p k (by omega) (by omega) (by omega)) h4
 ·exact h3 p q xJ (by omega) e
theorem jHj {A l:List Int} {i:Nat} (h:SO A l i) (hi:l.length<=i):l.Pairwise (· <= ·):=by
 rw [List.pairwise_iff_getElem];intro p q hp hq xJ;have:=h.2 p q xJ (by omega)
 rw [aPU,aPU,aNS hp,aNS hq] at this;exact this
theorem jBM {n:Nat} {A l:List Int} {i:Nat} (h:∀x∈A,0<=x/\x<n) (hs:SO A l i) (hi:l.length<=i):l=jkF n A:=juu h hs.1 (jHj hs hi)
def jf7 (es:List Ed) (t:Int):List Int:=(es.filter λe=>e.dst==t).map (·.src)
def jf6 (es:List Ed) (t:Int):List Int:=(es.filter λe=>e.src==t).map (·.dst)
def zG (p:Pl) (t:Int):List Int:=jkF p.aNA.toNat (jf7 p.aNF t)
def jb5 (p:Pl) (t:Int):List Int:=jkF p.aNA.toNat (jf6 p.aNF t)
section
variable {es:List Ed} {k n:Nat} {e:Ed}
theorem jq3 (h:es[k]?=some e) (t:Int):jf7 (es.take (k+1)) t=jf7 (es.take k) t++(if e.dst=t then [e.src] else []):=by
 rw [aOA,h];by_cases ht:e.dst=t<;>simp [jf7,ht]
theorem jq2 (h:es[k]?=some e) (t:Int):jf6 (es.take (k+1)) t=jf6 (es.take k) t++(if e.src=t then [e.dst] else []):=by
 rw [aOA,h];by_cases ht:e.src=t<;>simp [jf6,ht]
theorem jvQ (h:es[k]?=some e) (x t:Int):(jf7 (es.take (k+1)) t).count x=(jf7 (es.take k) t).count x+(if e.src=x/\e.dst=t then 1 else 0):=by
 rw [jq3 h,List.count_append];by_cases ht:e.dst=t<;>by_cases hx:e.src=x<;>simp [ht,hx]
theorem jvO (h:es[k]?=some e) (x t:Int):(jf6 (es.take (k+1)) t).count x=(jf6 (es.take k) t).count x+(if e.src=t/\e.dst=x then 1 else 0):=by
 rw [jq2 h,List.count_append];by_cases ht:e.src=t<;>by_cases hx:e.dst=x<;>simp [ht,hx]
theorem jlW (bU:∀e∈es,okE n e) (t:Int):∀x∈jf7 es t,0<=x/\x<n:=by
 intro x hx;simp only [jf7,aPS,aPM] at hx;obtain ⟨e,⟨h1,-⟩,rfl⟩:=hx;exact (bU e h1).1
theorem joZ (bU:∀e∈es,okE n e) (t:Int):∀x∈jf6 es t,0<=x/\x<n:=by
 intro x hx;simp only [jf6,aPS,aPM] at hx;obtain ⟨e,⟨h1,-⟩,rfl⟩:=hx;exact (bU e h1).2
theorem jnq (h:es.Nodup) (t:Int):(jf7 es t).Nodup:=by
 unfold jf7 List.Nodup;rw [List.pairwise_map];refine List.Pairwise.imp_of_mem ?_ (List.Pairwise.filter _ h);intro a b ha hb aJ nP;simp only [aPM,aPV] at ha hb;exact aJ (by cases a;cases b;simp_all)
theorem jnp (h:es.Nodup) (t:Int):(jf6 es t).Nodup:=by
 unfold jf6 List.Nodup;rw [List.pairwise_map];refine List.Pairwise.imp_of_mem ?_ (List.Pairwise.filter _ h);intro a b ha hb aJ nP;simp only [aPM,aPV] at ha hb;exact aJ (by cases a;cases b;simp_all)
theorem jua (h:es.Nodup) (bU:∀e∈es,okE n e) (t:Int):(jf7 es t).length<=n:=jdu n _ (jnq h t) (jlW bU t)
theorem jBx (h:es.Nodup) (bU:∀e∈es,okE n e) (t:Int):(jf6 es t).length<=n:=jdu n _ (jnp h t) (joZ bU t)
end
theorem jbJ {p:Pl} (h:jo p=0):∃n:Nat,p.aNA=n/\1<=n/\n<=12/\p.aNF.length<=30/\(∀e∈p.aNF,okE n e)/\p.aNF.Nodup/\(0<=p.aNI/\p.aNI<=9)/\(1<=p.aNN/\p.aNN<=5)/\(1<=p.aNM/\p.aNM<=20):=by
 unfold jo at h;cases hm:vW p
 ·rw [hm] at h
  simp only [aQF,if_false] at h;cases hb:p.aNF.any (jku p.aNA)
  ·rw [hb] at h
   simp only [aQF,if_false] at h;by_cases hd:p.aNF.Nodup
   ·have bU:=jxG hb
    simp only [vW,inB,Bool.or_eq_false_iff,Bool.not_eq_false',aOJ,aOV] at hm;obtain ⟨⟨⟨⟨h1,h2⟩,h3⟩,h4⟩,h5⟩:=hm;exact ⟨p.aNA.toNat,by omega,by omega,by omega,by omega,bU,hd,h3,h4,h5⟩
   ·rw [decide_eq_false hd] at h
    simp at h
  ·rw [hb] at h;simp at h
 ·rw [hm] at h;simp at h
def stT (ts:List Tk) (b:Int):Int:=((ts[b.toNat]?).getD default).aND
theorem jnL {ts:List Tk} {b:Int} {x:Tk} (h:ts[b.toNat]?=some x):stT ts b=x.aND:=by simp [stT,h]
theorem kt {ts:List Tk} {k:Nat} {x:Tk} (h:ts[k]?=some x):stT ts (k:Int)=x.aND:=by simp [stT,h]
def zi (s:Int) (ts:List Tk) (k:Nat):List Int:=((List.range k).filter λ(j:Nat)=>stT ts (j:Int)==s).map λ(j:Nat)=>(j:Int)
def qV (s:Int) (ts:List Tk):List Int:=zi s ts ts.length
def cS (s:Int) (ts:List Tk):Nat:=(qV s ts).length
theorem jBH (s:Int) (ts:List Tk):zi s ts 0=[]:=rfl
theorem jc6 {ts:List Tk} {k:Nat} {x:Tk} (h:ts[k]?=some x) (s:Int):zi s ts (k+1)=zi s ts k++(if x.aND=s then [(k:Int)] else []):=by
 have hs:=kt h;by_cases hx:x.aND=s<;>simp [zi,List.range_succ,hs,hx]
theorem vx (s:Int) (ts:List Tk) (k:Nat):(zi s ts k).length<=k:=by
 simp only [zi,aPA];exact aPC (aOT _ _) (by simp)
theorem jc5 {ts:List Tk} (h:∀x∈ts,1<=x.aND/\x.aND<=6):∀(k:Nat),k<=ts.length->(zi 1 ts k).length+(zi 2 ts k).length+(zi 3 ts k).length+(zi 4 ts k).length+(zi 5 ts k).length+(zi 6 ts k).length=k
 |0,_=>rfl
 |k+1,hk=>by
  have ih:=jc5 h k (by omega)
  have hx:ts[k]?=some ts[k]:=aNS (by omega)
  have:=h ts[k] (List.getElem_mem _);have:ts[k].aND=1\/ts[k].aND=2\/ts[k].aND=3\/ts[k].aND=4\/ts[k].aND=5\/ts[k].aND=6:=by omega
  simp only [jc6 hx,aNR];rcases this with h1|h1|h1|h1|h1|h1<;>simp [h1]<;>omega
theorem jt7 {s:Int} {ts:List Tk} (h:cS s ts=0) {k:Nat} {x:Tk} (hx:ts[k]?=some x):x.aND≠s:=by
 intro e;have hk:=(aNP.1 hx).1
 have:(k:Int)∈qV s ts:=by
  simp only [qV,zi,aPS,aPM,aQX];exact ⟨k,⟨hk,by rw [kt hx];simpa using e⟩,rfl⟩
 rw [cS,List.length_eq_zero_iff] at h;rw [h] at this;simp at this
theorem jeK {s:Int} {ts:List Tk} (h:∀x∈ts,x.aND≠s):cS s ts=0:=by
 rw [cS,List.length_eq_zero_iff,qV,zi,List.map_eq_nil_iff,List.filter_eq_nil_iff];intro k hk;rw [aQX] at hk;have hx:ts[k]?=some ts[k]:=aNS hk;rw [kt hx];simpa using h _ (List.getElem_mem hk)
theorem jt6 {s:Int} {ts:List Tk} {k:Nat} {x:Tk} (hx:ts[k]?=some x) (h:x.aND=s):0<cS s ts:=by
 rcases Nat.eq_zero_or_pos (cS s ts) with h0|h0
 ·exact absurd h (jt7 h0 hx)
 ·exact h0
def jaT (p:Pl) (ts:List Tk) (t:Int):Int:=((((zG p t).filter λb=>stT ts b !=4).length:Nat):Int)
def vn (p:Pl) (x:Tk):Bool:=if x.aND=1 then decide (0<x.aNL) else if x.aND=2 then (x.aNL==0&&decide (x.tri<p.aNN)) else if x.aND=6 then true else (x.aNL==0&&decide (1<=x.tri))
def jbv (x:Tk):Bool:=if x.aND=3 then inB x.til 1 1000000000 else x.til==0
def jS (p:Pl) (ts:List Tk) (t:Nat) (x:Tk):Bool:=inB x.aND 1 6&&x.aNL==jaT p ts t&&inB x.tri 0 p.aNN&&jbv x&&vn p x
def jgf (ts:List Tk):Int:=if cS 4 ts=ts.length then 2 else if cS 5 ts=1/\cS 4 ts+cS 5 ts+cS 6 ts=ts.length then 3 else if cS 5 ts=0/\0<cS 6 ts/\cS 4 ts+cS 5 ts+cS 6 ts=ts.length then 4 else if cS 5 ts=0/\cS 6 ts=0 then 1 else 0
structure RunOkP (r:Rn):Prop where
 id:inB r.id 1 9999=true
 aNB:jo r.aNB=0
 len:(r.aNA.length:Int)=r.aNB.aNA
 aNA:∀(t:Nat) (x:Tk),r.aNA[t]?=some x->jS r.aNB r.aNA t x=true
 aND:r.aND=jgf r.aNA
 live:r.aND≠0
open Classical in
noncomputable def kH (r:Rn):Bool:=decide (RunOkP r)
theorem runOk_iff {r:Rn}:kH r=true↔RunOkP r:=by simp [kH]
theorem qW {r:Rn} (h:¬RunOkP r):kH r=false:=by simp [kH,h]
theorem RunOkP.st {r:Rn} (h:RunOkP r):∀x∈r.aNA,1<=x.aND/\x.aND<=6:=by
 intro x hx;obtain ⟨k,hk,rfl⟩:=aOZ hx;have:=h.aNA k _ (aNS hk);simp only [jS,inB,aOF,aOJ] at this;exact this.1.1.1.1
theorem RunOkP.aNE {r:Rn} (h:RunOkP r) {t:Nat} {x:Tk} (hx:r.aNA[t]?=some x) (hs:x.aND=3):r.aND=1/\cS 5 r.aNA=0/\cS 6 r.aNA=0/\cS 4 r.aNA<r.aNA.length:=by
 have h3:=jt6 hx hs;have eC:=jc5 h.st r.aNA.length (aOC _);have e1:=h.aND;have e2:=h.live;change cS 1 r.aNA+cS 2 r.aNA+cS 3 r.aNA+cS 4 r.aNA+cS 5 r.aNA+cS 6 r.aNA=_ at eC;unfold jgf at e1;split at e1
 ·omega
 ·split at e1
  ·omega
  ·split at e1
   ·omega
   ·split at e1
    ·exact ⟨e1,by omega,by omega,by omega⟩
    ·exact absurd e1 e2
def ja6 (ts:List Tk) (b:Int):List Tk:=match ts[b.toNat]? with
 |some x=>ts.set b.toNat ⟨if IntKind.i64.wrap (x.aNL-1)=0 then 2 else x.aND,IntKind.i64.wrap (x.aNL-1),x.tri,x.til⟩
 |none=>ts
theorem jwD (ts:List Tk) (b:Int):(ja6 ts b).length=ts.length:=by unfold ja6;split<;>simp
theorem jgH:∀(l:List Int) (ts:List Tk),(l.foldl ja6 ts).length=ts.length
 |[],_=>rfl
 |b::l,ts=>by rw [aQI,jgH l,jwD]
theorem jzW {ts:List Tk} {b:Int} {q:Int->Prop} (h2:q 2) (h:∀x∈ts,q x.aND):∀x∈ja6 ts b,q x.aND:=by
 unfold ja6;cases hx:ts[b.toNat]? with
 |none=>exact h
 |some x=>
  intro y hy;rcases List.mem_or_eq_of_mem_set hy with hy|rfl
  ·exact h y hy
  ·dsimp only;split
   ·exact h2
   ·exact h x (aNQ hx)
theorem jtO {q:Int->Prop} (h2:q 2):∀{l:List Int} {ts:List Tk},(∀x∈ts,q x.aND)->∀x∈l.foldl ja6 ts,q x.aND
 |[],_,h=>h
 |b::l,ts,h=>jtO h2 (l:=l) (ts:=ja6 ts b) (jzW h2 h)
def vX (p:Pl) (ts:List Tk) (t:Nat) (x:Tk):List Tk:=(jb5 p t).foldl ja6 (ts.set t ⟨4,x.aNL,x.tri,0⟩)
def jil (r:Rn) (t:Nat) (x:Tk):Rn:=⟨r.id,r.aNB,if cS 4 (vX r.aNB r.aNA t x)=r.aNA.length then 2 else r.aND,vX r.aNB r.aNA t x⟩
theorem jaX (p:Pl) (ts:List Tk) (t:Nat) (x:Tk):(vX p ts t x).length=ts.length:=by rw [vX,jgH,aOE]
theorem ji2 {ts:List Tk} {t:Nat} {y:Tk} {q:Int->Prop} (hy:q y.aND) (h:∀x∈ts,q x.aND):∀x∈ts.set t y,q x.aND:=by
 intro z hz;rcases List.mem_or_eq_of_mem_set hz with hz|rfl
 ·exact h z hz
 ·exact hy
theorem joK {p:Pl} {ts:List Tk} {t:Nat} {x:Tk} {q:Int->Prop} (h2:q 2) (h4:q 4) (h:∀x∈ts,q x.aND):∀y∈vX p ts t x,q y.aND:=jtO h2 (ji2 h4 h)
theorem jnk {r:Rn} (h:RunOkP r) {t:Nat} {x:Tk} (hx:r.aNA[t]?=some x) (hs:x.aND=3):jgf (vX r.aNB r.aNA t x)=(jil r t x).aND:=by
 obtain ⟨e1,e2,e3,e4⟩:=h.aNE hx hs;have h5:∀y∈r.aNA,y.aND≠5:=λy hy=>by obtain ⟨k,hk,rfl⟩:=aOZ hy;exact jt7 e2 (aNS hk)
 have h6:∀y∈r.aNA,y.aND≠6:=λy hy=>by obtain ⟨k,hk,rfl⟩:=aOZ hy;exact jt7 e3 (aNS hk)
 have c5:=jeK (joK (p:=r.aNB) (t:=t) (x:=x) (q:=λs=>s≠5) (by decide) (by decide) h5)
 have c6:=jeK (joK (p:=r.aNB) (t:=t) (x:=x) (q:=λs=>s≠6) (by decide) (by decide) h6)
 simp only [jgf,c5,c6,jaX,jil,e1];simp
def vq (f:Nat->Tk->Tk) (ts:List Tk) (k:Nat):List Tk:=ts.mapIdx λj x=>if j<k then f j x else x
section
variable {f:Nat->Tk->Tk} {ts:List Tk} {k:Nat} {x:Tk}
theorem vT:(vq f ts k).length=ts.length:=by simp [vq]
theorem jtx:vq f ts 0=ts:=by
 apply aPY
 intro j;simp [vq,List.getElem?_mapIdx]
theorem jgt (h:ts[k]?=some x):(vq f ts k)[k]?=some x:=by simp [vq,List.getElem?_mapIdx,h]
theorem jgs (h:ts[k]?=some x):(vq f ts k).set k (f k x)=vq f ts (k+1):=by
 have hk:=(aNP.1 h).1
 apply aPY
 intro j;rw [aPO];by_cases e:k=j
 ·subst e
  rw [if_pos rfl,vT,if_pos hk];simp [vq,List.getElem?_mapIdx,h]
 ·rw [if_neg e]
  simp only [vq,List.getElem?_mapIdx];have:(j<k+1)=(j<k):=by apply propext;omega
  simp only [this]
theorem jqc (h:ts[k]?=some x) (hf:f k x=x):vq f ts (k+1)=vq f ts k:=by
 rw [<-jgs h,hf]
 apply aPY
 intro j;rw [aPO];by_cases e:k=j
 ·subst e
  rw [if_pos rfl,jgt h,if_pos (by rw [vT];exact (aNP.1 h).1)]
 ·rw [if_neg e]
theorem jm4 {g:Nat->Tk->Tk} (h:∀(j:Nat) (x:Tk),ts[j]?=some x->f j x=g j x) (k:Nat):vq f ts k=vq g ts k:=by
 apply aPY
 intro j;simp only [vq,List.getElem?_mapIdx];cases hx:ts[j]? with
 |none=>rfl
 |some x=>simp [h j x hx]
end
def qw (but:Int) (j:Nat) (x:Tk):Tk:=if (j:Int)≠but/\x.aND≠4 then ⟨6,x.aNL,x.tri,0⟩ else x
def jA (j:Nat) (x:Tk):Tk:=if x.aND≠4/\x.aND≠5 then ⟨6,x.aNL,x.tri,0⟩ else x
def zD (r:Rn) (t:Nat) (x:Tk):Rn:=if x.tri<r.aNB.aNN then ⟨r.id,r.aNB,r.aND,r.aNA.set t ⟨2,x.aNL,x.tri,0⟩⟩ else ⟨r.id,r.aNB,3,vq jA (r.aNA.set t ⟨5,x.aNL,x.tri,0⟩) r.aNA.length⟩
theorem jsv {r:Rn} (h:RunOkP r) {t:Nat} {x:Tk} (hx:r.aNA[t]?=some x) (hs:x.aND=3) (k:Nat):vq (qw t) (r.aNA.set t ⟨5,x.aNL,x.tri,0⟩) k=vq jA (r.aNA.set t ⟨5,x.aNL,x.tri,0⟩) k:=by
 obtain ⟨e1,e2,e3,e4⟩:=h.aNE hx hs;refine jm4 (λj y hy=>?_) k
 have ht:=(aNP.1 hx).1;rw [aPO] at hy;by_cases e:t=j
 ·subst e
  rw [if_pos rfl,if_pos ht] at hy;simp only [Option.some.injEq] at hy;subst hy;simp [qw,jA]
 ·rw [if_neg e] at hy
  have h5:y.aND≠5:=jt7 e2 hy;have hj:(j:Int)≠t:=by omega
  simp [qw,jA,h5,hj]
noncomputable def vH (r:Rn) (t:Int):Bool:=inB t 0 (r.aNA.length-1)&&stT r.aNA t==3&&kH r
noncomputable def qa (r:Rn) (t:Int):Rn:=if vH r t then jil r t.toNat ((r.aNA[t.toNat]?).getD default) else r
noncomputable def jB (r:Rn) (t:Int):Rn:=if vH r t then zD r t.toNat ((r.aNA[t.toNat]?).getD default) else r
theorem jbc {r:Rn} {t:Int} (h:vH r t=true):∃k x,t=((k:Nat):Int)/\r.aNA[k]?=some x/\x.aND=3/\RunOkP r:=by
 simp only [vH,inB,aOF,aOJ,aPV,runOk_iff] at h;obtain ⟨⟨h1,h2⟩,h3⟩:=h;have hk:t.toNat<r.aNA.length:=by omega
 refine ⟨t.toNat,r.aNA[t.toNat],by omega,aNS hk,?_,h3⟩
 rw [jnL (aNS hk)] at h2;exact h2
theorem jfF {r:Rn} {k:Nat} {x:Tk} (hx:r.aNA[k]?=some x) (h:vH r k=true):qa r k=jil r k x:=by simp [qa,h,hx]
theorem juL {r:Rn} {t:Int} (h:vH r t=false):qa r t=r:=by simp [qa,h]
theorem qN {r:Rn} {k:Nat} {x:Tk} (hx:r.aNA[k]?=some x) (h:vH r k=true):jB r k=zD r k x:=by simp [jB,h,hx]
theorem jfE {r:Rn} {t:Int} (h:vH r t=false):jB r t=r:=by simp [jB,h]
theorem jrx (r:Rn) (t:Int):kz (qa r t)=kz r:=by
 unfold qa;split
 ·simp only [kz,jil,jaX]
 ·rfl
theorem ji3 (r:Rn) (t:Int):kz (jB r t)=kz r:=by
 unfold jB;split
 ·unfold zD
  split
  ·simp only [kz,aOE]
  ·simp only [kz,vT,aOE]
 ·rfl
def kn (a b:En):Bool:=decide (a.aNI>b.aNI\/a.aNI=b.aNI/\a.seq<b.seq)
structure jhN (l:List En):Prop where
 aNN:l.length<=80
 ahead:∀(k:Nat) (a b:En),l[k]?=some a->l[k+1]?=some b->kn a b=true
open Classical in
noncomputable def jap (l:List En):Bool:=decide (jhN l)
theorem jgh {l:List En} (h:jhN l):jap l=true:=by simp [jap,h]
theorem jkj {l:List En} (h:¬jhN l):jap l=false:=by simp [jap,h]
theorem shelf_iff {l:List En}:jap l=true↔jhN l:=by simp [jap]
structure SeqP (q:Int) (l:List En):Prop where
 range:∀e∈l,1<=e.seq/\e.seq<=q-1
 apart:(l.map (·.seq)).Nodup
def jaj (id t:Int) (l:List En):Nat:=(l.filter λe=>e.run==id&&e.aNH==t).length
def jkB (y:Yd) (r:Rn) (l:List En) (t:Nat) (x:Tk):Prop:=
 (x.aND=2->(∀e∈l,e.run=r.id->e.aNH=t->e.aNI=r.aNB.aNI)/\jaj r.id t l=1)/\(x.aND=3->y.now+1<=x.til/\x.til<=y.now+r.aNB.aNM)
def jq9 (y:Yd) (r:Rn) (l:List En):Prop:=∀(t:Nat) (x:Tk),r.aNA[t]?=some x->jkB y r l t x
open Classical in
noncomputable def zB (y:Yd) (r:Rn) (l:List En):Bool:=decide (jq9 y r l)
theorem jgk {y:Yd} {r:Rn} {l:List En} (h:jq9 y r l):zB y r l=true:=by simp [zB,h]
theorem jeh {y:Yd} {r:Rn} {l:List En} (h:¬jq9 y r l):zB y r l=false:=by simp [zB,h]
theorem runIn_iff {y:Yd} {r:Rn} {l:List En}:zB y r l=true↔jq9 y r l:=by simp [zB]
structure YardOkP (y:Yd):Prop where
 now:0<=y.now/\y.now<=999999980
 seq:1<=y.seq/\y.seq<=1000000000
 four:y.aNC.length=4
 eight:y.aNE.length<=8
 shelves:∀l∈y.aNC,jhN l
 seqs:SeqP y.seq y.aNC.flatten
 right:∀r∈y.aNE,RunOkP r
 place:∀(k:Nat) (r:Rn),y.aNE[k]?=some r->runAt y r.id=k
 aNE:∀r∈y.aNE,jq9 y r y.aNC.flatten
 slots:qj y<=40
open Classical in
noncomputable def ju (y:Yd):Bool:=decide (YardOkP y)
theorem zS {y:Yd} (h:YardOkP y):ju y=true:=by simp [ju,h]
theorem qR {y:Yd} (h:¬YardOkP y):ju y=false:=by simp [ju,h]
theorem yard_iff {y:Yd}:ju y=true↔YardOkP y:=by simp [ju]
section
variable {l:List En} {k:Nat} {e:En} {id t:Int}
theorem jt3 (h:l[k]?=some e) (h1:e.run=id) (h2:e.aNH=t):jaj id t (l.take (k+1))=jaj id t (l.take k)+1:=by
 rw [aOA,h];simp [jaj,aQA,h1,h2]
theorem joT (h:l[k]?=some e) (h1:¬(e.run=id/\e.aNH=t)):jaj id t (l.take (k+1))=jaj id t (l.take k):=by
 rw [aOA,h];by_cases h2:e.run=id
 ·have h3:¬e.aNH=t:=λh3=>h1 ⟨h2,h3⟩
  simp [jaj,aQA,h2,h3]
 ·simp [jaj,aQA,h2]
theorem jyY (l:List En) (id t:Int):jaj id t l<=l.length:=aOT _ _
theorem jwY {j:Nat} {e2:En} (h:l[k]?=some e) (hj:j<k) (h2:l[j]?=some e2) (he:e2.seq=e.seq):¬(l.map (·.seq)).Nodup:=by
 intro hd;obtain ⟨a1,b1⟩:=aNP.1 h;obtain ⟨a2,b2⟩:=aNP.1 h2;have:=List.pairwise_iff_getElem.1 hd j k (by simpa using a2) (by simpa using a1) hj
 simp [b1,b2,he] at this
theorem jwX (h:l[k]?=some e) (hn:((l.take k).map (·.seq)).Nodup) (hx:∀e2∈l.take k,e2.seq≠e.seq):((l.take (k+1)).map (·.seq)).Nodup:=by
 rw [aOA,h];simp only [Option.toList_some,aPZ,aPB,List.map_nil];rw [aNY];refine ⟨hn,by simp,λa ha b hb e'=>?_⟩
 simp at hb;subst hb;obtain ⟨e2,h1,h2⟩:=aPS.1 ha;exact hx e2 h1 (by rw [h2,e'])
end
theorem juG {α:Type} {enc:α->List D} {size:Nat} (hs:∀x,(enc x).length=size) (l:List α) (k:Nat) (v:α):k<l.length->ky (l.flatMap enc) (k*size) (enc v)=(l.set k v).flatMap enc:=by
 intro hk;have h1:(l.flatMap enc).length=l.length*size:=jC hs l;have h2:(k+1)*size<=l.length*size:=aQW _ hk;rw [kY _ _ _ (by rw [hs,h1,<-Nat.succ_mul];exact h2),hs]
 have e:l=l.take k++l[k]::l.drop (k+1):=by rw [<-aPG hk,aPF]
 have e2:l.set k v=l.take k++v::l.drop (k+1):=by rw [List.set_eq_take_append_cons_drop,if_pos hk]
 have h3:((l.take k).flatMap enc).length=k*size:=by rw [jC hs,aNV,aPD (by omega)]
 have h4:l.flatMap enc=(l.take k++l[k]::l.drop (k+1)).flatMap enc:=congrArg (List.flatMap enc) e;rw [aPK,aOM] at h4;rw [e2,h4,List.take_left' h3];simp only [aPK,aOM,aOB]
 congr 2
 rw [<-aOB,List.drop_left' (by rw [aNR,h3,hs])]
theorem jek {α:Type} {enc:α->List D} {size ty:Nat} (hs:∀x,(enc x).length=size) {l:List α} {k:Nat} (v:α) (hk:k<l.length):D.put [] (k*size) (enc v) (.sl size ty (l.flatMap enc))=.sl size ty ((l.set k v).flatMap enc):=by
 simp only [D.put,juG hs l k v hk]
theorem jce {l:List Int} {k:Nat} (v:Int) (hk:k<l.length):D.put [] (k*1) [.val (.int .i64 v)] (jb l)=jb (l.set k v):=jek (enc:=λn=>[iv n]) (λ_=>rfl) v hk
abbrev jCO:TypeId:=4
def qG (l:List Bool):D:=.sl 1 jCO (l.flatMap (λb=>[D.val (.bool b)]))
section
variable {P:Program} {β:Nat} {s:St}
theorem jqf (l:List Bool):(qG l).len=l.length:=jaa (enc:=λb=>[D.val (.bool b)]) (λ_=>rfl) (by decide) _ _
theorem joJ {l:List Bool} {k:Nat} {x:Bool} (h:l[k]?=some x):(qG l).elem k=[D.val (.bool x)]:=vN (enc:=λb=>[D.val (.bool b)]) (λ_=>rfl) h
theorem jrs (l:List Bool):(qG l).isSl=true:=(rfl)
theorem jrp (l:List Bool):(qG l).size=1:=(rfl)
theorem jp4 (l:List Bool) (g:Nat) (η:jf):(qG l).obj g η=[(g,.loose (qG l) η)]:=(rfl)
theorem jp2 (l:List Bool) (g c:Nat) (p:List Nat) (η:jf):(qG l).toOwn g c p η=.h g c p (η p):=(rfl)
theorem jmy (l:List Bool):(qG l).cells=l.flatMap (λb=>[D.val (.bool b)]):=(rfl)
theorem jf4 {l:List Bool} {k:Nat} {x:Bool} (h:l[k]?=some x):((l.flatMap (λb=>[D.val (.bool b)])).drop (k*1)).take 1=[D.val (.bool x)]:=joJ h
theorem jck {l:List Bool} {k:Nat} (h:k<l.length):k*1+1<=(l.flatMap (λb=>[D.val (.bool b)])).length:=by rw [jC (enc:=λb=>[D.val (.bool b)]) (size:=1) (λ_=>rfl)];omega
theorem jpI {l:List Bool} {k:Nat} (v:Bool) (hk:k<l.length):D.put [] (k*1) [D.val (.bool v)] (qG l)=qG (l.set k v):=jek (enc:=λb=>[D.val (.bool b)]) (λ_=>rfl) v hk
attribute [go_sem] jqf jrs jrp jp4 jp2 jmy
theorem jeZ (l:List Bool):ka (l.flatMap (λb=>[D.val (.bool b)]))=true:=by
 induction l with
 |nil=>rfl
 |cons x l ih=>rw [aOM,vO,ih];rfl
attribute [go_sem] jeZ
end
theorem juS {l:List (En)} {k:Nat} (v:En) (hk:k<l.length):D.put [] (k*4) (jk v) (jg l)=jg (l.set k v):=jek (enc:=jk) (λ_=>rfl) v hk
theorem juQ {l:List (Tk)} {k:Nat} (v:Tk) (hk:k<l.length):D.put [] (k*4) (jH v) (jx l)=jx (l.set k v):=jek (enc:=jH) (λ_=>rfl) v hk
theorem juR {l:List (Rn)} {k:Nat} (v:Rn) (hk:k<l.length):D.put [] (k*8) (je v) (jE l)=jE (l.set k v):=jek (enc:=je) (λ_=>rfl) v hk
theorem jxo {l:List (List En)} {k:Nat} (v:List En) (hk:k<l.length):D.put [] (k*1) ([jg v]) (ki l)=ki (l.set k v):=jek (enc:=λes=>[jg es]) (λ_=>rfl) v hk
theorem jcc {l:List Tk} {k:Nat} (a b c d:Int) (hk:k<l.length):D.put [] (k*4) [.val (.int .i64 a),.val (.int .i64 b),.val (.int .i64 c),.val (.int .i64 d)] (jx l)=jx (l.set k ⟨a,b,c,d⟩):=juQ ⟨a,b,c,d⟩ hk
theorem jgK:∀{l:List D} (a b:Nat),ka l=true->ka ((l.drop a).take b)=true
 |[],a,b,_=>by simp [ka]
 |.sl _ _ _::l,a,b,h=>by simp [ka] at h
 |.val u::l,0,0,_=>rfl
 |.val u::l,0,b+1,h=>by
  simp only [ka,aOF] at h;simp only [List.drop_zero,List.take_succ_cons,ka,h.1,Bool.true_and];exact jgK (l:=l) 0 b h.2
 |.val u::l,a+1,b,h=>by
  simp only [ka,aOF] at h;exact jgK (l:=l) a b h.2
theorem jsu (l:List Int) (a b:Nat):ka (((l.flatMap (λn=>[iv n])).drop a).take b)=true:=jgK a b (jgJ l)
attribute [go_sem] jsu
theorem jvA (l:List Tk) (a b:Nat):ka (((l.flatMap (jH)).drop a).take b)=true:=jgK a b (jje l)
attribute [go_sem] jvA
theorem jqD (l:List Bool) (a b:Nat):ka (((l.flatMap (λb=>[D.val (.bool b)])).drop a).take b)=true:=jgK a b (jeZ l)
attribute [go_sem] jqD
theorem jDI (n:Nat):D.sl 1 jeP (List.replicate n [D.val (.int .i64 0)]).flatten=jb (List.replicate n 0):=by simp [jb,List.flatMap,iv]
theorem jAF (n:Nat):D.sl 1 jCO (List.replicate n [D.val (.bool false)]).flatten=qG (List.replicate n false):=by simp [qG,List.flatMap]
theorem jqG {α:Type} {enc:α->List D} {size:Nat} (hs:∀x,(enc x).length=size):∀(l:List α) (k:Nat),(l.flatMap enc).drop (k*size)=(l.drop k).flatMap enc
 |[],k=>by simp
 |x::l,0=>by simp
 |x::l,k+1=>by
  rw [aOM,List.drop_succ_cons,<-jqG hs l k,Nat.succ_mul,Nat.add_comm,<-List.drop_drop,List.drop_left' (hs x)]
theorem jph {α:Type} {enc:α->List D} {size:Nat} (hs:∀x,(enc x).length=size):∀(l:List α) (k:Nat),(l.flatMap enc).take (k*size)=(l.take k).flatMap enc
 |[],k=>by simp
 |x::l,0=>by simp
 |x::l,k+1=>by
  rw [aOM,List.take_succ_cons,aOM,<-jph hs l k,Nat.succ_mul,Nat.add_comm,List.take_append,hs,aPI,aNU (by rw [hs];omega)]
theorem jnI {α:Type} {enc:α->List D} {size ty:Nat} (hs:∀x,(enc x).length=size) (l:List α) (a b:Nat):(D.sl size ty (l.flatMap enc)).sub a b=.sl size ty (((l.drop a).take (b-a)).flatMap enc):=by
 simp only [D.sub,jqG hs,jph hs]
theorem jut (l:List Ed) (a b:Nat):(js l).sub a b=js ((l.drop a).take (b-a)):=jnI (enc:=jK) (λ_=>rfl) l a b
theorem jus (l:List En) (a b:Nat):(jg l).sub a b=jg ((l.drop a).take (b-a)):=jnI (enc:=jk) (λ_=>rfl) l a b
attribute [go_sem] Nat.zero_le jut jus Nat.sub_zero List.drop_zero
def jeB {α:Type} (f:α->Bool):List α->Int
 |[]=>-1
 |x::l=>if f x then 0 else match jeB f l with
  |.ofNat k=>.ofNat (k+1)
  |.negSucc k=>.negSucc k
theorem jaI {α:Type} {f:α->Bool}:∀{l:List α},(∀y∈l,f y=false)->jeB f l=-1
 |[],_=>rfl
 |x::l,h=>by rw [jeB,h x (by simp),jaI λy hy=>h y (by simp [hy])];rfl
theorem jbQ {α:Type} {f:α->Bool}:∀{l:List α} {k:Nat} {x:α},l[k]?=some x->f x=true->(∀y∈l.take k,f y=false)->jeB f l=k
 |[],_,_,h,_,_=>by simp at h
 |a::l,0,x,h,hx,_=>by simp at h;subst h;rw [jeB,hx];rfl
 |a::l,k+1,x,h,hx,hn=>by
  rw [jeB,hn a (by simp),jbQ (k:=k) (by simpa using h) hx λy hy=>hn y (by simp [hy])];rfl
theorem zO {α:Type} (f:α->Bool) (l:List α):(jeB f l=-1/\∀y∈l,f y=false)\/∃k x,jeB f l=((k:Nat):Int)/\l[k]?=some x/\f x=true/\∀y∈l.take k,f y=false:=by
 induction l with
 |nil=>exact .inl ⟨rfl,by simp⟩
 |cons a l ih=>
  cases ha:f a with
  |true=>exact .inr ⟨0,a,by rw [jeB,ha];rfl,rfl,ha,by simp⟩
  |false=>
   rcases ih with ⟨h1,h2⟩|⟨k,x,h1,h2,h3,h4⟩
   ·exact .inl ⟨jaI (λy hy=>by rcases aOK.1 hy with rfl|hy<;>simp_all),λy hy=>by rcases aOK.1 hy with rfl|hy<;>simp_all⟩
   ·have h5:(a::l)[k+1]?=some x:=by simpa using h2
    have h6:∀y∈(a::l).take (k+1),f y=false:=λy hy=>by
     rw [List.take_succ_cons] at hy;rcases aOK.1 hy with rfl|hy
     ·exact ha
     ·exact h4 y hy
    exact .inr ⟨k+1,x,jbQ h5 h3 h6,h5,h3,h6⟩
theorem jnG {α:Type} {f:α->Bool} {l:List α} {k:Nat} {x:α} (h:l[k]?=some x) (hx:f x=false) (hn:∀y∈l.take k,f y=false):∀y∈l.take (k+1),f y=false:=by
 intro y hy;rw [aOA,h] at hy;rcases aNT.1 hy with hy|hy
 ·exact hn y hy
 ·simp at hy;subst hy;exact hx
theorem kT (l:List Int) (a:Int):D.sl 1 jeP (l.flatMap (λn=>[iv n])++[.val (.int .i64 a)])=jb (l++[a]):=by simp [jb]
theorem jAO (a:Int):D.sl 1 jeP [.val (.int .i64 a)]=jb [a]:=by simp [jb]
theorem stH_t (p:List Nat) (k n:Nat) (η:jf) (K:jf->Prop):stH true p k n η K=K η:=(rfl)
attribute [go_sem] stH_t jE1
def jfa:C:=iS [iA 1 (.box 49 5 (.t 0)),aO 2 false] (iS [aF 3 3 1,aL 4 3,iA 5 (.call 68 [.t 4,oI 1,oI 12]),aU 6 5,aM 7 6,iB 8 7 false (iF 4 1),iB 9 7 false (iL 8),iB 10 7 false (iG 9),iB 11 7 false (iQ .gtr 3 10 30),iA 12 (iY 7 (oT) (.t 11)),aM 13 12,iB 14 13 false (iF 0 1),iB 15 13 false (iL 14),iB 16 13 false (.call 68 [.t 15,oI 0,oI 9]),iB 17 13 false (iU 16),iA 18 (iY 13 (oT) (.t 17)),aM 19 18,iB 20 19 false (iF 1 1),iB 21 19 false (iL 20),iB 22 19 false (.call 68 [.t 21,oI 1,oI 5]),iB 23 19 false (iU 22),iA 24 (iY 19 (oT) (.t 23)),aM 25 24,iB 26 25 false (iF 2 1),iB 27 25 false (iL 26),iB 28 25 false (.call 68 [.t 27,oI 1,oI 20]),iB 29 25 false (iU 28),iA 30 (iY 25 (oT) (.t 29)),aM 2 30] .ret)
theorem jiw:fnC Tryz.prog Tryz.f166=some (jfa,[.t 2],31):=by kernel_rfl
def jfb:C:=iS [iA 2 (.box 49 5 (.t 0)),iA 4 (.mov (.c (.slice none 0 0)))] (iS [aF 10 3 2,aL 11 10,iA 12 (.mks 4 1 1 [D.val (.bool false)] (.t 11) (.t 11)),aM 5 12] (iS [aM 13 1,iA 14 (wA1 [(0,1,.t 13)]),aM 6 14] (.seq (iS [aN 7 0] (.blk 0 (.loop (.seq (iS [aM 15 7,aM 16 6,aG 17 16,aP 18 .lss 3 15 17] (iD 18 .skip (.exit 0))) (.seq (.blk 1 (iS [aN 8 0] (.blk 2 (.loop (.seq (iS [aM 21 8,aF 22 4 2,aL 23 22,aG 24 23,aP 25 .lss 3 21 24] (iD 25 .skip (.exit 2))) (.seq (.blk 3 (iS [aF 28 4 2,aL 29 28,aM 30 8,aI 31 2 29 30,aT 32 2 31,iA 9 wAP,wAH 9 32] (.seq (.dreg (tA 0 33 (iF 0 9) (tA 1 34 (iL 33) (tA 2 35 (iM 6) (tA 3 36 (iM 7) (tA 4 37 (iI 1 35 36) (tA 5 38 (iL 37) (tA 6 39 (iP .eql 3 34 38) (tA 7 40 (iM 39) (tB 8 41 40 true (iM 5) (tB 9 42 40 true (iF 1 9) (tB 10 43 40 true (iL 42) (tB 11 44 40 true (iI 1 41 43) (tB 12 45 40 true (iL 44) (tB 13 46 40 true (iU 45) (tA 14 47 (iY 40 (.t 46) (oF)) .done)))))))))))))))) (iD 47 (iS [aM 48 5,aF 49 1 9,aL 50 49,aI 51 1 48 50,iC (.st 1 [none] (.t 51) (oT))] (.reg [aM 52 6,aF 53 1 9,aL 54 53,iA 55 (wA1 [(0,1,.t 54)]),iA 56 (wBA 52 55),aM 6 56])) .skip)))) (.reg [aM 26 8,aQ 27 .add 3 26 1,aM 8 27]))))))) (.reg [aM 19 7,aQ 20 .add 3 19 1,aM 7 20])))))) (iS [aM 57 5,aM 4 57] .ret))))
theorem jix:fnC Tryz.prog Tryz.f167=some (jfb,[.t 4],58):=by kernel_rfl
def jcL:C:=iS [iA 1 (.box 49 5 (.t 0)),aN 2 0] (.seq (iS [aT 7 5 1,iA 8 (iK 166 [7])] (iD 8 (iS [aN 2 1] .ret) .skip)) (.seq (iS [aN 3 0] (.blk 0 (.loop (.seq (iS [aM 9 3,aF 10 4 1,aL 11 10,aG 12 11,aP 13 .lss 3 9 12] (iD 13 .skip (.exit 0))) (.seq (.blk 1 (.seq (.dreg (tA 0 16 (iF 4 1) (tA 1 17 (iL 16) (tA 2 18 (iM 3) (tA 3 19 (iI 2 17 18) (tA 4 20 (iF 0 19) (tA 5 21 (iL 20) (tA 6 22 (iF 3 1) (tA 7 23 (iL 22) (tA 8 24 (iQ .sub 3 23 1) (tC 25 (.call 68 [.t 21,oI 0,.t 24]) [] (tA 10 26 (iU 25) (tA 11 27 (iM 26) (tB 12 28 27 false (iF 4 1) (tB 13 29 27 false (iL 28) (tB 14 30 27 false (iM 3) (tB 15 31 27 false (iI 2 29 30) (tB 16 32 27 false (iF 1 31) (tB 17 33 27 false (iL 32) (tB 18 34 27 false (iF 3 1) (tB 19 35 27 false (iL 34) (tB 20 36 27 false (iQ .sub 3 35 1) (.alt (iB 37 27 false (.call 68 [.t 33,oI 0,.t 36])) [] (tB 22 38 27 false (iU 37) (tA 23 39 (iY 27 (oT) (.t 38)) .done)) .stop)))))))))))) .stop))))))))))) (iD 39 (iS [aN 2 2] .ret) .skip))) (.reg [aM 14 3,aQ 15 .add 3 14 1,aM 3 15])))))) (.seq (iS [aN 4 0] (.blk 2 (.loop (.seq (iS [aM 40 4,aF 41 4 1,aL 42 41,aG 43 42,aP 44 .lss 3 40 43] (iD 44 .skip (.exit 2))) (.seq (.blk 3 (iS [aN 5 0] (.blk 4 (.loop (.seq (iS [aM 47 5,aM 48 4,aP 49 .lss 3 47 48] (iD 49 .skip (.exit 4))) (.seq (.blk 5 (.seq (.dreg (tA 0 52 (iF 4 1) (tA 1 53 (iL 52) (tA 2 54 (iM 4) (tA 3 55 (iI 2 53 54) (tA 4 56 (iT 2 55) (tA 5 57 (iF 4 1) (tA 6 58 (iL 57) (tA 7 59 (iM 5) (tA 8 60 (iI 2 58 59) (tA 9 61 (iT 2 60) (tA 10 62 (iP .eql 161 56 61) .done)))))))))))) (iD 62 (iS [aN 2 3] .ret) .skip))) (.reg [aM 50 5,aQ 51 .add 3 50 1,aM 5 51]))))))) (.reg [aM 45 4,aQ 46 .add 3 45 1,aM 4 46])))))) (.seq (iS [aN 6 0] (.blk 6 (.loop (.seq (iS [aM 63 6,aF 64 3 1,aL 65 64,aP 66 .lss 3 63 65] (iD 66 .skip (.exit 6))) (.seq (.blk 7 (iS [aT 69 5 1,aM 70 6,iA 71 (iK 167 [69,70]),aM 72 6,aI 73 1 71 72,aL 74 73] (iD 74 (iS [aN 2 4] .ret) .skip))) (.reg [aM 67 6,aQ 68 .add 3 67 1,aM 6 68])))))) (iS [aN 2 0] .ret)))))
theorem jfT:fnC Tryz.prog Tryz.f112=some (jcL,[.t 2],75):=by kernel_rfl
def qn:C:=iS [iA 3 (.box 161 2 (.t 1)),aN 4 0] (.seq (iS [aM 6 0,aG 7 6,aN 8 0] (.blk 0 (.loop (iS [aP 9 .lss 3 8 7] (.seq (iD 9 .skip (.exit 0)) (.seq (.blk 1 (iS [aM 10 8,aM 5 10] (.seq (.dreg (tA 0 11 (iT 2 3) (tA 1 12 (iM 0) (tA 2 13 (iM 5) (tA 3 14 (iI 2 12 13) (tA 4 15 (iT 2 14) (tA 5 16 (iP .eql 161 11 15) .done))))))) (iD 16 (iS [aM 17 5,aM 4 17] .ret) .skip)))) (.reg [aQ 18 .add 3 8 1,aM 8 18]))))))) (iS [aN 4 (-1)] .ret))
theorem vB:fnC Tryz.prog Tryz.f193=some (qn,[.t 4],19):=by kernel_rfl
def kU:C:=iS [iA 3 (.box 161 2 (.t 1)),aO 4 false] (iS [aM 5 0,aT 6 2 3,iA 7 (iK 193 [5,6]),aQ 8 .geq 3 7 0,aM 4 8] .ret)
theorem vg:fnC Tryz.prog Tryz.f161=some (kU,[.t 4],9):=by kernel_rfl
theorem jl7 (p:Pl):jW Tryz.prog 166 [.agg (jd p)] (.c (.val (.bool (vW p)))):=by
 refine pf_ jiw ?_;unfold jfa;simp only [go_sem,jd];intro b;refine jm (jI p.aNA 1 12) λη=>?_
 simp only [go_sem];cases h1:decide (1<=p.aNA/\p.aNA<=12)
 ·simp only [go_sem,h1,vW,inB]
 ·by_cases h2:30<p.aNF.length
  ·have bI:(p.aNF.length:Int)>30:=by omega
   simp only [go_sem,h1,h2,bI,vW,inB]
  ·have bI:¬(p.aNF.length:Int)>30:=by omega
   simp only [go_sem,bI];refine jm (jI p.aNI 0 9) λη=>?_
   simp only [go_sem];cases h3:decide (0<=p.aNI/\p.aNI<=9)
   ·simp only [go_sem,h1,h2,h3,vW,inB]
   ·simp only [go_sem]
    refine jm (jI p.aNN 1 5) λη=>?_
    simp only [go_sem];cases h4:decide (1<=p.aNN/\p.aNN<=5)
    ·simp only [go_sem,h1,h2,h3,h4,vW,inB]
    ·simp only [go_sem]
     refine jm (jI p.aNM 1 20) λη=>?_
     simp only [go_sem];cases h5:decide (1<=p.aNM/\p.aNM<=20)
     ·simp only [go_sem,h1,h2,h3,h4,h5,vW,inB]
     ·simp only [go_sem,h1,h2,h3,h4,h5,vW,inB]
theorem jl8 (p:Pl) (n:Nat) (hn:p.aNA=n) (cF:n<=12) (dH:p.aNF.length<=30) (bU:∀e∈p.aNF,okE n e) (t:Nat) (ht:t<n):jW Tryz.prog 167 [.agg (jd p),.c (.val (.int .i64 t))] (.c (qG (jlh p.aNF n t))):=by
 refine pf_ jix ?_;unfold jfb;have hm:1*n<=281474976710656:=by omega
 have eA:n<=maxLen:=zy
 have bE:D.sl 1 jCO (List.replicate n [D.val (.bool false)]).flatten=qG (jq4 n []):=by
  rw [jAF]
  congr 1
  apply aPY
  intro k;by_cases hk:k<n
  ·rw [jkv hk];simp [hk]
  ·rw [aPN (by simp;omega),aPN (by rw [jct];omega)]
 have aCY:D.sl 1 jeP [D.val (.int .i64 t)]=jb [(t:Int)]:=by simp [jb]
 simp only [go_sem,jd,hn];intro b;rw [jrv];refine ⟨.i64,.i64,n,by simp only [go_sem],by simp only [go_sem],hm,eA,λη=>?_⟩
 simp only [go_sem,bE,aCY];intro eH;refine kg (λi:Nat×List Int×jf×jf=>St.of [(2,Bx 200 b),(5,Hd 5 i.2.2.1),(6,Hd 6 i.2.2.2),(7,Ni i.1)] [(200,Bi b _ (jd p)),(5,.loose (qG (jq4 n i.2.1)) i.2.2.1),(6,.loose (jb ((t:Int)::i.2.1)) i.2.2.2)]) (λi=>jEH p.aNF n t i.1 i.2.1) (λi=>n+1-i.1) (0,[],η,eH) (jHb) (jt [200,1200,1400] (by simp only [go_sem,jd,hn]<;>trivial)) ?_
 rintro ⟨h,r,aS,cI⟩ hb;dsimp only at hb;have bR:=juc hb;have eQ:((t:Int)::r).length=r.length+1:=rfl;by_cases aB:h<r.length+1
 ·have aA:(h:Int)<((r.length+1:Nat):Int):=by omega
  obtain ⟨x,hx⟩:=ja (l:=(t:Int)::r) aB;have hwh:=kx h;simp only [go_sem,aA];refine kg (λi:Nat×List Int×jf×jf=>St.of [(2,Bx 200 b),(5,Hd 5 i.2.2.1),(6,Hd 6 i.2.2.2),(7,Ni h),(8,Ni i.1)] [(200,Bi b _ (jd p)),(5,.loose (qG (jq4 n i.2.1)) i.2.2.1),(6,.loose (jb ((t:Int)::i.2.1)) i.2.2.2)]) (λi=>BIn p.aNF n t h x i.1 i.2.1/\i.1<=p.aNF.length) (λi=>p.aNF.length-i.1) (0,r,aS,cI) (⟨bIn_0 hb hx,aOL _⟩) (jt [200,5,6] (by simp only [go_sem,jd,hn]<;>trivial)) ?_
  rintro ⟨j,r1,dP,bP⟩ ⟨hj,bN⟩;dsimp only at hj bN;have aIM:=juc hj.1;have aCR:((t:Int)::r1).length=r1.length+1:=rfl;by_cases dU:j<p.aNF.length
  ·have bB:(j:Int)<p.aNF.length:=by omega
   obtain ⟨e,he⟩:=ja dU;obtain ⟨⟨e1,e2⟩,e3,e4⟩:=bU e (aNQ he);have dF:=kx j;have hqx:((t:Int)::r1)[h]?=some x:=hj.2.1;have f4:h<((t:Int)::r1).length:=(aNP.1 hqx).1;have hd:e.dst.toNat<n:=by omega
   have hdi:((e.dst.toNat:Nat):Int)=e.dst:=by omega
   have yB:(jq4 n r1)[e.dst.toNat]?=some (decide (e.dst∈r1)):=by rw [jkv hd,hdi]
   have fN:e.dst.toNat<(jq4 n r1).length:=by rw [jct];exact hd
   have cQ:(jq4 n r1).set e.dst.toNat true=jq4 n (r1++[e.dst]):=by rw [jBz hd,hdi]
   have eX:1<=maxLen:=zy;have gC:((t:Int)::r1).length+1<=maxLen:=zy;have gO:(((t:Int)::r1).length+1)*8<=140737488355328:=by omega
   have aFV:D.sl 1 jeP [D.val (.int .i64 e.dst)]=jb [e.dst]:=by simp [jb]
   dsimp only;generalize hq:(t:Int)::r1=q at hqx f4 aCR gC gO⊢;simp only [go_sem,jd,hn,dU,bB,jD he,jK];intro b2;simp only [go_sem,jq hqx,jp f4,f4];cases nT:(e.src==x)
   ·have aJ:e.src≠x:=by simpa using nT
    simp only [go_sem,dF];exact ⟨(j+1,r1,dP,bP),⟨jCt hj he λh'=>absurd h' aJ,by omega⟩,(jt [200,5,6] (by simp only [go_sem,<-hq]<;>trivial)),by (try dsimp only);omega⟩
   ·have mM:e.src=x:=by simpa using nT
    simp only [go_sem,e3,hd,jct,jf4 yB,jck fN];by_cases bW:e.dst∈r1
    ·simp only [go_sem,bW,dF]
     exact ⟨(j+1,r1,dP,bP),⟨jCt hj he λ_=>bW,by omega⟩,(jt [200,5,6] (by simp only [go_sem,<-hq]<;>trivial)),by (try dsimp only);omega⟩
    ·simp only [go_sem,bW,dF,e3,hd,jct,jpI true fN,jck fN,cQ,gC,gO,jAO,kT]
     intro y1 bF;exact ⟨(j+1,r1++[e.dst],dP,bF),⟨jEC hj he mM bW ⟨e3,e4⟩ (λh0=>by subst h0;simpa using hj.2.1.symm),by omega⟩,(jt [200,5,5600] (by simp only [go_sem,<-hq,aOU]<;>trivial)),by (try dsimp only);omega⟩
  ·have bB:¬(j:Int)<p.aNF.length:=by omega
   simp only [go_sem,jd,hn,bB,hwh];exact ⟨(h+1,r1,dP,bP),jzg hj (by omega),(jt [200,5,6]),by (try dsimp only);omega⟩
 ·have aA:¬(h:Int)<((r.length+1:Nat):Int):=by omega
  simp only [go_sem,jd,hn,aA,jzh hb (by omega)]
theorem jxQ {p:Pl} (h:vW p=false):∃n:Nat,p.aNA=n/\1<=n/\n<=12/\p.aNF.length<=30/\(0<=p.aNI/\p.aNI<=9)/\(1<=p.aNN/\p.aNN<=5)/\(1<=p.aNM/\p.aNM<=20):=by
 simp only [vW,inB,Bool.or_eq_false_iff,Bool.not_eq_false',aOJ,aOV] at h;obtain ⟨⟨⟨⟨h1,h2⟩,h3⟩,h4⟩,h5⟩:=h;exact ⟨p.aNA.toNat,by omega,by omega,by omega,by omega,h3,h4,h5⟩
theorem jh7 {p:Pl} (h:vW p=true):jo p=1:=by simp [jo,h]
theorem jn0 {p:Pl} (h:vW p=false) {e:Ed} (he:e∈p.aNF) (h2:jku p.aNA e=true):jo p=2:=by
 have:p.aNF.any (jku p.aNA)=true:=List.any_eq_true.2 ⟨e,he,h2⟩;simp [jo,h,this]
theorem jB3 {p:Pl} (h:vW p=false) (h2:p.aNF.any (jku p.aNA)=false) (h3:¬p.aNF.Nodup):jo p=3:=by simp [jo,h,h2,h3]
theorem jB4 {p:Pl} (h:vW p=false) (h2:p.aNF.any (jku p.aNA)=false) (h3:p.aNF.Nodup) {t:Nat} (ht:(t:Int)<p.aNA) (h4:Rc p.aNF t t):jo p=4:=by
 have:jG4 p=true:=by simp only [jG4,aOJ];exact ⟨t,ht,h4⟩
 simp [jo,h,h2,h3,this]
theorem jDA {p:Pl} (h:vW p=false) (h2:p.aNF.any (jku p.aNA)=false) (h3:p.aNF.Nodup) (h4:∀t:Nat,(t:Int)<p.aNA->¬Rc p.aNF t t):jo p=0:=by
 have:jG4 p=false:=by simp only [jG4,aOV,not_exists,not_and];exact h4
 simp [jo,h,h2,h3,this]
theorem juh {α:Type} {f:α->Bool} {l:List α} {k:Nat} {x:α} (h:l[k]?=some x) (hx:f x=false) (hn:(l.take k).any f=false):(l.take (k+1)).any f=false:=by
 rw [aOA,h];simp_all
theorem jtV {l:List Ed} {k j:Nat} {x:Ed} (h:l[k]?=some x) (hj:j<k) (hx:l[j]?=some x):¬l.Nodup:=by
 intro hd;obtain ⟨h1,h2⟩:=aNP.1 h;obtain ⟨h3,h4⟩:=aNP.1 hx;exact List.pairwise_iff_getElem.1 hd j k h3 h1 hj (h4.trans h2.symm)
theorem jm0 {l:List Ed} {k:Nat} {x:Ed} (h:l[k]?=some x) (hn:(l.take k).Nodup) (hx:x∉l.take k):(l.take (k+1)).Nodup:=by
 rw [aOA,h];simp only [Option.toList_some];rw [aNY];exact ⟨hn,by simp,λa ha b hb e=>by simp at hb;subst hb;exact hx (e▸ha)⟩
theorem vS (p:Pl):jW Tryz.prog 112 [.agg (jd p)] (.c (.val (.int .i64 (jo p)))):=by
 refine pf_ jfT ?_;unfold jcL;simp only [go_sem,jd];intro b;refine jm (jl7 p) λη=>?_
 simp only [go_sem];cases hm:vW p;rotate_left
 ·simp only [go_sem,jh7 hm]
 obtain ⟨n,hn,d9,nB,hel,-⟩:=jxQ hm;have e9:IntKind.i64.wrap ((n:Int)-1)=n-1:=vF;simp only [go_sem];refine qY (λi:Nat=>St.of [(1,Bx 100 b),(3,Ni i)] [(100,Bi b _ (jd p))]) (λi=>i<=p.aNF.length/\(p.aNF.take i).any (jku n)=false) (λi=>p.aNF.length-i) 0 (jt [100] (by simp only [go_sem,jd]<;>trivial)) ?_
 rintro k ⟨hk,cT⟩;by_cases aB:k<p.aNF.length
 ·have aA:(k:Int)<p.aNF.length:=by omega
  obtain ⟨e,he⟩:=ja aB;have hw:=kx k;simp only [go_sem,jd,hn,aB,aA,jD he,jK,e9];refine jm (jI e.src 0 (n-1)) λη=>?_
  simp only [go_sem];cases h1:decide (0<=e.src/\e.src<=n-1)
  ·have gH:jku p.aNA e=true:=by simp [jku,inB,hn,h1]
   simp only [go_sem,jn0 hm (aNQ he) gH]
  ·simp only [go_sem,aB,jD he,jK,e9]
   refine jm (jI e.dst 0 (n-1)) λη=>?_
   simp only [go_sem];cases h2:decide (0<=e.dst/\e.dst<=n-1)
   ·have gH:jku p.aNA e=true:=by simp [jku,inB,hn,h2]
    simp only [go_sem,jn0 hm (aNQ he) gH]
   ·have gH:jku n e=false:=by simp [jku,inB,h1,h2]
    simp only [go_sem,hw];exact ⟨k+1,⟨aB,juh he gH cT⟩,(jt [100]),by (try dsimp only);omega⟩
 have aA:¬(k:Int)<p.aNF.length:=by omega
 rw [aNU (by omega),<-hn] at cT
 have bU:=jxG cT;simp only [go_sem,jd,aA];refine qY (λi:Nat=>St.of [(1,Bx 100 b),(4,Ni i)] [(100,Bi b _ (jd p))]) (λi=>i<=p.aNF.length/\(p.aNF.take i).Nodup) (λi=>p.aNF.length-i) 0 (jt [100] (by simp only [go_sem,jd]<;>trivial)) ?_
 rintro j ⟨hj,eE⟩;by_cases bN:j<p.aNF.length
 ·have a9:(j:Int)<p.aNF.length:=by omega
  obtain ⟨e,he⟩:=ja bN;have hw:=kx j;simp only [go_sem,jd,a9];refine qY (λi:Nat=>St.of [(1,Bx 100 b),(4,Ni j),(5,Ni i)] [(100,Bi b _ (jd p))]) (λi=>i<=j/\e∉p.aNF.take i) (λi=>j-i) 0 (jt [100] (by simp only [go_sem,jd]<;>trivial)) ?_
  rintro m ⟨dI,pV⟩;by_cases eA:m<j
  ·have eL:(m:Int)<j:=by omega
   obtain ⟨e2,cC⟩:=ja (show m<p.aNF.length by omega)
   have bV:=kx m;have z7:m<p.aNF.length:=by omega
   have aIZ:(m:Int)<p.aNF.length:=by omega
   by_cases eR:e=e2
   ·subst eR
    simp only [go_sem,jd,eL,bN,z7,jD he,jD cC,jK,jB3 hm cT (jtV he eA cC)]
   ·simp only [go_sem,jd,eL,bN,z7,jD he,jD cC,jK,eR,bV]
    exact ⟨m+1,⟨eA,λh'=>by rw [aOA,cC] at h';simp at h';rcases h' with h'|h';exact pV h';exact eR h'⟩,(jt [100]),by (try dsimp only);omega⟩
  ·have eL:¬(m:Int)<j:=by omega
   obtain rfl:m=j:=by omega
   simp only [go_sem,jd,eL,hw];exact ⟨m+1,⟨bN,jm0 he eE pV⟩,(jt [100]),by (try dsimp only);omega⟩
 have a9:¬(j:Int)<p.aNF.length:=by omega
 rw [aNU (by omega)] at eE
 simp only [go_sem,jd,a9];refine qY (λi:Nat=>St.of [(1,Bx 100 b),(6,Ni i)] [(100,Bi b _ (jd p))]) (λi=>i<=n/\∀t:Nat,t<i->¬Rc p.aNF t t) (λi=>n-i) 0 (jt [100] (by simp only [go_sem,jd]<;>trivial)) ?_
 rintro t ⟨ht,wX⟩;by_cases dB:t<n
 ·have eI:(t:Int)<n:=by omega
  have hw:=kx t;have oZ:∀e∈p.aNF,okE n e:=λe he=>by have:=bU e he;rwa [hn,aNW] at this
  simp only [go_sem,jd,hn,eI];refine jG (jl8 p n hn nB hel oZ t dB) (by simp only [go_sem,jd,hn]) λη=>?_
  simp only [go_sem];cases hr:rcB p.aNF t t
  ·have hg:(jlh p.aNF n t)[t]?=some false:=by rw [jqv dB,hr]
   simp only [go_sem,dB,jgD,jf4 hg,jck (show t<(jlh p.aNF n t).length by rw [jgD];exact dB),hw]
   exact ⟨t+1,⟨dB,λs hs h'=>by rcases Nat.lt_or_ge s t with h2|h2;exact wX s h2 h';obtain rfl:s=t:=(by omega);rw [rcB_iff.2 h'] at hr;cases hr⟩,(jt [100]),by (try dsimp only);omega⟩
  ·have hg:(jlh p.aNF n t)[t]?=some true:=by rw [jqv dB,hr]
   simp only [go_sem,dB,jgD,jf4 hg,jck (show t<(jlh p.aNF n t).length by rw [jgD];exact dB),jB4 hm cT eE (by rw [hn];exact eI) (rcB_iff.1 hr)]
 ·have eI:¬(t:Int)<n:=by omega
  simp only [go_sem,jd,hn,eI,jDA hm cT eE (λs hs=>wX s (by omega))]
theorem jxz (l:List Ed) (e:Ed) (hl:l.length<=4000000):jW Tryz.prog 193 [.c (js l),.agg (jK e)] (.c (.val (.int .i64 (jeB (λx=>decide (e=x)) l)))):=by
 refine pf_ vB ?_;unfold qn;simp only [go_sem,jK];intro b;refine qY (λi:Nat=>St.of [(0,Ro (js l)),(3,Bx 300 b),(7,Ni l.length),(8,Ni i)] [(300,Bi b _ (jK e))]) (λi=>i<=l.length/\∀y∈l.take i,(λx=>decide (e=x)) y=false) (λi=>l.length-i) 0 (jt [300] (by simp only [go_sem,jK]<;>trivial)) ?_
 rintro k ⟨hk,cT⟩;by_cases aB:k<l.length
 ·have aA:(k:Int)<l.length:=by omega
  obtain ⟨x,hx⟩:=ja aB;have hw:=kx k;by_cases eR:e=x
  ·subst eR
   simp only [go_sem,jK,aB,aA,jD hx,jbQ hx (decide_eq_true rfl) cT]
  ·simp only [go_sem,jK,aB,aA,jD hx,eR,hw]
   exact ⟨k+1,⟨aB,jnG hx (decide_eq_false eR) cT⟩,(jt [300]),by (try dsimp only);omega⟩
 ·have aA:¬(k:Int)<l.length:=by omega
  rw [aNU (by omega)] at cT
  simp only [go_sem,jK,aA,jaI cT]
theorem jp1 (l:List Ed) (e:Ed) (hl:l.length<=4000000):jW Tryz.prog 161 [.c (js l),.agg (jK e)] (.c (.val (.bool (decide (e∈l))))):=by
 refine pf_ vg ?_;unfold kU;simp only [go_sem,jK];intro b;refine jm (jxz l e hl) λη=>?_
 simp only [go_sem];rcases zO (λx=>decide (e=x)) l with ⟨h1,h2⟩|⟨k,x,h1,h2,h3,-⟩
 ·have hm:decide (e∈l)=false:=decide_eq_false λh=>by have:=h2 e h;simp at this
  rw [h1,hm];simp only [go_sem]
 ·have hm:decide (e∈l)=true:=decide_eq_true (by have:e=x:=by simpa using h3
                                                exact this▸aNQ h2)
  have hk:=qX k;rw [h1,hm];simp only [go_sem,hk]
theorem jsB {a:Nat} (h:a<4096):(BitVec.ofInt 64 (a:Int))=BitVec.ofNat 64 a:=by
 apply BitVec.eq_of_toNat_eq
 simp
theorem jAw {a b:Nat} (ha:a<4096) (hb:b<4096):IntKind.i64.wrap ((BitVec.ofInt 64 (a:Int)|||BitVec.ofInt 64 (b:Int)).toNat:Int)=((a|||b:Nat):Int):=by
 have nP:a|||b<2^12:=Nat.or_lt_two_pow ha hb
 have e:(BitVec.ofInt 64 (a:Int)|||BitVec.ofInt 64 (b:Int)).toNat=a|||b:=by
  rw [jsB ha,jsB hb,BitVec.toNat_or,BitVec.toNat_ofNat,BitVec.toNat_ofNat,Nat.mod_eq_of_lt (by omega),Nat.mod_eq_of_lt (by omega)]
 rw [e];exact kS (by omega) (by omega)
theorem jwT {d:Int} (h0:0<=d) (h:d<12):IntKind.i64.wrap (1*2^min d.toNat 64)=((2^d.toNat:Nat):Int):=by
 have e:min d.toNat 64=d.toNat:=aPD (by omega)
 have aB:2^d.toNat<4096:=(show 2^d.toNat<2^12 from Nat.pow_lt_pow_right (by omega) (by omega))
 rw [e,Int.one_mul,show (2:Int)^d.toNat=((2^d.toNat:Nat):Int) by simp]
 generalize 2^d.toNat=q at*;exact kS (by omega) (by omega)
theorem jBu {a t:Nat} (ha:a<4096) (ht:t<12):(IntKind.i64.wrap ((BitVec.ofInt 64 (Int.fdiv (a:Int) (2^min t 64))&&&BitVec.ofInt 64 1).toNat:Int)==1)=a.testBit t:=by
 have e:min t 64=t:=aPD (by omega)
 have e1:Int.fdiv (a:Int) (2^t)=((a/2^t:Nat):Int):=by
  rw [show (2:Int)^t=((2^t:Nat):Int) by simp,Int.fdiv_eq_ediv_of_nonneg _ (Int.natCast_nonneg _)];rfl
 have hq:a/2^t<4096:=Nat.lt_of_le_of_lt (Nat.div_le_self _ _) ha
 have e2:(BitVec.ofInt 64 ((a/2^t:Nat):Int)&&&BitVec.ofInt 64 1).toNat=(a/2^t)%2:=by
  rw [jsB hq,show BitVec.ofInt 64 1=BitVec.ofNat 64 1 from rfl,BitVec.toNat_and,BitVec.toNat_ofNat,BitVec.toNat_ofNat,Nat.mod_eq_of_lt (by omega),Nat.mod_eq_of_lt (by omega)]
  exact Nat.and_one_is_mod _
 rw [e,e1,e2,kS (by omega) (by omega),Nat.testBit_eq_decide_div_mod_eq]
 by_cases h:a/2^t%2=1
 ·rw [h];rfl
 ·have h0:a/2^t%2=0:=by omega
  rw [h0];rfl
theorem jp3 {a b:Nat} (ha:a<4096) (hb:b<4096):IntKind.i64.wrap ((@BitVec.toNat 64 (@HOr.hOr (BitVec 64) (BitVec 64) (BitVec 64) (@instHOrOfOrOp (BitVec IntKind.i64.bits) (@BitVec.instOrOp IntKind.i64.bits)) (BitVec.ofInt 64 (a:Int)) (BitVec.ofInt 64 (b:Int))):Nat):Int)=((a|||b:Nat):Int):=jAw ha hb
theorem jy8 {a t:Nat} (ha:a<4096) (ht:t<12):(IntKind.i64.wrap ((@BitVec.toNat 64 (@HAnd.hAnd (BitVec 64) (BitVec 64) (BitVec 64) (@instHAndOfAndOp (BitVec IntKind.i64.bits) (@BitVec.instAndOp IntKind.i64.bits)) (BitVec.ofInt 64 (Int.fdiv (a:Int) (2^min t 64))) (BitVec.ofInt 64 1)):Nat):Int)==1)=a.testBit t:=jBu ha ht
def zL (S:List Nat):List Int:=S.map λ(k:Nat)=>(k:Int)
theorem jiZ (S:List Nat):(zL S).length=S.length:=by simp [zL]
theorem jv4 {S:List Nat} {k:Nat} (h:k<S.length):(zL S)[k]?=some ((S.getD k 0:Nat):Int):=by simp [zL,h]
theorem jEM (S:List Nat) (k v:Nat):(zL S).set k (v:Int)=zL (S.set k v):=by simp [zL,List.map_set]
theorem jAg {es:List Ed} {k:Nat} {e:Ed} (h:es[k]?=some e) (S:List Nat):(es.take (k+1)).foldl jak S=jak ((es.take k).foldl jak S) e:=by
 rw [aOA,h];simp
theorem jsm {n:Nat}:∀{l:List Ed} {S:List Nat},(∀e∈l,okE n e)->(∀x∈S,x<2^n)->∀x∈l.foldl jak S,x<2^n
 |[],_,_,h=>h
 |e::l,S,hl,h=>jsm (l:=l) (S:=jak S e) (λe he=>hl e (by simp [he])) (jCP (hl e (by simp)) h)
theorem jrz {n:Nat} {es:List Ed} (bU:∀e∈es,okE n e):∀(k:Nat),∀x∈jrd es k (List.replicate n 0),x<2^n
 |0=>λx hx=>by simp [jrd] at hx;have:=Nat.two_pow_pos n;omega
 |k+1=>jsm bU (jrz bU k)
theorem jsl {S:List Nat} {n:Nat} (h:∀x∈S,x<2^n) (hn:n<=12) (k:Nat):S.getD k 0<4096:=by
 have h2:2^n<=2^12:=Nat.pow_le_pow_right (by omega) hn
 rw [aPU];cases hk:S[k]? with
 |none=>simp
 |some v=>have:=h v (aNQ hk);simp;omega
def jjk:C:=iS [iA 1 (.box 49 5 (.t 0)),iA 2 (.mov (.c (.slice none 0 0)))] (iS [aF 6 3 1,aL 7 6,iA 8 (.mks 3 1 8 [D.val (.int .i64 0)] (.t 7) (.t 7)),aM 3 8] (.seq (iS [aF 9 3 1,aL 10 9,aN 11 0] (.blk 0 (.loop (iS [aP 12 .lss 3 11 10] (.seq (iD 12 .skip (.exit 0)) (.seq (.blk 1 (iS [aF 13 4 1,aL 14 13,aG 15 14,aN 16 0] (.blk 2 (.loop (iS [aP 17 .lss 3 16 15] (.seq (iD 17 .skip (.exit 2)) (.seq (.blk 3 (iS [aI 18 2 14 16,aT 19 2 18,iA 5 wAP,wAH 5 19] (.dreg (tA 0 20 (iM 3) (tA 1 21 (iF 0 5) (tA 2 22 (iL 21) (tA 3 23 (iI 1 20 22) (tA 4 24 (iL 23) (tA 5 25 (iF 1 5) (tA 6 26 (iL 25) (tA 7 27 (.bin .shl 3 (oI 1) (.t 26)) (tA 8 28 (iM 3) (tA 9 29 (iF 1 5) (tA 10 30 (iL 29) (tA 11 31 (iI 1 28 30) (tA 12 32 (iL 31) (tA 13 33 (iP .or 3 27 32) (tA 14 34 (iP .or 3 24 33) (tA 15 35 (iI 1 20 22) (.alt (wAD 35 34) [] .done .stop)))))))))))))))))))) (.reg [aQ 36 .add 3 16 1,aM 16 36])))))))) (.reg [aQ 37 .add 3 11 1,aM 11 37]))))))) (iS [aM 38 3,aM 2 38] .ret)))
theorem jlD:fnC Tryz.prog Tryz.f162=some (jjk,[.t 2],39):=by kernel_rfl
def jcT:C:=iS [iA 1 (.box 49 5 (.t 0)),aN 2 0] (.seq (iS [aF 9 3 1,aL 10 9,iA 11 (.call 62 [.t 10,oI 1,oI 12]),aU 12 11,aM 13 12,iB 14 13 false (iF 4 1),iB 15 13 false (iL 14),iB 16 13 false (iG 15),iB 17 13 false (iQ .gtr 3 16 30),iA 18 (iY 13 (oT) (.t 17)),aM 19 18,iB 20 19 false (iF 0 1),iB 21 19 false (iL 20),iB 22 19 false (.call 62 [.t 21,oI 0,oI 9]),iB 23 19 false (iU 22),iA 24 (iY 19 (oT) (.t 23)),aM 25 24,iB 26 25 false (iF 1 1),iB 27 25 false (iL 26),iB 28 25 false (.call 62 [.t 27,oI 1,oI 5]),iB 29 25 false (iU 28),iA 30 (iY 25 (oT) (.t 29)),aM 31 30,iB 32 31 false (iF 2 1),iB 33 31 false (iL 32),iB 34 31 false (.call 62 [.t 33,oI 1,oI 20]),iB 35 31 false (iU 34),iA 36 (iY 31 (oT) (.t 35))] (iD 36 (iS [aN 2 1] .ret) .skip)) (.seq (iS [aF 37 4 1,aL 38 37,aG 39 38,aN 40 0] (.blk 0 (.loop (iS [aP 41 .lss 3 40 39] (.seq (iD 41 .skip (.exit 0)) (.seq (.blk 1 (iS [aI 42 2 38 40,aT 43 2 42,iA 4 wAP,wAH 4 43] (iS [aF 44 0 4,aL 45 44,aF 46 3 1,aL 47 46,aQ 48 .sub 3 47 1,iA 49 (.call 62 [.t 45,oI 0,.t 48]),aU 50 49,aM 51 50,iB 52 51 false (iF 1 4),iB 53 51 false (iL 52),iB 54 51 false (iF 3 1),iB 55 51 false (iL 54),iB 56 51 false (iQ .sub 3 55 1),iB 57 51 false (.call 62 [.t 53,oI 0,.t 56]),iB 58 51 false (iU 57),iA 59 (iY 51 (oT) (.t 58))] (iD 59 (iS [aN 2 2] .ret) .skip)))) (.reg [aQ 60 .add 3 40 1,aM 40 60]))))))) (.seq (iS [aF 61 4 1,aL 62 61,aG 63 62,aN 64 0] (.blk 2 (.loop (iS [aP 65 .lss 3 64 63] (.seq (iD 65 .skip (.exit 2)) (.seq (.blk 3 (iS [aM 66 64,aI 67 2 62 64,aT 68 2 67,iA 6 wAP,aM 5 66,wAH 6 68] (.seq (.dreg (tA 0 69 (iF 4 1) (tA 1 70 (iL 69) (tA 2 71 (iM 5) (tA 3 72 (.sl 2 (.t 70) none (some (.t 71))) (tA 4 73 (iT 2 6) (tC 74 (iK 161 [72,73]) [] .done .stop))))))) (iD 74 (iS [aN 2 3] .ret) .skip)))) (.reg [aQ 75 .add 3 64 1,aM 64 75]))))))) (.seq (iS [aT 76 5 1,iA 77 (iK 162 [76]),aG 78 77,aN 79 0] (.blk 4 (.loop (iS [aP 80 .lss 3 79 78] (.seq (iD 80 .skip (.exit 4)) (.seq (.blk 5 (iS [aM 81 79,aI 82 1 77 79,aL 83 82,aM 7 81,aM 8 83] (iS [aM 84 8,aM 85 7,aP 86 .shr 3 84 85,aQ 87 .and 3 86 1,aQ 88 .eql 3 87 1] (iD 88 (iS [aN 2 4] .ret) .skip)))) (.reg [aQ 89 .add 3 79 1,aM 79 89]))))))) (iS [aN 2 0] .ret)))))
theorem jf1:fnC Tryz.prog Tryz.f109=some (jcT,[.t 2],90):=by kernel_rfl
theorem jpW (p:Pl) (n:Nat) (hn:p.aNA=n) (cF:n<=12) (dH:p.aNF.length<=30) (bU:∀e∈p.aNF,okE n e):jW Tryz.prog 162 [.agg (jd p)] (.c (jb (zL (jeM p.aNF n)))):=by
 refine pf_ jlD ?_;unfold jjk;have bE:jb (List.replicate n 0)=jb (zL (jrd p.aNF 0 (List.replicate n 0))):=by simp [jrd,zL]
 simp only [go_sem,jd,hn];intro b;rw [jrv];refine ⟨.i64,.i64,n,by simp only [go_sem],by simp only [go_sem],by omega,by unfold maxLen;omega,λη=>?_⟩
 simp only [go_sem,jDI,bE];refine qY (λi:Nat×jf=>St.of [(1,Bx 100 b),(3,Hd 3 i.2),(10,Ni n),(11,Ni i.1)] [(100,Bi b _ (jd p)),(3,.loose (jb (zL (jrd p.aNF i.1 (List.replicate n 0)))) i.2)]) (λi=>i.1<=n) (λi=>n-i.1) (0,η) (jt [100,800] (by simp only [go_sem,jd,hn]<;>trivial)) ?_
 rintro ⟨k,eH⟩ hk;dsimp only at hk;by_cases aB:k<n
 ·have aA:(k:Int)<n:=by omega
  have hw:=kx k;have lX:=js9 (es:=p.aNF) k (List.replicate n 0);have hSb:=jrz bU k;rw [aQU] at lX;have fY:jrd p.aNF (k+1) (List.replicate n 0)=p.aNF.foldl jak (jrd p.aNF k (List.replicate n 0)):=rfl;dsimp only;generalize jrd p.aNF k (List.replicate n 0)=S at*;simp only [go_sem,jd,aA,hn];refine qY (λi:Nat×jf=>St.of [(1,Bx 100 b),(3,Hd 3 i.2),(10,Ni n),(11,Ni k),(14,Ro (js p.aNF)),(15,Ni p.aNF.length),(16,Ni i.1)] [(100,Bi b _ (jd p)),(3,.loose (jb (zL ((p.aNF.take i.1).foldl jak S))) i.2)]) (λi=>i.1<=p.aNF.length) (λi=>p.aNF.length-i.1) (0,eH) (jt [100,3] (by simp only [go_sem,jd,hn,aOW,List.foldl_nil]<;>trivial)) ?_
  rintro ⟨j,aS⟩ hj;dsimp only at hj;by_cases dU:j<p.aNF.length
  ·have bB:(j:Int)<p.aNF.length:=by omega
   obtain ⟨e,he⟩:=ja dU;have hm:e∈p.aNF:=aNQ he;obtain ⟨⟨e1,e2⟩,e3,e4⟩:=bU e hm;have dF:=kx j;have hTl:=joF (p.aNF.take j) S;have hTb:=jsm (n:=n) (l:=p.aNF.take j) (S:=S) (λe he=>bU e (aQM he)) hSb
   have dV:=jAg he S;dsimp only;generalize (p.aNF.take j).foldl jak S=U at*;have fJ:e.src.toNat<U.length:=by omega
   have fN:e.dst.toNat<U.length:=by omega
   have mO:=jv4 fJ;have n5:=jv4 fN;have nS:e.src.toNat<(zL U).length:=by rw [jiZ];exact fJ
   have hzd:e.dst.toNat<(zL U).length:=by rw [jiZ];exact fN
   have hu1:=jsl hTb cF e.src.toNat;have wW:=jsl hTb cF e.dst.toNat;have hp:2^e.dst.toNat<4096:=(show 2^e.dst.toNat<2^12 from Nat.pow_lt_pow_right (by omega) (by omega))
   have ho:2^e.dst.toNat|||U.getD e.dst.toNat 0<4096:=Nat.or_lt_two_pow (n:=12) hp wW
   have aH:(zL U).set e.src.toNat ((U.getD e.src.toNat 0|||(2^e.dst.toNat|||U.getD e.dst.toNat 0):Nat):Int)=zL (jak U e):=jEM _ _ _
   simp only [go_sem,jd,hn,dU,bB,jD he,jK,e1,e3,fJ,fN,jiZ];intro b2;simp only [go_sem,e1,fJ,jiZ,jq mO,jp nS,jq n5,jp hzd,jwT e3 (by omega),jp3 hp wW,jp3 hu1 ho,jce _ nS,aH,dF]
   exact qf (j+1,aS) (jt [100,3] (by simp only [go_sem,dV]<;>trivial))
  ·have bB:¬(j:Int)<p.aNF.length:=by omega
   rw [aNU (by omega)]
   simp only [go_sem,jd,hn,bB,hw];exact qf (k+1,aS) (jt [100,3] (by simp only [go_sem,fY]<;>trivial))
 ·have aA:¬(k:Int)<n:=by omega
  obtain rfl:k=n:=by omega
  simp only [go_sem,jd,hn,aA,jeM]
theorem qq (p:Pl) (gD:p.aNF.length<=4000000):jW Tryz.prog 109 [.agg (jd p)] (.c (.val (.int .i64 (jo p)))):=by
 refine pf_ jf1 ?_;unfold jcT;simp only [go_sem,jd];intro b;refine jm (jw p.aNA 1 12) λη=>?_
 simp only [go_sem];cases h1:decide (1<=p.aNA/\p.aNA<=12)
 ·simp only [go_sem,jh7 (show vW p=true by simp [vW,inB,h1])]
 by_cases h2:30<p.aNF.length
 ·have bI:(p.aNF.length:Int)>30:=by omega
  simp only [go_sem,bI,jh7 (show vW p=true by simp [vW,inB,h1,h2])]
 have bI:¬(p.aNF.length:Int)>30:=by omega
 simp only [go_sem,bI];refine jm (jw p.aNI 0 9) λη=>?_
 simp only [go_sem];cases h3:decide (0<=p.aNI/\p.aNI<=9)
 ·simp only [go_sem,jh7 (show vW p=true by simp [vW,inB,h3])]
 simp only [go_sem];refine jm (jw p.aNN 1 5) λη=>?_
 simp only [go_sem];cases h4:decide (1<=p.aNN/\p.aNN<=5)
 ·simp only [go_sem,jh7 (show vW p=true by simp [vW,inB,h4])]
 simp only [go_sem];refine jm (jw p.aNM 1 20) λη=>?_
 simp only [go_sem];cases h5:decide (1<=p.aNM/\p.aNM<=20)
 ·simp only [go_sem,jh7 (show vW p=true by simp [vW,inB,h5])]
 have hm:vW p=false:=by simp [vW,inB,h1,h2,h3,h4,h5]
 obtain ⟨n,hn,d9,nB,hel,-⟩:=jxQ hm;have e9:IntKind.i64.wrap ((n:Int)-1)=n-1:=vF;simp only [go_sem,hn];refine qY (λi:Nat=>St.of [(1,Bx 100 b),(38,Ro (js p.aNF)),(39,Ni p.aNF.length),(40,Ni i)] [(100,Bi b _ (jd p))]) (λi=>i<=p.aNF.length/\(p.aNF.take i).any (jku n)=false) (λi=>p.aNF.length-i) 0 (jt [100] (by simp only [go_sem,jd,hn]<;>trivial)) ?_
 rintro k ⟨hk,cT⟩;by_cases aB:k<p.aNF.length
 ·have aA:(k:Int)<p.aNF.length:=by omega
  obtain ⟨e,he⟩:=ja aB;have hw:=kx k;simp only [go_sem,jd,hn,aB,aA,jD he,jK,e9];intro b2;refine jm (jw e.src 0 (n-1)) λη=>?_
  simp only [go_sem];cases h1:decide (0<=e.src/\e.src<=n-1)
  ·have gH:jku p.aNA e=true:=by simp [jku,inB,hn,h1]
   simp only [go_sem,jn0 hm (aNQ he) gH]
  ·simp only [go_sem,e9]
   refine jm (jw e.dst 0 (n-1)) λη=>?_
   simp only [go_sem];cases h2:decide (0<=e.dst/\e.dst<=n-1)
   ·have gH:jku p.aNA e=true:=by simp [jku,inB,hn,h2]
    simp only [go_sem,jn0 hm (aNQ he) gH]
   ·have gH:jku n e=false:=by simp [jku,inB,h1,h2]
    simp only [go_sem,hw];exact ⟨k+1,⟨aB,juh he gH cT⟩,(jt [100]),by (try dsimp only);omega⟩
 have aA:¬(k:Int)<p.aNF.length:=by omega
 rw [aNU (by omega),<-hn] at cT
 have bU:=jxG cT;have oZ:∀e∈p.aNF,okE n e:=λe he=>by have:=bU e he;rwa [hn,aNW] at this
 simp only [go_sem,jd,aA,hn];refine qY (λi:Nat=>St.of [(1,Bx 100 b),(62,Ro (js p.aNF)),(63,Ni p.aNF.length),(64,Ni i)] [(100,Bi b _ (jd p))]) (λi=>i<=p.aNF.length/\(p.aNF.take i).Nodup) (λi=>p.aNF.length-i) 0 (jt [100] (by simp only [go_sem,jd,hn]<;>trivial)) ?_
 rintro j ⟨hj,eE⟩;by_cases bN:j<p.aNF.length
 ·have a9:(j:Int)<p.aNF.length:=by omega
  obtain ⟨e,he⟩:=ja bN;have hw:=kx j;have aCW:j<=p.aNF.length:=by omega
  simp only [go_sem,jd,bN,a9,aCW,jD he,jK,hn];intro b2;refine jm (jp1 (p.aNF.take j) e (by rw [aNV];omega)) λη=>?_
  simp only [go_sem];by_cases bW:e∈p.aNF.take j
  ·have hd:¬p.aNF.Nodup:=by
    obtain ⟨m,dI,eB⟩:=aOZ bW;rw [aNV] at dI;rw [List.getElem_take] at eB;exact jtV he (show m<j by omega) (by rw [aNS (by omega),eB])
   simp only [go_sem,bW,jB3 hm cT hd]
  ·simp only [go_sem,bW,hw]
   exact ⟨j+1,⟨bN,jm0 he eE bW⟩,(jt [100]),by (try dsimp only);omega⟩
 have a9:¬(j:Int)<p.aNF.length:=by omega
 rw [aNU (by omega)] at eE
 simp only [go_sem,jd,a9,hn];refine jG (jpW p n hn nB hel oZ) (by simp only [go_sem,jd,hn]) λη=>?_
 simp only [go_sem];have y4:=jwd (es:=p.aNF) (n:=n);have hwb:=jwe (n:=n) oZ;have wU:∀k:Nat,(jeM p.aNF n).getD k 0<4096:=jsl (jrz oZ n) nB;simp only [go_sem,jiZ,y4];refine qY (λi:Nat=>St.of [(77,Hd 7700 (η 0)),(78,Ni n),(79,Ni i)] [(7700,.loose (jb (zL (jeM p.aNF n))) (η 0))]) (λi=>i<=n/\∀t:Nat,t<i->¬Rc p.aNF t t) (λi=>n-i) 0 (jt [7700]) ?_
 rintro t ⟨ht,wX⟩;by_cases dB:t<n
 ·have eI:(t:Int)<n:=by omega
  have hw:=kx t;have htw:t<(jeM p.aNF n).length:=by rw [y4];exact dB
  have hg:=jv4 htw;have hzt:t<(zL (jeM p.aNF n)).length:=by rw [jiZ];exact htw
  have hbt:=jy8 (wU t) (show t<12 by omega)
  have fF:=qX t;cases hr:((jeM p.aNF n).getD t 0).testBit t
  ·rw [hr] at hbt
   simp only [go_sem,dB,eI,jiZ,y4,jq hg,jp hzt,hbt,hw];exact ⟨t+1,⟨dB,λs hs h'=>by rcases Nat.lt_or_ge s t with h2|h2;exact wX s h2 h';obtain rfl:s=t:=(by omega);rw [(hwb s s).2 h'] at hr;cases hr⟩,(jt [7700]),by (try dsimp only);omega⟩
  ·rw [hr] at hbt
   simp only [go_sem,dB,eI,jiZ,y4,jq hg,jp hzt,hbt,jB4 hm cT eE (by rw [hn];exact eI) ((hwb t t).1 hr)]
 ·have eI:¬(t:Int)<n:=by omega
  simp only [go_sem,eI,jDA hm cT eE (λs hs=>wX s (by omega))]
def jcU:C:=iS [aO 2 false] (iS [aM 3 0,aM 4 0,aP 5 .neq 3 3 4,aM 2 5] .ret)
theorem jf2:fnC Tryz.prog Tryz.f222=some (jcU,[.t 2],6):=by kernel_rfl
def jd9:C:=iS [aO 4 false] (iS [aM 5 0,iA 6 (iK 222 [5]),aM 7 6,iB 8 7 true (iM 1),iB 9 7 true (iK 222 [8]),iB 10 7 true (iU 9),iA 11 (iY 7 (.t 10) (oF)),aM 12 11,iB 13 12 false (iM 0),iB 14 12 false (iM 1),iB 15 12 false (iP .lss 3 13 14),iA 16 (iY 12 (oT) (.t 15)),aM 4 16] .ret)
theorem jhd:fnC Tryz.prog Tryz.f211=some (jd9,[.t 4],17):=by kernel_rfl
def qp:C:=iS [aM 8 1,aQ 9 .add 3 8 1,aM 6 9] (.blk 0 (.loop (.seq (iS [aM 10 6,aM 11 2,aP 12 .lss 3 10 11] (iD 12 .skip (.exit 0))) (.seq (.blk 1 (iS [aM 15 6,aM 7 15] (.blk 2 (.loop (.seq (.seq (.dreg (tA 0 16 (iM 7) (tA 1 17 (iM 1) (tA 2 18 (iP .gtr 3 16 17) (tA 3 19 (iM 18) (tB 4 20 19 true (iM 0) (tB 5 21 19 true (iM 7) (tB 6 22 19 true (iI 1 20 21) (tB 7 23 19 true (iL 22) (tB 8 24 19 true (iM 0) (tB 9 25 19 true (iM 7) (tB 10 26 19 true (iQ .sub 3 25 1) (tB 11 27 19 true (iI 1 24 26) (tB 12 28 19 true (iL 27) (.alt (iB 29 19 true (iK 211 [23,28])) [] (tA 14 30 (iY 19 (.t 29) (oF)) .done) .stop))))))))))))))) (iD 30 .skip (.exit 2))) (.seq (.blk 3 (.dreg (tA 0 33 (iM 0) (tA 1 34 (iM 7) (tA 2 35 (iM 0) (tA 3 36 (iM 7) (tA 4 37 (iQ .sub 3 36 1) (tA 5 38 (iM 0) (tA 6 39 (iM 7) (tA 7 40 (iQ .sub 3 39 1) (tA 8 41 (iI 1 38 40) (tA 9 42 (iL 41) (tA 10 43 (iM 0) (tA 11 44 (iM 7) (tA 12 45 (iI 1 43 44) (tA 13 46 (iL 45) (tA 14 47 (iI 1 33 34) (.alt (wAD 47 42) [4,3,2] (tA 16 48 (iI 1 35 37) (.alt (wAD 48 46) [] .done .stop)) .stop)))))))))))))))))) (.reg [aM 31 7,aQ 32 .sub 3 31 1,aM 7 32]))))))) (.reg [aM 13 6,aQ 14 .add 3 13 1,aM 6 14])))))
theorem vD:fnC Tryz.prog Tryz.f205=some (qp,[],49):=by kernel_rfl
def vl:C:=iS [aO 8 true] (iS [aO 9 true] (.blk 0 (.loop (.blk 1 (iS [aM 19 2,aM 20 1,aP 21 .sub 3 19 20,aM 10 21] (.seq (iS [aM 22 10,aQ 23 .leq 3 22 12] (iD 23 (iS [aM 24 0,aM 25 1,aM 26 2,iA 27 (iK 205 [24,25,26])] .ret) .skip)) (.seq (iS [aM 28 3,aQ 29 .eql 3 28 0] (iD 29 (iS [aM 30 0,aM 31 1,aM 32 2,iA 33 (iK 206 [30,31,32])] .ret) .skip)) (.seq (iS [aM 34 8,aU 35 34] (iD 35 (iS [aM 36 0,aM 37 1,aM 38 2,iA 39 (iK 207 [36,37,38])] (.reg [aM 40 3,aQ 41 .sub 3 40 1,aM 3 41])) .skip)) (iS [aM 43 0,aM 44 1,aM 45 2,iA 46 (iK 208 [43,44,45]),aM 42 46,aE 47 42 0,aE 48 42 1,aM 11 47,aM 12 48] (.seq (iS [aM 49 12,aQ 50 .eql 188 49 2] (iD 50 (iS [aM 51 0,aM 52 1,aM 53 2,iA 54 (iK 209 [51,52,53])] (iS [aM 55 2,aQ 56 .sub 3 55 1,aM 57 11,aM 58 1,aP 59 .sub 3 57 58,aP 60 .sub 3 56 59,aM 11 60] (.reg [aN 12 1]))) .skip)) (.seq (iS [aM 61 8,aM 62 61,iB 63 62 true (iM 9),iA 64 (iY 62 (.t 63) (oF)),aM 65 64,iB 66 65 true (iM 12),iB 67 65 true (iQ .eql 188 66 1),iA 68 (iY 65 (.t 67) (oF))] (iD 68 (iS [aM 69 0,aM 70 1,aM 71 2,iA 72 (iK 210 [69,70,71])] (iD 72 .ret .skip)) .skip)) (.seq (.seq (.dreg (tA 0 73 (iM 1) (tA 1 74 (iQ .gtr 3 73 0) (tA 2 75 (iM 74) (tB 3 76 75 true (iM 0) (tB 4 77 75 true (iM 1) (tB 5 78 75 true (iQ .sub 3 77 1) (tB 6 79 75 true (iI 1 76 78) (tB 7 80 75 true (iL 79) (tB 8 81 75 true (iM 0) (tB 9 82 75 true (iM 11) (tB 10 83 75 true (iI 1 81 82) (tB 11 84 75 true (iL 83) (.alt (iB 85 75 true (iK 211 [80,84])) [] (tB 13 86 75 true (iU 85) (tA 14 87 (iY 75 (.t 86) (oF)) .done)) .stop)))))))))))))) (iD 87 (iS [aM 88 0,aM 89 1,aM 90 2,aM 91 11,iA 92 (iK 212 [88,89,90,91]),aM 13 92] (iS [aM 93 13,aM 1 93] (.exit 1))) .skip)) (iS [aM 95 0,aM 96 1,aM 97 2,aM 98 11,iA 99 (iK 213 [95,96,97,98]),aM 94 99,aE 100 94 0,aE 101 94 1,aM 14 100,aM 15 101] (iS [aM 102 15,aM 9 102] (iS [aM 103 14,aM 104 1,aP 105 .sub 3 103 104,aM 106 2,aM 107 14,aP 108 .sub 3 106 107,aM 16 105,aM 17 108] (iS [aM 109 10,aQ 110 .quo 3 109 8,aM 18 110] (iS [aM 111 16,aM 112 17,aP 113 .lss 3 111 112] (iD 113 (iS [aM 114 16,aM 115 18,aP 116 .geq 3 114 115,aM 8 116] (iS [aM 117 0,aM 118 1,aM 119 14,aM 120 3,iA 121 (iK 202 [117,118,119,120])] (.reg [aM 122 14,aQ 123 .add 3 122 1,aM 1 123]))) (iS [aM 124 17,aM 125 18,aP 126 .geq 3 124 125,aM 8 126] (iS [aM 127 0,aM 128 14,aQ 129 .add 3 128 1,aM 130 2,aM 131 3,iA 132 (iK 202 [127,129,130,131])] (.reg [aM 133 14,aM 2 133])))))))))))))))))))))
theorem zQ:fnC Tryz.prog Tryz.f202=some (vl,[],134):=by kernel_rfl
def zF:C:=iS [aM 3 0,aG 4 3,aM 2 4] (.reg [aM 5 0,aM 6 2,aM 7 2,iA 8 (.cv (.num .u64) 0 (.t 7)),iA 9 (iK 203 [8]),iA 10 (.call 202 [.t 5,oI 0,.t 6,.t 9])])
theorem jbt:fnC Tryz.prog Tryz.f194=some (zF,[],11):=by kernel_rfl
def jdP:C:=iS [aN 2 0] (.seq (.cond (oF) (iS [aM 3 0,iA 4 (.cv (.num .u32) 0 (.t 3)),iA 5 (iK 214 [4]),aM 2 5] .ret) .skip) (iS [aM 6 0,iA 7 (iK 215 [6]),aM 2 7] .ret))
theorem jgV:fnC Tryz.prog Tryz.f203=some (jdP,[.t 2],8):=by kernel_rfl
def jGo:ByteArray:=⟨(([0,1]:List UInt8)++List.replicate 2 2++List.replicate 4 3++List.replicate 8 4++List.replicate 16 5++List.replicate 32 6++List.replicate 64 7++List.replicate 128 8).toArray⟩
def jb1:C:=iS [aN 2 0] (.seq (iS [aM 3 0,iA 4 (.bin .geq 198 (.t 3) (.c (.int .u64 4294967296)))] (iD 4 (iS [aM 5 0,iA 6 (.bin .shr 198 (.t 5) (.c (.int .u64 32))),aM 0 6] (.reg [aN 2 32])) .skip)) (.seq (iS [aM 7 0,iA 8 (.bin .geq 198 (.t 7) (.c (.int .u64 65536)))] (iD 8 (iS [aM 9 0,iA 10 (.bin .shr 198 (.t 9) (.c (.int .u64 16))),aM 0 10] (.reg [aM 11 2,aQ 12 .add 3 11 16,aM 2 12])) .skip)) (.seq (iS [aM 13 0,iA 14 (.bin .geq 198 (.t 13) (.c (.int .u64 256)))] (iD 14 (iS [aM 15 0,iA 16 (.bin .shr 198 (.t 15) (.c (.int .u64 8))),aM 0 16] (.reg [aM 17 2,aQ 18 .add 3 17 8,aM 2 18])) .skip)) (iS [aM 19 2,aM 20 0,iA 21 (.cv (.num .u8) 0 (.t 20)),iA 22 (.sidx (.c (.string jGo)) (.t 21)),iA 23 (.cv (.num .i64) 0 (.t 22)),aP 24 .add 3 19 23,aM 2 24] .ret))))
theorem jeG:fnC Tryz.prog Tryz.f215=some (jb1,[.t 2],25):=by kernel_rfl
theorem jDB (a:Int):jW Tryz.prog 222 [.c (.val (.int .i64 a))] (.c (.val (.bool false))):=by
 refine pf_ jf2 ?_;unfold jcU;simp only [go_sem,aQP]
theorem jF7 (a b:Int):jW Tryz.prog 211 [.c (.val (.int .i64 a)),.c (.val (.int .i64 b))] (.c (.val (.bool (decide (a<b))))):=by
 refine pf_ jhd ?_;unfold jd9;simp only [go_sem];refine jm (jDB a) λη=>?_
 simp only [go_sem]
def up1 (o:Nat->Ob) (g:Nat) (ob:Ob):Nat->Ob:=λk=>if k=g then ob else o k
theorem jsN (o:Nat->Ob) (g:Nat) (ob:Ob):up1 o g ob g=ob:=by simp [up1]
theorem jCI (o:Nat->Ob) (g:Nat) (a b:Ob):(λk=>if k=g then b else up1 o g a k)=up1 o g b:=by funext k;simp only [up1];split<;>rfl
theorem jEU {o:Nat->Ob} {g:Nat} {ob:Ob} (h:o g=ob):o=up1 o g ob:=by
 funext k
 simp only [up1];split
 ·rename_i e;rw [e,h]
 ·rfl
theorem jz7 (s:St) (g:Nat) (ob:Ob):(s.setO g ob).o=up1 s.o g ob:=rfl
theorem up1_2 (o:Nat->Ob) (g:Nat) (a b:Ob):up1 (up1 o g a) g b=up1 o g b:=jCI o g a b
theorem jFV (s:St) (d:Option Nat) (v:AV):(s.put d v).o=s.o:=by cases d<;>rfl
theorem jvr (A:List Int) (hA:A.length<=12) (o:Nat->Ob) (g:Nat) (η:jf) (ho:o g=.loose (jb A) η):Inl Tryz.prog 205 [Hd g η,Ni 0,Ni A.length] o (λav o'=>av=.tup []/\∃(l:List Int) (i:Nat),o'=up1 o g (.loose (jb l) η)/\SO A l i/\A.length<=i):=by
 refine qo (β:=0) Tryz.func205 vD (by simp) ?_
 unfold qp;simp only [go_sem];refine qT (λs=>∃(l:List Int) (i:Nat),1<=i/\(i<=A.length\/i=1)/\SO A l i/\s.t 0=Hd g η/\s.t 1=Ni 0/\s.t 2=Ni A.length/\s.t 6=Ni i/\s.o=up1 o g (.loose (jb l) η)) (λs=>A.length-s.n 6) ?_ ?_
 ·exact ⟨A,1,by omega,.inr rfl,SO_1 A,by simp only [go_sem]<;>rfl,by simp only [go_sem]<;>rfl,by simp only [go_sem]<;>rfl,by simp only [go_sem]<;>rfl,jEU ho⟩
 ·rintro s ⟨l,i,hi,hi2,y9,h0,h1,h2,h6,bS⟩
  have hm:s.n 6=i:=jbr h6;rw [hm];by_cases aB:i<A.length
  ·have aA:(i:Int)<A.length:=by omega
   have hw:=kx i;have eQ:=y9.1.length_eq;simp only [go_sem,h2,h6,aA];refine qT (λs=>∃(l:List Int) (j:Nat),SI A l i j/\s.t 0=Hd g η/\s.t 1=Ni 0/\s.t 2=Ni A.length/\s.t 6=Ni i/\s.t 7=Ni j/\s.o=up1 o g (.loose (jb l) η)) (λs=>s.n 7) ?_ ?_
   ·exact ⟨l,i,SI_0 y9,by simp only [go_sem,h0]<;>rfl,by simp only [go_sem,h1]<;>rfl,by simp only [go_sem,h2]<;>rfl,by simp only [go_sem,h6]<;>rfl,by simp only [go_sem]<;>rfl,bS⟩
   ·clear h0 h1 h2 h6 bS y9 eQ hm
    rintro s ⟨l,j,xB,h0,h1,h2,h6,h7,bS⟩;have eQ:=xB.1.length_eq;have rO:=xB.2.1;have hm:s.n 7=j:=jbr h7;rw [hm];cases j with
    |zero=>
     simp only [go_sem,h0,h1,h2,h6,h7,hw];refine ⟨⟨l,i+1,by omega,.inl (by omega),jCx xB (.inl rfl),rfl,?_⟩,?_⟩
     ·exact bS
     ·rw [jbr (k:=.i64) (n:=((i+1:Nat):Int)) (by simp only [go_sem])];omega
    |succ j=>
     have hj0:((j+1:Nat):Int)>0:=by omega
     have bV:IntKind.i64.wrap (((j+1:Nat):Int)-1)=(j:Int):=by rw [kS (by omega) (by omega)];omega
     have rR:l[j+1]?=some (l.getD (j+1) 0):=by rw [aPU,aNS (by omega)];rfl
     have nH:l[j]?=some (l.getD j 0):=by rw [aPU,aNS (by omega)];rfl
     have rP:j+1<l.length:=by omega
     have nF:j<l.length:=by omega
     simp only [go_sem,h0,h1,h7,bS,hj0,bV,jq rR,jq nH,jsN,rP,nF,jp rP,jp nF];refine jm (jF7 (l.getD (j+1) 0) (l.getD j 0)) λη=>?_
     simp only [go_sem];by_cases hc:l.getD (j+1) 0<l.getD j 0
     ·have cZ:j<(l.set (j+1) (l.getD j 0)).length:=by rw [aOE];exact nF
      have aH:(l.set (j+1) (l.getD j 0)).set j (l.getD (j+1) 0)=swp l j:=rfl;simp only [go_sem,h0,h1,h2,h6,h7,bS,bV,hc,jq rR,jq nH,jsN,rP,nF,jp rP,jp nF,jce _ rP,jce _ cZ,jp cZ,cZ,aH];refine ⟨⟨swp l j,j,jHk xB (by omega) hc,?_⟩,?_⟩
      ·refine ⟨rfl,?_⟩
       simp only [jFV,jz7,bS,up1_2]
      ·rw [jbr (k:=.i64) (n:=((j:Nat):Int)) (by simp only [go_sem])];omega
     ·simp only [go_sem,h0,h1,h2,h6,hw,hc]
      refine ⟨⟨l,i+1,by omega,.inl (by omega),jCx xB (.inr ⟨j,rfl,by omega⟩),rfl,?_⟩,?_⟩
      ·exact bS
      ·rw [jbr (k:=.i64) (n:=((i+1:Nat):Int)) (by simp only [go_sem])];omega
  ·have aA:¬(i:Int)<A.length:=by omega
   simp only [go_sem,h2,h6,aA];exact ⟨l,i,bS,y9,by omega⟩
theorem jkq {P:Program} {f:FuncId} {args:List AV} {o:Nat->Ob} {R R':AV->(Nat->Ob)->Prop} (h:Inl P f args o R) (hR:∀av o',R av o'->R' av o'):Inl P f args o R':=
 ⟨h.1,λB w F xs h1 h2=>(h.2 B w F xs h1 h2).mono λe w' ⟨v,av,o',F',k1,k2,k3,k4⟩=>⟨v,av,o',F',k1,k2,k3,hR _ _ k4⟩⟩
theorem wp_cf {P:Program} {β:Nat} {s:St} {Q:Ex->St->Prop} {a b:C}:wpC P β (.cond (.c (.bool false)) a b) Q s=wpC P β b Q s:=by
 apply propext
 constructor
 ·rintro ⟨t,h1,h2,h3⟩
  have:t=false:=by cases t<;>first|rfl|cases h1
  exact h3 this
 ·exact λh=>⟨false,rfl,λh'=>(by cases h'),λ_=>h⟩
def lenB (n:Nat):Int:=[0,1,2,2,3,3,3,3,4,4,4,4,4].getD n 0
theorem jrW (n:Nat) (hn:n<=12):jW Tryz.prog 215 [.c (.val (.int .u64 n))] (.c (.val (.int .i64 (lenB n)))):=by
 refine pf_ jeG ?_;have:n=0\/n=1\/n=2\/n=3\/n=4\/n=5\/n=6\/n=7\/n=8\/n=9\/n=10\/n=11\/n=12:=by omega
 unfold jb1;rcases this with rfl|rfl|rfl|rfl|rfl|rfl|rfl|rfl|rfl|rfl|rfl|rfl|rfl
 all_goals
  simp only [go_sem];exact ⟨_,rfl,rfl⟩
theorem jxy (n:Nat) (hn:n<=12):jW Tryz.prog 203 [.c (.val (.int .u64 n))] (.c (.val (.int .i64 (lenB n)))):=by
 refine pf_ jgV ?_;unfold jdP;simp only [go_sem,wp_cf];refine jm (jrW n hn) λη=>?_
 simp only [go_sem]
theorem jD3 (A:List Int) (hA:A.length<=12) (o:Nat->Ob) (g:Nat) (η:jf) (ho:o g=.loose (jb A) η) (v:Int):Inl Tryz.prog 202 [Hd g η,Ni 0,Ni A.length,Ni v] o (λav o'=>av=.tup []/\∃(l:List Int) (i:Nat),o'=up1 o g (.loose (jb l) η)/\SO A l i/\A.length<=i):=by
 refine qo (β:=0) Tryz.func202 zQ (by simp) ?_
 unfold vl;have cF:(A.length:Int)<=12:=by omega
 have hw:IntKind.i64.wrap ((A.length:Int)-0)=(A.length:Int):=by rw [Int.sub_zero];exact kS (by omega) (by omega)
 simp only [go_sem];refine jac 0 ?_;simp only [go_sem,hw,cF];refine kZ (jkq (jvr A hA o g η ho) ?_);rintro av o' ⟨rfl,l,i,rfl,h1,h2⟩;exact ⟨l,i,rfl,h1,h2⟩
theorem jtE (A:List Int) (hA:A.length<=12) (o:Nat->Ob) (g:Nat) (η:jf) (ho:o g=.loose (jb A) η):Inl Tryz.prog 194 [Hd g η] o (λav o'=>av=.tup []/\∃(l:List Int) (i:Nat),o'=up1 o g (.loose (jb l) η)/\SO A l i/\A.length<=i):=by
 refine qo (β:=0) Tryz.func194 jbt (by simp) ?_
 unfold zF;have hw:IntKind.u64.wrap (A.length:Int)=(A.length:Int):=by generalize A.length=n at hA;have:n=0\/n=1\/n=2\/n=3\/n=4\/n=5\/n=6\/n=7\/n=8\/n=9\/n=10\/n=11\/n=12:=(by omega);rcases this with rfl|rfl|rfl|rfl|rfl|rfl|rfl|rfl|rfl|rfl|rfl|rfl|rfl<;>rfl
 simp only [go_sem,ho,hw];refine jm (jxy A.length hA) λaS=>?_
 simp only [go_sem];refine kZ (jkq (jD3 A hA _ g η (by simp only [go_sem,ho]) (lenB A.length)) ?_)
 rintro av o' ⟨rfl,l,i,rfl,h1,h2⟩;exact ⟨l,i,rfl,h1,h2⟩
