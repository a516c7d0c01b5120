/- Parts. -/
import Derived.Test.YtekegiiikglhbaaGreatQData
set_option linter.all false
namespace Go.Proofs.YtekegiiikglhbaaGreat
theorem jbi:∀(n:Nat) (l:List Int),l.Nodup->(∀x∈l,0<=x/\x<n)->l.length<=n
 |0,l,_,h=>by
  cases l with
  |nil=>exact aAV _
  |cons x l=>have:=h x (by simp);omega
 |n+1,l,hd,h=>by
  by_cases hm:(n:Int)∈l
  ·have V:=jbi n (l.erase n) (hd.erase _) (λx hx=>by
    have Y:=(hd.mem_erase_iff).1 hx;have:=h x Y.2;have:=Y.1;omega)
   rw [List.length_erase_of_mem hm] at V;omega
  ·have V:=jbi n l hd (λx hx=>by
    have:=h x hx;have:x≠n:=λe=>hm (e▸hx)
    omega)
   omega
def isE (es:List Ed) (a b:Int):Prop:=∃e∈es,e.src=a/\e.dst=b
inductive Rc (es:List Ed):Int->Int->Prop
 |one {a b:Int}:isE es a b->Rc es a b
 |step {a b c:Int}:Rc es a b->isE es b c->Rc es a c
def Rk (es:List Ed):Nat->Int->Int->Prop
 |0,_,_=>False
 |k+1,a,b=>isE es a b\/∃c,isE es a c/\Rk es k c b
section
variable {es:List Ed}
theorem Rk.mono {a b:Int}:∀{k:Nat},Rk es k a b->Rk es (k+1) a b:=by
 intro k
 induction k generalizing a with
 |zero=>intro h;exact h.elim
 |succ k ih=>
  rintro (h|⟨c,V,Y⟩)
  ·exact .inl h
  ·exact .inr ⟨c,V,ih Y⟩
theorem Rk.le {a b:Int} {k m:Nat} (h:Rk es k a b) (hk:k<=m):Rk es m a b:=by
 induction m with
 |zero=>obtain rfl:k=0:=by omega
        exact h
 |succ m ih=>
  by_cases e:k=m+1
  ·subst e;exact h
  ·exact (ih (by omega)).mono
theorem Rk.snoc {a b c:Int} (he:isE es b c):∀{k:Nat},Rk es k a b->Rk es (k+1) a c:=by
 intro k
 induction k generalizing a with
 |zero=>intro h;exact h.elim
 |succ k ih=>
  rintro (h|⟨d,V,Y⟩)
  ·exact .inr ⟨b,h,.inl he⟩
  ·exact .inr ⟨d,V,ih Y⟩
theorem Rc.rk {a b:Int} (h:Rc es a b):∃k,Rk es k a b:=by
 induction h with
 |one h=>exact ⟨1,.inl h⟩
 |step _ h ih=>obtain ⟨k,hk⟩:=ih;exact ⟨k+1,hk.snoc h⟩
theorem Rc.cons {a b c:Int} (he:isE es a b) (h:Rc es b c):Rc es a c:=by
 induction h with
 |one h=>exact .step (.one he) h
 |step _ h ih=>exact .step ih h
theorem jl1 {α:Type} {p q:α->Bool} {l:List α} (h:∀x∈l,p x=true->q x=true) {x:α} (hx:x∈l) (hq:q x=true) (hp:p x=false):(l.filter p).length<(l.filter q).length:=by
 induction l with
 |nil=>simp at hx
 |cons a l ih=>
  have d2:(l.filter p).length<=(l.filter q).length:=by
   clear ih hx
   induction l with
   |nil=>simp
   |cons b l ih=>
    have:=ih (λx hx=>h x (by simp only [aBB] at hx⊢;rcases hx with rfl|hx<;>simp_all))
    by_cases Z:p b=true
    ·have:=h b (by simp) Z
     simp [aDF,Z,this];omega
    ·by_cases aS:q b=true<;>simp [aDF,Z,aS]<;>omega
  rcases aBB.1 hx with rfl|hx
  ·simp [aDF,hq,hp];omega
  ·have:=ih (λx hx=>h x (by simp [hx])) hx
   by_cases Z:p a=true
   ·have:=h a (by simp) Z
    simp [aDF,Z,this];omega
   ·by_cases aS:q a=true<;>simp [aDF,Z,aS]<;>omega
open Classical in
theorem Rc.enough {n:Nat} (cI:∀e∈es,0<=e.src/\e.src<n) {a b:Int} (h:Rc es a b):Rk es n a b:=by
 let f:Nat->List Nat:=λk=>(List.range n).filter λ(i:Nat)=>decide (Rk es k (i:Int) b)
 have g9:∀{k:Nat} {a:Int},Rk es k a b->∃i:Nat,i<n/\a=i:=by
  intro k a hk
  have:∃c,isE es a c:=by
   cases k with
   |zero=>exact hk.elim
   |succ k=>rcases hk with h|⟨c,h,_⟩<;>exact ⟨_,h⟩
  obtain ⟨c,e,he,rfl,rfl⟩:=this;have:=cI e he;exact ⟨e.src.toNat,by omega,by omega⟩
 have key:∀k,k<=n->(k<=(f k).length)\/∃m,m<k/\∀a,Rk es (m+1) a b->Rk es m a b:=by
  intro k
  induction k with
  |zero=>intro _;exact .inl (aBR _)
  |succ k ih=>
   intro hk;rcases ih (by omega) with V|⟨m,V,Y⟩
   ·by_cases hs:∀a,Rk es (k+1) a b->Rk es k a b
    ·exact .inr ⟨k,by omega,hs⟩
    ·simp only [Classical.not_forall] at hs
     obtain ⟨a,h3,h4⟩:=hs;obtain ⟨i,hi,rfl⟩:=g9 h3;refine .inl (Nat.lt_of_le_of_lt V ?_);exact jl1 (x:=i) (λx _ hx=>by simp at hx⊢;exact hx.mono) (by simpa using hi) (by simpa using h3) (by simpa using h4)
   ·exact .inr ⟨m,by omega,Y⟩
 obtain ⟨k,hk⟩:=h.rk;rcases key n (aAV _) with V|⟨m,V,Y⟩
 ·obtain ⟨i,hi,rfl⟩:=g9 hk
  have bU:∀x∈List.range n,(λ(i:Nat)=>decide (Rk es n (i:Int) b)) x=true:=by
   have d2:=aCU (λ(i:Nat)=>decide (Rk es n (i:Int) b)) (List.range n)
   rw [List.length_range] at d2;refine List.length_filter_eq_length_iff.1 ?_;rw [List.length_range];exact Nat.le_antisymm d2 V
  simpa using bU i (by simpa using hi)
 ·have:∀k a,Rk es k a b->Rk es m a b:=by
   intro k
   induction k with
   |zero=>intro a h;exact h.elim
   |succ k ih=>
    rintro a (h|⟨c,h3,h4⟩)
    ·exact Y a (.inl h)
    ·exact Y a (.inr ⟨c,h3,ih c h4⟩)
  exact (this k a hk).le (by omega)
end
def qA (S:List Nat) (e:Ed):List Nat:=S.set e.src.toNat (S.getD e.src.toNat 0|||(2^e.dst.toNat|||S.getD e.dst.toNat 0))
def rnd (es:List Ed) (S:List Nat):List Nat:=es.foldl qA S
def jhw (es:List Ed):Nat->List Nat->List Nat
 |0,S=>S
 |k+1,S=>rnd es (jhw es k S)
def jan (es:List Ed) (n:Nat):List Nat:=jhw es n (List.replicate n 0)
def okE (n:Nat) (e:Ed):Prop:=(0<=e.src/\e.src<n)/\(0<=e.dst/\e.dst<n)
section
variable {es:List Ed} {n:Nat}
theorem zk (S:List Nat) (e:Ed):(qA S e).length=S.length:=by simp [qA]
theorem jn0 (S:List Nat) (i j v:Nat):(S.set i v).getD j 0=if i=j/\j<S.length then v else S.getD j 0:=by
 simp only [aBF,aDC];by_cases h:i=j
 ·subst h
  by_cases hl:i<S.length
  ·simp [hl]
  ·simp [hl]
 ·simp [h]
theorem jdW {S:List Nat} {e:Ed} (he:okE n e) (hS:S.length=n) (a b:Nat):((qA S e).getD a 0).testBit b=if a=e.src.toNat then ((S.getD a 0).testBit b||(decide (b=e.dst.toNat)||(S.getD e.dst.toNat 0).testBit b)) else (S.getD a 0).testBit b:=by
 obtain ⟨⟨V,Y⟩,h3,h4⟩:=he;unfold qA;rw [jn0];by_cases h:a=e.src.toNat
 ·subst h
  rw [if_pos ⟨rfl,by omega⟩,if_pos rfl]
  simp only [Nat.testBit_or,Nat.testBit_two_pow]
  congr 2
  by_cases e:e.dst.toNat=b<;>simp [e,eq_comm]
  intro h;exact absurd h.symm e
 ·rw [if_neg (λh'=>h h'.1.symm),if_neg h]
def Snd (es:List Ed) (n:Nat) (S:List Nat):Prop:=S.length=n/\∀a b:Nat,(S.getD a 0).testBit b=true->Rc es a b
def Cpl (es:List Ed) (k:Nat) (S:List Nat):Prop:=∀a b:Nat,Rk es k a b->(S.getD a 0).testBit b=true
theorem jm4 {S:List Nat} {e:Ed} (he:okE n e) (hm:e∈es) (h:Snd es n S):Snd es n (qA S e):=by
 refine ⟨by rw [zk];exact h.1,λa b Z=>?_⟩
 rw [jdW he h.1] at Z;obtain ⟨⟨V,Y⟩,h3,h4⟩:=he;split at Z
 ·rename_i ha
  simp only [Bool.or_eq_true,aCJ] at Z;have hE:isE es a e.dst:=⟨e,hm,by omega,rfl⟩
  rcases Z with Z|Z|Z
  ·exact h.2 a b Z
  ·rw [show (b:Int)=e.dst by omega];exact .one hE
  ·have:=h.2 _ b Z
   rw [show ((e.dst.toNat:Nat):Int)=e.dst by omega] at this
   exact .cons hE this
 ·exact h.2 a b Z
theorem jit:∀{l:List Ed} {S:List Nat},(∀e∈l,okE n e/\e∈es)->Snd es n S->Snd es n (l.foldl qA S)
 |[],_,_,h=>h
 |e::l,S,hl,h=>jit (l:=l) (S:=qA S e) (λe he=>hl e (by simp [he])) (jm4 (hl e (by simp)).1 (hl e (by simp)).2 h)
theorem jgj {S:List Nat} {e:Ed} (he:okE n e) (hS:S.length=n) {a b:Nat} (h:(S.getD a 0).testBit b=true):((qA S e).getD a 0).testBit b=true:=by
 rw [jdW he hS];split<;>simp only [h,Bool.true_or]
theorem jg5:∀{l:List Ed} {S:List Nat},(∀e∈l,okE n e)->S.length=n->∀{a b:Nat},(S.getD a 0).testBit b=true->((l.foldl qA S).getD a 0).testBit b=true
 |[],_,_,_,_,_,h=>h
 |e::l,S,hl,hS,a,b,h=>jg5 (l:=l) (S:=qA S e) (λe he=>hl e (by simp [he])) (by rw [zk];exact hS) (jgj (hl e (by simp)) hS h)
theorem jfZ:∀(l:List Ed) (S:List Nat),(l.foldl qA S).length=S.length
 |[],_=>rfl
 |e::l,S=>by rw [List.foldl_cons,jfZ l,zk]
theorem jfY:∀{l:List Ed} {S:List Nat},(∀e∈l,okE n e)->S.length=n->∀{e:Ed} {b:Nat},e∈l->(b=e.dst.toNat\/(S.getD e.dst.toNat 0).testBit b=true)->((l.foldl qA S).getD e.src.toNat 0).testBit b=true
 |[],_,_,_,_,_,h,_=>by simp at h
 |e'::l,S,hl,hS,e,b,hm,Z=>by
  rw [List.foldl_cons];by_cases cV:e=e'
  ·subst cV
   refine jg5 (l:=l) (S:=qA S e) (λe he=>hl e (by simp [he])) (by rw [zk];exact hS) ?_
   rw [jdW (hl e (by simp)) hS,if_pos rfl]
   rcases Z with Z|Z
   ·simp only [Z,decide_true,Bool.true_or,Bool.or_true]
   ·simp only [Z,Bool.or_true]
  ·have sH:e∈l:=(aBB.1 hm).resolve_left cV
   refine jfY (l:=l) (S:=qA S e') (λe he=>hl e (by simp [he])) (by rw [zk];exact hS) sH (Z.imp id λZ=>jgj (hl e' (by simp)) hS Z)
theorem jpq {S:List Nat} {k:Nat} (cI:∀e∈es,okE n e) (hS:S.length=n) (h:Cpl es k S):Cpl es (k+1) (rnd es S):=by
 rintro a b (⟨e,he,V,Y⟩|⟨c,⟨e,he,V,Y⟩,h3⟩)
 ·have:=jfY cI hS (b:=b) he (.inl (by omega))
  rwa [show e.src.toNat=a by omega] at this
 ·have hc:(e.dst.toNat:Int)=c:=by have:=(cI e he).2.1;omega
  have:=jfY cI hS (b:=b) he (.inr (h _ b (by rw [hc];exact h3)))
  rwa [show e.src.toNat=a by omega] at this
theorem jix (k:Nat) (S:List Nat):(jhw es k S).length=S.length:=by
 induction k with
 |zero=>rfl
 |succ k ih=>rw [jhw,rnd,jfZ,ih]
theorem jkr:(jan es n).length=n:=by rw [jan,jix,aDA]
theorem jnp (a:Nat):(List.replicate n 0).getD a 0=0:=by
 simp only [aBF,List.getElem?_replicate];split<;>rfl
theorem jks (cI:∀e∈es,okE n e) (a b:Nat):((jan es n).getD a 0).testBit b=true↔Rc es a b:=by
 have V:∀k,Snd es n (jhw es k (List.replicate n 0)):=by
  intro k
  induction k with
  |zero=>exact ⟨by simp [jhw],λa b Z=>by rw [jhw,jnp] at Z;simp at Z⟩
  |succ k ih=>exact jit (λe he=>⟨cI e he,he⟩) ih
 have Y:∀k,Cpl es k (jhw es k (List.replicate n 0)):=by
  intro k
  induction k with
  |zero=>exact λa b h=>h.elim
  |succ k ih=>exact jpq cI (V k).1 ih
 constructor
 ·exact (V n).2 a b
 ·intro h;exact Y n a b (h.enough λe he=>(cI e he).1)
theorem jo2 {S:List Nat} {e:Ed} (he:okE n e) (h:∀x∈S,x<2^n):∀x∈qA S e,x<2^n:=by
 have hg:∀i,S.getD i 0<2^n:=by
  intro i;rw [aBF];cases hi:S[i]? with
  |none=>simp;exact Nat.two_pow_pos n
  |some v=>exact h v (aAY hi)
 intro x hx;rcases List.mem_or_eq_of_mem_set hx with hx|rfl
 ·exact h x hx
 ·refine Nat.or_lt_two_pow (hg _) (Nat.or_lt_two_pow ?_ (hg _))
  obtain ⟨_,h3,h4⟩:=he;exact Nat.pow_lt_pow_right (by omega) (by omega)
end
def inB (n a b:Int):Bool:=decide (a<=n/\n<=b)
def kY (p:Pl):Bool:=!inB p.aAB 1 12||decide (30<p.aAC.length)||!inB p.aAH 0 9||!inB p.aAK 1 5||!inB p.aAJ 1 20
def jeF (n:Int) (e:Ed):Bool:=!inB e.src 0 (n-1)||!inB e.dst 0 (n-1)
open Classical in
noncomputable def jsD (p:Pl):Bool:=decide (∃t:Nat,(t:Int)<p.aAB/\Rc p.aAC t t)
noncomputable def jx (p:Pl):Int:=if kY p then 1 else if p.aAC.any (jeF p.aAB) then 2 else if decide (p.aAC.Nodup) then (if jsD p then 4 else 0) else 3
theorem jlJ {n:Int} {es:List Ed} (h:es.any (jeF n)=false):∀e∈es,okE n.toNat e:=by
 intro e he;have:=List.any_eq_false.1 h e he;simp only [jeF,inB,Bool.or_eq_true,Bool.not_eq_true',aCD,not_or,Classical.not_not] at this;obtain ⟨⟨V,Y⟩,h3,h4⟩:=this;exact ⟨⟨V,by omega⟩,h3,by omega⟩
def jhp (n:Nat) (r:List Int):List Bool:=(List.range n).map λ(k:Nat)=>decide ((k:Int)∈r)
open Classical in
noncomputable def rcB (es:List Ed) (a b:Int):Bool:=decide (Rc es a b)
theorem rcB_iff {es:List Ed} {a b:Int}:rcB es a b=true↔Rc es a b:=by simp [rcB]
noncomputable def jeo (es:List Ed) (n:Nat) (t:Int):List Bool:=(List.range n).map λ(k:Nat)=>rcB es t k
def jqG (es:List Ed) (n:Nat) (t:Int) (h:Nat) (r:List Int):Prop:=
 r.Nodup/\(∀x∈r,(0<=x/\x<n)/\Rc es t x)/\h<=(t::r).length/\∀j,j<h->∀x,(t::r)[j]?=some x->∀e∈es,e.src=x->e.dst∈r
def BIn (es:List Ed) (n:Nat) (t:Int) (h:Nat) (x:Int) (i:Nat) (r:List Int):Prop:=
 jqG es n t h r/\(t::r)[h]?=some x/\∀e∈es.take i,e.src=x->e.dst∈r
section
variable {es:List Ed} {n:Nat} {t x:Int} {h i:Nat} {r:List Int}
theorem qO:(jhp n r).length=n:=by simp [jhp]
theorem jdM {k:Nat} (hk:k<n):(jhp n r)[k]?=some (decide ((k:Int)∈r)):=by simp [jhp,hk]
theorem jos {k:Nat} (hk:k<n):(jhp n r).set k true=jhp n (r++[(k:Int)]):=by
 apply aCH
 intro j;rw [aDC];by_cases hj:j<n
 ·rw [jdM hj,jdM hj]
  by_cases e:k=j
  ·subst e;simp [qO,hk]
  ·have e':¬(j:Int)=k:=by omega
   simp [e,e']
 ·have V:(jhp n r)[j]?=none:=aBD (by rw [qO];omega)
  have Y:(jhp n (r++[(k:Int)]))[j]?=none:=aBD (by rw [qO];omega)
  rw [V,Y,if_neg (by omega)]
theorem jsK:jqG es n t 0 []:=⟨List.nodup_nil,by simp,by simp,λj hj=>by omega⟩
theorem jiY (h:jqG es n t h r):r.length<=n:=jbi n r h.1 λx hx=>(h.2.1 x hx).1
theorem bIn_0 (Z:jqG es n t h r) (hx:(t::r)[h]?=some x):BIn es n t h x 0 r:=⟨Z,hx,by simp⟩
theorem joN {e:Ed} (Z:BIn es n t h x i r) (he:es[i]?=some e) (hq:e.src=x->e.dst∈r):BIn es n t h x (i+1) r:=by
 refine ⟨Z.1,Z.2.1,λe' eQ=>?_⟩
 rw [aAX,he] at eQ;rcases aAS.1 eQ with V|V
 ·exact Z.2.2 e' V
 ·simp at V;subst V;exact hq
theorem jqu {e:Ed} (Z:BIn es n t h x i r) (he:es[i]?=some e) (hs:e.src=x) (hd:e.dst∉r) (hr:0<=e.dst/\e.dst<n) (ht:h=0->x=t):BIn es n t h x (i+1) (r++[e.dst]):=by
 obtain ⟨⟨V,Y,h3,h4⟩,h5,h6⟩:=Z;have hm:e∈es:=aAY he
 have hR:Rc es t e.dst:=by
  have hE:isE es x e.dst:=⟨e,hm,hs,rfl⟩;cases h with
  |zero=>simp at h5;subst h5;exact .one hE
  |succ h=>exact .step (Y x (aAY (by simpa using h5))).2 hE
 have aC:h<(t::r).length:=(aAR.1 h5).1;refine ⟨⟨?_,λy hy=>?_,by simp at aC⊢;omega,λj hj y hy e' eQ eS=>?_⟩,?_,λe' eQ eS=>?_⟩
 ·rw [aAU];exact ⟨V,by simp,λa ha b Z=>by simp at Z;subst Z;exact λe=>hd (e▸ha)⟩
 ·rcases aAS.1 hy with hy|hy
  ·exact Y y hy
  ·simp at hy;subst hy;exact ⟨hr,hR⟩
 ·rw [show t::(r++[e.dst])=(t::r)++[e.dst] from rfl,aBZ (by omega)] at hy
  exact List.mem_append_left _ (h4 j hj y hy e' eQ eS)
 ·rw [show t::(r++[e.dst])=(t::r)++[e.dst] from rfl,aBZ aC];exact h5
 ·rw [aAX,he] at eQ
  rcases aAS.1 eQ with h7|h7
  ·exact List.mem_append_left _ (h6 e' h7 eS)
  ·simp at h7;subst h7;simp
theorem jmt (Z:BIn es n t h x i r) (hi:es.length<=i):jqG es n t (h+1) r:=by
 obtain ⟨⟨V,Y,h3,h4⟩,h5,h6⟩:=Z;rw [aAW hi] at h6;have aC:h<(t::r).length:=(aAR.1 h5).1;refine ⟨V,Y,by omega,λj hj y hy=>?_⟩
 by_cases e:j=h
 ·subst e;rw [h5] at hy;cases hy;exact h6
 ·exact h4 j (by omega) y hy
theorem jmu (Z:jqG es n t h r) (hl:(t::r).length<=h):jhp n r=jeo es n t:=by
 obtain ⟨V,Y,h3,h4⟩:=Z
 have cJ:∀x∈t::r,∀e∈es,e.src=x->e.dst∈r:=λx hx=>by
  obtain ⟨j,hj,wM⟩:=aBS hx;exact h4 j (by omega) x (by rw [aAT hj,wM])
 have hR:∀y,Rc es t y->y∈r:=by
  intro y hy
  induction hy with
  |one h=>obtain ⟨e,he,h5,h6⟩:=h;exact h6▸cJ _ (by simp) e he h5
  |step _ h ih=>obtain ⟨e,he,h5,h6⟩:=h;exact h6▸cJ _ (List.mem_cons_of_mem _ ih) e he h5
 unfold jhp jeo;refine List.map_congr_left λk _=>?_
 by_cases hk:(k:Int)∈r
 ·rw [decide_eq_true hk,rcB_iff.2 (Y _ hk).2]
 ·rw [decide_eq_false hk]
  cases hq:rcB es t k with
  |true=>exact absurd (hR _ (rcB_iff.1 hq)) hk
  |false=>rfl
theorem jg4 {k:Nat} (hk:k<n):(jeo es n t)[k]?=some (rcB es t k):=by simp [jeo,hk]
theorem jbo:(jeo es n t).length=n:=by simp [jeo]
end
def jfb (n:Nat) (A:List Int):List Int:=(List.range n).flatMap λ(t:Nat)=>List.replicate (A.count (t:Int)) (t:Int)
theorem jqY (A:List Int):jfb 0 A=[]:=rfl
theorem zl (n:Nat) (A:List Int):jfb (n+1) A=jfb n A++List.replicate (A.count (n:Int)) (n:Int):=by simp [jfb,List.range_succ]
theorem jfv {A:List Int}:∀{n:Nat} {x:Int},x∈jfb n A->(0<=x/\x<n)/\x∈A
 |0,x,h=>by simp [jfb] at h
 |n+1,x,h=>by
  rw [zl] at h;rcases aAS.1 h with h|h
  ·have:=jfv h;exact ⟨by omega,this.2⟩
  ·obtain ⟨V,Y⟩:=List.mem_replicate.1 h
   refine ⟨by omega,?_⟩
   rw [Y];exact List.count_pos_iff.1 (by omega)
theorem jdX (A:List Int):∀(n:Nat),(jfb n A).Pairwise (· <= ·)
 |0=>by simp [jfb]
 |n+1=>by
  rw [zl,List.pairwise_append];refine ⟨jdX A n,?_,λa ha b Z=>?_⟩
  ·rw [List.pairwise_replicate];right;exact Int.le_refl _
  ·have:=jfv ha
   have:=(List.mem_replicate.1 Z).2;omega
theorem jfa (A:List Int) (x:Int):∀(n:Nat),(jfb n A).count x=if 0<=x/\x<n then A.count x else 0
 |0=>by rw [if_neg (by omega)];simp [jfb]
 |n+1=>by
  rw [zl,List.count_append,jfa A x n,List.count_replicate];by_cases h:x=n
  ·subst h
   rw [if_neg (by omega),if_pos (by simp),if_pos (by omega)];omega
  ·have Y:((n:Int)==x)=false:=by simpa using λe=>h e.symm
   simp only [Y,Bool.false_eq_true,if_false];by_cases h3:0<=x/\x<n
   ·rw [if_pos h3,if_pos (by omega)];rfl
   ·rw [if_neg h3,if_neg (by omega)]
theorem jkM {n:Nat} {A:List Int} (h:∀x∈A,0<=x/\x<n):(jfb n A).Perm A:=by
 rw [List.perm_iff_count];intro x;rw [jfa];split
 ·rfl
 ·rename_i hx
  exact (List.count_eq_zero.2 λhm=>hx (h x hm)).symm
theorem jgm:∀{s t:List Int},s.Perm t->s.Pairwise (· <= ·)->t.Pairwise (· <= ·)->s=t
 |[],t,h,_,_=>h.nil_eq
 |a::s,[],h,_,_=>absurd h.length_eq (by simp)
 |a::s,b::t,h,V,Y=>by
  rw [List.pairwise_cons] at V Y
  have fJ:a=b:=by
   have ha:a∈b::t:=h.mem_iff.1 (by simp)
   have Z:b∈a::s:=h.mem_iff.2 (by simp)
   rcases aBB.1 ha with ha|ha
   ·exact ha
   rcases aBB.1 Z with Z|Z
   ·exact Z.symm
   exact Int.le_antisymm (V.1 b Z) (Y.1 a ha)
  subst fJ;rw [jgm ((List.perm_cons a).1 h) V.2 Y.2]
theorem ji9 {n:Nat} {A s:List Int} (h:∀x∈A,0<=x/\x<n) (hp:s.Perm A) (hs:s.Pairwise (· <= ·)):s=jfb n A:=jgm (hp.trans (jkM h).symm) hs (jdX A n)
def swp (l:List Int) (j:Nat):List Int:=(l.set (j+1) (l.getD j 0)).set j (l.getD (j+1) 0)
theorem jm1 {l:List Int} {j:Nat} (h:j+1<l.length):(swp l j).Perm l:=by
 have e:l=l.take j++l[j]::l[j+1]::l.drop (j+2):=by rw [<-aCN h,<-aCN,aCO]
 have e2:swp l j=l.take j++l[j+1]::l[j]::l.drop (j+2):=by
  apply aCH
  intro k;have V:l.getD j 0=l[j]:=by rw [aBF,aAT (by omega)];rfl
  have Y:l.getD (j+1) 0=l[j+1]:=by rw [aBF,aAT h];rfl
  have ht:(l.take j).length=j:=by rw [aBA];omega
  simp only [swp,V,Y,aDC,aCL];by_cases k1:j=k
  ·subst k1;rw [if_pos rfl,if_pos (by omega),aBT (by omega),ht];simp
  ·rw [if_neg k1]
   by_cases k2:j+1=k
   ·subst k2;rw [if_pos rfl,if_pos (by omega),aBT (by omega),ht];simp
   ·rw [if_neg k2]
    by_cases k3:k<j
    ·rw [aBZ (by omega),List.getElem?_take_of_lt k3]
    ·rw [aBT (by omega),ht]
     obtain ⟨m,rfl⟩:∃m,k=j+2+m:=⟨k-(j+2),by omega⟩
     rw [show j+2+m-j=m+2 by omega,aCR,aCR,aBQ]
 rw [e2]
 conv=>rhs;rw [e]
 exact aCT _ (List.Perm.swap _ _ _)
theorem jkH {l:List Int} {j:Nat} (h:j+1<l.length) (p:Nat):(swp l j).getD p 0=if p=j then l.getD (j+1) 0 else if p=j+1 then l.getD j 0 else l.getD p 0:=by
 simp only [swp,aBF,aDC,aCL];by_cases k1:p=j
 ·subst k1;simp [show p<l.length from by omega]
 by_cases k2:p=j+1
 ·subst k2;simp [h]
 ·have k3:¬j=p:=λe=>k1 e.symm
  have k4:¬j+1=p:=λe=>k2 e.symm
  simp [k1,k2,k3,k4]
def SO (A l:List Int) (i:Nat):Prop:=l.Perm A/\∀p q:Nat,p<q->q<i->l.getD p 0<=l.getD q 0
def SI (A l:List Int) (i j:Nat):Prop:=l.Perm A/\j<=i/\∀p q:Nat,p<q->q<=i->q≠j->l.getD p 0<=l.getD q 0
theorem SO_1 (A:List Int):SO A A 1:=⟨.refl A,λp q h h'=>by omega⟩
theorem SI_0 {A l:List Int} {i:Nat} (h:SO A l i):SI A l i i:=⟨h.1,aAV _,λp q V Y h3=>h.2 p q V (by omega)⟩
theorem jsO {A l:List Int} {i j:Nat} (h:SI A l i (j+1)) (hi:i<l.length) (aC:l.getD (j+1) 0<l.getD j 0):SI A (swp l j) i j:=by
 obtain ⟨V,Y,h3⟩:=h;have hj:j+1<l.length:=by omega
 refine ⟨(jm1 hj).trans V,by omega,λp q oC hq a7=>?_⟩
 rw [jkH hj,jkH hj,if_neg a7];by_cases q1:q=j+1
 ·subst q1
  rw [if_pos rfl];by_cases p1:p=j
  ·rw [if_pos p1];omega
  ·rw [if_neg p1,if_neg (by omega)];exact h3 p j (by omega) (by omega) (by omega)
 ·rw [if_neg q1]
  by_cases p1:p=j
  ·rw [if_pos p1];exact h3 (j+1) q (by omega) hq q1
  ·rw [if_neg p1]
   by_cases p2:p=j+1
   ·rw [if_pos p2];exact h3 j q (by omega) hq q1
   ·rw [if_neg p2];exact h3 p q oC hq q1
theorem joP {A l:List Int} {i j:Nat} (h:SI A l i j) (he:j=0\/∃k,j=k+1/\l.getD k 0<=l.getD j 0):SO A l (i+1):=by
 obtain ⟨V,Y,h3⟩:=h;refine ⟨V,λp q oC hq=>?_⟩
 by_cases e:q=j
 ·subst e
  rcases he with he|⟨k,rfl,h4⟩
  ·omega
  ·by_cases e2:p=k
   ·subst e2;exact h4
   ·exact Int.le_trans (h3 p k (by omega) (by omega) (by omega)) h4
 ·exact h3 p q oC (by omega) e
theorem jsN {A l:List Int} {i:Nat} (h:SO A l i) (hi:l.length<=i):l.Pairwise (· <= ·):=by
 rw [List.pairwise_iff_getElem];intro p q hp hq oC;have:=h.2 p q oC (by omega)
 rw [aBF,aBF,aAT hp,aAT hq] at this;exact this
theorem jqX {n:Nat} {A l:List Int} {i:Nat} (h:∀x∈A,0<=x/\x<n) (hs:SO A l i) (hi:l.length<=i):l=jfb n A:=ji9 h hs.1 (jsN hs hi)
def jca (es:List Ed) (t:Int):List Int:=(es.filter λe=>e.dst==t).map (·.src)
def jad (p:Pl) (t:Int):List Int:=jfb p.aAB.toNat (jca p.aAC t)
section
variable {es:List Ed} {k n:Nat} {e:Ed}
theorem jho (h:es[k]?=some e) (t:Int):jca (es.take (k+1)) t=jca (es.take k) t++(if e.dst=t then [e.src] else []):=by
 rw [aAX,h];by_cases ht:e.dst=t<;>simp [jca,ht]
theorem jkc (h:es[k]?=some e) (x t:Int):(jca (es.take (k+1)) t).count x=(jca (es.take k) t).count x+(if e.src=x/\e.dst=t then 1 else 0):=by
 rw [jho h,List.count_append];by_cases ht:e.dst=t<;>by_cases hx:e.src=x<;>simp [ht,hx]
theorem jms (cI:∀e∈es,okE n e) (t:Int):∀x∈jca es t,0<=x/\x<n:=by
 intro x hx;simp only [jca,aCY,List.mem_filter] at hx;obtain ⟨e,⟨V,-⟩,rfl⟩:=hx;exact (cI e V).1
theorem jkb (h:es.Nodup) (t:Int):(jca es t).Nodup:=by
 unfold jca List.Nodup;rw [List.pairwise_map];refine List.Pairwise.imp_of_mem ?_ (List.Pairwise.filter _ h);intro a b ha Z a7 fJ;simp only [List.mem_filter,aDH] at ha Z;exact a7 (by cases a;cases b;simp_all)
theorem jor (h:es.Nodup) (cI:∀e∈es,okE n e) (t:Int):(jca es t).length<=n:=jbi n _ (jkb h t) (jms cI t)
end
theorem jpG {p:Pl} (h:jx p=0):∃n:Nat,p.aAB=n/\1<=n/\n<=12/\p.aAC.length<=30/\(∀e∈p.aAC,okE n e)/\p.aAC.Nodup/\(0<=p.aAH/\p.aAH<=9)/\(1<=p.aAK/\p.aAK<=5)/\(1<=p.aAJ/\p.aAJ<=20):=by
 unfold jx at h;cases hm:kY p
 ·rw [hm] at h
  simp only [Bool.false_eq_true,if_false] at h;cases Z:p.aAC.any (jeF p.aAB)
  ·rw [Z] at h
   simp only [Bool.false_eq_true,if_false] at h;by_cases hd:p.aAC.Nodup
   ·have cI:=jlJ Z
    simp only [kY,inB,Bool.or_eq_false_iff,Bool.not_eq_false',aCJ,aCD] at hm;obtain ⟨⟨⟨⟨V,Y⟩,h3⟩,h4⟩,h5⟩:=hm;exact ⟨p.aAB.toNat,by omega,by omega,by omega,by omega,cI,hd,h3,h4,h5⟩
   ·rw [decide_eq_false hd] at h
    simp at h
  ·rw [Z] at h;simp at h
 ·rw [hm] at h;simp at h
def stT (ts:List Tk) (b:Int):Int:=((ts[b.toNat]?).getD default).aAD
theorem jkL {ts:List Tk} {b:Int} {x:Tk} (h:ts[b.toNat]?=some x):stT ts b=x.aAD:=by simp [stT,h]
theorem jo5 {ts:List Tk} {k:Nat} {x:Tk} (h:ts[k]?=some x):stT ts (k:Int)=x.aAD:=by simp [stT,h]
def vg (s:Int) (ts:List Tk) (k:Nat):List Int:=((List.range k).filter λ(j:Nat)=>stT ts (j:Int)==s).map λ(j:Nat)=>(j:Int)
def jeK (s:Int) (ts:List Tk):List Int:=vg s ts ts.length
def cS (s:Int) (ts:List Tk):Nat:=(jeK s ts).length
theorem jqS (s:Int) (ts:List Tk):vg s ts 0=[]:=rfl
theorem ja6 {ts:List Tk} {k:Nat} {x:Tk} (h:ts[k]?=some x) (s:Int):vg s ts (k+1)=vg s ts k++(if x.aAD=s then [(k:Int)] else []):=by
 have hs:=jo5 h;by_cases hx:x.aAD=s<;>simp [vg,List.range_succ,hs,hx]
theorem ja7 (s:Int) (ts:List Tk) (k:Nat):(vg s ts k).length<=k:=by
 simp only [vg,List.length_map];exact aBU (aCU _ _) (by simp)
theorem jkx {ts:List Tk} (h:∀x∈ts,1<=x.aAD/\x.aAD<=6):∀(k:Nat),k<=ts.length->(vg 1 ts k).length+(vg 2 ts k).length+(vg 3 ts k).length+(vg 4 ts k).length+(vg 5 ts k).length+(vg 6 ts k).length=k
 |0,_=>rfl
 |k+1,hk=>by
  have ih:=jkx h k (by omega)
  have hx:ts[k]?=some ts[k]:=aAT (by omega)
  have:=h ts[k] (List.getElem_mem _);have:ts[k].aAD=1\/ts[k].aAD=2\/ts[k].aAD=3\/ts[k].aAD=4\/ts[k].aAD=5\/ts[k].aAD=6:=by omega
  simp only [ja6 hx,aBE];rcases this with V|V|V|V|V|V<;>simp [V]<;>omega
def jpO (p:Pl) (ts:List Tk) (t:Int):Int:=((((jad p t).filter λb=>stT ts b !=4).length:Nat):Int)
def vo (p:Pl) (x:Tk):Bool:=if x.aAD=1 then decide (0<x.aAL) else if x.aAD=2 then (x.aAL==0&&decide (x.tri<p.aAK)) else if x.aAD=6 then true else (x.aAL==0&&decide (1<=x.tri))
def jae (x:Tk):Bool:=if x.aAD=3 then inB x.til 1 1000000000 else x.til==0
def ju (p:Pl) (ts:List Tk) (t:Nat) (x:Tk):Bool:=inB x.aAD 1 6&&x.aAL==jpO p ts t&&inB x.tri 0 p.aAK&&jae x&&vo p x
def jhC (ts:List Tk):Int:=if cS 4 ts=ts.length then 2 else if cS 5 ts=1/\cS 4 ts+cS 5 ts+cS 6 ts=ts.length then 3 else if cS 5 ts=0/\0<cS 6 ts/\cS 4 ts+cS 5 ts+cS 6 ts=ts.length then 4 else if cS 5 ts=0/\cS 6 ts=0 then 1 else 0
structure jc5 (r:Rn):Prop where
 id:inB r.id 1 9999=true
 aAF:jx r.aAF=0
 len:(r.aAB.length:Int)=r.aAF.aAB
 aAB:∀(t:Nat) (x:Tk),r.aAB[t]?=some x->ju r.aAF r.aAB t x=true
 aAD:r.aAD=jhC r.aAB
 live:r.aAD≠0
open Classical in
noncomputable def kb (r:Rn):Bool:=decide (jc5 r)
theorem runOk_iff {r:Rn}:kb r=true↔jc5 r:=by simp [kb]
theorem kq {r:Rn} (h:¬jc5 r):kb r=false:=by simp [kb,h]
def qf (a b:En):Bool:=decide (a.aAH>b.aAH\/a.aAH=b.aAH/\a.seq<b.seq)
structure jc4 (l:List En):Prop where
 aAK:l.length<=80
 ahead:∀(k:Nat) (a b:En),l[k]?=some a->l[k+1]?=some b->qf a b=true
open Classical in
noncomputable def qF (l:List En):Bool:=decide (jc4 l)
theorem ja8 {l:List En} (h:jc4 l):qF l=true:=by simp [qF,h]
theorem jdH {l:List En} (h:¬jc4 l):qF l=false:=by simp [qF,h]
theorem shelf_iff {l:List En}:qF l=true↔jc4 l:=by simp [qF]
structure SeqP (q:Int) (l:List En):Prop where
 range:∀e∈l,1<=e.seq/\e.seq<=q-1
 apart:(l.map (·.seq)).Nodup
def jeC (id t:Int) (l:List En):Nat:=(l.filter λe=>e.run==id&&e.aAI==t).length
def jdU (y:Yd) (r:Rn) (l:List En) (t:Nat) (x:Tk):Prop:=
 (x.aAD=2->(∀e∈l,e.run=r.id->e.aAI=t->e.aAH=r.aAF.aAH)/\jeC r.id t l=1)/\(x.aAD=3->y.now+1<=x.til/\x.til<=y.now+r.aAF.aAJ)
def jht (y:Yd) (r:Rn) (l:List En):Prop:=∀(t:Nat) (x:Tk),r.aAB[t]?=some x->jdU y r l t x
open Classical in
noncomputable def ql (y:Yd) (r:Rn) (l:List En):Bool:=decide (jht y r l)
theorem jbb {y:Yd} {r:Rn} {l:List En} (h:jht y r l):ql y r l=true:=by simp [ql,h]
theorem zY {y:Yd} {r:Rn} {l:List En} (h:¬jht y r l):ql y r l=false:=by simp [ql,h]
theorem runIn_iff {y:Yd} {r:Rn} {l:List En}:ql y r l=true↔jht y r l:=by simp [ql]
structure jij (y:Yd):Prop where
 now:0<=y.now/\y.now<=999999980
 seq:1<=y.seq/\y.seq<=1000000000
 four:y.aAE.length=4
 eight:y.aAG.length<=8
 shelves:∀l∈y.aAE,jc4 l
 seqs:SeqP y.seq y.aAE.flatten
 right:∀r∈y.aAG,jc5 r
 place:∀(k:Nat) (r:Rn),y.aAG[k]?=some r->qj y r.id=k
 aAG:∀r∈y.aAG,jht y r y.aAE.flatten
 slots:qW y<=40
open Classical in
noncomputable def jM (y:Yd):Bool:=decide (jij y)
theorem jim {y:Yd} (h:jij y):jM y=true:=by simp [jM,h]
theorem ko {y:Yd} (h:¬jij y):jM y=false:=by simp [jM,h]
section
variable {l:List En} {k:Nat} {e:En} {id t:Int}
theorem jiT (h:l[k]?=some e) (V:e.run=id) (Y:e.aAI=t):jeC id t (l.take (k+1))=jeC id t (l.take k)+1:=by
 rw [aAX,h];simp [jeC,aCZ,V,Y]
theorem jf4 (h:l[k]?=some e) (V:¬(e.run=id/\e.aAI=t)):jeC id t (l.take (k+1))=jeC id t (l.take k):=by
 rw [aAX,h];by_cases Y:e.run=id
 ·have h3:¬e.aAI=t:=λh3=>V ⟨Y,h3⟩
  simp [jeC,aCZ,Y,h3]
 ·simp [jeC,aCZ,Y]
theorem jmj (l:List En) (id t:Int):jeC id t l<=l.length:=aCU _ _
theorem jk3 {j:Nat} {e2:En} (h:l[k]?=some e) (hj:j<k) (Y:l[j]?=some e2) (he:e2.seq=e.seq):¬(l.map (·.seq)).Nodup:=by
 intro hd;obtain ⟨a1,b1⟩:=aAR.1 h;obtain ⟨a2,b2⟩:=aAR.1 Y;have:=List.pairwise_iff_getElem.1 hd j k (by simpa using a2) (by simpa using a1) hj
 simp [b1,b2,he] at this
theorem jk2 (h:l[k]?=some e) (hn:((l.take k).map (·.seq)).Nodup) (hx:∀e2∈l.take k,e2.seq≠e.seq):((l.take (k+1)).map (·.seq)).Nodup:=by
 rw [aAX,h];simp only [Option.toList_some,List.map_append,aCE,List.map_nil];rw [aAU];refine ⟨hn,by simp,λa ha b Z e'=>?_⟩
 simp at Z;subst Z;obtain ⟨e2,V,Y⟩:=aCY.1 ha;exact hx e2 V (by rw [Y,e'])
end
