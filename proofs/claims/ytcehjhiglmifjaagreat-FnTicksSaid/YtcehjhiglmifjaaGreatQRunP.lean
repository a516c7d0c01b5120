/- Parts. -/
import Derived.Test.YtcehjhiglmifjaaGreatQE7
set_option linter.unusedSimpArgs false
set_option linter.unusedVariables false
set_option maxHeartbeats 4000000
set_option maxRecDepth 100000
namespace Go.Proofs.YtcehjhiglmifjaaGreat
theorem jcv:∀(n:Nat) (l:List Int),l.Nodup→(∀x∈l,0≤x∧x<n)→l.length≤n
 |0,l,_,h=>by
  cases l with
  |nil=>exact Nat.le_refl _
  |cons x l=>have:=h x (by simp);omega
 |n+1,l,hd,h=>by
  by_cases hm:(n:Int)∈l
  ·have h1:=jcv n (l.erase n) (hd.erase _) (fun x hx=>by
    have h2:=(hd.mem_erase_iff).1 hx;have:=h x h2.2;have:=h2.1;omega)
   rw [List.length_erase_of_mem hm] at h1;omega
  ·have h1:=jcv n l hd (fun x hx=>by
    have:=h x hx;have:x≠n:=fun e=>hm (e▸hx)
    omega)
   omega
def isE (es:List Ed) (a b:Int):Prop:=∃e∈es,e.src=a∧e.dst=b
inductive Rc (es:List Ed):Int→Int→Prop
 |one {a b:Int}:isE es a b→Rc es a b
 |step {a b c:Int}:Rc es a b→isE es b c→Rc es a c
def Rk (es:List Ed):Nat→Int→Int→Prop
 |0,_,_=>False
 |k+1,a,b=>isE es a b∨∃c,isE es a c∧Rk es k c b
section
variable {es:List Ed}
theorem Rk.mono {a b:Int}:∀{k:Nat},Rk es k a b→Rk es (k+1) a b:=by
 intro k
 induction k generalizing a with
 |zero=>intro h;exact h.elim
 |succ k ih=>
  rintro (h|⟨c,h1,h2⟩)
  ·exact .inl h
  ·exact .inr ⟨c,h1,ih h2⟩
theorem Rk.le {a b:Int} {k m:Nat} (h:Rk es k a b) (hk:k≤m):Rk es m a b:=by
 induction m with
 |zero=>obtain rfl:k=0:=by omega
        exact h
 |succ m ih=>
  by_cases e:k=m+1
  ·subst e;exact h
  ·exact (ih (by omega)).mono
theorem Rk.snoc {a b c:Int} (he:isE es b c):∀{k:Nat},Rk es k a b→Rk es (k+1) a c:=by
 intro k
 induction k generalizing a with
 |zero=>intro h;exact h.elim
 |succ k ih=>
  rintro (h|⟨d,h1,h2⟩)
  ·exact .inr ⟨b,h,.inl he⟩
  ·exact .inr ⟨d,h1,ih h2⟩
theorem Rc.rk {a b:Int} (h:Rc es a b):∃k,Rk es k a b:=by
 induction h with
 |one h=>exact ⟨1,.inl h⟩
 |step _ h ih=>obtain ⟨k,hk⟩:=ih;exact ⟨k+1,hk.snoc h⟩
theorem Rc.cons {a b c:Int} (he:isE es a b) (h:Rc es b c):Rc es a c:=by
 induction h with
 |one h=>exact .step (.one he) h
 |step _ h ih=>exact .step ih h
theorem juH {α:Type} {p q:α→Bool} {l:List α} (h:∀x∈l,p x=true→q x=true) {x:α} (hx:x∈l) (hq:q x=true) (hp:p x=false):(l.filter p).length<(l.filter q).length:=by
 induction l with
 |nil=>simp at hx
 |cons a l ih=>
  have hle:(l.filter p).length≤(l.filter q).length:=by
   clear ih hx
   induction l with
   |nil=>simp
   |cons b l ih=>
    have:=ih (fun x hx=>h x (by simp only [List.mem_cons] at hx⊢;rcases hx with rfl|hx<;>simp_all))
    by_cases hb:p b=true
    ·have:=h b (by simp) hb
     simp [List.filter_cons,hb,this];omega
    ·by_cases hb':q b=true<;>simp [List.filter_cons,hb,hb']<;>omega
  rcases List.mem_cons.1 hx with rfl|hx
  ·simp [List.filter_cons,hq,hp];omega
  ·have:=ih (fun x hx=>h x (by simp [hx])) hx
   by_cases hb:p a=true
   ·have:=h a (by simp) hb
    simp [List.filter_cons,hb,this];omega
   ·by_cases hb':q a=true<;>simp [List.filter_cons,hb,hb']<;>omega
open Classical in
theorem Rc.enough {n:Nat} (hes:∀e∈es,0≤e.src∧e.src<n) {a b:Int} (h:Rc es a b):Rk es n a b:=by
 let f:Nat→List Nat:=fun k=>(List.range n).filter fun (i:Nat)=>decide (Rk es k (i:Int) b)
 have hsrc:∀{k:Nat} {a:Int},Rk es k a b→∃i:Nat,i<n∧a=i:=by
  intro k a hk
  have:∃c,isE es a c:=by
   cases k with
   |zero=>exact hk.elim
   |succ k=>rcases hk with h|⟨c,h,_⟩<;>exact ⟨_,h⟩
  obtain ⟨c,e,he,rfl,rfl⟩:=this;have:=hes e he;exact ⟨e.src.toNat,by omega,by omega⟩
 have key:∀k,k≤n→(k≤(f k).length)∨∃m,m<k∧∀a,Rk es (m+1) a b→Rk es m a b:=by
  intro k
  induction k with
  |zero=>intro _;exact .inl (Nat.zero_le _)
  |succ k ih=>
   intro hk;rcases ih (by omega) with h1|⟨m,h1,h2⟩
   ·by_cases hs:∀a,Rk es (k+1) a b→Rk es k a b
    ·exact .inr ⟨k,by omega,hs⟩
    ·simp only [Classical.not_forall] at hs
     obtain ⟨a,h3,h4⟩:=hs;obtain ⟨i,hi,rfl⟩:=hsrc h3;refine .inl (Nat.lt_of_le_of_lt h1 ?_);exact juH (x:=i) (fun x _ hx=>by simp at hx⊢;exact hx.mono) (by simpa using hi) (by simpa using h3) (by simpa using h4)
   ·exact .inr ⟨m,by omega,h2⟩
 obtain ⟨k,hk⟩:=h.rk;rcases key n (Nat.le_refl _) with h1|⟨m,h1,h2⟩
 ·obtain ⟨i,hi,rfl⟩:=hsrc hk
  have hall:∀x∈List.range n,(fun (i:Nat)=>decide (Rk es n (i:Int) b)) x=true:=by
   have hle:=List.length_filter_le (fun (i:Nat)=>decide (Rk es n (i:Int) b)) (List.range n)
   rw [List.length_range] at hle;refine List.length_filter_eq_length_iff.1 ?_;rw [List.length_range];exact Nat.le_antisymm hle h1
  simpa using hall i (by simpa using hi)
 ·have:∀k a,Rk es k a b→Rk es m a b:=by
   intro k
   induction k with
   |zero=>intro a h;exact h.elim
   |succ k ih=>
    rintro a (h|⟨c,h3,h4⟩)
    ·exact h2 a (.inl h)
    ·exact h2 a (.inr ⟨c,h3,ih c h4⟩)
  exact (this k a hk).le (by omega)
end
def zO (S:List Nat) (e:Ed):List Nat:=S.set e.src.toNat (S.getD e.src.toNat 0|||(2^e.dst.toNat|||S.getD e.dst.toNat 0))
def rnd (es:List Ed) (S:List Nat):List Nat:=es.foldl zO S
def joN (es:List Ed):Nat→List Nat→List Nat
 |0,S=>S
 |k+1,S=>rnd es (joN es k S)
def jdD (es:List Ed) (n:Nat):List Nat:=joN es n (List.replicate n 0)
def okE (n:Nat) (e:Ed):Prop:=(0≤e.src∧e.src<n)∧(0≤e.dst∧e.dst<n)
section
variable {es:List Ed} {n:Nat}
theorem jci (S:List Nat) (e:Ed):(zO S e).length=S.length:=by simp [zO]
theorem jwF (S:List Nat) (i j v:Nat):(S.set i v).getD j 0=if i=j∧j<S.length then v else S.getD j 0:=by
 simp only [List.getD_eq_getElem?_getD,List.getElem?_set];by_cases h:i=j
 ·subst h
  by_cases hl:i<S.length
  ·simp [hl]
  ·simp [hl]
 ·simp [h]
theorem jiW {S:List Nat} {e:Ed} (he:okE n e) (hS:S.length=n) (a b:Nat):((zO S e).getD a 0).testBit b=if a=e.src.toNat then ((S.getD a 0).testBit b||(decide (b=e.dst.toNat)||(S.getD e.dst.toNat 0).testBit b)) else (S.getD a 0).testBit b:=by
 obtain ⟨⟨h1,h2⟩,h3,h4⟩:=he;unfold zO;rw [jwF];by_cases h:a=e.src.toNat
 ·subst h
  rw [if_pos ⟨rfl,by omega⟩,if_pos rfl]
  simp only [Nat.testBit_or,Nat.testBit_two_pow]
  congr 2
  by_cases e:e.dst.toNat=b<;>simp [e,eq_comm]
  intro h;exact absurd h.symm e
 ·rw [if_neg (fun h'=>h h'.1.symm),if_neg h]
def Snd (es:List Ed) (n:Nat) (S:List Nat):Prop:=S.length=n∧∀a b:Nat,(S.getD a 0).testBit b=true→Rc es a b
def Cpl (es:List Ed) (k:Nat) (S:List Nat):Prop:=∀a b:Nat,Rk es k a b→(S.getD a 0).testBit b=true
theorem jvR {S:List Nat} {e:Ed} (he:okE n e) (hm:e∈es) (h:Snd es n S):Snd es n (zO S e):=by
 refine ⟨by rw [jci];exact h.1,fun a b hb=>?_⟩
 rw [jiW he h.1] at hb;obtain ⟨⟨h1,h2⟩,h3,h4⟩:=he;split at hb
 ·rename_i ha
  simp only [Bool.or_eq_true,decide_eq_true_eq] at hb;have hE:isE es a e.dst:=⟨e,hm,by omega,rfl⟩
  rcases hb with hb|hb|hb
  ·exact h.2 a b hb
  ·rw [show (b:Int)=e.dst by omega];exact .one hE
  ·have:=h.2 _ b hb
   rw [show ((e.dst.toNat:Nat):Int)=e.dst by omega] at this
   exact .cons hE this
 ·exact h.2 a b hb
theorem jp8:∀{l:List Ed} {S:List Nat},(∀e∈l,okE n e∧e∈es)→Snd es n S→Snd es n (l.foldl zO S)
 |[],_,_,h=>h
 |e::l,S,hl,h=>jp8 (l:=l) (S:=zO S e) (fun e he=>hl e (by simp [he])) (jvR (hl e (by simp)).1 (hl e (by simp)).2 h)
theorem jmV {S:List Nat} {e:Ed} (he:okE n e) (hS:S.length=n) {a b:Nat} (h:(S.getD a 0).testBit b=true):((zO S e).getD a 0).testBit b=true:=by
 rw [jiW he hS];split<;>simp only [h,Bool.true_or]
theorem jn7:∀{l:List Ed} {S:List Nat},(∀e∈l,okE n e)→S.length=n→∀{a b:Nat},(S.getD a 0).testBit b=true→((l.foldl zO S).getD a 0).testBit b=true
 |[],_,_,_,_,_,h=>h
 |e::l,S,hl,hS,a,b,h=>jn7 (l:=l) (S:=zO S e) (fun e he=>hl e (by simp [he])) (by rw [jci];exact hS) (jmV (hl e (by simp)) hS h)
theorem jmr:∀(l:List Ed) (S:List Nat),(l.foldl zO S).length=S.length
 |[],_=>rfl
 |e::l,S=>by rw [List.foldl_cons,jmr l,jci]
theorem jmq:∀{l:List Ed} {S:List Nat},(∀e∈l,okE n e)→S.length=n→∀{e:Ed} {b:Nat},e∈l→(b=e.dst.toNat∨(S.getD e.dst.toNat 0).testBit b=true)→((l.foldl zO S).getD e.src.toNat 0).testBit b=true
 |[],_,_,_,_,_,h,_=>by simp at h
 |e'::l,S,hl,hS,e,b,hm,hb=>by
  rw [List.foldl_cons];by_cases heq:e=e'
  ·subst heq
   refine jn7 (l:=l) (S:=zO S e) (fun e he=>hl e (by simp [he])) (by rw [jci];exact hS) ?_
   rw [jiW (hl e (by simp)) hS,if_pos rfl]
   rcases hb with hb|hb
   ·simp only [hb,decide_true,Bool.true_or,Bool.or_true]
   ·simp only [hb,Bool.or_true]
  ·have hm':e∈l:=(List.mem_cons.1 hm).resolve_left heq
   refine jmq (l:=l) (S:=zO S e') (fun e he=>hl e (by simp [he])) (by rw [jci];exact hS) hm' (hb.imp id fun hb=>jmV (hl e' (by simp)) hS hb)
theorem jyI {S:List Nat} {k:Nat} (hes:∀e∈es,okE n e) (hS:S.length=n) (h:Cpl es k S):Cpl es (k+1) (rnd es S):=by
 rintro a b (⟨e,he,h1,h2⟩|⟨c,⟨e,he,h1,h2⟩,h3⟩)
 ·have:=jmq hes hS (b:=b) he (.inl (by omega))
  rwa [show e.src.toNat=a by omega] at this
 ·have hc:(e.dst.toNat:Int)=c:=by have:=(hes e he).2.1;omega
  have:=jmq hes hS (b:=b) he (.inr (h _ b (by rw [hc];exact h3)))
  rwa [show e.src.toNat=a by omega] at this
theorem jqh (k:Nat) (S:List Nat):(joN es k S).length=S.length:=by
 induction k with
 |zero=>rfl
 |succ k ih=>rw [joN,rnd,jmr,ih]
theorem jsX:(jdD es n).length=n:=by rw [jdD,jqh,List.length_replicate]
theorem jwe (a:Nat):(List.replicate n 0).getD a 0=0:=by
 simp only [List.getD_eq_getElem?_getD,List.getElem?_replicate];split<;>rfl
theorem jsY (hes:∀e∈es,okE n e) (a b:Nat):((jdD es n).getD a 0).testBit b=true↔Rc es a b:=by
 have h1:∀k,Snd es n (joN es k (List.replicate n 0)):=by
  intro k
  induction k with
  |zero=>exact ⟨by simp [joN],fun a b hb=>by rw [joN,jwe] at hb;simp at hb⟩
  |succ k ih=>exact jp8 (fun e he=>⟨hes e he,he⟩) ih
 have h2:∀k,Cpl es k (joN es k (List.replicate n 0)):=by
  intro k
  induction k with
  |zero=>exact fun a b h=>h.elim
  |succ k ih=>exact jyI hes (h1 k).1 ih
 constructor
 ·exact (h1 n).2 a b
 ·intro h;exact h2 n a b (h.enough fun e he=>(hes e he).1)
theorem jyg {S:List Nat} {e:Ed} (he:okE n e) (h:∀x∈S,x<2^n):∀x∈zO S e,x<2^n:=by
 have hg:∀i,S.getD i 0<2^n:=by
  intro i;rw [List.getD_eq_getElem?_getD];cases hi:S[i]? with
  |none=>simp;exact Nat.two_pow_pos n
  |some v=>exact h v (List.mem_of_getElem? hi)
 intro x hx;rcases List.mem_or_eq_of_mem_set hx with hx|rfl
 ·exact h x hx
 ·refine Nat.or_lt_two_pow (hg _) (Nat.or_lt_two_pow ?_ (hg _))
  obtain ⟨_,h3,h4⟩:=he;exact Nat.pow_lt_pow_right (by omega) (by omega)
end
def inB (n a b:Int):Bool:=decide (a≤n∧n≤b)
def vH (p:Pl):Bool:=!inB p.tasks 1 12||decide (30<p.edges.length)||!inB p.prio 0 9||!inB p.most 1 5||!inB p.wait 1 20
def jiM (n:Int) (e:Ed):Bool:=!inB e.src 0 (n-1)||!inB e.dst 0 (n-1)
open Classical in
noncomputable def jBP (p:Pl):Bool:=decide (∃t:Nat,(t:Int)<p.tasks∧Rc p.edges t t)
noncomputable def jw (p:Pl):Int:=if vH p then 1 else if p.edges.any (jiM p.tasks) then 2 else if decide (p.edges.Nodup) then (if jBP p then 4 else 0) else 3
theorem jua {n:Int} {es:List Ed} (h:es.any (jiM n)=false):∀e∈es,okE n.toNat e:=by
 intro e he;have:=List.any_eq_false.1 h e he;simp only [jiM,inB,Bool.or_eq_true,Bool.not_eq_true',decide_eq_false_iff_not,not_or,Classical.not_not] at this;obtain ⟨⟨h1,h2⟩,h3,h4⟩:=this;exact ⟨⟨h1,by omega⟩,h3,by omega⟩
def joA (n:Nat) (r:List Int):List Bool:=(List.range n).map fun (k:Nat)=>decide ((k:Int)∈r)
open Classical in
noncomputable def rcB (es:List Ed) (a b:Int):Bool:=decide (Rc es a b)
theorem rcB_iff {es:List Ed} {a b:Int}:rcB es a b=true↔Rc es a b:=by simp [rcB]
noncomputable def jjw (es:List Ed) (n:Nat) (t:Int):List Bool:=(List.range n).map fun (k:Nat)=>rcB es t k
def jzP (es:List Ed) (n:Nat) (t:Int) (h:Nat) (r:List Int):Prop:=
 r.Nodup∧(∀x∈r,(0≤x∧x<n)∧Rc es t x)∧h≤(t::r).length∧∀j,j<h→∀x,(t::r)[j]?=some x→∀e∈es,e.src=x→e.dst∈r
def BIn (es:List Ed) (n:Nat) (t:Int) (h:Nat) (x:Int) (i:Nat) (r:List Int):Prop:=
 jzP es n t h r∧(t::r)[h]?=some x∧∀e∈es.take i,e.src=x→e.dst∈r
section
variable {es:List Ed} {n:Nat} {t x:Int} {h i:Nat} {r:List Int}
theorem jai:(joA n r).length=n:=by simp [joA]
theorem jiN {k:Nat} (hk:k<n):(joA n r)[k]?=some (decide ((k:Int)∈r)):=by simp [joA,hk]
theorem jxe {k:Nat} (hk:k<n):(joA n r).set k true=joA n (r++[(k:Int)]):=by
 apply List.ext_getElem?
 intro j;rw [List.getElem?_set];by_cases hj:j<n
 ·rw [jiN hj,jiN hj]
  by_cases e:k=j
  ·subst e;simp [jai,hk]
  ·have e':¬(j:Int)=k:=by omega
   simp [e,e']
 ·have h1:(joA n r)[j]?=none:=List.getElem?_eq_none (by rw [jai];omega)
  have h2:(joA n (r++[(k:Int)]))[j]?=none:=List.getElem?_eq_none (by rw [jai];omega)
  rw [h1,h2,if_neg (by omega)]
theorem jBV:jzP es n t 0 []:=⟨List.nodup_nil,by simp,by simp,fun j hj=>by omega⟩
theorem jrf (h:jzP es n t h r):r.length≤n:=jcv n r h.1 fun x hx=>(h.2.1 x hx).1
theorem bIn_0 (hb:jzP es n t h r) (hx:(t::r)[h]?=some x):BIn es n t h x 0 r:=⟨hb,hx,by simp⟩
theorem jxY {e:Ed} (hb:BIn es n t h x i r) (he:es[i]?=some e) (hq:e.src=x→e.dst∈r):BIn es n t h x (i+1) r:=by
 refine ⟨hb.1,hb.2.1,fun e' he'=>?_⟩
 rw [List.take_add_one,he] at he';rcases List.mem_append.1 he' with h1|h1
 ·exact hb.2.2 e' h1
 ·simp at h1;subst h1;exact hq
theorem jzL {e:Ed} (hb:BIn es n t h x i r) (he:es[i]?=some e) (hs:e.src=x) (hd:e.dst∉r) (hr:0≤e.dst∧e.dst<n) (ht:h=0→x=t):BIn es n t h x (i+1) (r++[e.dst]):=by
 obtain ⟨⟨h1,h2,h3,h4⟩,h5,h6⟩:=hb;have hm:e∈es:=List.mem_of_getElem? he
 have hR:Rc es t e.dst:=by
  have hE:isE es x e.dst:=⟨e,hm,hs,rfl⟩;cases h with
  |zero=>simp at h5;subst h5;exact .one hE
  |succ h=>exact .step (h2 x (List.mem_of_getElem? (by simpa using h5))).2 hE
 have hlt:h<(t::r).length:=(List.getElem?_eq_some_iff.1 h5).1;refine ⟨⟨?_,fun y hy=>?_,by simp at hlt⊢;omega,fun j hj y hy e' he' hse=>?_⟩,?_,fun e' he' hse=>?_⟩
 ·rw [List.nodup_append];exact ⟨h1,by simp,fun a ha b hb=>by simp at hb;subst hb;exact fun e=>hd (e▸ha)⟩
 ·rcases List.mem_append.1 hy with hy|hy
  ·exact h2 y hy
  ·simp at hy;subst hy;exact ⟨hr,hR⟩
 ·rw [show t::(r++[e.dst])=(t::r)++[e.dst] from rfl,List.getElem?_append_left (by omega)] at hy
  exact List.mem_append_left _ (h4 j hj y hy e' he' hse)
 ·rw [show t::(r++[e.dst])=(t::r)++[e.dst] from rfl,List.getElem?_append_left hlt];exact h5
 ·rw [List.take_add_one,he] at he'
  rcases List.mem_append.1 he' with h7|h7
  ·exact List.mem_append_left _ (h6 e' h7 hse)
  ·simp at h7;subst h7;simp
theorem jvl (hb:BIn es n t h x i r) (hi:es.length≤i):jzP es n t (h+1) r:=by
 obtain ⟨⟨h1,h2,h3,h4⟩,h5,h6⟩:=hb;rw [List.take_of_length_le hi] at h6;have hlt:h<(t::r).length:=(List.getElem?_eq_some_iff.1 h5).1;refine ⟨h1,h2,by omega,fun j hj y hy=>?_⟩
 by_cases e:j=h
 ·subst e;rw [h5] at hy;cases hy;exact h6
 ·exact h4 j (by omega) y hy
theorem jvm (hb:jzP es n t h r) (hl:(t::r).length≤h):joA n r=jjw es n t:=by
 obtain ⟨h1,h2,h3,h4⟩:=hb
 have hcl:∀x∈t::r,∀e∈es,e.src=x→e.dst∈r:=fun x hx=>by
  obtain ⟨j,hj,hxj⟩:=List.getElem_of_mem hx;exact h4 j (by omega) x (by rw [List.getElem?_eq_getElem hj,hxj])
 have hR:∀y,Rc es t y→y∈r:=by
  intro y hy
  induction hy with
  |one h=>obtain ⟨e,he,h5,h6⟩:=h;exact h6▸hcl _ (by simp) e he h5
  |step _ h ih=>obtain ⟨e,he,h5,h6⟩:=h;exact h6▸hcl _ (List.mem_cons_of_mem _ ih) e he h5
 unfold joA jjw;refine List.map_congr_left fun k _=>?_
 by_cases hk:(k:Int)∈r
 ·rw [decide_eq_true hk,rcB_iff.2 (h2 _ hk).2]
 ·rw [decide_eq_false hk]
  cases hq:rcB es t k with
  |true=>exact absurd (hR _ (rcB_iff.1 hq)) hk
  |false=>rfl
theorem jn5 {k:Nat} (hk:k<n):(jjw es n t)[k]?=some (rcB es t k):=by simp [jjw,hk]
theorem jfr:(jjw es n t).length=n:=by simp [jjw]
end
def jiY (n:Nat) (A:List Int):List Int:=(List.range n).flatMap fun (t:Nat)=>List.replicate (A.count (t:Int)) (t:Int)
theorem jxs (A:List Int):jiY 0 A=[]:=rfl
theorem jcj (n:Nat) (A:List Int):jiY (n+1) A=jiY n A++List.replicate (A.count (n:Int)) (n:Int):=by simp [jiY,List.range_succ]
theorem je6 {A:List Int}:∀{n:Nat} {x:Int},x∈jiY n A→(0≤x∧x<n)∧x∈A
 |0,x,h=>by simp [jiY] at h
 |n+1,x,h=>by
  rw [jcj] at h;rcases List.mem_append.1 h with h|h
  ·have:=je6 h;exact ⟨by omega,this.2⟩
  ·obtain ⟨h1,h2⟩:=List.mem_replicate.1 h
   refine ⟨by omega,?_⟩
   rw [h2];exact List.count_pos_iff.1 (by omega)
theorem jiX (A:List Int):∀(n:Nat),(jiY n A).Pairwise (· ≤ ·)
 |0=>by simp [jiY]
 |n+1=>by
  rw [jcj,List.pairwise_append];refine ⟨jiX A n,?_,fun a ha b hb=>?_⟩
  ·rw [List.pairwise_replicate];right;exact Int.le_refl _
  ·have:=je6 ha
   have:=(List.mem_replicate.1 hb).2;omega
theorem jkL (A:List Int) (x:Int):∀(n:Nat),(jiY n A).count x=if 0≤x∧x<n then A.count x else 0
 |0=>by rw [if_neg (by omega)];simp [jiY]
 |n+1=>by
  rw [jcj,List.count_append,jkL A x n,List.count_replicate];by_cases h:x=n
  ·subst h
   rw [if_neg (by omega),if_pos (by simp),if_pos (by omega)];omega
  ·have h2:((n:Int)==x)=false:=by simpa using fun e=>h e.symm
   simp only [h2,Bool.false_eq_true,if_false];by_cases h3:0≤x∧x<n
   ·rw [if_pos h3,if_pos (by omega)];rfl
   ·rw [if_neg h3,if_neg (by omega)]
theorem ja7 {n:Nat} {A:List Int} (h:∀x∈A,0≤x∧x<n):(jiY n A).Perm A:=by
 rw [List.perm_iff_count];intro x;rw [jkL];split
 ·rfl
 ·rename_i hx
  exact (List.count_eq_zero.2 fun hm=>hx (h x hm)).symm
theorem jvQ {n:Nat} {A:List Int} (h:∀x∈A,0≤x∧x<n):(jiY n A).length=A.length:=(ja7 h).length_eq
theorem jmX:∀{s t:List Int},s.Perm t→s.Pairwise (· ≤ ·)→t.Pairwise (· ≤ ·)→s=t
 |[],t,h,_,_=>h.nil_eq
 |a::s,[],h,_,_=>absurd h.length_eq (by simp)
 |a::s,b::t,h,h1,h2=>by
  rw [List.pairwise_cons] at h1 h2
  have hab:a=b:=by
   have ha:a∈b::t:=h.mem_iff.1 (by simp)
   have hb:b∈a::s:=h.mem_iff.2 (by simp)
   rcases List.mem_cons.1 ha with ha|ha
   ·exact ha
   rcases List.mem_cons.1 hb with hb|hb
   ·exact hb.symm
   exact Int.le_antisymm (h1.1 b hb) (h2.1 a ha)
  subst hab;rw [jmX ((List.perm_cons a).1 h) h1.2 h2.2]
theorem jrx {n:Nat} {A s:List Int} (h:∀x∈A,0≤x∧x<n) (hp:s.Perm A) (hs:s.Pairwise (· ≤ ·)):s=jiY n A:=jmX (hp.trans (ja7 h).symm) hs (jiX A n)
def swp (l:List Int) (j:Nat):List Int:=(l.set (j+1) (l.getD j 0)).set j (l.getD (j+1) 0)
theorem jvM {l:List Int} {j:Nat} (h:j+1<l.length):(swp l j).Perm l:=by
 have e:l=l.take j++l[j]::l[j+1]::l.drop (j+2):=by rw [←List.drop_eq_getElem_cons h,←List.drop_eq_getElem_cons,List.take_append_drop]
 have e2:swp l j=l.take j++l[j+1]::l[j]::l.drop (j+2):=by
  apply List.ext_getElem?
  intro k;have h1:l.getD j 0=l[j]:=by rw [List.getD_eq_getElem?_getD,List.getElem?_eq_getElem (by omega)];rfl
  have h2:l.getD (j+1) 0=l[j+1]:=by rw [List.getD_eq_getElem?_getD,List.getElem?_eq_getElem h];rfl
  have ht:(l.take j).length=j:=by rw [List.length_take];omega
  simp only [swp,h1,h2,List.getElem?_set,List.length_set];by_cases k1:j=k
  ·subst k1;rw [if_pos rfl,if_pos (by omega),List.getElem?_append_right (by omega),ht];simp
  ·rw [if_neg k1]
   by_cases k2:j+1=k
   ·subst k2;rw [if_pos rfl,if_pos (by omega),List.getElem?_append_right (by omega),ht];simp
   ·rw [if_neg k2]
    by_cases k3:k<j
    ·rw [List.getElem?_append_left (by omega),List.getElem?_take_of_lt k3]
    ·rw [List.getElem?_append_right (by omega),ht]
     obtain ⟨m,rfl⟩:∃m,k=j+2+m:=⟨k-(j+2),by omega⟩
     rw [show j+2+m-j=m+2 by omega,List.getElem?_cons_succ,List.getElem?_cons_succ,List.getElem?_drop]
 rw [e2]
 conv=>rhs;rw [e]
 exact List.Perm.append_left _ (List.Perm.swap _ _ _)
theorem jta {l:List Int} {j:Nat} (h:j+1<l.length) (p:Nat):(swp l j).getD p 0=if p=j then l.getD (j+1) 0 else if p=j+1 then l.getD j 0 else l.getD p 0:=by
 simp only [swp,List.getD_eq_getElem?_getD,List.getElem?_set,List.length_set];by_cases k1:p=j
 ·subst k1;simp [show p<l.length from by omega]
 by_cases k2:p=j+1
 ·subst k2;simp [h]
 ·have k3:¬j=p:=fun e=>k1 e.symm
  have k4:¬j+1=p:=fun e=>k2 e.symm
  simp [k1,k2,k3,k4]
def SO (A l:List Int) (i:Nat):Prop:=l.Perm A∧∀p q:Nat,p<q→q<i→l.getD p 0≤l.getD q 0
def SI (A l:List Int) (i j:Nat):Prop:=l.Perm A∧j≤i∧∀p q:Nat,p<q→q≤i→q≠j→l.getD p 0≤l.getD q 0
theorem SO_1 (A:List Int):SO A A 1:=⟨.refl A,fun p q h h'=>by omega⟩
theorem SI_0 {A l:List Int} {i:Nat} (h:SO A l i):SI A l i i:=⟨h.1,Nat.le_refl _,fun p q h1 h2 h3=>h.2 p q h1 (by omega)⟩
theorem jB4 {A l:List Int} {i j:Nat} (h:SI A l i (j+1)) (hi:i<l.length) (hlt:l.getD (j+1) 0<l.getD j 0):SI A (swp l j) i j:=by
 obtain ⟨h1,h2,h3⟩:=h;have hj:j+1<l.length:=by omega
 refine ⟨(jvM hj).trans h1,by omega,fun p q hpq hq hne=>?_⟩
 rw [jta hj,jta hj,if_neg hne];by_cases q1:q=j+1
 ·subst q1
  rw [if_pos rfl];by_cases p1:p=j
  ·rw [if_pos p1];omega
  ·rw [if_neg p1,if_neg (by omega)];exact h3 p j (by omega) (by omega) (by omega)
 ·rw [if_neg q1]
  by_cases p1:p=j
  ·rw [if_pos p1];exact h3 (j+1) q (by omega) hq q1
  ·rw [if_neg p1]
   by_cases p2:p=j+1
   ·rw [if_pos p2];exact h3 j q (by omega) hq q1
   ·rw [if_neg p2];exact h3 p q hpq hq q1
theorem jx2 {A l:List Int} {i j:Nat} (h:SI A l i j) (he:j=0∨∃k,j=k+1∧l.getD k 0≤l.getD j 0):SO A l (i+1):=by
 obtain ⟨h1,h2,h3⟩:=h;refine ⟨h1,fun p q hpq hq=>?_⟩
 by_cases e:q=j
 ·subst e
  rcases he with he|⟨k,rfl,h4⟩
  ·omega
  ·by_cases e2:p=k
   ·subst e2;exact h4
   ·exact Int.le_trans (h3 p k (by omega) (by omega) (by omega)) h4
 ·exact h3 p q hpq (by omega) e
theorem jB3 {A l:List Int} {i:Nat} (h:SO A l i) (hi:l.length≤i):l.Pairwise (· ≤ ·):=by
 rw [List.pairwise_iff_getElem];intro p q hp hq hpq;have:=h.2 p q hpq (by omega)
 rw [List.getD_eq_getElem?_getD,List.getD_eq_getElem?_getD,List.getElem?_eq_getElem hp,List.getElem?_eq_getElem hq] at this;exact this
theorem jxr {n:Nat} {A l:List Int} {i:Nat} (h:∀x∈A,0≤x∧x<n) (hs:SO A l i) (hi:l.length≤i):l=jiY n A:=jrx h hs.1 (jB3 hs hi)
def jeY (es:List Ed) (t:Int):List Int:=(es.filter fun e=>e.dst==t).map (·.src)
def jeX (es:List Ed) (t:Int):List Int:=(es.filter fun e=>e.src==t).map (·.dst)
def zt (p:Pl) (t:Int):List Int:=jiY p.tasks.toNat (jeY p.edges t)
def jbu (p:Pl) (t:Int):List Int:=jiY p.tasks.toNat (jeX p.edges t)
section
variable {es:List Ed} {k n:Nat} {e:Ed}
theorem joz (h:es[k]?=some e) (t:Int):jeY (es.take (k+1)) t=jeY (es.take k) t++(if e.dst=t then [e.src] else []):=by
 rw [List.take_add_one,h];by_cases ht:e.dst=t<;>simp [jeY,ht]
theorem joy (h:es[k]?=some e) (t:Int):jeX (es.take (k+1)) t=jeX (es.take k) t++(if e.src=t then [e.dst] else []):=by
 rw [List.take_add_one,h];by_cases ht:e.src=t<;>simp [jeX,ht]
theorem jsI (h:es[k]?=some e) (x t:Int):(jeY (es.take (k+1)) t).count x=(jeY (es.take k) t).count x+(if e.src=x∧e.dst=t then 1 else 0):=by
 rw [joz h,List.count_append];by_cases ht:e.dst=t<;>by_cases hx:e.src=x<;>simp [ht,hx]
theorem jsG (h:es[k]?=some e) (x t:Int):(jeX (es.take (k+1)) t).count x=(jeX (es.take k) t).count x+(if e.src=t∧e.dst=x then 1 else 0):=by
 rw [joy h,List.count_append];by_cases ht:e.src=t<;>by_cases hx:e.dst=x<;>simp [ht,hx]
theorem jj1 (hes:∀e∈es,okE n e) (t:Int):∀x∈jeY es t,0≤x∧x<n:=by
 intro x hx;simp only [jeY,List.mem_map,List.mem_filter] at hx;obtain ⟨e,⟨h1,-⟩,rfl⟩:=hx;exact (hes e h1).1
theorem jmI (hes:∀e∈es,okE n e) (t:Int):∀x∈jeX es t,0≤x∧x<n:=by
 intro x hx;simp only [jeX,List.mem_map,List.mem_filter] at hx;obtain ⟨e,⟨h1,-⟩,rfl⟩:=hx;exact (hes e h1).2
theorem jlp (h:es.Nodup) (t:Int):(jeY es t).Nodup:=by
 unfold jeY List.Nodup;rw [List.pairwise_map];refine List.Pairwise.imp_of_mem ?_ (List.Pairwise.filter _ h);intro a b ha hb hne hab;simp only [List.mem_filter,beq_iff_eq] at ha hb;exact hne (by cases a;cases b;simp_all)
theorem jlo (h:es.Nodup) (t:Int):(jeX es t).Nodup:=by
 unfold jeX List.Nodup;rw [List.pairwise_map];refine List.Pairwise.imp_of_mem ?_ (List.Pairwise.filter _ h);intro a b ha hb hne hab;simp only [List.mem_filter,beq_iff_eq] at ha hb;exact hne (by cases a;cases b;simp_all)
theorem jre (h:es.Nodup) (hes:∀e∈es,okE n e) (t:Int):(jeY es t).length≤n:=jcv n _ (jlp h t) (jj1 hes t)
theorem jxd (h:es.Nodup) (hes:∀e∈es,okE n e) (t:Int):(jeX es t).length≤n:=jcv n _ (jlo h t) (jmI hes t)
end
theorem jcb {p:Pl} (h:jw p=0):∃n:Nat,p.tasks=n∧1≤n∧n≤12∧p.edges.length≤30∧(∀e∈p.edges,okE n e)∧p.edges.Nodup∧(0≤p.prio∧p.prio≤9)∧(1≤p.most∧p.most≤5)∧(1≤p.wait∧p.wait≤20):=by
 unfold jw at h;cases hm:vH p
 ·rw [hm] at h
  simp only [Bool.false_eq_true,if_false] at h;cases hb:p.edges.any (jiM p.tasks)
  ·rw [hb] at h
   simp only [Bool.false_eq_true,if_false] at h;by_cases hd:p.edges.Nodup
   ·have hes:=jua hb
    simp only [vH,inB,Bool.or_eq_false_iff,Bool.not_eq_false',decide_eq_true_eq,decide_eq_false_iff_not] at hm;obtain ⟨⟨⟨⟨h1,h2⟩,h3⟩,h4⟩,h5⟩:=hm;exact ⟨p.tasks.toNat,by omega,by omega,by omega,by omega,hes,hd,h3,h4,h5⟩
   ·rw [decide_eq_false hd] at h
    simp at h
  ·rw [hb] at h;simp at h
 ·rw [hm] at h;simp at h
def stT (ts:List Tk) (b:Int):Int:=((ts[b.toNat]?).getD default).state
theorem jlE {ts:List Tk} {b:Int} {x:Tk} (h:ts[b.toNat]?=some x):stT ts b=x.state:=by simp [stT,h]
theorem kw {ts:List Tk} {k:Nat} {x:Tk} (h:ts[k]?=some x):stT ts (k:Int)=x.state:=by simp [stT,h]
def vO (s:Int) (ts:List Tk) (k:Nat):List Int:=((List.range k).filter fun (j:Nat)=>stT ts (j:Int)==s).map fun (j:Nat)=>(j:Int)
def qM (s:Int) (ts:List Tk):List Int:=vO s ts ts.length
def cS (s:Int) (ts:List Tk):Nat:=(qM s ts).length
theorem jxn (s:Int) (ts:List Tk):vO s ts 0=[]:=rfl
theorem jch {ts:List Tk} {k:Nat} {x:Tk} (h:ts[k]?=some x) (s:Int):vO s ts (k+1)=vO s ts k++(if x.state=s then [(k:Int)] else []):=by
 have hs:=kw h;by_cases hx:x.state=s<;>simp [vO,List.range_succ,hs,hx]
theorem vC (s:Int) (ts:List Tk) (k:Nat):(vO s ts k).length≤k:=by
 simp only [vO,List.length_map];exact Nat.le_trans (List.length_filter_le _ _) (by simp)
theorem jcg {ts:List Tk} (h:∀x∈ts,1≤x.state∧x.state≤6):∀(k:Nat),k≤ts.length→(vO 1 ts k).length+(vO 2 ts k).length+(vO 3 ts k).length+(vO 4 ts k).length+(vO 5 ts k).length+(vO 6 ts k).length=k
 |0,_=>rfl
 |k+1,hk=>by
  have ih:=jcg h k (by omega)
  have hx:ts[k]?=some ts[k]:=List.getElem?_eq_getElem (by omega)
  have:=h ts[k] (List.getElem_mem _);have:ts[k].state=1∨ts[k].state=2∨ts[k].state=3∨ts[k].state=4∨ts[k].state=5∨ts[k].state=6:=by omega
  simp only [jch hx,List.length_append];rcases this with h1|h1|h1|h1|h1|h1<;>simp [h1]<;>omega
theorem jrb {s:Int} {ts:List Tk} (h:cS s ts=0) {k:Nat} {x:Tk} (hx:ts[k]?=some x):x.state≠s:=by
 intro e;have hk:=(List.getElem?_eq_some_iff.1 hx).1
 have:(k:Int)∈qM s ts:=by
  simp only [qM,vO,List.mem_map,List.mem_filter,List.mem_range];exact ⟨k,⟨hk,by rw [kw hx];simpa using e⟩,rfl⟩
 rw [cS,List.length_eq_zero_iff] at h;rw [h] at this;simp at this
theorem jdB {s:Int} {ts:List Tk} (h:∀x∈ts,x.state≠s):cS s ts=0:=by
 rw [cS,List.length_eq_zero_iff,qM,vO,List.map_eq_nil_iff,List.filter_eq_nil_iff];intro k hk;rw [List.mem_range] at hk;have hx:ts[k]?=some ts[k]:=List.getElem?_eq_getElem hk;rw [kw hx];simpa using h _ (List.getElem_mem hk)
theorem jra {s:Int} {ts:List Tk} {k:Nat} {x:Tk} (hx:ts[k]?=some x) (h:x.state=s):0<cS s ts:=by
 rcases Nat.eq_zero_or_pos (cS s ts) with h0|h0
 ·exact absurd h (jrb h0 hx)
 ·exact h0
def jaD (p:Pl) (ts:List Tk) (t:Int):Int:=((((zt p t).filter fun b=>stT ts b !=4).length:Nat):Int)
def qT (p:Pl) (x:Tk):Bool:=if x.state=1 then decide (0<x.need) else if x.state=2 then (x.need==0&&decide (x.tri<p.most)) else if x.state=6 then true else (x.need==0&&decide (1≤x.tri))
def ja6 (x:Tk):Bool:=if x.state=3 then inB x.til 1 1000000000 else x.til==0
def jS (p:Pl) (ts:List Tk) (t:Nat) (x:Tk):Bool:=inB x.state 1 6&&x.need==jaD p ts t&&inB x.tri 0 p.most&&ja6 x&&qT p x
def jgo (ts:List Tk):Int:=if cS 4 ts=ts.length then 2 else if cS 5 ts=1∧cS 4 ts+cS 5 ts+cS 6 ts=ts.length then 3 else if cS 5 ts=0∧0<cS 6 ts∧cS 4 ts+cS 5 ts+cS 6 ts=ts.length then 4 else if cS 5 ts=0∧cS 6 ts=0 then 1 else 0
structure RunOkP (r:Rn):Prop where
 id:inB r.id 1 9999=true
 plan:jw r.plan=0
 len:(r.tasks.length:Int)=r.plan.tasks
 tasks:∀(t:Nat) (x:Tk),r.tasks[t]?=some x→jS r.plan r.tasks t x=true
 state:r.state=jgo r.tasks
 live:r.state≠0
open Classical in
noncomputable def kF (r:Rn):Bool:=decide (RunOkP r)
theorem runOk_iff {r:Rn}:kF r=true↔RunOkP r:=by simp [kF]
theorem qH {r:Rn} (h:¬RunOkP r):kF r=false:=by simp [kF,h]
theorem RunOkP.st {r:Rn} (h:RunOkP r):∀x∈r.tasks,1≤x.state∧x.state≤6:=by
 intro x hx;obtain ⟨k,hk,rfl⟩:=List.getElem_of_mem hx;have:=h.tasks k _ (List.getElem?_eq_getElem hk);simp only [jS,inB,Bool.and_eq_true,decide_eq_true_eq] at this;exact this.1.1.1.1
theorem RunOkP.runs {r:Rn} (h:RunOkP r) {t:Nat} {x:Tk} (hx:r.tasks[t]?=some x) (hs:x.state=3):r.state=1∧cS 5 r.tasks=0∧cS 6 r.tasks=0∧cS 4 r.tasks<r.tasks.length:=by
 have h3:=jra hx hs;have hsum:=jcg h.st r.tasks.length (Nat.le_refl _);have e1:=h.state;have e2:=h.live;change cS 1 r.tasks+cS 2 r.tasks+cS 3 r.tasks+cS 4 r.tasks+cS 5 r.tasks+cS 6 r.tasks=_ at hsum;unfold jgo at e1;split at e1
 ·omega
 ·split at e1
  ·omega
  ·split at e1
   ·omega
   ·split at e1
    ·exact ⟨e1,by omega,by omega,by omega⟩
    ·exact absurd e1 e2
def jaB (ts:List Tk) (b:Int):List Tk:=match ts[b.toNat]? with
 |some x=>ts.set b.toNat ⟨if IntKind.i64.wrap (x.need-1)=0 then 2 else x.state,IntKind.i64.wrap (x.need-1),x.tri,x.til⟩
 |none=>ts
theorem jtb (ts:List Tk) (b:Int):(jaB ts b).length=ts.length:=by unfold jaB;split<;>simp
theorem jfu:∀(l:List Int) (ts:List Tk),(l.foldl jaB ts).length=ts.length
 |[],_=>rfl
 |b::l,ts=>by rw [List.foldl_cons,jfu l,jtb]
theorem jvO {ts:List Tk} {b:Int} {q:Int→Prop} (h2:q 2) (h:∀x∈ts,q x.state):∀x∈jaB ts b,q x.state:=by
 unfold jaB;cases hx:ts[b.toNat]? with
 |none=>exact h
 |some x=>
  intro y hy;rcases List.mem_or_eq_of_mem_set hy with hy|rfl
  ·exact h y hy
  ·dsimp only;split
   ·exact h2
   ·exact h x (List.mem_of_getElem? hx)
theorem jqS {q:Int→Prop} (h2:q 2):∀{l:List Int} {ts:List Tk},(∀x∈ts,q x.state)→∀x∈l.foldl jaB ts,q x.state
 |[],_,h=>h
 |b::l,ts,h=>jqS h2 (l:=l) (ts:=jaB ts b) (jvO h2 h)
def vI (p:Pl) (ts:List Tk) (t:Nat) (x:Tk):List Tk:=(jbu p t).foldl jaB (ts.set t ⟨4,x.need,x.tri,0⟩)
def jhV (r:Rn) (t:Nat) (x:Tk):Rn:=⟨r.id,r.plan,if cS 4 (vI r.plan r.tasks t x)=r.tasks.length then 2 else r.state,vI r.plan r.tasks t x⟩
theorem jbk (p:Pl) (ts:List Tk) (t:Nat) (x:Tk):(vI p ts t x).length=ts.length:=by rw [vI,jfu,List.length_set]
theorem jhp {ts:List Tk} {t:Nat} {y:Tk} {q:Int→Prop} (hy:q y.state) (h:∀x∈ts,q x.state):∀x∈ts.set t y,q x.state:=by
 intro z hz;rcases List.mem_or_eq_of_mem_set hz with hz|rfl
 ·exact h z hz
 ·exact hy
theorem jmv {p:Pl} {ts:List Tk} {t:Nat} {x:Tk} {q:Int→Prop} (h2:q 2) (h4:q 4) (h:∀x∈ts,q x.state):∀y∈vI p ts t x,q y.state:=jqS h2 (jhp h4 h)
theorem jli {r:Rn} (h:RunOkP r) {t:Nat} {x:Tk} (hx:r.tasks[t]?=some x) (hs:x.state=3):jgo (vI r.plan r.tasks t x)=(jhV r t x).state:=by
 obtain ⟨e1,e2,e3,e4⟩:=h.runs hx hs;have h5:∀y∈r.tasks,y.state≠5:=fun y hy=>by obtain ⟨k,hk,rfl⟩:=List.getElem_of_mem hy;exact jrb e2 (List.getElem?_eq_getElem hk)
 have h6:∀y∈r.tasks,y.state≠6:=fun y hy=>by obtain ⟨k,hk,rfl⟩:=List.getElem_of_mem hy;exact jrb e3 (List.getElem?_eq_getElem hk)
 have c5:=jdB (jmv (p:=r.plan) (t:=t) (x:=x) (q:=fun s=>s≠5) (by decide) (by decide) h5)
 have c6:=jdB (jmv (p:=r.plan) (t:=t) (x:=x) (q:=fun s=>s≠6) (by decide) (by decide) h6)
 simp only [jgo,c5,c6,jbk,jhV,e1];simp
def qU (f:Nat→Tk→Tk) (ts:List Tk) (k:Nat):List Tk:=ts.mapIdx fun j x=>if j<k then f j x else x
section
variable {f:Nat→Tk→Tk} {ts:List Tk} {k:Nat} {x:Tk}
theorem vX:(qU f ts k).length=ts.length:=by simp [qU]
theorem jqD:qU f ts 0=ts:=by
 apply List.ext_getElem?
 intro j;simp [qU,List.getElem?_mapIdx]
theorem jfg (h:ts[k]?=some x):(qU f ts k)[k]?=some x:=by simp [qU,List.getElem?_mapIdx,h]
theorem jff (h:ts[k]?=some x):(qU f ts k).set k (f k x)=qU f ts (k+1):=by
 have hk:=(List.getElem?_eq_some_iff.1 h).1
 apply List.ext_getElem?
 intro j;rw [List.getElem?_set];by_cases e:k=j
 ·subst e
  rw [if_pos rfl,vX,if_pos hk];simp [qU,List.getElem?_mapIdx,h]
 ·rw [if_neg e]
  simp only [qU,List.getElem?_mapIdx];have:(j<k+1)=(j<k):=by apply propext;omega
  simp only [this]
theorem jnM (h:ts[k]?=some x) (hf:f k x=x):qU f ts (k+1)=qU f ts k:=by
 rw [←jff h,hf]
 apply List.ext_getElem?
 intro j;rw [List.getElem?_set];by_cases e:k=j
 ·subst e
  rw [if_pos rfl,jfg h,if_pos (by rw [vX];exact (List.getElem?_eq_some_iff.1 h).1)]
 ·rw [if_neg e]
theorem jk5 {g:Nat→Tk→Tk} (h:∀(j:Nat) (x:Tk),ts[j]?=some x→f j x=g j x) (k:Nat):qU f ts k=qU g ts k:=by
 apply List.ext_getElem?
 intro j;simp only [qU,List.getElem?_mapIdx];cases hx:ts[j]? with
 |none=>rfl
 |some x=>simp [h j x hx]
end
def qm (but:Int) (j:Nat) (x:Tk):Tk:=if (j:Int)≠but∧x.state≠4 then ⟨6,x.need,x.tri,0⟩ else x
def jA (j:Nat) (x:Tk):Tk:=if x.state≠4∧x.state≠5 then ⟨6,x.need,x.tri,0⟩ else x
def zg (r:Rn) (t:Nat) (x:Tk):Rn:=if x.tri<r.plan.most then ⟨r.id,r.plan,r.state,r.tasks.set t ⟨2,x.need,x.tri,0⟩⟩ else ⟨r.id,r.plan,3,qU jA (r.tasks.set t ⟨5,x.need,x.tri,0⟩) r.tasks.length⟩
theorem jpJ {r:Rn} (h:RunOkP r) {t:Nat} {x:Tk} (hx:r.tasks[t]?=some x) (hs:x.state=3) (k:Nat):qU (qm t) (r.tasks.set t ⟨5,x.need,x.tri,0⟩) k=qU jA (r.tasks.set t ⟨5,x.need,x.tri,0⟩) k:=by
 obtain ⟨e1,e2,e3,e4⟩:=h.runs hx hs;refine jk5 (fun j y hy=>?_) k
 have ht:=(List.getElem?_eq_some_iff.1 hx).1;rw [List.getElem?_set] at hy;by_cases e:t=j
 ·subst e
  rw [if_pos rfl,if_pos ht] at hy;simp only [Option.some.injEq] at hy;subst hy;simp [qm,jA]
 ·rw [if_neg e] at hy
  have h5:y.state≠5:=jrb e2 hy;have hj:(j:Int)≠t:=by omega
  simp [qm,jA,h5,hj]
noncomputable def vq (r:Rn) (t:Int):Bool:=inB t 0 (r.tasks.length-1)&&stT r.tasks t==3&&kF r
noncomputable def qI (r:Rn) (t:Int):Rn:=if vq r t then jhV r t.toNat ((r.tasks[t.toNat]?).getD default) else r
noncomputable def jG (r:Rn) (t:Int):Rn:=if vq r t then zg r t.toNat ((r.tasks[t.toNat]?).getD default) else r
theorem jaJ {r:Rn} {t:Int} (h:vq r t=true):∃k x,t=((k:Nat):Int)∧r.tasks[k]?=some x∧x.state=3∧RunOkP r:=by
 simp only [vq,inB,Bool.and_eq_true,decide_eq_true_eq,beq_iff_eq,runOk_iff] at h;obtain ⟨⟨h1,h2⟩,h3⟩:=h;have hk:t.toNat<r.tasks.length:=by omega
 refine ⟨t.toNat,r.tasks[t.toNat],by omega,List.getElem?_eq_getElem hk,?_,h3⟩
 rw [jlE (List.getElem?_eq_getElem hk)] at h2;exact h2
theorem jey {r:Rn} {k:Nat} {x:Tk} (hx:r.tasks[k]?=some x) (h:vq r k=true):qI r k=jhV r k x:=by simp [qI,h,hx]
theorem jrN {r:Rn} {t:Int} (h:vq r t=false):qI r t=r:=by simp [qI,h]
theorem qC {r:Rn} {k:Nat} {x:Tk} (hx:r.tasks[k]?=some x) (h:vq r k=true):jG r k=zg r k x:=by simp [jG,h,hx]
theorem jew {r:Rn} {t:Int} (h:vq r t=false):jG r t=r:=by simp [jG,h]
theorem jnc (r:Rn) (t:Int):qO (jG r t)=qO r:=by
 unfold jG;split
 ·unfold zg
  split
  ·simp only [qO,List.length_set]
  ·simp only [qO,vX,List.length_set]
 ·rfl
def kt (a b:En):Bool:=decide (a.prio>b.prio∨a.prio=b.prio∧a.seq<b.seq)
structure jhJ (l:List En):Prop where
 most:l.length≤80
 ahead:∀(k:Nat) (a b:En),l[k]?=some a→l[k+1]?=some b→kt a b=true
open Classical in
noncomputable def zX (l:List En):Bool:=decide (jhJ l)
theorem je7 {l:List En} (h:jhJ l):zX l=true:=by simp [zX,h]
theorem jiy {l:List En} (h:¬jhJ l):zX l=false:=by simp [zX,h]
theorem shelf_iff {l:List En}:zX l=true↔jhJ l:=by simp [zX]
structure SeqP (q:Int) (l:List En):Prop where
 range:∀e∈l,1≤e.seq∧e.seq≤q-1
 apart:(l.map (·.seq)).Nodup
def zM (id t:Int) (l:List En):Nat:=(l.filter fun e=>e.run==id&&e.task==t).length
def jiV (y:Yd) (r:Rn) (l:List En) (t:Nat) (x:Tk):Prop:=
 (x.state=2→(∀e∈l,e.run=r.id→e.task=t→e.prio=r.plan.prio)∧zM r.id t l=1)∧(x.state=3→y.now+1≤x.til∧x.til≤y.now+r.plan.wait)
def joJ (y:Yd) (r:Rn) (l:List En):Prop:=∀(t:Nat) (x:Tk),r.tasks[t]?=some x→jiV y r l t x
open Classical in
noncomputable def zf (y:Yd) (r:Rn) (l:List En):Bool:=decide (joJ y r l)
theorem jfa {y:Yd} {r:Rn} {l:List En} (h:joJ y r l):zf y r l=true:=by simp [zf,h]
theorem jda {y:Yd} {r:Rn} {l:List En} (h:¬joJ y r l):zf y r l=false:=by simp [zf,h]
theorem runIn_iff {y:Yd} {r:Rn} {l:List En}:zf y r l=true↔joJ y r l:=by simp [zf]
structure YardOkP (y:Yd):Prop where
 now:0≤y.now∧y.now≤999999980
 seq:1≤y.seq∧y.seq≤1000000000
 four:y.shelf.length=4
 eight:y.runs.length≤8
 shelves:∀l∈y.shelf,jhJ l
 seqs:SeqP y.seq y.shelf.flatten
 right:∀r∈y.runs,RunOkP r
 place:∀(k:Nat) (r:Rn),y.runs[k]?=some r→runAt y r.id=k
 runs:∀r∈y.runs,joJ y r y.shelf.flatten
 slots:kZ y≤40
open Classical in
noncomputable def jD (y:Yd):Bool:=decide (YardOkP y)
theorem zu {y:Yd} (h:YardOkP y):jD y=true:=by simp [jD,h]
theorem qF {y:Yd} (h:¬YardOkP y):jD y=false:=by simp [jD,h]
theorem yard_iff {y:Yd}:jD y=true↔YardOkP y:=by simp [jD]
section
variable {l:List En} {k:Nat} {e:En} {id t:Int}
theorem jq7 (h:l[k]?=some e) (h1:e.run=id) (h2:e.task=t):zM id t (l.take (k+1))=zM id t (l.take k)+1:=by
 rw [List.take_add_one,h];simp [zM,List.filter_append,h1,h2]
theorem jmC (h:l[k]?=some e) (h1:¬(e.run=id∧e.task=t)):zM id t (l.take (k+1))=zM id t (l.take k):=by
 rw [List.take_add_one,h];by_cases h2:e.run=id
 ·have h3:¬e.task=t:=fun h3=>h1 ⟨h2,h3⟩
  simp [zM,List.filter_append,h2,h3]
 ·simp [zM,List.filter_append,h2]
theorem ju6 (l:List En) (id t:Int):zM id t l≤l.length:=List.length_filter_le _ _
theorem jtu {j:Nat} {e2:En} (h:l[k]?=some e) (hj:j<k) (h2:l[j]?=some e2) (he:e2.seq=e.seq):¬(l.map (·.seq)).Nodup:=by
 intro hd;obtain ⟨a1,b1⟩:=List.getElem?_eq_some_iff.1 h;obtain ⟨a2,b2⟩:=List.getElem?_eq_some_iff.1 h2;have:=List.pairwise_iff_getElem.1 hd j k (by simpa using a2) (by simpa using a1) hj
 simp [b1,b2,he] at this
theorem jts (h:l[k]?=some e) (hn:((l.take k).map (·.seq)).Nodup) (hx:∀e2∈l.take k,e2.seq≠e.seq):((l.take (k+1)).map (·.seq)).Nodup:=by
 rw [List.take_add_one,h];simp only [Option.toList_some,List.map_append,List.map_cons,List.map_nil];rw [List.nodup_append];refine ⟨hn,by simp,fun a ha b hb e'=>?_⟩
 simp at hb;subst hb;obtain ⟨e2,h1,h2⟩:=List.mem_map.1 ha;exact hx e2 h1 (by rw [h2,e'])
end
theorem jrH {α:Type} {enc:α→List D} {size:Nat} (hs:∀x,(enc x).length=size) (l:List α) (k:Nat) (v:α):k<l.length→kD (l.flatMap enc) (k*size) (enc v)=(l.set k v).flatMap enc:=by
 intro hk;have h1:(l.flatMap enc).length=l.length*size:=jH hs l;have h2:(k+1)*size≤l.length*size:=Nat.mul_le_mul_right _ hk;rw [kU _ _ _ (by rw [hs,h1,←Nat.succ_mul];exact h2),hs]
 have e:l=l.take k++l[k]::l.drop (k+1):=by rw [←List.drop_eq_getElem_cons hk,List.take_append_drop]
 have e2:l.set k v=l.take k++v::l.drop (k+1):=by rw [List.set_eq_take_append_cons_drop,if_pos hk]
 have h3:((l.take k).flatMap enc).length=k*size:=by rw [jH hs,List.length_take,Nat.min_eq_left (by omega)]
 have h4:l.flatMap enc=(l.take k++l[k]::l.drop (k+1)).flatMap enc:=congrArg (List.flatMap enc) e;rw [List.flatMap_append,List.flatMap_cons] at h4;rw [e2,h4,List.take_left' h3];simp only [List.flatMap_append,List.flatMap_cons,List.append_assoc]
 congr 2
 rw [←List.append_assoc,List.drop_left' (by rw [List.length_append,h3,hs])]
theorem jdc {α:Type} {enc:α→List D} {size ty:Nat} (hs:∀x,(enc x).length=size) {l:List α} {k:Nat} (v:α) (hk:k<l.length):D.put [] (k*size) (enc v) (.sl size ty (l.flatMap enc))=.sl size ty ((l.set k v).flatMap enc):=by
 simp only [D.put,jrH hs l k v hk]
theorem jbA {l:List Int} {k:Nat} (v:Int) (hk:k<l.length):D.put [] (k*1) [.val (.int .i64 v)] (jh l)=jh (l.set k v):=jdc (enc:=fun n=>[iv n]) (fun _=>rfl) v hk
abbrev jyf:TypeId:=4
def qv (l:List Bool):D:=.sl 1 jyf (l.flatMap (fun b=>[D.val (.bool b)]))
section
variable {P:Program} {β:Nat} {s:St}
theorem jnO (l:List Bool):(qv l).len=l.length:=jaO (enc:=fun b=>[D.val (.bool b)]) (fun _=>rfl) (by decide) _ _
theorem jfy {l:List Bool} {k:Nat} {x:Bool} (h:l[k]?=some x):(qv l).elem k=[D.val (.bool x)]:=zJ (enc:=fun b=>[D.val (.bool b)]) (fun _=>rfl) h
theorem joW (l:List Bool):(qv l).isSl=true:=(rfl)
theorem joU (l:List Bool):(qv l).size=1:=(rfl)
theorem jnG (l:List Bool) (g:Nat) (η:js):(qv l).obj g η=[(g,.loose (qv l) η)]:=(rfl)
theorem jnE (l:List Bool) (g c:Nat) (p:List Nat) (η:js):(qv l).toOwn g c p η=.h g c p (η p):=(rfl)
theorem jkB (l:List Bool):(qv l).cells=l.flatMap (fun b=>[D.val (.bool b)]):=(rfl)
theorem jeW {l:List Bool} {k:Nat} {x:Bool} (h:l[k]?=some x):((l.flatMap (fun b=>[D.val (.bool b)])).drop (k*1)).take 1=[D.val (.bool x)]:=jfy h
theorem jbE {l:List Bool} {k:Nat} (h:k<l.length):k*1+1≤(l.flatMap (fun b=>[D.val (.bool b)])).length:=by rw [jH (enc:=fun b=>[D.val (.bool b)]) (size:=1) (fun _=>rfl)];omega
theorem jnn {l:List Bool} {k:Nat} (v:Bool) (hk:k<l.length):D.put [] (k*1) [D.val (.bool v)] (qv l)=qv (l.set k v):=jdc (enc:=fun b=>[D.val (.bool b)]) (fun _=>rfl) v hk
attribute [go_sem] jnO joW joU jnG jnE jkB
theorem jdP (l:List Bool):kb (l.flatMap (fun b=>[D.val (.bool b)]))=true:=by
 induction l with
 |nil=>rfl
 |cons x l ih=>rw [List.flatMap_cons,vx,ih];rfl
attribute [go_sem] jdP
end
theorem jrU {l:List (En)} {k:Nat} (v:En) (hk:k<l.length):D.put [] (k*4) (jk v) (jm l)=jm (l.set k v):=jdc (enc:=jk) (fun _=>rfl) v hk
theorem jrR {l:List (Tk)} {k:Nat} (v:Tk) (hk:k<l.length):D.put [] (k*4) (jo v) (jB l)=jB (l.set k v):=jdc (enc:=jo) (fun _=>rfl) v hk
theorem jrT {l:List (Rn)} {k:Nat} (v:Rn) (hk:k<l.length):D.put [] (k*8) (jd v) (jK l)=jK (l.set k v):=jdc (enc:=jd) (fun _=>rfl) v hk
theorem jnm {l:List (List En)} {k:Nat} (v:List En) (hk:k<l.length):D.put [] (k*1) ([jm v]) (ku l)=ku (l.set k v):=jdc (enc:=fun es=>[jm es]) (fun _=>rfl) v hk
theorem jbz {l:List Tk} {k:Nat} (a b c d:Int) (hk:k<l.length):D.put [] (k*4) [.val (.int .i64 a),.val (.int .i64 b),.val (.int .i64 c),.val (.int .i64 d)] (jB l)=jB (l.set k ⟨a,b,c,d⟩):=jrR ⟨a,b,c,d⟩ hk
theorem jfw:∀{l:List D} (a b:Nat),kb l=true→kb ((l.drop a).take b)=true
 |[],a,b,_=>by simp [kb]
 |.sl _ _ _::l,a,b,h=>by simp [kb] at h
 |.val u::l,0,0,_=>rfl
 |.val u::l,0,b+1,h=>by
  simp only [kb,Bool.and_eq_true] at h;simp only [List.drop_zero,List.take_succ_cons,kb,h.1,Bool.true_and];exact jfw (l:=l) 0 b h.2
 |.val u::l,a+1,b,h=>by
  simp only [kb,Bool.and_eq_true] at h;exact jfw (l:=l) a b h.2
theorem jpI (l:List Int) (a b:Nat):kb (((l.flatMap (fun n=>[iv n])).drop a).take b)=true:=jfw a b (jfv l)
attribute [go_sem] jpI
theorem jsu (l:List Tk) (a b:Nat):kb (((l.flatMap (jo)).drop a).take b)=true:=jfw a b (jhz l)
attribute [go_sem] jsu
theorem jod (l:List Bool) (a b:Nat):kb (((l.flatMap (fun b=>[D.val (.bool b)])).drop a).take b)=true:=jfw a b (jdP l)
attribute [go_sem] jod
theorem jyZ (n:Nat):D.sl 1 jgn (List.replicate n [D.val (.int .i64 0)]).flatten=jh (List.replicate n 0):=by simp [jh,List.flatMap,iv]
theorem jwq (n:Nat):D.sl 1 jyf (List.replicate n [D.val (.bool false)]).flatten=qv (List.replicate n false):=by simp [qv,List.flatMap]
theorem jog {α:Type} {enc:α→List D} {size:Nat} (hs:∀x,(enc x).length=size):∀(l:List α) (k:Nat),(l.flatMap enc).drop (k*size)=(l.drop k).flatMap enc
 |[],k=>by simp
 |x::l,0=>by simp
 |x::l,k+1=>by
  rw [List.flatMap_cons,List.drop_succ_cons,←jog hs l k,Nat.succ_mul,Nat.add_comm,←List.drop_drop,List.drop_left' (hs x)]
theorem jmU {α:Type} {enc:α→List D} {size:Nat} (hs:∀x,(enc x).length=size):∀(l:List α) (k:Nat),(l.flatMap enc).take (k*size)=(l.take k).flatMap enc
 |[],k=>by simp
 |x::l,0=>by simp
 |x::l,k+1=>by
  rw [List.flatMap_cons,List.take_succ_cons,List.flatMap_cons,←jmU hs l k,Nat.succ_mul,Nat.add_comm,List.take_append,hs,Nat.add_sub_cancel_left,List.take_of_length_le (by rw [hs];omega)]
theorem jp4 {α:Type} {enc:α→List D} {size ty:Nat} (hs:∀x,(enc x).length=size) (l:List α) (a b:Nat):(D.sl size ty (l.flatMap enc)).sub a b=.sl size ty (((l.drop a).take (b-a)).flatMap enc):=by
 simp only [D.sub,jog hs,jmU hs]
theorem jrw (l:List Ed) (a b:Nat):(jy l).sub a b=jy ((l.drop a).take (b-a)):=jp4 (enc:=jO) (fun _=>rfl) l a b
theorem jrv (l:List En) (a b:Nat):(jm l).sub a b=jm ((l.drop a).take (b-a)):=jp4 (enc:=jk) (fun _=>rfl) l a b
attribute [go_sem] Nat.zero_le jrw jrv Nat.sub_zero List.drop_zero
def jds {α:Type} (f:α→Bool):List α→Int
 |[]=>-1
 |x::l=>if f x then 0 else match jds f l with
  |.ofNat k=>.ofNat (k+1)
  |.negSucc k=>.negSucc k
theorem jak {α:Type} {f:α→Bool}:∀{l:List α},(∀y∈l,f y=false)→jds f l=-1
 |[],_=>rfl
 |x::l,h=>by rw [jds,h x (by simp),jak fun y hy=>h y (by simp [hy])];rfl
theorem jbj {α:Type} {f:α→Bool}:∀{l:List α} {k:Nat} {x:α},l[k]?=some x→f x=true→(∀y∈l.take k,f y=false)→jds f l=k
 |[],_,_,h,_,_=>by simp at h
 |a::l,0,x,h,hx,_=>by simp at h;subst h;rw [jds,hx];rfl
 |a::l,k+1,x,h,hx,hn=>by
  rw [jds,hn a (by simp),jbj (k:=k) (by simpa using h) hx fun y hy=>hn y (by simp [hy])];rfl
theorem zq {α:Type} (f:α→Bool) (l:List α):(jds f l=-1∧∀y∈l,f y=false)∨∃k x,jds f l=((k:Nat):Int)∧l[k]?=some x∧f x=true∧∀y∈l.take k,f y=false:=by
 induction l with
 |nil=>exact .inl ⟨rfl,by simp⟩
 |cons a l ih=>
  cases ha:f a with
  |true=>exact .inr ⟨0,a,by rw [jds,ha];rfl,rfl,ha,by simp⟩
  |false=>
   rcases ih with ⟨h1,h2⟩|⟨k,x,h1,h2,h3,h4⟩
   ·exact .inl ⟨jak (fun y hy=>by rcases List.mem_cons.1 hy with rfl|hy<;>simp_all),fun y hy=>by rcases List.mem_cons.1 hy with rfl|hy<;>simp_all⟩
   ·have h5:(a::l)[k+1]?=some x:=by simpa using h2
    have h6:∀y∈(a::l).take (k+1),f y=false:=fun y hy=>by
     rw [List.take_succ_cons] at hy;rcases List.mem_cons.1 hy with rfl|hy
     ·exact ha
     ·exact h4 y hy
    exact .inr ⟨k+1,x,jbj h5 h3 h6,h5,h3,h6⟩
theorem jlA {α:Type} {f:α→Bool} {l:List α} {k:Nat} {x:α} (h:l[k]?=some x) (hx:f x=false) (hn:∀y∈l.take k,f y=false):∀y∈l.take (k+1),f y=false:=by
 intro y hy;rw [List.take_add_one,h] at hy;rcases List.mem_append.1 hy with hy|hy
 ·exact hn y hy
 ·simp at hy;subst hy;exact hx
theorem vg (l:List Int) (a:Int):D.sl 1 jgn (l.flatMap (fun n=>[iv n])++[.val (.int .i64 a)])=jh (l++[a]):=by simp [jh]
theorem jwy (a:Int):D.sl 1 jgn [.val (.int .i64 a)]=jh [a]:=by simp [jh]
theorem stH_t (p:List Nat) (k n:Nat) (η:js) (K:js→Prop):stH true p k n η K=K η:=(rfl)
attribute [go_sem] stH_t jz6
def jd1:C:=iS [iA 1 (.box 49 5 (.t 0)),iA 2 (iO false)] (iS [iA 3 (iF 3 1),iA 4 (iL 3),iA 5 (.call 68 [.t 4,.c (.int .i64 1),.c (.int .i64 12)]),iA 6 (iU 5),iA 7 (iM 6),iB 8 7 false (iF 4 1),iB 9 7 false (iL 8),iB 10 7 false (iG 9),iB 11 7 false (iQ .gtr 3 10 30),iA 12 (.pick (.t 7) (.c (.bool true)) (.t 11)),iA 13 (iM 12),iB 14 13 false (iF 0 1),iB 15 13 false (iL 14),iB 16 13 false (.call 68 [.t 15,.c (.int .i64 0),.c (.int .i64 9)]),iB 17 13 false (iU 16),iA 18 (.pick (.t 13) (.c (.bool true)) (.t 17)),iA 19 (iM 18),iB 20 19 false (iF 1 1),iB 21 19 false (iL 20),iB 22 19 false (.call 68 [.t 21,.c (.int .i64 1),.c (.int .i64 5)]),iB 23 19 false (iU 22),iA 24 (.pick (.t 19) (.c (.bool true)) (.t 23)),iA 25 (iM 24),iB 26 25 false (iF 2 1),iB 27 25 false (iL 26),iB 28 25 false (.call 68 [.t 27,.c (.int .i64 1),.c (.int .i64 20)]),iB 29 25 false (iU 28),iA 30 (.pick (.t 25) (.c (.bool true)) (.t 29)),iA 2 (iM 30)] .ret)
theorem jgU:fnC Tryz.prog Tryz.f166=some (jd1,[.t 2],31):=by kernel_rfl
def jd2:C:=iS [iA 2 (.box 49 5 (.t 0)),iA 4 (.mov (.c (.slice none 0 0)))] (iS [iA 10 (iF 3 2),iA 11 (iL 10),iA 12 (.mks 4 1 1 [D.val (.bool false)] (.t 11) (.t 11)),iA 5 (iM 12)] (iS [iA 13 (iM 1),iA 14 (.bsl 3 1 1 [none] [(0,1,.t 13)]),iA 6 (iM 14)] (.seq (iS [iA 7 (iN 0)] (.blk 0 (.loop (.seq (iS [iA 15 (iM 7),iA 16 (iM 6),iA 17 (iG 16),iA 18 (iP .lss 3 15 17)] (iD 18 .skip (.exit 0))) (.seq (.blk 1 (iS [iA 8 (iN 0)] (.blk 2 (.loop (.seq (iS [iA 21 (iM 8),iA 22 (iF 4 2),iA 23 (iL 22),iA 24 (iG 23),iA 25 (iP .lss 3 21 24)] (iD 25 .skip (.exit 2))) (.seq (.blk 3 (iS [iA 28 (iF 4 2),iA 29 (iL 28),iA 30 (iM 8),iA 31 (iI 2 29 30),iA 32 (iT 2 31),iA 9 (.alloc 161 [.int .i64 0,.int .i64 0]),iC (.st 2 [none,none] (.t 9) (.t 32))] (.seq (.dreg (T.pure 0 (iA 33 (iF 0 9)) (T.pure 1 (iA 34 (iL 33)) (T.pure 2 (iA 35 (iM 6)) (T.pure 3 (iA 36 (iM 7)) (T.pure 4 (iA 37 (iI 1 35 36)) (T.pure 5 (iA 38 (iL 37)) (T.pure 6 (iA 39 (iP .eql 3 34 38)) (T.pure 7 (iA 40 (iM 39)) (T.pure 8 (iB 41 40 true (iM 5)) (T.pure 9 (iB 42 40 true (iF 1 9)) (T.pure 10 (iB 43 40 true (iL 42)) (T.pure 11 (iB 44 40 true (iI 1 41 43)) (T.pure 12 (iB 45 40 true (iL 44)) (T.pure 13 (iB 46 40 true (iU 45)) (T.pure 14 (iA 47 (.pick (.t 40) (.t 46) (.c (.bool false)))) T.done)))))))))))))))) (iD 47 (iS [iA 48 (iM 5),iA 49 (iF 1 9),iA 50 (iL 49),iA 51 (iI 1 48 50),iC (.st 1 [none] (.t 51) (.c (.bool true)))] (.reg [iA 52 (iM 6),iA 53 (iF 1 9),iA 54 (iL 53),iA 55 (.bsl 3 1 1 [none] [(0,1,.t 54)]),iA 56 (.app 3 1 8 (.t 52) (.t 55)),iA 6 (iM 56)])) .skip)))) (.reg [iA 26 (iM 8),iA 27 (iQ .add 3 26 1),iA 8 (iM 27)]))))))) (.reg [iA 19 (iM 7),iA 20 (iQ .add 3 19 1),iA 7 (iM 20)])))))) (iS [iA 57 (iM 5),iA 4 (iM 57)] .ret))))
theorem jgV:fnC Tryz.prog Tryz.f167=some (jd2,[.t 4],58):=by kernel_rfl
def jbY:C:=iS [iA 1 (.box 49 5 (.t 0)),iA 2 (iN 0)] (.seq (iS [iA 7 (iT 5 1),iA 8 (.call 166 [.t 7])] (iD 8 (iS [iA 2 (iN 1)] .ret) .skip)) (.seq (iS [iA 3 (iN 0)] (.blk 0 (.loop (.seq (iS [iA 9 (iM 3),iA 10 (iF 4 1),iA 11 (iL 10),iA 12 (iG 11),iA 13 (iP .lss 3 9 12)] (iD 13 .skip (.exit 0))) (.seq (.blk 1 (.seq (.dreg (T.pure 0 (iA 16 (iF 4 1)) (T.pure 1 (iA 17 (iL 16)) (T.pure 2 (iA 18 (iM 3)) (T.pure 3 (iA 19 (iI 2 17 18)) (T.pure 4 (iA 20 (iF 0 19)) (T.pure 5 (iA 21 (iL 20)) (T.pure 6 (iA 22 (iF 3 1)) (T.pure 7 (iA 23 (iL 22)) (T.pure 8 (iA 24 (iQ .sub 3 23 1)) (T.alt (iA 25 (.call 68 [.t 21,.c (.int .i64 0),.t 24])) [] (T.pure 10 (iA 26 (iU 25)) (T.pure 11 (iA 27 (iM 26)) (T.pure 12 (iB 28 27 false (iF 4 1)) (T.pure 13 (iB 29 27 false (iL 28)) (T.pure 14 (iB 30 27 false (iM 3)) (T.pure 15 (iB 31 27 false (iI 2 29 30)) (T.pure 16 (iB 32 27 false (iF 1 31)) (T.pure 17 (iB 33 27 false (iL 32)) (T.pure 18 (iB 34 27 false (iF 3 1)) (T.pure 19 (iB 35 27 false (iL 34)) (T.pure 20 (iB 36 27 false (iQ .sub 3 35 1)) (T.alt (iB 37 27 false (.call 68 [.t 33,.c (.int .i64 0),.t 36])) [] (T.pure 22 (iB 38 27 false (iU 37)) (T.pure 23 (iA 39 (.pick (.t 27) (.c (.bool true)) (.t 38))) T.done)) T.stop)))))))))))) T.stop))))))))))) (iD 39 (iS [iA 2 (iN 2)] .ret) .skip))) (.reg [iA 14 (iM 3),iA 15 (iQ .add 3 14 1),iA 3 (iM 15)])))))) (.seq (iS [iA 4 (iN 0)] (.blk 2 (.loop (.seq (iS [iA 40 (iM 4),iA 41 (iF 4 1),iA 42 (iL 41),iA 43 (iG 42),iA 44 (iP .lss 3 40 43)] (iD 44 .skip (.exit 2))) (.seq (.blk 3 (iS [iA 5 (iN 0)] (.blk 4 (.loop (.seq (iS [iA 47 (iM 5),iA 48 (iM 4),iA 49 (iP .lss 3 47 48)] (iD 49 .skip (.exit 4))) (.seq (.blk 5 (.seq (.dreg (T.pure 0 (iA 52 (iF 4 1)) (T.pure 1 (iA 53 (iL 52)) (T.pure 2 (iA 54 (iM 4)) (T.pure 3 (iA 55 (iI 2 53 54)) (T.pure 4 (iA 56 (iT 2 55)) (T.pure 5 (iA 57 (iF 4 1)) (T.pure 6 (iA 58 (iL 57)) (T.pure 7 (iA 59 (iM 5)) (T.pure 8 (iA 60 (iI 2 58 59)) (T.pure 9 (iA 61 (iT 2 60)) (T.pure 10 (iA 62 (iP .eql 161 56 61)) T.done)))))))))))) (iD 62 (iS [iA 2 (iN 3)] .ret) .skip))) (.reg [iA 50 (iM 5),iA 51 (iQ .add 3 50 1),iA 5 (iM 51)]))))))) (.reg [iA 45 (iM 4),iA 46 (iQ .add 3 45 1),iA 4 (iM 46)])))))) (.seq (iS [iA 6 (iN 0)] (.blk 6 (.loop (.seq (iS [iA 63 (iM 6),iA 64 (iF 3 1),iA 65 (iL 64),iA 66 (iP .lss 3 63 65)] (iD 66 .skip (.exit 6))) (.seq (.blk 7 (iS [iA 69 (iT 5 1),iA 70 (iM 6),iA 71 (.call 167 [.t 69,.t 70]),iA 72 (iM 6),iA 73 (iI 1 71 72),iA 74 (iL 73)] (iD 74 (iS [iA 2 (iN 4)] .ret) .skip))) (.reg [iA 67 (iM 6),iA 68 (iQ .add 3 67 1),iA 6 (iM 68)])))))) (iS [iA 2 (iN 0)] .ret)))))
theorem jeN:fnC Tryz.prog Tryz.f112=some (jbY,[.t 2],75):=by kernel_rfl
def qd:C:=iS [iA 3 (.box 161 2 (.t 1)),iA 4 (iN 0)] (.seq (iS [iA 6 (iM 0),iA 7 (iG 6),iA 8 (iN 0)] (.blk 0 (.loop (iS [iA 9 (iP .lss 3 8 7)] (.seq (iD 9 .skip (.exit 0)) (.seq (.blk 1 (iS [iA 10 (iM 8),iA 5 (iM 10)] (.seq (.dreg (T.pure 0 (iA 11 (iT 2 3)) (T.pure 1 (iA 12 (iM 0)) (T.pure 2 (iA 13 (iM 5)) (T.pure 3 (iA 14 (iI 2 12 13)) (T.pure 4 (iA 15 (iT 2 14)) (T.pure 5 (iA 16 (iP .eql 161 11 15)) T.done))))))) (iD 16 (iS [iA 17 (iM 5),iA 4 (iM 17)] .ret) .skip)))) (.reg [iA 18 (iQ .add 3 8 1),iA 8 (iM 18)]))))))) (iS [iA 4 (iN (-1))] .ret))
theorem vi:fnC Tryz.prog Tryz.f193=some (qd,[.t 4],19):=by kernel_rfl
def kP:C:=iS [iA 3 (.box 161 2 (.t 1)),iA 4 (iO false)] (iS [iA 5 (iM 0),iA 6 (iT 2 3),iA 7 (.call 193 [.t 5,.t 6]),iA 8 (iQ .geq 3 7 0),iA 4 (iM 8)] .ret)
theorem qQ:fnC Tryz.prog Tryz.f161=some (kP,[.t 4],9):=by kernel_rfl
theorem jj9 (p:Pl):kj Tryz.prog 166 [.agg (ja p)] (.c (.val (.bool (vH p)))):=by
 refine jq Tryz.func166 jgU (by simp) ?_
 unfold jd1;simp only [go_sem,ja];intro b;refine jc (jL p.tasks 1 12) (by simp only [go_sem,ja]) fun η=>?_
 simp only [go_sem,ja];cases h1:decide (1≤p.tasks∧p.tasks≤12)
 ·simp only [go_sem,ja,h1,vH,inB]
 ·by_cases h2:30<p.edges.length
  ·have h2':(p.edges.length:Int)>30:=by omega
   simp only [go_sem,ja,h1,h2,h2',vH,inB]
  ·have h2':¬(p.edges.length:Int)>30:=by omega
   simp only [go_sem,ja,h1,h2,h2'];refine jc (jL p.prio 0 9) (by simp only [go_sem,ja]) fun η=>?_
   simp only [go_sem,ja];cases h3:decide (0≤p.prio∧p.prio≤9)
   ·simp only [go_sem,ja,h1,h2,h2',h3,vH,inB]
   ·simp only [go_sem,ja,h1,h2,h2',h3]
    refine jc (jL p.most 1 5) (by simp only [go_sem,ja]) fun η=>?_
    simp only [go_sem,ja];cases h4:decide (1≤p.most∧p.most≤5)
    ·simp only [go_sem,ja,h1,h2,h2',h3,h4,vH,inB]
    ·simp only [go_sem,ja,h1,h2,h2',h3,h4]
     refine jc (jL p.wait 1 20) (by simp only [go_sem,ja]) fun η=>?_
     simp only [go_sem,ja];cases h5:decide (1≤p.wait∧p.wait≤20)
     ·simp only [go_sem,ja,h1,h2,h2',h3,h4,h5,vH,inB]
     ·simp only [go_sem,ja,h1,h2,h2',h3,h4,h5,vH,inB]
theorem jka (p:Pl) (n:Nat) (hn:p.tasks=n) (h12:n≤12) (h30:p.edges.length≤30) (hes:∀e∈p.edges,okE n e) (t:Nat) (ht:t<n):kj Tryz.prog 167 [.agg (ja p),.c (.val (.int .i64 t))] (.c (qv (jjw p.edges n t))):=by
 refine jq Tryz.func167 jgV (by simp) ?_
 unfold jd2;have hm:1*n≤281474976710656:=by omega
 have hml:n≤maxLen:=by unfold maxLen;omega
 have hrep:D.sl 1 jyf (List.replicate n [D.val (.bool false)]).flatten=qv (joA n []):=by
  rw [jwq]
  congr 1
  apply List.ext_getElem?
  intro k;by_cases hk:k<n
  ·rw [jiN hk];simp [hk]
  ·rw [List.getElem?_eq_none (by simp;omega),List.getElem?_eq_none (by rw [jai];omega)]
 have hint:D.sl 1 jgn [D.val (.int .i64 t)]=jh [(t:Int)]:=by simp [jh]
 simp only [go_sem,ja,hn];intro b;rw [jtz];refine ⟨.i64,.i64,n,by simp only [go_sem],by simp only [go_sem],hm,hml,fun η=>?_⟩
 simp only [go_sem,ja,hn,hrep,hint];intro η1;refine jn (fun i:Nat×List Int×js×js=>St.of [(2,Bx 200 b),(5,Hd 5 i.2.2.1),(6,Hd 6 i.2.2.2),(7,Ni i.1)] [(200,Bi b _ (ja p)),(5,.loose (qv (joA n i.2.1)) i.2.2.1),(6,.loose (jh ((t:Int)::i.2.1)) i.2.2.2)]) (fun i=>jzP p.edges n t i.1 i.2.1) (fun i=>n+1-i.1) (0,[],η,η1) (jBV) (jg [some 200,some 1200,some 1400] (by simp only [go_sem,ja,hn]<;>and_intros<;>first|rfl|assumption|trivial)) ?_
 rintro ⟨h,r,η2,η3⟩ hb;dsimp only at hb;have hrl:=jrf hb;have hll:((t:Int)::r).length=r.length+1:=rfl;by_cases hlt:h<r.length+1
 ·have hlt':(h:Int)<((r.length+1:Nat):Int):=by omega
  obtain ⟨x,hx⟩:=je (l:=(t:Int)::r) hlt;have hwh:IntKind.i64.wrap ((h:Int)+1)=((h+1:Nat):Int):=jf (by omega) (by omega)
  simp only [go_sem,hlt,hlt'];refine jn (fun i:Nat×List Int×js×js=>St.of [(2,Bx 200 b),(5,Hd 5 i.2.2.1),(6,Hd 6 i.2.2.2),(7,Ni h),(8,Ni i.1)] [(200,Bi b _ (ja p)),(5,.loose (qv (joA n i.2.1)) i.2.2.1),(6,.loose (jh ((t:Int)::i.2.1)) i.2.2.2)]) (fun i=>BIn p.edges n t h x i.1 i.2.1∧i.1≤p.edges.length) (fun i=>p.edges.length-i.1) (0,r,η2,η3) (⟨bIn_0 hb hx,Nat.zero_le _⟩) (jg [some 200,some 5,some 6] (by simp only [go_sem,ja,hn]<;>and_intros<;>first|rfl|assumption|trivial)) ?_
  rintro ⟨j,r1,η4,η5⟩ ⟨hj,hjl⟩;dsimp only at hj hjl;have hrl1:=jrf hj.1;have hll1:((t:Int)::r1).length=r1.length+1:=rfl;by_cases hjt:j<p.edges.length
  ·have hjt':(j:Int)<p.edges.length:=by omega
   obtain ⟨e,he⟩:=je hjt;obtain ⟨⟨e1,e2⟩,e3,e4⟩:=hes e (List.mem_of_getElem? he);have hwj:IntKind.i64.wrap ((j:Int)+1)=((j+1:Nat):Int):=jf (by omega) (by omega)
   have hqx:((t:Int)::r1)[h]?=some x:=hj.2.1;have hhl:h<((t:Int)::r1).length:=(List.getElem?_eq_some_iff.1 hqx).1;have hd:e.dst.toNat<n:=by omega
   have hdi:((e.dst.toNat:Nat):Int)=e.dst:=by omega
   have hgd:(joA n r1)[e.dst.toNat]?=some (decide (e.dst∈r1)):=by rw [jiN hd,hdi]
   have hdl:e.dst.toNat<(joA n r1).length:=by rw [jai];exact hd
   have hset:(joA n r1).set e.dst.toNat true=joA n (r1++[e.dst]):=by rw [jxe hd,hdi]
   have hone:1≤maxLen:=by unfold maxLen;omega
   have hq1:((t:Int)::r1).length+1≤maxLen:=by unfold maxLen;omega
   have hq2:(((t:Int)::r1).length+1)*8≤140737488355328:=by omega
   have hint2:D.sl 1 jgn [D.val (.int .i64 e.dst)]=jh [e.dst]:=by simp [jh]
   dsimp only;generalize hq:(t:Int)::r1=q at hqx hhl hll1 hq1 hq2⊢;simp only [go_sem,ja,hn,hjt,hjt',jx he,jO,jai,e3,hd];intro b2;simp only [go_sem,ja,hn,jO,jj hqx,ji hhl,hhl,e3,hd,jai];cases hxe:(e.src==x)
   ·have hne:e.src≠x:=by simpa using hxe
    simp only [go_sem,hwj];exact ⟨(j+1,r1,η4,η5),⟨jxY hj he fun h'=>absurd h' hne,by omega⟩,(jg [some 200,some 5,some 6] (by simp only [go_sem,ja,hn,←hq]<;>and_intros<;>first|rfl|assumption|trivial)),by (try dsimp only);omega⟩
   ·have hse:e.src=x:=by simpa using hxe
    simp only [go_sem,jO,e3,hd,jai,jeW hgd,jbE hdl,jfy hgd];by_cases hin:e.dst∈r1
    ·simp only [go_sem,hin,hwj]
     exact ⟨(j+1,r1,η4,η5),⟨jxY hj he fun _=>hin,by omega⟩,(jg [some 200,some 5,some 6] (by simp only [go_sem,ja,hn,←hq]<;>and_intros<;>first|rfl|assumption|trivial)),by (try dsimp only);omega⟩
    ·simp only [go_sem,hin,hwj,jO,e3,hd,jai,jnn true hdl,jbE hdl,hset,hq1,hq2,jwy,vg]
     intro η6 η7;exact ⟨(j+1,r1++[e.dst],η4,η7),⟨jzL hj he hse hin ⟨e3,e4⟩ (fun h0=>by subst h0;simpa using hj.2.1.symm),by omega⟩,(jg [some 200,some 5,some 5600] (by simp only [go_sem,ja,hn,←hq,List.cons_append]<;>and_intros<;>first|rfl|assumption|trivial)),by (try dsimp only);omega⟩
  ·have hjt':¬(j:Int)<p.edges.length:=by omega
   simp only [go_sem,ja,hn,hjt',hwh];exact ⟨(h+1,r1,η4,η5),jvl hj (by omega),(jg [some 200,some 5,some 6] (by simp only [go_sem,ja,hn]<;>and_intros<;>first|rfl|assumption|trivial)),by (try dsimp only);omega⟩
 ·have hlt':¬(h:Int)<((r.length+1:Nat):Int):=by omega
  simp only [go_sem,ja,hn,hlt',jvm hb (by omega)]
theorem jug {p:Pl} (h:vH p=false):∃n:Nat,p.tasks=n∧1≤n∧n≤12∧p.edges.length≤30∧(0≤p.prio∧p.prio≤9)∧(1≤p.most∧p.most≤5)∧(1≤p.wait∧p.wait≤20):=by
 simp only [vH,inB,Bool.or_eq_false_iff,Bool.not_eq_false',decide_eq_true_eq,decide_eq_false_iff_not] at h;obtain ⟨⟨⟨⟨h1,h2⟩,h3⟩,h4⟩,h5⟩:=h;exact ⟨p.tasks.toNat,by omega,by omega,by omega,by omega,h3,h4,h5⟩
theorem jgD {p:Pl} (h:vH p=true):jw p=1:=by simp [jw,h]
theorem jlQ {p:Pl} (h:vH p=false) {e:Ed} (he:e∈p.edges) (h2:jiM p.tasks e=true):jw p=2:=by
 have:p.edges.any (jiM p.tasks)=true:=List.any_eq_true.2 ⟨e,he,h2⟩;simp [jw,h,this]
theorem jxC {p:Pl} (h:vH p=false) (h2:p.edges.any (jiM p.tasks)=false) (h3:¬p.edges.Nodup):jw p=3:=by simp [jw,h,h2,h3]
theorem jxD {p:Pl} (h:vH p=false) (h2:p.edges.any (jiM p.tasks)=false) (h3:p.edges.Nodup) {t:Nat} (ht:(t:Int)<p.tasks) (h4:Rc p.edges t t):jw p=4:=by
 have:jBP p=true:=by simp only [jBP,decide_eq_true_eq];exact ⟨t,ht,h4⟩
 simp [jw,h,h2,h3,this]
theorem jyR {p:Pl} (h:vH p=false) (h2:p.edges.any (jiM p.tasks)=false) (h3:p.edges.Nodup) (h4:∀t:Nat,(t:Int)<p.tasks→¬Rc p.edges t t):jw p=0:=by
 have:jBP p=false:=by simp only [jBP,decide_eq_false_iff_not,not_exists,not_and];exact h4
 simp [jw,h,h2,h3,this]
theorem jrj {α:Type} {f:α→Bool} {l:List α} {k:Nat} {x:α} (h:l[k]?=some x) (hx:f x=false) (hn:(l.take k).any f=false):(l.take (k+1)).any f=false:=by
 rw [List.take_add_one,h];simp_all
theorem jq0 {l:List Ed} {k j:Nat} {x:Ed} (h:l[k]?=some x) (hj:j<k) (hx:l[j]?=some x):¬l.Nodup:=by
 intro hd;obtain ⟨h1,h2⟩:=List.getElem?_eq_some_iff.1 h;obtain ⟨h3,h4⟩:=List.getElem?_eq_some_iff.1 hx;exact List.pairwise_iff_getElem.1 hd j k h3 h1 hj (h4.trans h2.symm)
theorem jk1 {l:List Ed} {k:Nat} {x:Ed} (h:l[k]?=some x) (hn:(l.take k).Nodup) (hx:x∉l.take k):(l.take (k+1)).Nodup:=by
 rw [List.take_add_one,h];simp only [Option.toList_some];rw [List.nodup_append];exact ⟨hn,by simp,fun a ha b hb e=>by simp at hb;subst hb;exact hx (e▸ha)⟩
theorem vD (p:Pl):kj Tryz.prog 112 [.agg (ja p)] (.c (.val (.int .i64 (jw p)))):=by
 refine jq Tryz.func112 jeN (by simp) ?_
 unfold jbY;simp only [go_sem,ja];intro b;refine jc (jj9 p) (by simp only [go_sem,ja]) fun η=>?_
 simp only [go_sem,ja];cases hm:vH p;rotate_left
 ·simp only [go_sem,ja,hm,jgD hm]
 obtain ⟨n,hn,hn1,hn12,hel,-⟩:=jug hm;have hw1:IntKind.i64.wrap ((n:Int)-1)=n-1:=jf (by omega) (by omega)
 simp only [go_sem,ja,hm];refine jn (fun i:Nat=>St.of [(1,Bx 100 b),(3,Ni i)] [(100,Bi b _ (ja p))]) (fun i=>i≤p.edges.length∧(p.edges.take i).any (jiM n)=false) (fun i=>p.edges.length-i) 0 (by (try dsimp only);first|omega|(simp;done)|(and_intros<;>first|omega|simp)) (jg [some 100] (by simp only [go_sem,ja]<;>and_intros<;>first|rfl|assumption|trivial)) ?_
 rintro k ⟨hk,hko⟩;by_cases hlt:k<p.edges.length
 ·have hlt':(k:Int)<p.edges.length:=by omega
  obtain ⟨e,he⟩:=je hlt;have hw:IntKind.i64.wrap ((k:Int)+1)=((k+1:Nat):Int):=jf (by omega) (by omega)
  simp only [go_sem,ja,hn,hlt,hlt',jx he,jO,hw1];refine jc (jL e.src 0 (n-1)) (by simp only [go_sem,ja,hlt,hlt',jx he,jO,hw1]) fun η=>?_
  simp only [go_sem,ja,hlt,hlt',jx he,jO,hw1];cases h1:decide (0≤e.src∧e.src≤n-1)
  ·have hbe:jiM p.tasks e=true:=by simp [jiM,inB,hn,h1]
   simp only [go_sem,ja,h1,jlQ hm (List.mem_of_getElem? he) hbe]
  ·simp only [go_sem,ja,h1,hlt,hlt',jx he,jO,hw1,hn]
   refine jc (jL e.dst 0 (n-1)) (by simp only [go_sem,ja,hlt,hlt',jx he,jO,hw1]) fun η=>?_
   simp only [go_sem,ja,hlt,hlt',jx he,jO,hw1];cases h2:decide (0≤e.dst∧e.dst≤n-1)
   ·have hbe:jiM p.tasks e=true:=by simp [jiM,inB,hn,h2]
    simp only [go_sem,ja,h2,jlQ hm (List.mem_of_getElem? he) hbe]
   ·have hbe:jiM n e=false:=by simp [jiM,inB,h1,h2]
    simp only [go_sem,ja,h2,hw];exact ⟨k+1,⟨hlt,jrj he hbe hko⟩,(jg [some 100] (by simp only [go_sem,ja]<;>and_intros<;>first|rfl|assumption|trivial)),by (try dsimp only);omega⟩
 have hlt':¬(k:Int)<p.edges.length:=by omega
 rw [List.take_of_length_le (by omega),←hn] at hko
 have hes:=jua hko;simp only [go_sem,ja,hlt'];refine jn (fun i:Nat=>St.of [(1,Bx 100 b),(4,Ni i)] [(100,Bi b _ (ja p))]) (fun i=>i≤p.edges.length∧(p.edges.take i).Nodup) (fun i=>p.edges.length-i) 0 (by (try dsimp only);first|omega|(simp;done)|(and_intros<;>first|omega|simp)) (jg [some 100] (by simp only [go_sem,ja]<;>and_intros<;>first|rfl|assumption|trivial)) ?_
 rintro j ⟨hj,hjo⟩;by_cases hjl:j<p.edges.length
 ·have hjl':(j:Int)<p.edges.length:=by omega
  obtain ⟨e,he⟩:=je hjl;have hw:IntKind.i64.wrap ((j:Int)+1)=((j+1:Nat):Int):=jf (by omega) (by omega)
  simp only [go_sem,ja,hjl'];refine jn (fun i:Nat=>St.of [(1,Bx 100 b),(4,Ni j),(5,Ni i)] [(100,Bi b _ (ja p))]) (fun i=>i≤j∧e∉p.edges.take i) (fun i=>j-i) 0 (by (try dsimp only);first|omega|(simp;done)|(and_intros<;>first|omega|simp)) (jg [some 100] (by simp only [go_sem,ja]<;>and_intros<;>first|rfl|assumption|trivial)) ?_
  rintro m ⟨hm1,hmo⟩;by_cases hml:m<j
  ·have hml':(m:Int)<j:=by omega
   obtain ⟨e2,he2⟩:=je (show m<p.edges.length by omega)
   have hw2:IntKind.i64.wrap ((m:Int)+1)=((m+1:Nat):Int):=jf (by omega) (by omega)
   have hm3:m<p.edges.length:=by omega
   have hm3':(m:Int)<p.edges.length:=by omega
   by_cases heq:e=e2
   ·subst heq
    simp only [go_sem,ja,hml',hjl,hjl',hm3,hm3',jx he,jx he2,jO,jxC hm hko (jq0 he hml he2)]
   ·simp only [go_sem,ja,hml',hjl,hjl',hm3,hm3',jx he,jx he2,jO,heq,hw2]
    exact ⟨m+1,⟨hml,fun h'=>by rw [List.take_add_one,he2] at h';simp at h';rcases h' with h'|h';exact hmo h';exact heq h'⟩,(jg [some 100] (by simp only [go_sem,ja]<;>and_intros<;>first|rfl|assumption|trivial)),by (try dsimp only);omega⟩
  ·have hml':¬(m:Int)<j:=by omega
   obtain rfl:m=j:=by omega
   simp only [go_sem,ja,hml',hw];exact ⟨m+1,⟨hjl,jk1 he hjo hmo⟩,(jg [some 100] (by simp only [go_sem,ja]<;>and_intros<;>first|rfl|assumption|trivial)),by (try dsimp only);omega⟩
 have hjl':¬(j:Int)<p.edges.length:=by omega
 rw [List.take_of_length_le (by omega)] at hjo
 simp only [go_sem,ja,hjl'];refine jn (fun i:Nat=>St.of [(1,Bx 100 b),(6,Ni i)] [(100,Bi b _ (ja p))]) (fun i=>i≤n∧∀t:Nat,t<i→¬Rc p.edges t t) (fun i=>n-i) 0 (by (try dsimp only);first|omega|(simp;done)|(and_intros<;>first|omega|simp)) (jg [some 100] (by simp only [go_sem,ja]<;>and_intros<;>first|rfl|assumption|trivial)) ?_
 rintro t ⟨ht,hto⟩;by_cases htl:t<n
 ·have htl':(t:Int)<n:=by omega
  have hw:IntKind.i64.wrap ((t:Int)+1)=((t+1:Nat):Int):=jf (by omega) (by omega)
  have hes':∀e∈p.edges,okE n e:=fun e he=>by have:=hes e he;rwa [hn,Int.toNat_natCast] at this
  simp only [go_sem,ja,hn,htl'];refine jc (jka p n hn hn12 hel hes' t htl) (by simp only [go_sem,ja,hn]) fun η=>?_
  simp only [go_sem,ja,hn];cases hr:rcB p.edges t t
  ·have hg:(jjw p.edges n t)[t]?=some false:=by rw [jn5 htl,hr]
   simp only [go_sem,ja,htl,htl',jfr,jeW hg,jbE (show t<(jjw p.edges n t).length by rw [jfr];exact htl),hw]
   exact ⟨t+1,⟨htl,fun s hs h'=>by rcases Nat.lt_or_ge s t with h2|h2;exact hto s h2 h';obtain rfl:s=t:=(by omega);rw [rcB_iff.2 h'] at hr;cases hr⟩,(jg [some 100] (by simp only [go_sem,ja]<;>and_intros<;>first|rfl|assumption|trivial)),by (try dsimp only);omega⟩
  ·have hg:(jjw p.edges n t)[t]?=some true:=by rw [jn5 htl,hr]
   simp only [go_sem,ja,htl,htl',jfr,jeW hg,jbE (show t<(jjw p.edges n t).length by rw [jfr];exact htl),hw,jxD hm hko hjo (by rw [hn];exact htl') (rcB_iff.1 hr)]
 ·have htl':¬(t:Int)<n:=by omega
  simp only [go_sem,ja,hn,htl',jyR hm hko hjo (fun s hs=>hto s (by omega))]
theorem jt2 (l:List Ed) (e:Ed) (hl:l.length≤4000000):kj Tryz.prog 193 [.c (jy l),.agg (jO e)] (.c (.val (.int .i64 (jds (fun x=>decide (e=x)) l)))):=by
 refine jq Tryz.func193 vi (by simp) ?_
 unfold qd;simp only [go_sem,jO];intro b;refine jn (fun i:Nat=>St.of [(0,Ro (jy l)),(3,Bx 300 b),(7,Ni l.length),(8,Ni i)] [(300,Bi b _ (jO e))]) (fun i=>i≤l.length∧∀y∈l.take i,(fun x=>decide (e=x)) y=false) (fun i=>l.length-i) 0 (by (try dsimp only);first|omega|(simp;done)|(and_intros<;>first|omega|simp)) (jg [some 300] (by simp only [go_sem,jO]<;>and_intros<;>first|rfl|assumption|trivial)) ?_
 rintro k ⟨hk,hko⟩;by_cases hlt:k<l.length
 ·have hlt':(k:Int)<l.length:=by omega
  obtain ⟨x,hx⟩:=je hlt;have hw:IntKind.i64.wrap ((k:Int)+1)=((k+1:Nat):Int):=jf (by omega) (by omega)
  by_cases heq:e=x
  ·subst heq
   simp only [go_sem,jO,hlt,hlt',jx hx,jbj hx (decide_eq_true rfl) hko]
  ·simp only [go_sem,jO,hlt,hlt',jx hx,heq,hw]
   exact ⟨k+1,⟨hlt,jlA hx (decide_eq_false heq) hko⟩,(jg [some 300] (by simp only [go_sem,jO]<;>and_intros<;>first|rfl|assumption|trivial)),by (try dsimp only);omega⟩
 ·have hlt':¬(k:Int)<l.length:=by omega
  rw [List.take_of_length_le (by omega)] at hko
  simp only [go_sem,jO,hlt',jak hko]
theorem jnD (l:List Ed) (e:Ed) (hl:l.length≤4000000):kj Tryz.prog 161 [.c (jy l),.agg (jO e)] (.c (.val (.bool (decide (e∈l))))):=by
 refine jq Tryz.func161 qQ (by simp) ?_
 unfold kP;simp only [go_sem,jO];intro b;refine jc (jt2 l e hl) (by simp only [go_sem,jO]) fun η=>?_
 simp only [go_sem,jO];rcases zq (fun x=>decide (e=x)) l with ⟨h1,h2⟩|⟨k,x,h1,h2,h3,-⟩
 ·have hm:decide (e∈l)=false:=decide_eq_false fun h=>by have:=h2 e h;simp at this
  rw [h1,hm];simp only [go_sem]
 ·have hm:decide (e∈l)=true:=decide_eq_true (by have:e=x:=by simpa using h3
                                                exact this▸List.mem_of_getElem? h2)
  have hk:(k:Int)≥0:=by omega
  rw [h1,hm];simp only [go_sem,hk]
theorem jpN {a:Nat} (h:a<4096):(BitVec.ofInt 64 (a:Int))=BitVec.ofNat 64 a:=by
 apply BitVec.eq_of_toNat_eq
 simp
theorem jwj {a b:Nat} (ha:a<4096) (hb:b<4096):IntKind.i64.wrap ((BitVec.ofInt 64 (a:Int)|||BitVec.ofInt 64 (b:Int)).toNat:Int)=((a|||b:Nat):Int):=by
 have hab:a|||b<2^12:=Nat.or_lt_two_pow ha hb
 have e:(BitVec.ofInt 64 (a:Int)|||BitVec.ofInt 64 (b:Int)).toNat=a|||b:=by
  rw [jpN ha,jpN hb,BitVec.toNat_or,BitVec.toNat_ofNat,BitVec.toNat_ofNat,Nat.mod_eq_of_lt (by omega),Nat.mod_eq_of_lt (by omega)]
 rw [e];exact jf (by omega) (by omega)
theorem jtp {d:Int} (h0:0≤d) (h:d<12):IntKind.i64.wrap (1*2^min d.toNat 64)=((2^d.toNat:Nat):Int):=by
 have e:min d.toNat 64=d.toNat:=Nat.min_eq_left (by omega)
 have hlt:2^d.toNat<4096:=(show 2^d.toNat<2^12 from Nat.pow_lt_pow_right (by omega) (by omega))
 rw [e,Int.one_mul,show (2:Int)^d.toNat=((2^d.toNat:Nat):Int) by simp]
 generalize 2^d.toNat=q at*;exact jf (by omega) (by omega)
theorem jxa {a t:Nat} (ha:a<4096) (ht:t<12):(IntKind.i64.wrap ((BitVec.ofInt 64 (Int.fdiv (a:Int) (2^min t 64))&&&BitVec.ofInt 64 1).toNat:Int)==1)=a.testBit t:=by
 have e:min t 64=t:=Nat.min_eq_left (by omega)
 have e1:Int.fdiv (a:Int) (2^t)=((a/2^t:Nat):Int):=by
  rw [show (2:Int)^t=((2^t:Nat):Int) by simp,Int.fdiv_eq_ediv_of_nonneg _ (Int.natCast_nonneg _)];rfl
 have hq:a/2^t<4096:=Nat.lt_of_le_of_lt (Nat.div_le_self _ _) ha
 have e2:(BitVec.ofInt 64 ((a/2^t:Nat):Int)&&&BitVec.ofInt 64 1).toNat=(a/2^t)%2:=by
  rw [jpN hq,show BitVec.ofInt 64 1=BitVec.ofNat 64 1 from rfl,BitVec.toNat_and,BitVec.toNat_ofNat,BitVec.toNat_ofNat,Nat.mod_eq_of_lt (by omega),Nat.mod_eq_of_lt (by omega)]
  exact Nat.and_one_is_mod _
 rw [e,e1,e2,jf (by omega) (by omega),Nat.testBit_eq_decide_div_mod_eq]
 by_cases h:a/2^t%2=1
 ·rw [h];rfl
 ·have h0:a/2^t%2=0:=by omega
  rw [h0];rfl
theorem jnF {a b:Nat} (ha:a<4096) (hb:b<4096):IntKind.i64.wrap ((@BitVec.toNat 64 (@HOr.hOr (BitVec 64) (BitVec 64) (BitVec 64) (@instHOrOfOrOp (BitVec IntKind.i64.bits) (@BitVec.instOrOp IntKind.i64.bits)) (BitVec.ofInt 64 (a:Int)) (BitVec.ofInt 64 (b:Int))):Nat):Int)=((a|||b:Nat):Int):=jwj ha hb
theorem jvf {a t:Nat} (ha:a<4096) (ht:t<12):(IntKind.i64.wrap ((@BitVec.toNat 64 (@HAnd.hAnd (BitVec 64) (BitVec 64) (BitVec 64) (@instHAndOfAndOp (BitVec IntKind.i64.bits) (@BitVec.instAndOp IntKind.i64.bits)) (BitVec.ofInt 64 (Int.fdiv (a:Int) (2^min t 64))) (BitVec.ofInt 64 1)):Nat):Int)==1)=a.testBit t:=jxa ha ht
def zL (S:List Nat):List Int:=S.map fun (k:Nat)=>(k:Int)
theorem jeZ (S:List Nat):(zL S).length=S.length:=by simp [zL]
theorem jsR {S:List Nat} {k:Nat} (h:k<S.length):(zL S)[k]?=some ((S.getD k 0:Nat):Int):=by simp [zL,h]
theorem jzT (S:List Nat) (k v:Nat):(zL S).set k (v:Int)=zL (S.set k v):=by simp [zL,List.map_set]
theorem jv7 {es:List Ed} {k:Nat} {e:Ed} (h:es[k]?=some e) (S:List Nat):(es.take (k+1)).foldl zO S=zO ((es.take k).foldl zO S) e:=by
 rw [List.take_add_one,h];simp
theorem jpC {n:Nat}:∀{l:List Ed} {S:List Nat},(∀e∈l,okE n e)→(∀x∈S,x<2^n)→∀x∈l.foldl zO S,x<2^n
 |[],_,_,h=>h
 |e::l,S,hl,h=>jpC (l:=l) (S:=zO S e) (fun e he=>hl e (by simp [he])) (jyg (hl e (by simp)) h)
theorem jo1 {n:Nat} {es:List Ed} (hes:∀e∈es,okE n e):∀(k:Nat),∀x∈joN es k (List.replicate n 0),x<2^n
 |0=>fun x hx=>by simp [joN] at hx;have:=Nat.two_pow_pos n;omega
 |k+1=>jpC hes (jo1 hes k)
theorem jpB {S:List Nat} {n:Nat} (h:∀x∈S,x<2^n) (hn:n≤12) (k:Nat):S.getD k 0<4096:=by
 have h2:2^n≤2^12:=Nat.pow_le_pow_right (by omega) hn
 rw [List.getD_eq_getElem?_getD];cases hk:S[k]? with
 |none=>simp
 |some v=>have:=h v (List.mem_of_getElem? hk);simp;omega
def jhE:C:=iS [iA 1 (.box 49 5 (.t 0)),iA 2 (.mov (.c (.slice none 0 0)))] (iS [iA 6 (iF 3 1),iA 7 (iL 6),iA 8 (.mks 3 1 8 [D.val (.int .i64 0)] (.t 7) (.t 7)),iA 3 (iM 8)] (.seq (iS [iA 9 (iF 3 1),iA 10 (iL 9),iA 11 (iN 0)] (.blk 0 (.loop (iS [iA 12 (iP .lss 3 11 10)] (.seq (iD 12 .skip (.exit 0)) (.seq (.blk 1 (iS [iA 13 (iF 4 1),iA 14 (iL 13),iA 15 (iG 14),iA 16 (iN 0)] (.blk 2 (.loop (iS [iA 17 (iP .lss 3 16 15)] (.seq (iD 17 .skip (.exit 2)) (.seq (.blk 3 (iS [iA 18 (iI 2 14 16),iA 19 (iT 2 18),iA 5 (.alloc 161 [.int .i64 0,.int .i64 0]),iC (.st 2 [none,none] (.t 5) (.t 19))] (.dreg (T.pure 0 (iA 20 (iM 3)) (T.pure 1 (iA 21 (iF 0 5)) (T.pure 2 (iA 22 (iL 21)) (T.pure 3 (iA 23 (iI 1 20 22)) (T.pure 4 (iA 24 (iL 23)) (T.pure 5 (iA 25 (iF 1 5)) (T.pure 6 (iA 26 (iL 25)) (T.pure 7 (iA 27 (.bin .shl 3 (.c (.int .i64 1)) (.t 26))) (T.pure 8 (iA 28 (iM 3)) (T.pure 9 (iA 29 (iF 1 5)) (T.pure 10 (iA 30 (iL 29)) (T.pure 11 (iA 31 (iI 1 28 30)) (T.pure 12 (iA 32 (iL 31)) (T.pure 13 (iA 33 (iP .or 3 27 32)) (T.pure 14 (iA 34 (iP .or 3 24 33)) (T.pure 15 (iA 35 (iI 1 20 22)) (T.alt (iC (.st 1 [none] (.t 35) (.t 34))) [] T.done T.stop)))))))))))))))))))) (.reg [iA 36 (iQ .add 3 16 1),iA 16 (iM 36)])))))))) (.reg [iA 37 (iQ .add 3 11 1),iA 11 (iM 37)]))))))) (iS [iA 38 (iM 3),iA 2 (iM 38)] .ret)))
theorem jjM:fnC Tryz.prog Tryz.f162=some (jhE,[.t 2],39):=by kernel_rfl
def jb5:C:=iS [iA 1 (.box 49 5 (.t 0)),iA 2 (iN 0)] (.seq (iS [iA 9 (iF 3 1),iA 10 (iL 9),iA 11 (.call 62 [.t 10,.c (.int .i64 1),.c (.int .i64 12)]),iA 12 (iU 11),iA 13 (iM 12),iB 14 13 false (iF 4 1),iB 15 13 false (iL 14),iB 16 13 false (iG 15),iB 17 13 false (iQ .gtr 3 16 30),iA 18 (.pick (.t 13) (.c (.bool true)) (.t 17)),iA 19 (iM 18),iB 20 19 false (iF 0 1),iB 21 19 false (iL 20),iB 22 19 false (.call 62 [.t 21,.c (.int .i64 0),.c (.int .i64 9)]),iB 23 19 false (iU 22),iA 24 (.pick (.t 19) (.c (.bool true)) (.t 23)),iA 25 (iM 24),iB 26 25 false (iF 1 1),iB 27 25 false (iL 26),iB 28 25 false (.call 62 [.t 27,.c (.int .i64 1),.c (.int .i64 5)]),iB 29 25 false (iU 28),iA 30 (.pick (.t 25) (.c (.bool true)) (.t 29)),iA 31 (iM 30),iB 32 31 false (iF 2 1),iB 33 31 false (iL 32),iB 34 31 false (.call 62 [.t 33,.c (.int .i64 1),.c (.int .i64 20)]),iB 35 31 false (iU 34),iA 36 (.pick (.t 31) (.c (.bool true)) (.t 35))] (iD 36 (iS [iA 2 (iN 1)] .ret) .skip)) (.seq (iS [iA 37 (iF 4 1),iA 38 (iL 37),iA 39 (iG 38),iA 40 (iN 0)] (.blk 0 (.loop (iS [iA 41 (iP .lss 3 40 39)] (.seq (iD 41 .skip (.exit 0)) (.seq (.blk 1 (iS [iA 42 (iI 2 38 40),iA 43 (iT 2 42),iA 4 (.alloc 161 [.int .i64 0,.int .i64 0]),iC (.st 2 [none,none] (.t 4) (.t 43))] (iS [iA 44 (iF 0 4),iA 45 (iL 44),iA 46 (iF 3 1),iA 47 (iL 46),iA 48 (iQ .sub 3 47 1),iA 49 (.call 62 [.t 45,.c (.int .i64 0),.t 48]),iA 50 (iU 49),iA 51 (iM 50),iB 52 51 false (iF 1 4),iB 53 51 false (iL 52),iB 54 51 false (iF 3 1),iB 55 51 false (iL 54),iB 56 51 false (iQ .sub 3 55 1),iB 57 51 false (.call 62 [.t 53,.c (.int .i64 0),.t 56]),iB 58 51 false (iU 57),iA 59 (.pick (.t 51) (.c (.bool true)) (.t 58))] (iD 59 (iS [iA 2 (iN 2)] .ret) .skip)))) (.reg [iA 60 (iQ .add 3 40 1),iA 40 (iM 60)]))))))) (.seq (iS [iA 61 (iF 4 1),iA 62 (iL 61),iA 63 (iG 62),iA 64 (iN 0)] (.blk 2 (.loop (iS [iA 65 (iP .lss 3 64 63)] (.seq (iD 65 .skip (.exit 2)) (.seq (.blk 3 (iS [iA 66 (iM 64),iA 67 (iI 2 62 64),iA 68 (iT 2 67),iA 6 (.alloc 161 [.int .i64 0,.int .i64 0]),iA 5 (iM 66),iC (.st 2 [none,none] (.t 6) (.t 68))] (.seq (.dreg (T.pure 0 (iA 69 (iF 4 1)) (T.pure 1 (iA 70 (iL 69)) (T.pure 2 (iA 71 (iM 5)) (T.pure 3 (iA 72 (.sl 2 (.t 70) none (some (.t 71)))) (T.pure 4 (iA 73 (iT 2 6)) (T.alt (iA 74 (.call 161 [.t 72,.t 73])) [] T.done T.stop))))))) (iD 74 (iS [iA 2 (iN 3)] .ret) .skip)))) (.reg [iA 75 (iQ .add 3 64 1),iA 64 (iM 75)]))))))) (.seq (iS [iA 76 (iT 5 1),iA 77 (.call 162 [.t 76]),iA 78 (iG 77),iA 79 (iN 0)] (.blk 4 (.loop (iS [iA 80 (iP .lss 3 79 78)] (.seq (iD 80 .skip (.exit 4)) (.seq (.blk 5 (iS [iA 81 (iM 79),iA 82 (iI 1 77 79),iA 83 (iL 82),iA 7 (iM 81),iA 8 (iM 83)] (iS [iA 84 (iM 8),iA 85 (iM 7),iA 86 (iP .shr 3 84 85),iA 87 (iQ .and 3 86 1),iA 88 (iQ .eql 3 87 1)] (iD 88 (iS [iA 2 (iN 4)] .ret) .skip)))) (.reg [iA 89 (iQ .add 3 79 1),iA 79 (iM 89)]))))))) (iS [iA 2 (iN 0)] .ret)))))
theorem jeU:fnC Tryz.prog Tryz.f109=some (jb5,[.t 2],90):=by kernel_rfl
theorem jnA (p:Pl) (n:Nat) (hn:p.tasks=n) (h12:n≤12) (h30:p.edges.length≤30) (hes:∀e∈p.edges,okE n e):kj Tryz.prog 162 [.agg (ja p)] (.c (jh (zL (jdD p.edges n)))):=by
 refine jq Tryz.func162 jjM (by simp) ?_
 unfold jhE;have hrep:jh (List.replicate n 0)=jh (zL (joN p.edges 0 (List.replicate n 0))):=by simp [joN,zL]
 simp only [go_sem,ja,hn];intro b;rw [jtz];refine ⟨.i64,.i64,n,by simp only [go_sem],by simp only [go_sem],by omega,by unfold maxLen;omega,fun η=>?_⟩
 simp only [go_sem,ja,hn,jyZ,hrep];refine jn (fun i:Nat×js=>St.of [(1,Bx 100 b),(3,Hd 3 i.2),(10,Ni n),(11,Ni i.1)] [(100,Bi b _ (ja p)),(3,.loose (jh (zL (joN p.edges i.1 (List.replicate n 0)))) i.2)]) (fun i=>i.1≤n) (fun i=>n-i.1) (0,η) (by (try dsimp only);first|omega|(simp;done)|(and_intros<;>first|omega|simp)) (jg [some 100,some 800] (by simp only [go_sem,ja,hn]<;>and_intros<;>first|rfl|assumption|trivial)) ?_
 rintro ⟨k,η1⟩ hk;dsimp only at hk;by_cases hlt:k<n
 ·have hlt':(k:Int)<n:=by omega
  have hw:IntKind.i64.wrap ((k:Int)+1)=((k+1:Nat):Int):=jf (by omega) (by omega)
  have hSl:=jqh (es:=p.edges) k (List.replicate n 0);have hSb:=jo1 hes k;rw [List.length_replicate] at hSl;have hnext:joN p.edges (k+1) (List.replicate n 0)=p.edges.foldl zO (joN p.edges k (List.replicate n 0)):=rfl;dsimp only;generalize joN p.edges k (List.replicate n 0)=S at*;simp only [go_sem,ja,hlt',hn];refine jn (fun i:Nat×js=>St.of [(1,Bx 100 b),(3,Hd 3 i.2),(10,Ni n),(11,Ni k),(14,Ro (jy p.edges)),(15,Ni p.edges.length),(16,Ni i.1)] [(100,Bi b _ (ja p)),(3,.loose (jh (zL ((p.edges.take i.1).foldl zO S))) i.2)]) (fun i=>i.1≤p.edges.length) (fun i=>p.edges.length-i.1) (0,η1) (by (try dsimp only);first|omega|(simp;done)|(and_intros<;>first|omega|simp)) (jg [some 100,some 3] (by simp only [go_sem,ja,hn,List.take_zero,List.foldl_nil]<;>and_intros<;>first|rfl|assumption|trivial)) ?_
  rintro ⟨j,η2⟩ hj;dsimp only at hj;by_cases hjt:j<p.edges.length
  ·have hjt':(j:Int)<p.edges.length:=by omega
   obtain ⟨e,he⟩:=je hjt;have hm:e∈p.edges:=List.mem_of_getElem? he;obtain ⟨⟨e1,e2⟩,e3,e4⟩:=hes e hm;have hwj:IntKind.i64.wrap ((j:Int)+1)=((j+1:Nat):Int):=jf (by omega) (by omega)
   have hTl:=jmr (p.edges.take j) S;have hTb:=jpC (n:=n) (l:=p.edges.take j) (S:=S) (fun e he=>hes e (List.mem_of_mem_take he)) hSb
   have htk:=jv7 he S;dsimp only;generalize (p.edges.take j).foldl zO S=U at*;have hsl:e.src.toNat<U.length:=by omega
   have hdl:e.dst.toNat<U.length:=by omega
   have hs':=jsR hsl;have hd':=jsR hdl;have hzs:e.src.toNat<(zL U).length:=by rw [jeZ];exact hsl
   have hzd:e.dst.toNat<(zL U).length:=by rw [jeZ];exact hdl
   have hu1:=jpB hTb h12 e.src.toNat;have hu2:=jpB hTb h12 e.dst.toNat;have hp:2^e.dst.toNat<4096:=(show 2^e.dst.toNat<2^12 from Nat.pow_lt_pow_right (by omega) (by omega))
   have ho:2^e.dst.toNat|||U.getD e.dst.toNat 0<4096:=Nat.or_lt_two_pow (n:=12) hp hu2
   have hst:(zL U).set e.src.toNat ((U.getD e.src.toNat 0|||(2^e.dst.toNat|||U.getD e.dst.toNat 0):Nat):Int)=zL (zO U e):=jzT _ _ _
   simp only [go_sem,ja,hn,hjt,hjt',jx he,jO,e1,e3,hsl,hdl,jeZ];intro b2;simp only [go_sem,ja,hn,hjt,hjt',jO,e1,e3,hsl,hdl,jeZ,jj hs',ji hzs,jj hd',ji hzd,jtp e3 (by omega),jnF hp hu2,jnF hu1 ho,jbA _ hzs,hst,hwj]
   exact ⟨(j+1,η2),by (try dsimp only);first|omega|assumption|(and_intros<;>first|omega|assumption),(jg [some 100,some 3] (by simp only [go_sem,ja,hn,htk]<;>and_intros<;>first|rfl|assumption|trivial)),by (try dsimp only);omega⟩
  ·have hjt':¬(j:Int)<p.edges.length:=by omega
   rw [List.take_of_length_le (by omega)]
   simp only [go_sem,ja,hn,hjt',hw];exact ⟨(k+1,η2),by (try dsimp only);first|omega|assumption|(and_intros<;>first|omega|assumption),(jg [some 100,some 3] (by simp only [go_sem,ja,hn,hnext]<;>and_intros<;>first|rfl|assumption|trivial)),by (try dsimp only);omega⟩
 ·have hlt':¬(k:Int)<n:=by omega
  obtain rfl:k=n:=by omega
  simp only [go_sem,ja,hn,hlt',jdD]
theorem qg (p:Pl) (hpl:p.edges.length≤4000000):kj Tryz.prog 109 [.agg (ja p)] (.c (.val (.int .i64 (jw p)))):=by
 refine jq Tryz.func109 jeU (by simp) ?_
 unfold jb5;simp only [go_sem,ja];intro b;refine jc (jE p.tasks 1 12) (by simp only [go_sem,ja]) fun η=>?_
 simp only [go_sem,ja];cases h1:decide (1≤p.tasks∧p.tasks≤12)
 ·simp only [go_sem,ja,h1,jgD (show vH p=true by simp [vH,inB,h1])]
 by_cases h2:30<p.edges.length
 ·have h2':(p.edges.length:Int)>30:=by omega
  simp only [go_sem,ja,h1,h2',jgD (show vH p=true by simp [vH,inB,h1,h2])]
 have h2':¬(p.edges.length:Int)>30:=by omega
 simp only [go_sem,ja,h1,h2'];refine jc (jE p.prio 0 9) (by simp only [go_sem,ja]) fun η=>?_
 simp only [go_sem,ja];cases h3:decide (0≤p.prio∧p.prio≤9)
 ·simp only [go_sem,ja,h3,jgD (show vH p=true by simp [vH,inB,h3])]
 simp only [go_sem,ja,h3];refine jc (jE p.most 1 5) (by simp only [go_sem,ja]) fun η=>?_
 simp only [go_sem,ja];cases h4:decide (1≤p.most∧p.most≤5)
 ·simp only [go_sem,ja,h4,jgD (show vH p=true by simp [vH,inB,h4])]
 simp only [go_sem,ja,h4];refine jc (jE p.wait 1 20) (by simp only [go_sem,ja]) fun η=>?_
 simp only [go_sem,ja];cases h5:decide (1≤p.wait∧p.wait≤20)
 ·simp only [go_sem,ja,h5,jgD (show vH p=true by simp [vH,inB,h5])]
 have hm:vH p=false:=by simp [vH,inB,h1,h2,h3,h4,h5]
 obtain ⟨n,hn,hn1,hn12,hel,-⟩:=jug hm;have hw1:IntKind.i64.wrap ((n:Int)-1)=n-1:=jf (by omega) (by omega)
 simp only [go_sem,ja,h5,hn];refine jn (fun i:Nat=>St.of [(1,Bx 100 b),(38,Ro (jy p.edges)),(39,Ni p.edges.length),(40,Ni i)] [(100,Bi b _ (ja p))]) (fun i=>i≤p.edges.length∧(p.edges.take i).any (jiM n)=false) (fun i=>p.edges.length-i) 0 (by (try dsimp only);first|omega|(simp;done)|(and_intros<;>first|omega|simp)) (jg [some 100] (by simp only [go_sem,ja,hn]<;>and_intros<;>first|rfl|assumption|trivial)) ?_
 rintro k ⟨hk,hko⟩;by_cases hlt:k<p.edges.length
 ·have hlt':(k:Int)<p.edges.length:=by omega
  obtain ⟨e,he⟩:=je hlt;have hw:IntKind.i64.wrap ((k:Int)+1)=((k+1:Nat):Int):=jf (by omega) (by omega)
  simp only [go_sem,ja,hn,hlt,hlt',jx he,jO,hw1];intro b2;refine jc (jE e.src 0 (n-1)) (by simp only [go_sem,ja,jO,hw1]) fun η=>?_
  simp only [go_sem,ja,jO,hw1];cases h1:decide (0≤e.src∧e.src≤n-1)
  ·have hbe:jiM p.tasks e=true:=by simp [jiM,inB,hn,h1]
   simp only [go_sem,ja,h1,jlQ hm (List.mem_of_getElem? he) hbe]
  ·simp only [go_sem,ja,h1,jO,hw1,hn]
   refine jc (jE e.dst 0 (n-1)) (by simp only [go_sem,ja,jO,hw1]) fun η=>?_
   simp only [go_sem,ja,jO,hw1];cases h2:decide (0≤e.dst∧e.dst≤n-1)
   ·have hbe:jiM p.tasks e=true:=by simp [jiM,inB,hn,h2]
    simp only [go_sem,ja,h2,jlQ hm (List.mem_of_getElem? he) hbe]
   ·have hbe:jiM n e=false:=by simp [jiM,inB,h1,h2]
    simp only [go_sem,ja,h2,hw];exact ⟨k+1,⟨hlt,jrj he hbe hko⟩,(jg [some 100] (by simp only [go_sem,ja,hn]<;>and_intros<;>first|rfl|assumption|trivial)),by (try dsimp only);omega⟩
 have hlt':¬(k:Int)<p.edges.length:=by omega
 rw [List.take_of_length_le (by omega),←hn] at hko
 have hes:=jua hko;have hes':∀e∈p.edges,okE n e:=fun e he=>by have:=hes e he;rwa [hn,Int.toNat_natCast] at this
 simp only [go_sem,ja,hlt',hn];refine jn (fun i:Nat=>St.of [(1,Bx 100 b),(62,Ro (jy p.edges)),(63,Ni p.edges.length),(64,Ni i)] [(100,Bi b _ (ja p))]) (fun i=>i≤p.edges.length∧(p.edges.take i).Nodup) (fun i=>p.edges.length-i) 0 (by (try dsimp only);first|omega|(simp;done)|(and_intros<;>first|omega|simp)) (jg [some 100] (by simp only [go_sem,ja,hn]<;>and_intros<;>first|rfl|assumption|trivial)) ?_
 rintro j ⟨hj,hjo⟩;by_cases hjl:j<p.edges.length
 ·have hjl':(j:Int)<p.edges.length:=by omega
  obtain ⟨e,he⟩:=je hjl;have hw:IntKind.i64.wrap ((j:Int)+1)=((j+1:Nat):Int):=jf (by omega) (by omega)
  have hjle:j≤p.edges.length:=by omega
  simp only [go_sem,ja,hjl,hjl',hjle,jx he,jO,hn];intro b2;refine jc (jnD (p.edges.take j) e (by rw [List.length_take];omega)) (by simp only [go_sem,ja,jO]) fun η=>?_
  simp only [go_sem,ja,jO];by_cases hin:e∈p.edges.take j
  ·have hd:¬p.edges.Nodup:=by
    obtain ⟨m,hm1,hm2⟩:=List.getElem_of_mem hin;rw [List.length_take] at hm1;rw [List.getElem_take] at hm2;exact jq0 he (show m<j by omega) (by rw [List.getElem?_eq_getElem (by omega),hm2])
   simp only [go_sem,ja,hin,jxC hm hko hd]
  ·simp only [go_sem,ja,hin,hw]
   exact ⟨j+1,⟨hjl,jk1 he hjo hin⟩,(jg [some 100] (by simp only [go_sem,ja,hn]<;>and_intros<;>first|rfl|assumption|trivial)),by (try dsimp only);omega⟩
 have hjl':¬(j:Int)<p.edges.length:=by omega
 rw [List.take_of_length_le (by omega)] at hjo
 simp only [go_sem,ja,hjl',hn];refine jc (jnA p n hn hn12 hel hes') (by simp only [go_sem,ja,hn]) fun η=>?_
 simp only [go_sem,ja,hn];have hwl:=jsX (es:=p.edges) (n:=n);have hwb:=jsY (n:=n) hes';have hwm:∀k:Nat,(jdD p.edges n).getD k 0<4096:=jpB (jo1 hes' n) hn12;simp only [go_sem,jeZ,hwl];refine jn (fun i:Nat=>St.of [(77,Hd 7700 (η 0)),(78,Ni n),(79,Ni i)] [(7700,.loose (jh (zL (jdD p.edges n))) (η 0))]) (fun i=>i≤n∧∀t:Nat,t<i→¬Rc p.edges t t) (fun i=>n-i) 0 (by (try dsimp only);first|omega|(simp;done)|(and_intros<;>first|omega|simp)) (jg [some 7700] (by simp only [go_sem,jeZ,hwl]<;>and_intros<;>first|rfl|assumption|trivial)) ?_
 rintro t ⟨ht,hto⟩;by_cases htl:t<n
 ·have htl':(t:Int)<n:=by omega
  have hw:IntKind.i64.wrap ((t:Int)+1)=((t+1:Nat):Int):=jf (by omega) (by omega)
  have htw:t<(jdD p.edges n).length:=by rw [hwl];exact htl
  have hg:=jsR htw;have hzt:t<(zL (jdD p.edges n)).length:=by rw [jeZ];exact htw
  have hbt:=jvf (hwm t) (show t<12 by omega)
  have h0t:(t:Int)≥0:=by omega
  cases hr:((jdD p.edges n).getD t 0).testBit t
  ·rw [hr] at hbt
   simp only [go_sem,htl,htl',jeZ,hwl,jj hg,ji hzt,hbt,hw];exact ⟨t+1,⟨htl,fun s hs h'=>by rcases Nat.lt_or_ge s t with h2|h2;exact hto s h2 h';obtain rfl:s=t:=(by omega);rw [(hwb s s).2 h'] at hr;cases hr⟩,(jg [some 7700] (by simp only [go_sem]<;>and_intros<;>first|rfl|assumption|trivial)),by (try dsimp only);omega⟩
  ·rw [hr] at hbt
   simp only [go_sem,htl,htl',jeZ,hwl,jj hg,ji hzt,hbt,hw,jxD hm hko hjo (by rw [hn];exact htl') ((hwb t t).1 hr)]
 ·have htl':¬(t:Int)<n:=by omega
  simp only [go_sem,htl',jyR hm hko hjo (fun s hs=>hto s (by omega))]
def jb6:C:=iS [iA 2 (iO false)] (iS [iA 3 (iM 0),iA 4 (iM 0),iA 5 (iP .neq 3 3 4),iA 2 (iM 5)] .ret)
theorem jeV:fnC Tryz.prog Tryz.f222=some (jb6,[.t 2],6):=by kernel_rfl
def jc7:C:=iS [iA 4 (iO false)] (iS [iA 5 (iM 0),iA 6 (.call 222 [.t 5]),iA 7 (iM 6),iB 8 7 true (iM 1),iB 9 7 true (.call 222 [.t 8]),iB 10 7 true (iU 9),iA 11 (.pick (.t 7) (.t 10) (.c (.bool false))),iA 12 (iM 11),iB 13 12 false (iM 0),iB 14 12 false (iM 1),iB 15 12 false (iP .lss 3 13 14),iA 16 (.pick (.t 12) (.c (.bool true)) (.t 15)),iA 4 (iM 16)] .ret)
theorem jfS:fnC Tryz.prog Tryz.f211=some (jc7,[.t 4],17):=by kernel_rfl
def qe:C:=iS [iA 8 (iM 1),iA 9 (iQ .add 3 8 1),iA 6 (iM 9)] (.blk 0 (.loop (.seq (iS [iA 10 (iM 6),iA 11 (iM 2),iA 12 (iP .lss 3 10 11)] (iD 12 .skip (.exit 0))) (.seq (.blk 1 (iS [iA 15 (iM 6),iA 7 (iM 15)] (.blk 2 (.loop (.seq (.seq (.dreg (T.pure 0 (iA 16 (iM 7)) (T.pure 1 (iA 17 (iM 1)) (T.pure 2 (iA 18 (iP .gtr 3 16 17)) (T.pure 3 (iA 19 (iM 18)) (T.pure 4 (iB 20 19 true (iM 0)) (T.pure 5 (iB 21 19 true (iM 7)) (T.pure 6 (iB 22 19 true (iI 1 20 21)) (T.pure 7 (iB 23 19 true (iL 22)) (T.pure 8 (iB 24 19 true (iM 0)) (T.pure 9 (iB 25 19 true (iM 7)) (T.pure 10 (iB 26 19 true (iQ .sub 3 25 1)) (T.pure 11 (iB 27 19 true (iI 1 24 26)) (T.pure 12 (iB 28 19 true (iL 27)) (T.alt (iB 29 19 true (.call 211 [.t 23,.t 28])) [] (T.pure 14 (iA 30 (.pick (.t 19) (.t 29) (.c (.bool false)))) T.done) T.stop))))))))))))))) (iD 30 .skip (.exit 2))) (.seq (.blk 3 (.dreg (T.pure 0 (iA 33 (iM 0)) (T.pure 1 (iA 34 (iM 7)) (T.pure 2 (iA 35 (iM 0)) (T.pure 3 (iA 36 (iM 7)) (T.pure 4 (iA 37 (iQ .sub 3 36 1)) (T.pure 5 (iA 38 (iM 0)) (T.pure 6 (iA 39 (iM 7)) (T.pure 7 (iA 40 (iQ .sub 3 39 1)) (T.pure 8 (iA 41 (iI 1 38 40)) (T.pure 9 (iA 42 (iL 41)) (T.pure 10 (iA 43 (iM 0)) (T.pure 11 (iA 44 (iM 7)) (T.pure 12 (iA 45 (iI 1 43 44)) (T.pure 13 (iA 46 (iL 45)) (T.pure 14 (iA 47 (iI 1 33 34)) (T.alt (iC (.st 1 [none] (.t 47) (.t 42))) [4,3,2] (T.pure 16 (iA 48 (iI 1 35 37)) (T.alt (iC (.st 1 [none] (.t 48) (.t 46))) [] T.done T.stop)) T.stop)))))))))))))))))) (.reg [iA 31 (iM 7),iA 32 (iQ .sub 3 31 1),iA 7 (iM 32)]))))))) (.reg [iA 13 (iM 6),iA 14 (iQ .add 3 13 1),iA 6 (iM 14)])))))
theorem vo:fnC Tryz.prog Tryz.f205=some (qe,[],49):=by kernel_rfl
def qS:C:=iS [iA 8 (iO true)] (iS [iA 9 (iO true)] (.blk 0 (.loop (.blk 1 (iS [iA 19 (iM 2),iA 20 (iM 1),iA 21 (iP .sub 3 19 20),iA 10 (iM 21)] (.seq (iS [iA 22 (iM 10),iA 23 (iQ .leq 3 22 12)] (iD 23 (iS [iA 24 (iM 0),iA 25 (iM 1),iA 26 (iM 2),iA 27 (.call 205 [.t 24,.t 25,.t 26])] .ret) .skip)) (.seq (iS [iA 28 (iM 3),iA 29 (iQ .eql 3 28 0)] (iD 29 (iS [iA 30 (iM 0),iA 31 (iM 1),iA 32 (iM 2),iA 33 (.call 206 [.t 30,.t 31,.t 32])] .ret) .skip)) (.seq (iS [iA 34 (iM 8),iA 35 (iU 34)] (iD 35 (iS [iA 36 (iM 0),iA 37 (iM 1),iA 38 (iM 2),iA 39 (.call 207 [.t 36,.t 37,.t 38])] (.reg [iA 40 (iM 3),iA 41 (iQ .sub 3 40 1),iA 3 (iM 41)])) .skip)) (iS [iA 43 (iM 0),iA 44 (iM 1),iA 45 (iM 2),iA 46 (.call 208 [.t 43,.t 44,.t 45]),iA 42 (iM 46),iA 47 (iE 42 0),iA 48 (iE 42 1),iA 11 (iM 47),iA 12 (iM 48)] (.seq (iS [iA 49 (iM 12),iA 50 (iQ .eql 188 49 2)] (iD 50 (iS [iA 51 (iM 0),iA 52 (iM 1),iA 53 (iM 2),iA 54 (.call 209 [.t 51,.t 52,.t 53])] (iS [iA 55 (iM 2),iA 56 (iQ .sub 3 55 1),iA 57 (iM 11),iA 58 (iM 1),iA 59 (iP .sub 3 57 58),iA 60 (iP .sub 3 56 59),iA 11 (iM 60)] (.reg [iA 12 (iN 1)]))) .skip)) (.seq (iS [iA 61 (iM 8),iA 62 (iM 61),iB 63 62 true (iM 9),iA 64 (.pick (.t 62) (.t 63) (.c (.bool false))),iA 65 (iM 64),iB 66 65 true (iM 12),iB 67 65 true (iQ .eql 188 66 1),iA 68 (.pick (.t 65) (.t 67) (.c (.bool false)))] (iD 68 (iS [iA 69 (iM 0),iA 70 (iM 1),iA 71 (iM 2),iA 72 (.call 210 [.t 69,.t 70,.t 71])] (iD 72 .ret .skip)) .skip)) (.seq (.seq (.dreg (T.pure 0 (iA 73 (iM 1)) (T.pure 1 (iA 74 (iQ .gtr 3 73 0)) (T.pure 2 (iA 75 (iM 74)) (T.pure 3 (iB 76 75 true (iM 0)) (T.pure 4 (iB 77 75 true (iM 1)) (T.pure 5 (iB 78 75 true (iQ .sub 3 77 1)) (T.pure 6 (iB 79 75 true (iI 1 76 78)) (T.pure 7 (iB 80 75 true (iL 79)) (T.pure 8 (iB 81 75 true (iM 0)) (T.pure 9 (iB 82 75 true (iM 11)) (T.pure 10 (iB 83 75 true (iI 1 81 82)) (T.pure 11 (iB 84 75 true (iL 83)) (T.alt (iB 85 75 true (.call 211 [.t 80,.t 84])) [] (T.pure 13 (iB 86 75 true (iU 85)) (T.pure 14 (iA 87 (.pick (.t 75) (.t 86) (.c (.bool false)))) T.done)) T.stop)))))))))))))) (iD 87 (iS [iA 88 (iM 0),iA 89 (iM 1),iA 90 (iM 2),iA 91 (iM 11),iA 92 (.call 212 [.t 88,.t 89,.t 90,.t 91]),iA 13 (iM 92)] (iS [iA 93 (iM 13),iA 1 (iM 93)] (.exit 1))) .skip)) (iS [iA 95 (iM 0),iA 96 (iM 1),iA 97 (iM 2),iA 98 (iM 11),iA 99 (.call 213 [.t 95,.t 96,.t 97,.t 98]),iA 94 (iM 99),iA 100 (iE 94 0),iA 101 (iE 94 1),iA 14 (iM 100),iA 15 (iM 101)] (iS [iA 102 (iM 15),iA 9 (iM 102)] (iS [iA 103 (iM 14),iA 104 (iM 1),iA 105 (iP .sub 3 103 104),iA 106 (iM 2),iA 107 (iM 14),iA 108 (iP .sub 3 106 107),iA 16 (iM 105),iA 17 (iM 108)] (iS [iA 109 (iM 10),iA 110 (iQ .quo 3 109 8),iA 18 (iM 110)] (iS [iA 111 (iM 16),iA 112 (iM 17),iA 113 (iP .lss 3 111 112)] (iD 113 (iS [iA 114 (iM 16),iA 115 (iM 18),iA 116 (iP .geq 3 114 115),iA 8 (iM 116)] (iS [iA 117 (iM 0),iA 118 (iM 1),iA 119 (iM 14),iA 120 (iM 3),iA 121 (.call 202 [.t 117,.t 118,.t 119,.t 120])] (.reg [iA 122 (iM 14),iA 123 (iQ .add 3 122 1),iA 1 (iM 123)]))) (iS [iA 124 (iM 17),iA 125 (iM 18),iA 126 (iP .geq 3 124 125),iA 8 (iM 126)] (iS [iA 127 (iM 0),iA 128 (iM 14),iA 129 (iQ .add 3 128 1),iA 130 (iM 2),iA 131 (iM 3),iA 132 (.call 202 [.t 127,.t 129,.t 130,.t 131])] (.reg [iA 133 (iM 14),iA 2 (iM 133)])))))))))))))))))))))
theorem zr:fnC Tryz.prog Tryz.f202=some (qS,[],134):=by kernel_rfl
def zi:C:=iS [iA 3 (iM 0),iA 4 (iG 3),iA 2 (iM 4)] (.reg [iA 5 (iM 0),iA 6 (iM 2),iA 7 (iM 2),iA 8 (.cv (.num .u64) 0 (.t 7)),iA 9 (.call 203 [.t 8]),iA 10 (.call 202 [.t 5,.c (.int .i64 0),.t 6,.t 9])])
theorem jaZ:fnC Tryz.prog Tryz.f194=some (zi,[],11):=by kernel_rfl
def jcU:C:=iS [iA 2 (iN 0)] (.seq (.cond (.c (.bool false)) (iS [iA 3 (iM 0),iA 4 (.cv (.num .u32) 0 (.t 3)),iA 5 (.call 214 [.t 4]),iA 2 (iM 5)] .ret) .skip) (iS [iA 6 (iM 0),iA 7 (.call 215 [.t 6]),iA 2 (iM 7)] .ret))
theorem jfH:fnC Tryz.prog Tryz.f203=some (jcU,[.t 2],8):=by kernel_rfl
def jBg:ByteArray:=⟨(([0,1]:List UInt8)++List.replicate 2 2++List.replicate 4 3++List.replicate 8 4++List.replicate 16 5++List.replicate 32 6++List.replicate 64 7++List.replicate 128 8).toArray⟩
def jbp:C:=iS [iA 2 (iN 0)] (.seq (iS [iA 3 (iM 0),iA 4 (.bin .geq 198 (.t 3) (.c (.int .u64 4294967296)))] (iD 4 (iS [iA 5 (iM 0),iA 6 (.bin .shr 198 (.t 5) (.c (.int .u64 32))),iA 0 (iM 6)] (.reg [iA 2 (iN 32)])) .skip)) (.seq (iS [iA 7 (iM 0),iA 8 (.bin .geq 198 (.t 7) (.c (.int .u64 65536)))] (iD 8 (iS [iA 9 (iM 0),iA 10 (.bin .shr 198 (.t 9) (.c (.int .u64 16))),iA 0 (iM 10)] (.reg [iA 11 (iM 2),iA 12 (iQ .add 3 11 16),iA 2 (iM 12)])) .skip)) (.seq (iS [iA 13 (iM 0),iA 14 (.bin .geq 198 (.t 13) (.c (.int .u64 256)))] (iD 14 (iS [iA 15 (iM 0),iA 16 (.bin .shr 198 (.t 15) (.c (.int .u64 8))),iA 0 (iM 16)] (.reg [iA 17 (iM 2),iA 18 (iQ .add 3 17 8),iA 2 (iM 18)])) .skip)) (iS [iA 19 (iM 2),iA 20 (iM 0),iA 21 (.cv (.num .u8) 0 (.t 20)),iA 22 (.sidx (.c (.string jBg)) (.t 21)),iA 23 (.cv (.num .i64) 0 (.t 22)),iA 24 (iP .add 3 19 23),iA 2 (iM 24)] .ret))))
theorem jdw:fnC Tryz.prog Tryz.f215=some (jbp,[.t 2],25):=by kernel_rfl
theorem jyS (a:Int):kj Tryz.prog 222 [.c (.val (.int .i64 a))] (.c (.val (.bool false))):=by
 refine jq Tryz.func222 jeV (by simp) ?_
 unfold jb6;simp only [go_sem,bne_self_eq_false]
theorem jAX (a b:Int):kj Tryz.prog 211 [.c (.val (.int .i64 a)),.c (.val (.int .i64 b))] (.c (.val (.bool (decide (a<b))))):=by
 refine jq Tryz.func211 jfS (by simp) ?_
 unfold jc7;simp only [go_sem];refine jc (jyS a) (by simp only [go_sem]) fun η=>?_
 simp only [go_sem]
def up1 (o:Nat→Ob) (g:Nat) (ob:Ob):Nat→Ob:=fun k=>if k=g then ob else o k
theorem jpY (o:Nat→Ob) (g:Nat) (ob:Ob):up1 o g ob g=ob:=by simp [up1]
theorem jx9 (o:Nat→Ob) (g:Nat) (a b:Ob):(fun k=>if k=g then b else up1 o g a k)=up1 o g b:=by funext k;simp only [up1];split<;>rfl
theorem jzZ {o:Nat→Ob} {g:Nat} {ob:Ob} (h:o g=ob):o=up1 o g ob:=by
 funext k
 simp only [up1];split
 ·rename_i e;rw [e,h]
 ·rfl
theorem jvY (s:St) (g:Nat) (ob:Ob):(s.setO g ob).o=up1 s.o g ob:=rfl
theorem up1_2 (o:Nat→Ob) (g:Nat) (a b:Ob):up1 (up1 o g a) g b=up1 o g b:=jx9 o g a b
theorem jAQ (s:St) (d:Option Nat) (v:AV):(s.put d v).o=s.o:=by cases d<;>rfl
theorem jsn (A:List Int) (hA:A.length≤12) (o:Nat→Ob) (g:Nat) (η:js) (ho:o g=.loose (jh A) η):Inl Tryz.prog 205 [Hd g η,Ni 0,Ni A.length] o (fun av o'=>av=.tup []∧∃(l:List Int) (i:Nat),o'=up1 o g (.loose (jh l) η)∧SO A l i∧A.length≤i):=by
 refine qn (β:=0) Tryz.func205 vo (by simp) ?_
 unfold qe;simp only [go_sem];refine vB (fun s=>∃(l:List Int) (i:Nat),1≤i∧(i≤A.length∨i=1)∧SO A l i∧s.t 0=Hd g η∧s.t 1=Ni 0∧s.t 2=Ni A.length∧s.t 6=Ni i∧s.o=up1 o g (.loose (jh l) η)) (fun s=>A.length-s.n 6) ?_ ?_
 ·exact ⟨A,1,by omega,.inr rfl,SO_1 A,by simp only [go_sem]<;>rfl,by simp only [go_sem]<;>rfl,by simp only [go_sem]<;>rfl,by simp only [go_sem]<;>rfl,jzZ ho⟩
 ·rintro s ⟨l,i,hi,hi2,hso,h0,h1,h2,h6,hob⟩
  have hm:s.n 6=i:=jev h6;rw [hm];by_cases hlt:i<A.length
  ·have hlt':(i:Int)<A.length:=by omega
   have hw:IntKind.i64.wrap ((i:Int)+1)=((i+1:Nat):Int):=jf (by omega) (by omega)
   have hll:=hso.1.length_eq;simp only [go_sem,h0,h1,h2,h6,hob,hlt'];refine vB (fun s=>∃(l:List Int) (j:Nat),SI A l i j∧s.t 0=Hd g η∧s.t 1=Ni 0∧s.t 2=Ni A.length∧s.t 6=Ni i∧s.t 7=Ni j∧s.o=up1 o g (.loose (jh l) η)) (fun s=>s.n 7) ?_ ?_
   ·exact ⟨l,i,SI_0 hso,by simp only [go_sem,h0,h1,h2,h6,hob]<;>rfl,by simp only [go_sem,h0,h1,h2,h6,hob]<;>rfl,by simp only [go_sem,h0,h1,h2,h6,hob]<;>rfl,by simp only [go_sem,h0,h1,h2,h6,hob]<;>rfl,by simp only [go_sem,h0,h1,h2,h6,hob]<;>rfl,hob⟩
   ·clear h0 h1 h2 h6 hob hso hll hm
    rintro s ⟨l,j,hsi,h0,h1,h2,h6,h7,hob⟩;have hll:=hsi.1.length_eq;have hji:=hsi.2.1;have hm:s.n 7=j:=jev h7;rw [hm];cases j with
    |zero=>
     simp only [go_sem,h0,h1,h2,h6,h7,hob,hw];refine ⟨⟨l,i+1,by omega,.inl (by omega),jx2 hsi (.inl rfl),rfl,?_⟩,?_⟩
     ·exact hob
     ·rw [jev (k:=.i64) (n:=((i+1:Nat):Int)) (by simp only [go_sem])];omega
    |succ j=>
     have hj0:((j+1:Nat):Int)>0:=by omega
     have hw2:IntKind.i64.wrap (((j+1:Nat):Int)-1)=(j:Int):=by rw [jf (by omega) (by omega)];omega
     have hg1:l[j+1]?=some (l.getD (j+1) 0):=by rw [List.getD_eq_getElem?_getD,List.getElem?_eq_getElem (by omega)];rfl
     have hg0:l[j]?=some (l.getD j 0):=by rw [List.getD_eq_getElem?_getD,List.getElem?_eq_getElem (by omega)];rfl
     have hj1:j+1<l.length:=by omega
     have hj2:j<l.length:=by omega
     simp only [go_sem,h0,h1,h2,h6,h7,hob,hj0,hw2,jj hg1,jj hg0,jpY,hj1,hj2,ji hj1,ji hj2];refine jc (jAX (l.getD (j+1) 0) (l.getD j 0)) (by simp only [go_sem,h0,h1,h2,h6,h7,hob,hj0,hw2]) fun η=>?_
     simp only [go_sem,h0,h1,h2,h6,h7,hob,hj0,hw2];by_cases hc:l.getD (j+1) 0<l.getD j 0
     ·have hs2:j<(l.set (j+1) (l.getD j 0)).length:=by rw [List.length_set];exact hj2
      have hst:(l.set (j+1) (l.getD j 0)).set j (l.getD (j+1) 0)=swp l j:=rfl;simp only [go_sem,h0,h1,h2,h6,h7,hob,hj0,hw2,hc,jj hg1,jj hg0,jpY,hj1,hj2,ji hj1,ji hj2,jbA _ hj1,jbA _ hs2,ji hs2,hs2,hst];refine ⟨⟨swp l j,j,jB4 hsi (by omega) hc,?_⟩,?_⟩
      ·refine ⟨rfl,?_⟩
       simp only [jAQ,jvY,hob,up1_2]
      ·rw [jev (k:=.i64) (n:=((j:Nat):Int)) (by simp only [go_sem])];omega
     ·simp only [go_sem,h0,h1,h2,h6,h7,hob,hj0,hw,hc]
      refine ⟨⟨l,i+1,by omega,.inl (by omega),jx2 hsi (.inr ⟨j,rfl,by omega⟩),rfl,?_⟩,?_⟩
      ·exact hob
      ·rw [jev (k:=.i64) (n:=((i+1:Nat):Int)) (by simp only [go_sem])];omega
  ·have hlt':¬(i:Int)<A.length:=by omega
   simp only [go_sem,h0,h1,h2,h6,hob,hlt'];exact ⟨l,i,hob,hso,by omega⟩
theorem jiH {P:Program} {f:FuncId} {args:List AV} {o:Nat→Ob} {R R':AV→(Nat→Ob)→Prop} (h:Inl P f args o R) (hR:∀av o',R av o'→R' av o'):Inl P f args o R':=
 ⟨h.1,fun B w F xs h1 h2=>(h.2 B w F xs h1 h2).mono fun e w' ⟨v,av,o',F',k1,k2,k3,k4⟩=>⟨v,av,o',F',k1,k2,k3,hR _ _ k4⟩⟩
theorem wp_cf {P:Program} {β:Nat} {s:St} {Q:Ex→St→Prop} {a b:C}:wpC P β (.cond (.c (.bool false)) a b) Q s=wpC P β b Q s:=by
 apply propext
 constructor
 ·rintro ⟨t,h1,h2,h3⟩
  have:t=false:=by cases t<;>first|rfl|cases h1
  exact h3 this
 ·exact fun h=>⟨false,rfl,fun h'=>(by cases h'),fun _=>h⟩
def lenB (n:Nat):Int:=[0,1,2,2,3,3,3,3,4,4,4,4,4].getD n 0
theorem jpg (n:Nat) (hn:n≤12):kj Tryz.prog 215 [.c (.val (.int .u64 n))] (.c (.val (.int .i64 (lenB n)))):=by
 refine jq Tryz.func215 jdw (by simp) ?_
 have:n=0∨n=1∨n=2∨n=3∨n=4∨n=5∨n=6∨n=7∨n=8∨n=9∨n=10∨n=11∨n=12:=by omega
 unfold jbp;rcases this with rfl|rfl|rfl|rfl|rfl|rfl|rfl|rfl|rfl|rfl|rfl|rfl|rfl
 all_goals
  simp only [go_sem];exact ⟨_,rfl,rfl⟩
theorem jt1 (n:Nat) (hn:n≤12):kj Tryz.prog 203 [.c (.val (.int .u64 n))] (.c (.val (.int .i64 (lenB n)))):=by
 refine jq Tryz.func203 jfH (by simp) ?_
 unfold jcU;simp only [go_sem,wp_cf];refine jc (jpg n hn) (by simp only [go_sem]) fun η=>?_
 simp only [go_sem]
theorem jzj (A:List Int) (hA:A.length≤12) (o:Nat→Ob) (g:Nat) (η:js) (ho:o g=.loose (jh A) η) (v:Int):Inl Tryz.prog 202 [Hd g η,Ni 0,Ni A.length,Ni v] o (fun av o'=>av=.tup []∧∃(l:List Int) (i:Nat),o'=up1 o g (.loose (jh l) η)∧SO A l i∧A.length≤i):=by
 refine qn (β:=0) Tryz.func202 zr (by simp) ?_
 unfold qS;have h12:(A.length:Int)≤12:=by omega
 have hw:IntKind.i64.wrap ((A.length:Int)-0)=(A.length:Int):=by rw [Int.sub_zero];exact jf (by omega) (by omega)
 simp only [go_sem];refine zD 0 ?_;simp only [go_sem,hw,h12];refine kV (jiH (jsn A hA o g η ho) ?_);rintro av o' ⟨rfl,l,i,rfl,h1,h2⟩;exact ⟨l,i,rfl,h1,h2⟩
theorem jqJ (A:List Int) (hA:A.length≤12) (o:Nat→Ob) (g:Nat) (η:js) (ho:o g=.loose (jh A) η):Inl Tryz.prog 194 [Hd g η] o (fun av o'=>av=.tup []∧∃(l:List Int) (i:Nat),o'=up1 o g (.loose (jh l) η)∧SO A l i∧A.length≤i):=by
 refine qn (β:=0) Tryz.func194 jaZ (by simp) ?_
 unfold zi;have hw:IntKind.u64.wrap (A.length:Int)=(A.length:Int):=by generalize A.length=n at hA;have:n=0∨n=1∨n=2∨n=3∨n=4∨n=5∨n=6∨n=7∨n=8∨n=9∨n=10∨n=11∨n=12:=(by omega);rcases this with rfl|rfl|rfl|rfl|rfl|rfl|rfl|rfl|rfl|rfl|rfl|rfl|rfl<;>rfl
 simp only [go_sem,ho,hw];refine jc (jt1 A.length hA) (by simp only [go_sem]) fun η2=>?_
 simp only [go_sem];refine kV (jiH (jzj A hA _ g η (by simp only [go_sem,ho]) (lenB A.length)) ?_)
 rintro av o' ⟨rfl,l,i,rfl,h1,h2⟩;exact ⟨l,i,rfl,h1,h2⟩
end Go.Proofs.YtcehjhiglmifjaaGreat
