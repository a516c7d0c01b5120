/- Parts. -/
import Derived.Test.YtmnpailnelmpiaaGreatQData
set_option linter.unusedSimpArgs false
set_option linter.unusedVariables false
namespace Go.Proofs.YtmnpailnelmpiaaGreat
theorem jcr:∀(n:Nat) (l:List Int),l.Nodup→(∀x∈l,0≤x∧x<n)→l.length≤n
 |0,l,_,h=>by
  cases l with
  |nil=>exact Nat.le_refl _
  |cons x l=>have:=h x (by simp);omega
 |n+1,l,hd,h=>by
  by_cases hm:(n:Int)∈l
  ·have h1:=jcr n (l.erase n) (hd.erase _) (fun x hx=>by
    have h2:=(hd.mem_erase_iff).1 hx;have:=h x h2.2;have:=h2.1;omega)
   rw [List.length_erase_of_mem hm] at h1;omega
  ·have h1:=jcr n l hd (fun x hx=>by
    have:=h x hx;have:x≠n:=fun e=>hm (e▸hx)
    omega)
   omega
def isE (es:List Ed) (a b:Int):Prop:=∃e∈es,e.src=a∧e.dst=b
inductive Rc (es:List Ed):Int→Int→Prop
 |one {a b:Int}:isE es a b→Rc es a b
 |step {a b c:Int}:Rc es a b→isE es b c→Rc es a c
def Rk (es:List Ed):Nat→Int→Int→Prop
 |0,_,_=>False
 |k+1,a,b=>isE es a b∨∃c,isE es a c∧Rk es k c b
section
variable {es:List Ed}
theorem Rk.mono {a b:Int}:∀{k:Nat},Rk es k a b→Rk es (k+1) a b:=by
 intro k
 induction k generalizing a with
 |zero=>intro h;exact h.elim
 |succ k ih=>
  rintro (h|⟨c,h1,h2⟩)
  ·exact .inl h
  ·exact .inr ⟨c,h1,ih h2⟩
theorem Rk.le {a b:Int} {k m:Nat} (h:Rk es k a b) (hk:k≤m):Rk es m a b:=by
 induction m with
 |zero=>obtain rfl:k=0:=by omega
        exact h
 |succ m ih=>
  by_cases e:k=m+1
  ·subst e;exact h
  ·exact (ih (by omega)).mono
theorem Rk.snoc {a b c:Int} (he:isE es b c):∀{k:Nat},Rk es k a b→Rk es (k+1) a c:=by
 intro k
 induction k generalizing a with
 |zero=>intro h;exact h.elim
 |succ k ih=>
  rintro (h|⟨d,h1,h2⟩)
  ·exact .inr ⟨b,h,.inl he⟩
  ·exact .inr ⟨d,h1,ih h2⟩
theorem Rc.rk {a b:Int} (h:Rc es a b):∃k,Rk es k a b:=by
 induction h with
 |one h=>exact ⟨1,.inl h⟩
 |step _ h ih=>obtain ⟨k,hk⟩:=ih;exact ⟨k+1,hk.snoc h⟩
theorem Rc.cons {a b c:Int} (he:isE es a b) (h:Rc es b c):Rc es a c:=by
 induction h with
 |one h=>exact .step (.one he) h
 |step _ h ih=>exact .step ih h
theorem jt5 {α:Type} {p q:α→Bool} {l:List α} (h:∀x∈l,p x=true→q x=true) {x:α} (hx:x∈l) (hq:q x=true) (hp:p x=false):(l.filter p).length<(l.filter q).length:=by
 induction l with
 |nil=>simp at hx
 |cons a l ih=>
  have hle:(l.filter p).length≤(l.filter q).length:=by
   clear ih hx
   induction l with
   |nil=>simp
   |cons b l ih=>
    have:=ih (fun x hx=>h x (by simp only [List.mem_cons] at hx⊢;rcases hx with rfl|hx<;>simp_all))
    by_cases hb:p b=true
    ·have:=h b (by simp) hb
     simp [List.filter_cons,hb,this];omega
    ·by_cases hb':q b=true<;>simp [List.filter_cons,hb,hb']<;>omega
  rcases List.mem_cons.1 hx with rfl|hx
  ·simp [List.filter_cons,hq,hp];omega
  ·have:=ih (fun x hx=>h x (by simp [hx])) hx
   by_cases hb:p a=true
   ·have:=h a (by simp) hb
    simp [List.filter_cons,hb,this];omega
   ·by_cases hb':q a=true<;>simp [List.filter_cons,hb,hb']<;>omega
open Classical in
theorem Rc.enough {n:Nat} (hes:∀e∈es,0≤e.src∧e.src<n) {a b:Int} (h:Rc es a b):Rk es n a b:=by
 let f:Nat→List Nat:=fun k=>(List.range n).filter fun (i:Nat)=>decide (Rk es k (i:Int) b)
 have hsrc:∀{k:Nat} {a:Int},Rk es k a b→∃i:Nat,i<n∧a=i:=by
  intro k a hk
  have:∃c,isE es a c:=by
   cases k with
   |zero=>exact hk.elim
   |succ k=>rcases hk with h|⟨c,h,_⟩<;>exact ⟨_,h⟩
  obtain ⟨c,e,he,rfl,rfl⟩:=this;have:=hes e he;exact ⟨e.src.toNat,by omega,by omega⟩
 have key:∀k,k≤n→(k≤(f k).length)∨∃m,m<k∧∀a,Rk es (m+1) a b→Rk es m a b:=by
  intro k
  induction k with
  |zero=>intro _;exact .inl (Nat.zero_le _)
  |succ k ih=>
   intro hk;rcases ih (by omega) with h1|⟨m,h1,h2⟩
   ·by_cases hs:∀a,Rk es (k+1) a b→Rk es k a b
    ·exact .inr ⟨k,by omega,hs⟩
    ·simp only [Classical.not_forall] at hs
     obtain ⟨a,h3,h4⟩:=hs;obtain ⟨i,hi,rfl⟩:=hsrc h3;refine .inl (Nat.lt_of_le_of_lt h1 ?_);exact jt5 (x:=i) (fun x _ hx=>by simp at hx⊢;exact hx.mono) (by simpa using hi) (by simpa using h3) (by simpa using h4)
   ·exact .inr ⟨m,by omega,h2⟩
 obtain ⟨k,hk⟩:=h.rk;rcases key n (Nat.le_refl _) with h1|⟨m,h1,h2⟩
 ·obtain ⟨i,hi,rfl⟩:=hsrc hk
  have hall:∀x∈List.range n,(fun (i:Nat)=>decide (Rk es n (i:Int) b)) x=true:=by
   have hle:=List.length_filter_le (fun (i:Nat)=>decide (Rk es n (i:Int) b)) (List.range n)
   rw [List.length_range] at hle;refine List.length_filter_eq_length_iff.1 ?_;rw [List.length_range];exact Nat.le_antisymm hle h1
  simpa using hall i (by simpa using hi)
 ·have:∀k a,Rk es k a b→Rk es m a b:=by
   intro k
   induction k with
   |zero=>intro a h;exact h.elim
   |succ k ih=>
    rintro a (h|⟨c,h3,h4⟩)
    ·exact h2 a (.inl h)
    ·exact h2 a (.inr ⟨c,h3,ih c h4⟩)
  exact (this k a hk).le (by omega)
end
def zE (S:List Nat) (e:Ed):List Nat:=S.set e.src.toNat (S.getD e.src.toNat 0|||(2^e.dst.toNat|||S.getD e.dst.toNat 0))
def rnd (es:List Ed) (S:List Nat):List Nat:=es.foldl zE S
def joc (es:List Ed):Nat→List Nat→List Nat
 |0,S=>S
 |k+1,S=>rnd es (joc es k S)
def jdy (es:List Ed) (n:Nat):List Nat:=joc es n (List.replicate n 0)
def okE (n:Nat) (e:Ed):Prop:=(0≤e.src∧e.src<n)∧(0≤e.dst∧e.dst<n)
section
variable {es:List Ed} {n:Nat}
theorem jcd (S:List Nat) (e:Ed):(zE S e).length=S.length:=by simp [zE]
theorem jv1 (S:List Nat) (i j v:Nat):(S.set i v).getD j 0=if i=j∧j<S.length then v else S.getD j 0:=by
 simp only [List.getD_eq_getElem?_getD,List.getElem?_set];by_cases h:i=j
 ·subst h
  by_cases hl:i<S.length
  ·simp [hl]
  ·simp [hl]
 ·simp [h]
theorem jiB {S:List Nat} {e:Ed} (he:okE n e) (hS:S.length=n) (a b:Nat):((zE S e).getD a 0).testBit b=if a=e.src.toNat then ((S.getD a 0).testBit b||(decide (b=e.dst.toNat)||(S.getD e.dst.toNat 0).testBit b)) else (S.getD a 0).testBit b:=by
 obtain ⟨⟨h1,h2⟩,h3,h4⟩:=he;unfold zE;rw [jv1];by_cases h:a=e.src.toNat
 ·subst h
  rw [if_pos ⟨rfl,by omega⟩,if_pos rfl]
  simp only [Nat.testBit_or,Nat.testBit_two_pow]
  congr 2
  by_cases e:e.dst.toNat=b<;>simp [e,eq_comm]
  intro h;exact absurd h.symm e
 ·rw [if_neg (fun h'=>h h'.1.symm),if_neg h]
def Snd (es:List Ed) (n:Nat) (S:List Nat):Prop:=S.length=n∧∀a b:Nat,(S.getD a 0).testBit b=true→Rc es a b
def Cpl (es:List Ed) (k:Nat) (S:List Nat):Prop:=∀a b:Nat,Rk es k a b→(S.getD a 0).testBit b=true
theorem jve {S:List Nat} {e:Ed} (he:okE n e) (hm:e∈es) (h:Snd es n S):Snd es n (zE S e):=by
 refine ⟨by rw [jcd];exact h.1,fun a b hb=>?_⟩
 rw [jiB he h.1] at hb;obtain ⟨⟨h1,h2⟩,h3,h4⟩:=he;split at hb
 ·rename_i ha
  simp only [Bool.or_eq_true,decide_eq_true_eq] at hb;have hE:isE es a e.dst:=⟨e,hm,by omega,rfl⟩
  rcases hb with hb|hb|hb
  ·exact h.2 a b hb
  ·rw [show (b:Int)=e.dst by omega];exact .one hE
  ·have:=h.2 _ b hb
   rw [show ((e.dst.toNat:Nat):Int)=e.dst by omega] at this
   exact .cons hE this
 ·exact h.2 a b hb
theorem jpw:∀{l:List Ed} {S:List Nat},(∀e∈l,okE n e∧e∈es)→Snd es n S→Snd es n (l.foldl zE S)
 |[],_,_,h=>h
 |e::l,S,hl,h=>jpw (l:=l) (S:=zE S e) (fun e he=>hl e (by simp [he])) (jve (hl e (by simp)).1 (hl e (by simp)).2 h)
theorem jmB {S:List Nat} {e:Ed} (he:okE n e) (hS:S.length=n) {a b:Nat} (h:(S.getD a 0).testBit b=true):((zE S e).getD a 0).testBit b=true:=by
 rw [jiB he hS];split<;>simp only [h,Bool.true_or]
theorem jnA:∀{l:List Ed} {S:List Nat},(∀e∈l,okE n e)→S.length=n→∀{a b:Nat},(S.getD a 0).testBit b=true→((l.foldl zE S).getD a 0).testBit b=true
 |[],_,_,_,_,_,h=>h
 |e::l,S,hl,hS,a,b,h=>jnA (l:=l) (S:=zE S e) (fun e he=>hl e (by simp [he])) (by rw [jcd];exact hS) (jmB (hl e (by simp)) hS h)
theorem jl8:∀(l:List Ed) (S:List Nat),(l.foldl zE S).length=S.length
 |[],_=>rfl
 |e::l,S=>by rw [List.foldl_cons,jl8 l,jcd]
theorem jl7:∀{l:List Ed} {S:List Nat},(∀e∈l,okE n e)→S.length=n→∀{e:Ed} {b:Nat},e∈l→(b=e.dst.toNat∨(S.getD e.dst.toNat 0).testBit b=true)→((l.foldl zE S).getD e.src.toNat 0).testBit b=true
 |[],_,_,_,_,_,h,_=>by simp at h
 |e'::l,S,hl,hS,e,b,hm,hb=>by
  rw [List.foldl_cons];by_cases heq:e=e'
  ·subst heq
   refine jnA (l:=l) (S:=zE S e) (fun e he=>hl e (by simp [he])) (by rw [jcd];exact hS) ?_
   rw [jiB (hl e (by simp)) hS,if_pos rfl]
   rcases hb with hb|hb
   ·simp only [hb,decide_true,Bool.true_or,Bool.or_true]
   ·simp only [hb,Bool.or_true]
  ·have hm':e∈l:=(List.mem_cons.1 hm).resolve_left heq
   refine jl7 (l:=l) (S:=zE S e') (fun e he=>hl e (by simp [he])) (by rw [jcd];exact hS) hm' (hb.imp id fun hb=>jmB (hl e' (by simp)) hS hb)
theorem jxZ {S:List Nat} {k:Nat} (hes:∀e∈es,okE n e) (hS:S.length=n) (h:Cpl es k S):Cpl es (k+1) (rnd es S):=by
 rintro a b (⟨e,he,h1,h2⟩|⟨c,⟨e,he,h1,h2⟩,h3⟩)
 ·have:=jl7 hes hS (b:=b) he (.inl (by omega))
  rwa [show e.src.toNat=a by omega] at this
 ·have hc:(e.dst.toNat:Int)=c:=by have:=(hes e he).2.1;omega
  have:=jl7 hes hS (b:=b) he (.inr (h _ b (by rw [hc];exact h3)))
  rwa [show e.src.toNat=a by omega] at this
theorem jpE (k:Nat) (S:List Nat):(joc es k S).length=S.length:=by
 induction k with
 |zero=>rfl
 |succ k ih=>rw [joc,rnd,jl8,ih]
theorem jsl:(jdy es n).length=n:=by rw [jdy,jpE,List.length_replicate]
theorem jvz (a:Nat):(List.replicate n 0).getD a 0=0:=by
 simp only [List.getD_eq_getElem?_getD,List.getElem?_replicate];split<;>rfl
theorem jsm (hes:∀e∈es,okE n e) (a b:Nat):((jdy es n).getD a 0).testBit b=true↔Rc es a b:=by
 have h1:∀k,Snd es n (joc es k (List.replicate n 0)):=by
  intro k
  induction k with
  |zero=>exact ⟨by simp [joc],fun a b hb=>by rw [joc,jvz] at hb;simp at hb⟩
  |succ k ih=>exact jpw (fun e he=>⟨hes e he,he⟩) ih
 have h2:∀k,Cpl es k (joc es k (List.replicate n 0)):=by
  intro k
  induction k with
  |zero=>exact fun a b h=>h.elim
  |succ k ih=>exact jxZ hes (h1 k).1 ih
 constructor
 ·exact (h1 n).2 a b
 ·intro h;exact h2 n a b (h.enough fun e he=>(hes e he).1)
theorem jxx {S:List Nat} {e:Ed} (he:okE n e) (h:∀x∈S,x<2^n):∀x∈zE S e,x<2^n:=by
 have hg:∀i,S.getD i 0<2^n:=by
  intro i;rw [List.getD_eq_getElem?_getD];cases hi:S[i]? with
  |none=>simp;exact Nat.two_pow_pos n
  |some v=>exact h v (List.mem_of_getElem? hi)
 intro x hx;rcases List.mem_or_eq_of_mem_set hx with hx|rfl
 ·exact h x hx
 ·refine Nat.or_lt_two_pow (hg _) (Nat.or_lt_two_pow ?_ (hg _))
  obtain ⟨_,h3,h4⟩:=he;exact Nat.pow_lt_pow_right (by omega) (by omega)
end
def inB (n a b:Int):Bool:=decide (a≤n∧n≤b)
def vF (p:Pl):Bool:=!inB p.tasks 1 12||decide (30<p.edges.length)||!inB p.prio 0 9||!inB p.most 1 5||!inB p.wait 1 20
def jir (n:Int) (e:Ed):Bool:=!inB e.src 0 (n-1)||!inB e.dst 0 (n-1)
open Classical in
noncomputable def jA3 (p:Pl):Bool:=decide (∃t:Nat,(t:Int)<p.tasks∧Rc p.edges t t)
noncomputable def jw (p:Pl):Int:=if vF p then 1 else if p.edges.any (jir p.tasks) then 2 else if decide (p.edges.Nodup) then (if jA3 p then 4 else 0) else 3
theorem jtu {n:Int} {es:List Ed} (h:es.any (jir n)=false):∀e∈es,okE n.toNat e:=by
 intro e he;have:=List.any_eq_false.1 h e he;simp only [jir,inB,Bool.or_eq_true,Bool.not_eq_true',decide_eq_false_iff_not,not_or,Classical.not_not] at this;obtain ⟨⟨h1,h2⟩,h3,h4⟩:=this;exact ⟨⟨h1,by omega⟩,h3,by omega⟩
def jn2 (n:Nat) (r:List Int):List Bool:=(List.range n).map fun (k:Nat)=>decide ((k:Int)∈r)
open Classical in
noncomputable def rcB (es:List Ed) (a b:Int):Bool:=decide (Rc es a b)
theorem rcB_iff {es:List Ed} {a b:Int}:rcB es a b=true↔Rc es a b:=by simp [rcB]
noncomputable def ji9 (es:List Ed) (n:Nat) (t:Int):List Bool:=(List.range n).map fun (k:Nat)=>rcB es t k
def jy5 (es:List Ed) (n:Nat) (t:Int) (h:Nat) (r:List Int):Prop:=
 r.Nodup∧(∀x∈r,(0≤x∧x<n)∧Rc es t x)∧h≤(t::r).length∧∀j,j<h→∀x,(t::r)[j]?=some x→∀e∈es,e.src=x→e.dst∈r
def BIn (es:List Ed) (n:Nat) (t:Int) (h:Nat) (x:Int) (i:Nat) (r:List Int):Prop:=
 jy5 es n t h r∧(t::r)[h]?=some x∧∀e∈es.take i,e.src=x→e.dst∈r
section
variable {es:List Ed} {n:Nat} {t x:Int} {h i:Nat} {r:List Int}
theorem zY:(jn2 n r).length=n:=by simp [jn2]
theorem jis {k:Nat} (hk:k<n):(jn2 n r)[k]?=some (decide ((k:Int)∈r)):=by simp [jn2,hk]
theorem jwz {k:Nat} (hk:k<n):(jn2 n r).set k true=jn2 n (r++[(k:Int)]):=by
 apply List.ext_getElem?
 intro j;rw [List.getElem?_set];by_cases hj:j<n
 ·rw [jis hj,jis hj]
  by_cases e:k=j
  ·subst e;simp [zY,hk]
  ·have e':¬(j:Int)=k:=by omega
   simp [e,e']
 ·have h1:(jn2 n r)[j]?=none:=List.getElem?_eq_none (by rw [zY];omega)
  have h2:(jn2 n (r++[(k:Int)]))[j]?=none:=List.getElem?_eq_none (by rw [zY];omega)
  rw [h1,h2,if_neg (by omega)]
theorem jBa:jy5 es n t 0 []:=⟨List.nodup_nil,by simp,by simp,fun j hj=>by omega⟩
theorem jqC (h:jy5 es n t h r):r.length≤n:=jcr n r h.1 fun x hx=>(h.2.1 x hx).1
theorem bIn_0 (hb:jy5 es n t h r) (hx:(t::r)[h]?=some x):BIn es n t h x 0 r:=⟨hb,hx,by simp⟩
theorem jxg {e:Ed} (hb:BIn es n t h x i r) (he:es[i]?=some e) (hq:e.src=x→e.dst∈r):BIn es n t h x (i+1) r:=by
 refine ⟨hb.1,hb.2.1,fun e' he'=>?_⟩
 rw [List.take_add_one,he] at he';rcases List.mem_append.1 he' with h1|h1
 ·exact hb.2.2 e' h1
 ·simp at h1;subst h1;exact hq
theorem jy1 {e:Ed} (hb:BIn es n t h x i r) (he:es[i]?=some e) (hs:e.src=x) (hd:e.dst∉r) (hr:0≤e.dst∧e.dst<n) (ht:h=0→x=t):BIn es n t h x (i+1) (r++[e.dst]):=by
 obtain ⟨⟨h1,h2,h3,h4⟩,h5,h6⟩:=hb;have hm:e∈es:=List.mem_of_getElem? he
 have hR:Rc es t e.dst:=by
  have hE:isE es x e.dst:=⟨e,hm,hs,rfl⟩;cases h with
  |zero=>simp at h5;subst h5;exact .one hE
  |succ h=>exact .step (h2 x (List.mem_of_getElem? (by simpa using h5))).2 hE
 have hlt:h<(t::r).length:=(List.getElem?_eq_some_iff.1 h5).1;refine ⟨⟨?_,fun y hy=>?_,by simp at hlt⊢;omega,fun j hj y hy e' he' hse=>?_⟩,?_,fun e' he' hse=>?_⟩
 ·rw [List.nodup_append];exact ⟨h1,by simp,fun a ha b hb=>by simp at hb;subst hb;exact fun e=>hd (e▸ha)⟩
 ·rcases List.mem_append.1 hy with hy|hy
  ·exact h2 y hy
  ·simp at hy;subst hy;exact ⟨hr,hR⟩
 ·rw [show t::(r++[e.dst])=(t::r)++[e.dst] from rfl,List.getElem?_append_left (by omega)] at hy
  exact List.mem_append_left _ (h4 j hj y hy e' he' hse)
 ·rw [show t::(r++[e.dst])=(t::r)++[e.dst] from rfl,List.getElem?_append_left hlt];exact h5
 ·rw [List.take_add_one,he] at he'
  rcases List.mem_append.1 he' with h7|h7
  ·exact List.mem_append_left _ (h6 e' h7 hse)
  ·simp at h7;subst h7;simp
theorem juG (hb:BIn es n t h x i r) (hi:es.length≤i):jy5 es n t (h+1) r:=by
 obtain ⟨⟨h1,h2,h3,h4⟩,h5,h6⟩:=hb;rw [List.take_of_length_le hi] at h6;have hlt:h<(t::r).length:=(List.getElem?_eq_some_iff.1 h5).1;refine ⟨h1,h2,by omega,fun j hj y hy=>?_⟩
 by_cases e:j=h
 ·subst e;rw [h5] at hy;cases hy;exact h6
 ·exact h4 j (by omega) y hy
theorem juH (hb:jy5 es n t h r) (hl:(t::r).length≤h):jn2 n r=ji9 es n t:=by
 obtain ⟨h1,h2,h3,h4⟩:=hb
 have hcl:∀x∈t::r,∀e∈es,e.src=x→e.dst∈r:=fun x hx=>by
  obtain ⟨j,hj,hxj⟩:=List.getElem_of_mem hx;exact h4 j (by omega) x (by rw [List.getElem?_eq_getElem hj,hxj])
 have hR:∀y,Rc es t y→y∈r:=by
  intro y hy
  induction hy with
  |one h=>obtain ⟨e,he,h5,h6⟩:=h;exact h6▸hcl _ (by simp) e he h5
  |step _ h ih=>obtain ⟨e,he,h5,h6⟩:=h;exact h6▸hcl _ (List.mem_cons_of_mem _ ih) e he h5
 unfold jn2 ji9;refine List.map_congr_left fun k _=>?_
 by_cases hk:(k:Int)∈r
 ·rw [decide_eq_true hk,rcB_iff.2 (h2 _ hk).2]
 ·rw [decide_eq_false hk]
  cases hq:rcB es t k with
  |true=>exact absurd (hR _ (rcB_iff.1 hq)) hk
  |false=>rfl
theorem jnz {k:Nat} (hk:k<n):(ji9 es n t)[k]?=some (rcB es t k):=by simp [ji9,hk]
theorem jfc:(ji9 es n t).length=n:=by simp [ji9]
end
def jiD (n:Nat) (A:List Int):List Int:=(List.range n).flatMap fun (t:Nat)=>List.replicate (A.count (t:Int)) (t:Int)
theorem jwN (A:List Int):jiD 0 A=[]:=rfl
theorem jce (n:Nat) (A:List Int):jiD (n+1) A=jiD n A++List.replicate (A.count (n:Int)) (n:Int):=by simp [jiD,List.range_succ]
theorem jeT {A:List Int}:∀{n:Nat} {x:Int},x∈jiD n A→(0≤x∧x<n)∧x∈A
 |0,x,h=>by simp [jiD] at h
 |n+1,x,h=>by
  rw [jce] at h;rcases List.mem_append.1 h with h|h
  ·have:=jeT h;exact ⟨by omega,this.2⟩
  ·obtain ⟨h1,h2⟩:=List.mem_replicate.1 h
   refine ⟨by omega,?_⟩
   rw [h2];exact List.count_pos_iff.1 (by omega)
theorem jiC (A:List Int):∀(n:Nat),(jiD n A).Pairwise (· ≤ ·)
 |0=>by simp [jiD]
 |n+1=>by
  rw [jce,List.pairwise_append];refine ⟨jiC A n,?_,fun a ha b hb=>?_⟩
  ·rw [List.pairwise_replicate];right;exact Int.le_refl _
  ·have:=jeT ha
   have:=(List.mem_replicate.1 hb).2;omega
theorem jks (A:List Int) (x:Int):∀(n:Nat),(jiD n A).count x=if 0≤x∧x<n then A.count x else 0
 |0=>by rw [if_neg (by omega)];simp [jiD]
 |n+1=>by
  rw [jce,List.count_append,jks A x n,List.count_replicate];by_cases h:x=n
  ·subst h
   rw [if_neg (by omega),if_pos (by simp),if_pos (by omega)];omega
  ·have h2:((n:Int)==x)=false:=by simpa using fun e=>h e.symm
   simp only [h2,Bool.false_eq_true,if_false];by_cases h3:0≤x∧x<n
   ·rw [if_pos h3,if_pos (by omega)];rfl
   ·rw [if_neg h3,if_neg (by omega)]
theorem ja2 {n:Nat} {A:List Int} (h:∀x∈A,0≤x∧x<n):(jiD n A).Perm A:=by
 rw [List.perm_iff_count];intro x;rw [jks];split
 ·rfl
 ·rename_i hx
  exact (List.count_eq_zero.2 fun hm=>hx (h x hm)).symm
theorem jvd {n:Nat} {A:List Int} (h:∀x∈A,0≤x∧x<n):(jiD n A).length=A.length:=(ja2 h).length_eq
theorem jmD:∀{s t:List Int},s.Perm t→s.Pairwise (· ≤ ·)→t.Pairwise (· ≤ ·)→s=t
 |[],t,h,_,_=>h.nil_eq
 |a::s,[],h,_,_=>absurd h.length_eq (by simp)
 |a::s,b::t,h,h1,h2=>by
  rw [List.pairwise_cons] at h1 h2
  have hab:a=b:=by
   have ha:a∈b::t:=h.mem_iff.1 (by simp)
   have hb:b∈a::s:=h.mem_iff.2 (by simp)
   rcases List.mem_cons.1 ha with ha|ha
   ·exact ha
   rcases List.mem_cons.1 hb with hb|hb
   ·exact hb.symm
   exact Int.le_antisymm (h1.1 b hb) (h2.1 a ha)
  subst hab;rw [jmD ((List.perm_cons a).1 h) h1.2 h2.2]
theorem jqU {n:Nat} {A s:List Int} (h:∀x∈A,0≤x∧x<n) (hp:s.Perm A) (hs:s.Pairwise (· ≤ ·)):s=jiD n A:=jmD (hp.trans (ja2 h).symm) hs (jiC A n)
def swp (l:List Int) (j:Nat):List Int:=(l.set (j+1) (l.getD j 0)).set j (l.getD (j+1) 0)
theorem ju9 {l:List Int} {j:Nat} (h:j+1<l.length):(swp l j).Perm l:=by
 have e:l=l.take j++l[j]::l[j+1]::l.drop (j+2):=by rw [←List.drop_eq_getElem_cons h,←List.drop_eq_getElem_cons,List.take_append_drop]
 have e2:swp l j=l.take j++l[j+1]::l[j]::l.drop (j+2):=by
  apply List.ext_getElem?
  intro k;have h1:l.getD j 0=l[j]:=by rw [List.getD_eq_getElem?_getD,List.getElem?_eq_getElem (by omega)];rfl
  have h2:l.getD (j+1) 0=l[j+1]:=by rw [List.getD_eq_getElem?_getD,List.getElem?_eq_getElem h];rfl
  have ht:(l.take j).length=j:=by rw [List.length_take];omega
  simp only [swp,h1,h2,List.getElem?_set,List.length_set];by_cases k1:j=k
  ·subst k1;rw [if_pos rfl,if_pos (by omega),List.getElem?_append_right (by omega),ht];simp
  ·rw [if_neg k1]
   by_cases k2:j+1=k
   ·subst k2;rw [if_pos rfl,if_pos (by omega),List.getElem?_append_right (by omega),ht];simp
   ·rw [if_neg k2]
    by_cases k3:k<j
    ·rw [List.getElem?_append_left (by omega),List.getElem?_take_of_lt k3]
    ·rw [List.getElem?_append_right (by omega),ht]
     obtain ⟨m,rfl⟩:∃m,k=j+2+m:=⟨k-(j+2),by omega⟩
     rw [show j+2+m-j=m+2 by omega,List.getElem?_cons_succ,List.getElem?_cons_succ,List.getElem?_drop]
 rw [e2]
 conv=>rhs;rw [e]
 exact List.Perm.append_left _ (List.Perm.swap _ _ _)
theorem jsx {l:List Int} {j:Nat} (h:j+1<l.length) (p:Nat):(swp l j).getD p 0=if p=j then l.getD (j+1) 0 else if p=j+1 then l.getD j 0 else l.getD p 0:=by
 simp only [swp,List.getD_eq_getElem?_getD,List.getElem?_set,List.length_set];by_cases k1:p=j
 ·subst k1;simp [show p<l.length from by omega]
 by_cases k2:p=j+1
 ·subst k2;simp [h]
 ·have k3:¬j=p:=fun e=>k1 e.symm
  have k4:¬j+1=p:=fun e=>k2 e.symm
  simp [k1,k2,k3,k4]
def SO (A l:List Int) (i:Nat):Prop:=l.Perm A∧∀p q:Nat,p<q→q<i→l.getD p 0≤l.getD q 0
def SI (A l:List Int) (i j:Nat):Prop:=l.Perm A∧j≤i∧∀p q:Nat,p<q→q≤i→q≠j→l.getD p 0≤l.getD q 0
theorem SO_1 (A:List Int):SO A A 1:=⟨.refl A,fun p q h h'=>by omega⟩
theorem SI_0 {A l:List Int} {i:Nat} (h:SO A l i):SI A l i i:=⟨h.1,Nat.le_refl _,fun p q h1 h2 h3=>h.2 p q h1 (by omega)⟩
theorem jBk {A l:List Int} {i j:Nat} (h:SI A l i (j+1)) (hi:i<l.length) (hlt:l.getD (j+1) 0<l.getD j 0):SI A (swp l j) i j:=by
 obtain ⟨h1,h2,h3⟩:=h;have hj:j+1<l.length:=by omega
 refine ⟨(ju9 hj).trans h1,by omega,fun p q hpq hq hne=>?_⟩
 rw [jsx hj,jsx hj,if_neg hne];by_cases q1:q=j+1
 ·subst q1
  rw [if_pos rfl];by_cases p1:p=j
  ·rw [if_pos p1];omega
  ·rw [if_neg p1,if_neg (by omega)];exact h3 p j (by omega) (by omega) (by omega)
 ·rw [if_neg q1]
  by_cases p1:p=j
  ·rw [if_pos p1];exact h3 (j+1) q (by omega) hq q1
  ·rw [if_neg p1]
   by_cases p2:p=j+1
   ·rw [if_pos p2];exact h3 j q (by omega) hq q1
   ·rw [if_neg p2];exact h3 p q hpq hq q1
theorem jxj {A l:List Int} {i j:Nat} (h:SI A l i j) (he:j=0∨∃k,j=k+1∧l.getD k 0≤l.getD j 0):SO A l (i+1):=by
 obtain ⟨h1,h2,h3⟩:=h;refine ⟨h1,fun p q hpq hq=>?_⟩
 by_cases e:q=j
 ·subst e
  rcases he with he|⟨k,rfl,h4⟩
  ·omega
  ·by_cases e2:p=k
   ·subst e2;exact h4
   ·exact Int.le_trans (h3 p k (by omega) (by omega) (by omega)) h4
 ·exact h3 p q hpq (by omega) e
theorem jBj {A l:List Int} {i:Nat} (h:SO A l i) (hi:l.length≤i):l.Pairwise (· ≤ ·):=by
 rw [List.pairwise_iff_getElem];intro p q hp hq hpq;have:=h.2 p q hpq (by omega)
 rw [List.getD_eq_getElem?_getD,List.getD_eq_getElem?_getD,List.getElem?_eq_getElem hp,List.getElem?_eq_getElem hq] at this;exact this
theorem jwM {n:Nat} {A l:List Int} {i:Nat} (h:∀x∈A,0≤x∧x<n) (hs:SO A l i) (hi:l.length≤i):l=jiD n A:=jqU h hs.1 (jBj hs hi)
def jeM (es:List Ed) (t:Int):List Int:=(es.filter fun e=>e.dst==t).map (·.src)
def jeL (es:List Ed) (t:Int):List Int:=(es.filter fun e=>e.src==t).map (·.dst)
def zo (p:Pl) (t:Int):List Int:=jiD p.tasks.toNat (jeM p.edges t)
def jbo (p:Pl) (t:Int):List Int:=jiD p.tasks.toNat (jeL p.edges t)
section
variable {es:List Ed} {k n:Nat} {e:Ed}
theorem jn1 (h:es[k]?=some e) (t:Int):jeM (es.take (k+1)) t=jeM (es.take k) t++(if e.dst=t then [e.src] else []):=by
 rw [List.take_add_one,h];by_cases ht:e.dst=t<;>simp [jeM,ht]
theorem jn0 (h:es[k]?=some e) (t:Int):jeL (es.take (k+1)) t=jeL (es.take k) t++(if e.src=t then [e.dst] else []):=by
 rw [List.take_add_one,h];by_cases ht:e.src=t<;>simp [jeL,ht]
theorem jr7 (h:es[k]?=some e) (x t:Int):(jeM (es.take (k+1)) t).count x=(jeM (es.take k) t).count x+(if e.src=x∧e.dst=t then 1 else 0):=by
 rw [jn1 h,List.count_append];by_cases ht:e.dst=t<;>by_cases hx:e.src=x<;>simp [ht,hx]
theorem jr5 (h:es[k]?=some e) (x t:Int):(jeL (es.take (k+1)) t).count x=(jeL (es.take k) t).count x+(if e.src=t∧e.dst=x then 1 else 0):=by
 rw [jn0 h,List.count_append];by_cases ht:e.src=t<;>by_cases hx:e.dst=x<;>simp [ht,hx]
theorem jjG (hes:∀e∈es,okE n e) (t:Int):∀x∈jeM es t,0≤x∧x<n:=by
 intro x hx;simp only [jeM,List.mem_map,List.mem_filter] at hx;obtain ⟨e,⟨h1,-⟩,rfl⟩:=hx;exact (hes e h1).1
theorem jmp (hes:∀e∈es,okE n e) (t:Int):∀x∈jeL es t,0≤x∧x<n:=by
 intro x hx;simp only [jeL,List.mem_map,List.mem_filter] at hx;obtain ⟨e,⟨h1,-⟩,rfl⟩:=hx;exact (hes e h1).2
theorem jk5 (h:es.Nodup) (t:Int):(jeM es t).Nodup:=by
 unfold jeM List.Nodup;rw [List.pairwise_map];refine List.Pairwise.imp_of_mem ?_ (List.Pairwise.filter _ h);intro a b ha hb hne hab;simp only [List.mem_filter,beq_iff_eq] at ha hb;exact hne (by cases a;cases b;simp_all)
theorem jk4 (h:es.Nodup) (t:Int):(jeL es t).Nodup:=by
 unfold jeL List.Nodup;rw [List.pairwise_map];refine List.Pairwise.imp_of_mem ?_ (List.Pairwise.filter _ h);intro a b ha hb hne hab;simp only [List.mem_filter,beq_iff_eq] at ha hb;exact hne (by cases a;cases b;simp_all)
theorem jqB (h:es.Nodup) (hes:∀e∈es,okE n e) (t:Int):(jeM es t).length≤n:=jcr n _ (jk5 h t) (jjG hes t)
theorem jwy (h:es.Nodup) (hes:∀e∈es,okE n e) (t:Int):(jeL es t).length≤n:=jcr n _ (jk4 h t) (jmp hes t)
end
theorem jck {p:Pl} (h:jw p=0):∃n:Nat,p.tasks=n∧1≤n∧n≤12∧p.edges.length≤30∧(∀e∈p.edges,okE n e)∧p.edges.Nodup∧(0≤p.prio∧p.prio≤9)∧(1≤p.most∧p.most≤5)∧(1≤p.wait∧p.wait≤20):=by
 unfold jw at h;cases hm:vF p
 ·rw [hm] at h
  simp only [Bool.false_eq_true,if_false] at h;cases hb:p.edges.any (jir p.tasks)
  ·rw [hb] at h
   simp only [Bool.false_eq_true,if_false] at h;by_cases hd:p.edges.Nodup
   ·have hes:=jtu hb
    simp only [vF,inB,Bool.or_eq_false_iff,Bool.not_eq_false',decide_eq_true_eq,decide_eq_false_iff_not] at hm;obtain ⟨⟨⟨⟨h1,h2⟩,h3⟩,h4⟩,h5⟩:=hm;exact ⟨p.tasks.toNat,by omega,by omega,by omega,by omega,hes,hd,h3,h4,h5⟩
   ·rw [decide_eq_false hd] at h
    simp at h
  ·rw [hb] at h;simp at h
 ·rw [hm] at h;simp at h
def stT (ts:List Tk) (b:Int):Int:=((ts[b.toNat]?).getD default).state
theorem jli {ts:List Tk} {b:Int} {x:Tk} (h:ts[b.toNat]?=some x):stT ts b=x.state:=by simp [stT,h]
theorem kv {ts:List Tk} {k:Nat} {x:Tk} (h:ts[k]?=some x):stT ts (k:Int)=x.state:=by simp [stT,h]
def vN (s:Int) (ts:List Tk) (k:Nat):List Int:=((List.range k).filter fun (j:Nat)=>stT ts (j:Int)==s).map fun (j:Nat)=>(j:Int)
def qB (s:Int) (ts:List Tk):List Int:=vN s ts ts.length
def cS (s:Int) (ts:List Tk):Nat:=(qB s ts).length
theorem jwI (s:Int) (ts:List Tk):vN s ts 0=[]:=rfl
theorem jcc {ts:List Tk} {k:Nat} {x:Tk} (h:ts[k]?=some x) (s:Int):vN s ts (k+1)=vN s ts k++(if x.state=s then [(k:Int)] else []):=by
 have hs:=kv h;by_cases hx:x.state=s<;>simp [vN,List.range_succ,hs,hx]
theorem vd (s:Int) (ts:List Tk) (k:Nat):(vN s ts k).length≤k:=by
 simp only [vN,List.length_map];exact Nat.le_trans (List.length_filter_le _ _) (by simp)
theorem jcb {ts:List Tk} (h:∀x∈ts,1≤x.state∧x.state≤6):∀(k:Nat),k≤ts.length→(vN 1 ts k).length+(vN 2 ts k).length+(vN 3 ts k).length+(vN 4 ts k).length+(vN 5 ts k).length+(vN 6 ts k).length=k
 |0,_=>rfl
 |k+1,hk=>by
  have ih:=jcb h k (by omega)
  have hx:ts[k]?=some ts[k]:=List.getElem?_eq_getElem (by omega)
  have:=h ts[k] (List.getElem_mem _);have:ts[k].state=1∨ts[k].state=2∨ts[k].state=3∨ts[k].state=4∨ts[k].state=5∨ts[k].state=6:=by omega
  simp only [jcc hx,List.length_append];rcases this with h1|h1|h1|h1|h1|h1<;>simp [h1]<;>omega
theorem jqx {s:Int} {ts:List Tk} (h:cS s ts=0) {k:Nat} {x:Tk} (hx:ts[k]?=some x):x.state≠s:=by
 intro e;have hk:=(List.getElem?_eq_some_iff.1 hx).1
 have:(k:Int)∈qB s ts:=by
  simp only [qB,vN,List.mem_map,List.mem_filter,List.mem_range];exact ⟨k,⟨hk,by rw [kv hx];simpa using e⟩,rfl⟩
 rw [cS,List.length_eq_zero_iff] at h;rw [h] at this;simp at this
theorem jdw {s:Int} {ts:List Tk} (h:∀x∈ts,x.state≠s):cS s ts=0:=by
 rw [cS,List.length_eq_zero_iff,qB,vN,List.map_eq_nil_iff,List.filter_eq_nil_iff];intro k hk;rw [List.mem_range] at hk;have hx:ts[k]?=some ts[k]:=List.getElem?_eq_getElem hk;rw [kv hx];simpa using h _ (List.getElem_mem hk)
theorem jqw {s:Int} {ts:List Tk} {k:Nat} {x:Tk} (hx:ts[k]?=some x) (h:x.state=s):0<cS s ts:=by
 rcases Nat.eq_zero_or_pos (cS s ts) with h0|h0
 ·exact absurd h (jqx h0 hx)
 ·exact h0
def jat (p:Pl) (ts:List Tk) (t:Int):Int:=((((zo p t).filter fun b=>stT ts b !=4).length:Nat):Int)
def qT (p:Pl) (x:Tk):Bool:=if x.state=1 then decide (0<x.need) else if x.state=2 then (x.need==0&&decide (x.tri<p.most)) else if x.state=6 then true else (x.need==0&&decide (1≤x.tri))
def ja0 (x:Tk):Bool:=if x.state=3 then inB x.til 1 1000000000 else x.til==0
def jR (p:Pl) (ts:List Tk) (t:Nat) (x:Tk):Bool:=inB x.state 1 6&&x.need==jat p ts t&&inB x.tri 0 p.most&&ja0 x&&qT p x
def jf6 (ts:List Tk):Int:=if cS 4 ts=ts.length then 2 else if cS 5 ts=1∧cS 4 ts+cS 5 ts+cS 6 ts=ts.length then 3 else if cS 5 ts=0∧0<cS 6 ts∧cS 4 ts+cS 5 ts+cS 6 ts=ts.length then 4 else if cS 5 ts=0∧cS 6 ts=0 then 1 else 0
structure RunOkP (r:Rn):Prop where
 id:inB r.id 1 9999=true
 plan:jw r.plan=0
 len:(r.tasks.length:Int)=r.plan.tasks
 tasks:∀(t:Nat) (x:Tk),r.tasks[t]?=some x→jR r.plan r.tasks t x=true
 state:r.state=jf6 r.tasks
 live:r.state≠0
open Classical in
noncomputable def kF (r:Rn):Bool:=decide (RunOkP r)
theorem runOk_iff {r:Rn}:kF r=true↔RunOkP r:=by simp [kF]
theorem qI {r:Rn} (h:¬RunOkP r):kF r=false:=by simp [kF,h]
theorem RunOkP.st {r:Rn} (h:RunOkP r):∀x∈r.tasks,1≤x.state∧x.state≤6:=by
 intro x hx;obtain ⟨k,hk,rfl⟩:=List.getElem_of_mem hx;have:=h.tasks k _ (List.getElem?_eq_getElem hk);simp only [jR,inB,Bool.and_eq_true,decide_eq_true_eq] at this;exact this.1.1.1.1
theorem RunOkP.runs {r:Rn} (h:RunOkP r) {t:Nat} {x:Tk} (hx:r.tasks[t]?=some x) (hs:x.state=3):r.state=1∧cS 5 r.tasks=0∧cS 6 r.tasks=0∧cS 4 r.tasks<r.tasks.length:=by
 have h3:=jqw hx hs;have hsum:=jcb h.st r.tasks.length (Nat.le_refl _);have e1:=h.state;have e2:=h.live;change cS 1 r.tasks+cS 2 r.tasks+cS 3 r.tasks+cS 4 r.tasks+cS 5 r.tasks+cS 6 r.tasks=_ at hsum;unfold jf6 at e1;split at e1
 ·omega
 ·split at e1
  ·omega
  ·split at e1
   ·omega
   ·split at e1
    ·exact ⟨e1,by omega,by omega,by omega⟩
    ·exact absurd e1 e2
def jar (ts:List Tk) (b:Int):List Tk:=match ts[b.toNat]? with
 |some x=>ts.set b.toNat ⟨if IntKind.i64.wrap (x.need-1)=0 then 2 else x.state,IntKind.i64.wrap (x.need-1),x.tri,x.til⟩
 |none=>ts
theorem jsy (ts:List Tk) (b:Int):(jar ts b).length=ts.length:=by unfold jar;split<;>simp
theorem jff:∀(l:List Int) (ts:List Tk),(l.foldl jar ts).length=ts.length
 |[],_=>rfl
 |b::l,ts=>by rw [List.foldl_cons,jff l,jsy]
theorem jvb {ts:List Tk} {b:Int} {q:Int→Prop} (h2:q 2) (h:∀x∈ts,q x.state):∀x∈jar ts b,q x.state:=by
 unfold jar;cases hx:ts[b.toNat]? with
 |none=>exact h
 |some x=>
  intro y hy;rcases List.mem_or_eq_of_mem_set hy with hy|rfl
  ·exact h y hy
  ·dsimp only;split
   ·exact h2
   ·exact h x (List.mem_of_getElem? hx)
theorem jqd {q:Int→Prop} (h2:q 2):∀{l:List Int} {ts:List Tk},(∀x∈ts,q x.state)→∀x∈l.foldl jar ts,q x.state
 |[],_,h=>h
 |b::l,ts,h=>jqd h2 (l:=l) (ts:=jar ts b) (jvb h2 h)
def vG (p:Pl) (ts:List Tk) (t:Nat) (x:Tk):List Tk:=(jbo p t).foldl jar (ts.set t ⟨4,x.need,x.tri,0⟩)
def jhD (r:Rn) (t:Nat) (x:Tk):Rn:=⟨r.id,r.plan,if cS 4 (vG r.plan r.tasks t x)=r.tasks.length then 2 else r.state,vG r.plan r.tasks t x⟩
theorem jbf (p:Pl) (ts:List Tk) (t:Nat) (x:Tk):(vG p ts t x).length=ts.length:=by rw [vG,jff,List.length_set]
theorem jg7 {ts:List Tk} {t:Nat} {y:Tk} {q:Int→Prop} (hy:q y.state) (h:∀x∈ts,q x.state):∀x∈ts.set t y,q x.state:=by
 intro z hz;rcases List.mem_or_eq_of_mem_set hz with hz|rfl
 ·exact h z hz
 ·exact hy
theorem jmc {p:Pl} {ts:List Tk} {t:Nat} {x:Tk} {q:Int→Prop} (h2:q 2) (h4:q 4) (h:∀x∈ts,q x.state):∀y∈vG p ts t x,q y.state:=jqd h2 (jg7 h4 h)
theorem jkZ {r:Rn} (h:RunOkP r) {t:Nat} {x:Tk} (hx:r.tasks[t]?=some x) (hs:x.state=3):jf6 (vG r.plan r.tasks t x)=(jhD r t x).state:=by
 obtain ⟨e1,e2,e3,e4⟩:=h.runs hx hs;have h5:∀y∈r.tasks,y.state≠5:=fun y hy=>by obtain ⟨k,hk,rfl⟩:=List.getElem_of_mem hy;exact jqx e2 (List.getElem?_eq_getElem hk)
 have h6:∀y∈r.tasks,y.state≠6:=fun y hy=>by obtain ⟨k,hk,rfl⟩:=List.getElem_of_mem hy;exact jqx e3 (List.getElem?_eq_getElem hk)
 have c5:=jdw (jmc (p:=r.plan) (t:=t) (x:=x) (q:=fun s=>s≠5) (by decide) (by decide) h5)
 have c6:=jdw (jmc (p:=r.plan) (t:=t) (x:=x) (q:=fun s=>s≠6) (by decide) (by decide) h6)
 simp only [jf6,c5,c6,jbf,jhD,e1];simp
def qV (f:Nat→Tk→Tk) (ts:List Tk) (k:Nat):List Tk:=ts.mapIdx fun j x=>if j<k then f j x else x
section
variable {f:Nat→Tk→Tk} {ts:List Tk} {k:Nat} {x:Tk}
theorem vV:(qV f ts k).length=ts.length:=by simp [qV]
theorem jpY:qV f ts 0=ts:=by
 apply List.ext_getElem?
 intro j;simp [qV,List.getElem?_mapIdx]
theorem je1 (h:ts[k]?=some x):(qV f ts k)[k]?=some x:=by simp [qV,List.getElem?_mapIdx,h]
theorem je0 (h:ts[k]?=some x):(qV f ts k).set k (f k x)=qV f ts (k+1):=by
 have hk:=(List.getElem?_eq_some_iff.1 h).1
 apply List.ext_getElem?
 intro j;rw [List.getElem?_set];by_cases e:k=j
 ·subst e
  rw [if_pos rfl,vV,if_pos hk];simp [qV,List.getElem?_mapIdx,h]
 ·rw [if_neg e]
  simp only [qV,List.getElem?_mapIdx];have:(j<k+1)=(j<k):=by apply propext;omega
  simp only [this]
theorem jnj (h:ts[k]?=some x) (hf:f k x=x):qV f ts (k+1)=qV f ts k:=by
 rw [←je0 h,hf]
 apply List.ext_getElem?
 intro j;rw [List.getElem?_set];by_cases e:k=j
 ·subst e
  rw [if_pos rfl,je1 h,if_pos (by rw [vV];exact (List.getElem?_eq_some_iff.1 h).1)]
 ·rw [if_neg e]
theorem jkM {g:Nat→Tk→Tk} (h:∀(j:Nat) (x:Tk),ts[j]?=some x→f j x=g j x) (k:Nat):qV f ts k=qV g ts k:=by
 apply List.ext_getElem?
 intro j;simp only [qV,List.getElem?_mapIdx];cases hx:ts[j]? with
 |none=>rfl
 |some x=>simp [h j x hx]
end
def qk (but:Int) (j:Nat) (x:Tk):Tk:=if (j:Int)≠but∧x.state≠4 then ⟨6,x.need,x.tri,0⟩ else x
def jA (j:Nat) (x:Tk):Tk:=if x.state≠4∧x.state≠5 then ⟨6,x.need,x.tri,0⟩ else x
def zb (r:Rn) (t:Nat) (x:Tk):Rn:=if x.tri<r.plan.most then ⟨r.id,r.plan,r.state,r.tasks.set t ⟨2,x.need,x.tri,0⟩⟩ else ⟨r.id,r.plan,3,qV jA (r.tasks.set t ⟨5,x.need,x.tri,0⟩) r.tasks.length⟩
theorem jo8 {r:Rn} (h:RunOkP r) {t:Nat} {x:Tk} (hx:r.tasks[t]?=some x) (hs:x.state=3) (k:Nat):qV (qk t) (r.tasks.set t ⟨5,x.need,x.tri,0⟩) k=qV jA (r.tasks.set t ⟨5,x.need,x.tri,0⟩) k:=by
 obtain ⟨e1,e2,e3,e4⟩:=h.runs hx hs;refine jkM (fun j y hy=>?_) k
 have ht:=(List.getElem?_eq_some_iff.1 hx).1;rw [List.getElem?_set] at hy;by_cases e:t=j
 ·subst e
  rw [if_pos rfl,if_pos ht] at hy;simp only [Option.some.injEq] at hy;subst hy;simp [qk,jA]
 ·rw [if_neg e] at hy
  have h5:y.state≠5:=jqx e2 hy;have hj:(j:Int)≠t:=by omega
  simp [qk,jA,h5,hj]
noncomputable def vu (r:Rn) (t:Int):Bool:=inB t 0 (r.tasks.length-1)&&stT r.tasks t==3&&kF r
noncomputable def qJ (r:Rn) (t:Int):Rn:=if vu r t then jhD r t.toNat ((r.tasks[t.toNat]?).getD default) else r
noncomputable def jE (r:Rn) (t:Int):Rn:=if vu r t then zb r t.toNat ((r.tasks[t.toNat]?).getD default) else r
theorem jaB {r:Rn} {t:Int} (h:vu r t=true):∃k x,t=((k:Nat):Int)∧r.tasks[k]?=some x∧x.state=3∧RunOkP r:=by
 simp only [vu,inB,Bool.and_eq_true,decide_eq_true_eq,beq_iff_eq,runOk_iff] at h;obtain ⟨⟨h1,h2⟩,h3⟩:=h;have hk:t.toNat<r.tasks.length:=by omega
 refine ⟨t.toNat,r.tasks[t.toNat],by omega,List.getElem?_eq_getElem hk,?_,h3⟩
 rw [jli (List.getElem?_eq_getElem hk)] at h2;exact h2
theorem jeq {r:Rn} {k:Nat} {x:Tk} (hx:r.tasks[k]?=some x) (h:vu r k=true):qJ r k=jhD r k x:=by simp [qJ,h,hx]
theorem jra {r:Rn} {t:Int} (h:vu r t=false):qJ r t=r:=by simp [qJ,h]
theorem qD {r:Rn} {k:Nat} {x:Tk} (hx:r.tasks[k]?=some x) (h:vu r k=true):jE r k=zb r k x:=by simp [jE,h,hx]
theorem jeo {r:Rn} {t:Int} (h:vu r t=false):jE r t=r:=by simp [jE,h]
theorem jmS (r:Rn) (t:Int):vq (jE r t)=vq r:=by
 unfold jE;split
 ·unfold zb
  split
  ·simp only [vq,List.length_set]
  ·simp only [vq,vV,List.length_set]
 ·rfl
def kr (a b:En):Bool:=decide (a.prio>b.prio∨a.prio=b.prio∧a.seq<b.seq)
structure jhs (l:List En):Prop where
 most:l.length≤80
 ahead:∀(k:Nat) (a b:En),l[k]?=some a→l[k+1]?=some b→kr a b=true
open Classical in
noncomputable def zM (l:List En):Bool:=decide (jhs l)
theorem jeU {l:List En} (h:jhs l):zM l=true:=by simp [zM,h]
theorem jif {l:List En} (h:¬jhs l):zM l=false:=by simp [zM,h]
theorem shelf_iff {l:List En}:zM l=true↔jhs l:=by simp [zM]
structure SeqP (q:Int) (l:List En):Prop where
 range:∀e∈l,1≤e.seq∧e.seq≤q-1
 apart:(l.map (·.seq)).Nodup
def zD (id t:Int) (l:List En):Nat:=(l.filter fun e=>e.run==id&&e.task==t).length
def jiA (y:Yd) (r:Rn) (l:List En) (t:Nat) (x:Tk):Prop:=
 (x.state=2→(∀e∈l,e.run=r.id→e.task=t→e.prio=r.plan.prio)∧zD r.id t l=1)∧(x.state=3→y.now+1≤x.til∧x.til≤y.now+r.plan.wait)
def jn8 (y:Yd) (r:Rn) (l:List En):Prop:=∀(t:Nat) (x:Tk),r.tasks[t]?=some x→jiA y r l t x
open Classical in
noncomputable def za (y:Yd) (r:Rn) (l:List En):Bool:=decide (jn8 y r l)
theorem jeX {y:Yd} {r:Rn} {l:List En} (h:jn8 y r l):za y r l=true:=by simp [za,h]
theorem jc5 {y:Yd} {r:Rn} {l:List En} (h:¬jn8 y r l):za y r l=false:=by simp [za,h]
theorem runIn_iff {y:Yd} {r:Rn} {l:List En}:za y r l=true↔jn8 y r l:=by simp [za]
structure YardOkP (y:Yd):Prop where
 now:0≤y.now∧y.now≤999999980
 seq:1≤y.seq∧y.seq≤1000000000
 four:y.shelf.length=4
 eight:y.runs.length≤8
 shelves:∀l∈y.shelf,jhs l
 seqs:SeqP y.seq y.shelf.flatten
 right:∀r∈y.runs,RunOkP r
 place:∀(k:Nat) (r:Rn),y.runs[k]?=some r→runAt y r.id=k
 runs:∀r∈y.runs,jn8 y r y.shelf.flatten
 slots:kZ y≤40
open Classical in
noncomputable def jC (y:Yd):Bool:=decide (YardOkP y)
theorem jay {y:Yd} (h:YardOkP y):jC y=true:=by simp [jC,h]
theorem qG {y:Yd} (h:¬YardOkP y):jC y=false:=by simp [jC,h]
theorem yard_iff {y:Yd}:jC y=true↔YardOkP y:=by simp [jC]
section
variable {l:List En} {k:Nat} {e:En} {id t:Int}
theorem jqt (h:l[k]?=some e) (h1:e.run=id) (h2:e.task=t):zD id t (l.take (k+1))=zD id t (l.take k)+1:=by
 rw [List.take_add_one,h];simp [zD,List.filter_append,h1,h2]
theorem jmj (h:l[k]?=some e) (h1:¬(e.run=id∧e.task=t)):zD id t (l.take (k+1))=zD id t (l.take k):=by
 rw [List.take_add_one,h];by_cases h2:e.run=id
 ·have h3:¬e.task=t:=fun h3=>h1 ⟨h2,h3⟩
  simp [zD,List.filter_append,h2,h3]
 ·simp [zD,List.filter_append,h2]
theorem jut (l:List En) (id t:Int):zD id t l≤l.length:=List.length_filter_le _ _
theorem jsR {j:Nat} {e2:En} (h:l[k]?=some e) (hj:j<k) (h2:l[j]?=some e2) (he:e2.seq=e.seq):¬(l.map (·.seq)).Nodup:=by
 intro hd;obtain ⟨a1,b1⟩:=List.getElem?_eq_some_iff.1 h;obtain ⟨a2,b2⟩:=List.getElem?_eq_some_iff.1 h2;have:=List.pairwise_iff_getElem.1 hd j k (by simpa using a2) (by simpa using a1) hj
 simp [b1,b2,he] at this
theorem jsP (h:l[k]?=some e) (hn:((l.take k).map (·.seq)).Nodup) (hx:∀e2∈l.take k,e2.seq≠e.seq):((l.take (k+1)).map (·.seq)).Nodup:=by
 rw [List.take_add_one,h];simp only [Option.toList_some,List.map_append,List.map_cons,List.map_nil];rw [List.nodup_append];refine ⟨hn,by simp,fun a ha b hb e'=>?_⟩
 simp at hb;subst hb;obtain ⟨e2,h1,h2⟩:=List.mem_map.1 ha;exact hx e2 h1 (by rw [h2,e'])
end
end Go.Proofs.YtmnpailnelmpiaaGreat
