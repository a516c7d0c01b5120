/- Parts. -/
import Derived.Test.YtcehjhiglmifjaaGreatQA
import Derived.WalkKit
import Derived.WalkSpells
import Derived.WalkLawsBesides
import Derived.Lib.Hide
import Derived.Lib.QuietBelow
import Derived.BigQuiet
import Derived.Deep.MidRow
import Derived.OwnWalk
set_option linter.all false
namespace Go.Proofs.YtcehjhiglmifjaaGreat
open Go.RowKit
inductive D where
 |val (v:Value)
 |sl (size:Nat) (ty:TypeId) (cs:List D)
def blk (v:Value):List Nat:=match v with
 |.slice (some a) _ _=>[a.block]
 |_=>[]
def RowAt (w:World) (own:Bool) (size:Nat) (ty:TypeId) (vs:List Value) (v:Value) (T:List Nat):Prop:=
 match own with
 |true=>∃n,w.ownsRow 0 ty size v n vs/\T=blk v
 |false=>(∀b∈T,b<w.heap.size)/\∃A n c,v=.slice A n c/\vs.length=n*size/\n<=c/\c<=maxLen/\(A=none->c=0)/\
  (vs≠ []->∃b o,A=some ⟨b,o,none⟩/\T=[b]/\∀j u,vs[j]?=some u->w.cell? ⟨b,o+j,none⟩=some u)
mutual
def Rep (w:World) (own:Bool):D->Value->List Nat->Prop
 |.val u,v,S=>v=u/\S=[]
 |.sl size ty cs,v,S=>∃vs T S',RowAt w own size ty vs v T/\RepL w own cs vs S'/\S=T++S'
def RepL (w:World) (own:Bool):List D->List Value->List Nat->Prop
 |[],vs,S=>vs=[]/\S=[]
 |d::ds,vs,S=>∃v vs' S1 S2,vs=v::vs'/\S=S1++S2/\Rep w own d v S1/\RepL w own ds vs' S2
end
def AggRep (w:World) (own:Bool) (ds:List D) (v:Value) (S:List Nat):Prop:=∃vs,v=.agg vs.toArray/\RepL w own ds vs S
def Fresh (B:Nat) (S:List Nat):Prop:=S.Nodup/\∀b∈S,B<=b
theorem jbN {α:Type} {a:Array α} {i:Nat} {x:α} (h:a[i]?=some x):i<a.size:=(Array.getElem?_eq_some_iff.1 h).1
section
variable {w w':World} {own:Bool} {size:Nat} {ty:TypeId} {vs:List Value} {v:Value} {T:List Nat}
theorem RowAt.lt (h:RowAt w own size ty vs v T):∀b∈T,b<w.heap.size:=by
 intro b hb;cases own with
 |true=>
  obtain ⟨n,h,rfl⟩:=h;rcases h.2 with ⟨rfl,_⟩|⟨g,cap,cur,rfl,_,hg,_⟩
  ·simp [blk] at hb
  ·simp [blk] at hb;subst hb;exact jbN hg
 |false=>exact h.1 b hb
theorem jDJ {b:Nat} (h:b<w.heap.size) (hk:w'.heap[b]?=w.heap[b]?):b<w'.heap.size:=by
 rw [Array.getElem?_eq_getElem h] at hk;exact jbN hk
theorem RowAt.keep (h:RowAt w own size ty vs v T) (hk:∀b∈T,w'.heap[b]?=w.heap[b]?):RowAt w' own size ty vs v T:=by
 cases own with
 |true=>
  obtain ⟨n,h,rfl⟩:=h;refine ⟨n,⟨h.1,?_⟩,rfl⟩;rcases h.2 with h2|⟨g,cap,cur,rfl,hb,hg,r⟩
  ·exact .inl h2
  ·exact .inr ⟨g,cap,cur,rfl,hb,(hk g (by simp [blk])).trans hg,r⟩
 |false=>
  obtain ⟨hl,A,n,c,rfl,h1,h2,h3,h5,h4⟩:=h;refine ⟨λb hb=>jDJ (hl b hb) (hk b hb),A,n,c,rfl,h1,h2,h3,h5,λaJ=>?_⟩
  obtain ⟨b,o,rfl,rfl,hc⟩:=h4 aJ;exact ⟨b,o,rfl,rfl,λj u hu=>(World.cell?_of_block (a:=⟨b,o+j,none⟩) (hk b (by simp))).trans (hc j u hu)⟩
theorem RowAt.ro (h:RowAt w own size ty vs v T):RowAt w false size ty vs v T:=by
 cases own with
 |false=>exact h
 |true=>
  have hl:=h.lt;obtain ⟨n,h,rfl⟩:=h;refine ⟨hl,?_⟩;rcases h.2 with ⟨rfl,rfl⟩|⟨g,cap,cur,rfl,hb,hg,mR,n6,fE,ht⟩
  ·exact ⟨none,0,0,rfl,h.1,aOC _,aOL _,λ_=>rfl,λaJ=>absurd (aON (by simpa using h.1)) aJ⟩
  ·refine ⟨some ⟨g,0,none⟩,n,cap,rfl,h.1,mR,n6,(λe=>nomatch e),λ_=>⟨g,0,rfl,rfl,λj u hu=>?_⟩⟩
   have:=h.cells (g:=g) rfl j u hu;have e:(⟨g,0,none⟩:Addr).add j=⟨g,0+j,none⟩:=by unfold Addr.add;split<;>simp_all
   rwa [e] at this
end
mutual
theorem Rep.lt {w:World} {own:Bool}:∀(d:D) {v:Value} {S:List Nat},Rep w own d v S->∀b∈S,b<w.heap.size
 |.val _,_,_,h=>by obtain ⟨_,rfl⟩:=h;simp
 |.sl _ _ cs,_,_,h=>by
  obtain ⟨vs,T,S',h1,h2,rfl⟩:=h;intro b hb;rcases aNT.1 hb with hb|hb
  ·exact h1.lt b hb
  ·exact RepL.lt cs h2 b hb
theorem RepL.lt {w:World} {own:Bool}:∀(ds:List D) {vs:List Value} {S:List Nat},RepL w own ds vs S->∀b∈S,b<w.heap.size
 |[],_,_,h=>by obtain ⟨_,rfl⟩:=h;simp
 |d::ds,_,_,h=>by
  obtain ⟨v,vs',S1,S2,rfl,rfl,h1,h2⟩:=h;intro b hb;rcases aNT.1 hb with hb|hb
  ·exact Rep.lt d h1 b hb
  ·exact RepL.lt ds h2 b hb
end
mutual
theorem Rep.keep {w w':World} {own:Bool}:∀(d:D) {v:Value} {S:List Nat},Rep w own d v S->(∀b∈S,w'.heap[b]?=w.heap[b]?)->Rep w' own d v S
 |.val _,_,_,h,_=>h
 |.sl _ _ cs,_,_,h,hk=>by
  obtain ⟨vs,T,S',h1,h2,rfl⟩:=h;exact ⟨vs,T,S',h1.keep λb hb=>hk b (aNT.2 (.inl hb)),RepL.keep cs h2 λb hb=>hk b (aNT.2 (.inr hb)),rfl⟩
theorem RepL.keep {w w':World} {own:Bool}:∀(ds:List D) {vs:List Value} {S:List Nat},RepL w own ds vs S->(∀b∈S,w'.heap[b]?=w.heap[b]?)->RepL w' own ds vs S
 |[],_,_,h,_=>h
 |d::ds,_,_,h,hk=>by
  obtain ⟨v,vs',S1,S2,rfl,rfl,h1,h2⟩:=h;exact ⟨v,vs',S1,S2,rfl,rfl,Rep.keep d h1 λb hb=>hk b (aNT.2 (.inl hb)),RepL.keep ds h2 λb hb=>hk b (aNT.2 (.inr hb))⟩
end
mutual
theorem Rep.ro {w:World} {own:Bool}:∀(d:D) {v:Value} {S:List Nat},Rep w own d v S->Rep w false d v S
 |.val _,_,_,h=>h
 |.sl _ _ cs,_,_,h=>by
  obtain ⟨vs,T,S',h1,h2,rfl⟩:=h;exact ⟨vs,T,S',h1.ro,RepL.ro cs h2,rfl⟩
theorem RepL.ro {w:World} {own:Bool}:∀(ds:List D) {vs:List Value} {S:List Nat},RepL w own ds vs S->RepL w false ds vs S
 |[],_,_,h=>h
 |d::ds,_,_,h=>by
  obtain ⟨v,vs',S1,S2,rfl,rfl,h1,h2⟩:=h;exact ⟨v,vs',S1,S2,rfl,rfl,Rep.ro d h1,RepL.ro ds h2⟩
end
section
variable {w w':World} {own:Bool} {d:D} {ds es:List D} {v:Value} {vs:List Value} {S:List Nat}
theorem Rep.below {B:Nat} (h:Rep w own d v S) (hb:Below B w w') (hB:w.heap.size<=B):Rep w' own d v S:=
 Rep.keep d h λb hs=>hb.block b (Nat.lt_of_lt_of_le (Rep.lt d h b hs) hB)
theorem RepL.below {B:Nat} (h:RepL w own ds vs S) (hb:Below B w w') (hB:w.heap.size<=B):RepL w' own ds vs S:=
 RepL.keep ds h λb hs=>hb.block b (Nat.lt_of_lt_of_le (RepL.lt ds h b hs) hB)
theorem AggRep.below {B:Nat} (h:AggRep w own ds v S) (hb:Below B w w') (hB:w.heap.size<=B):AggRep w' own ds v S:=
 let ⟨vs,e,h⟩:=h;⟨vs,e,h.below hb hB⟩
theorem AggRep.ro (h:AggRep w own ds v S):AggRep w false ds v S:=let ⟨vs,e,h⟩:=h;⟨vs,e,RepL.ro ds h⟩
theorem AggRep.keep (h:AggRep w own ds v S) (hk:∀b∈S,w'.heap[b]?=w.heap[b]?):AggRep w' own ds v S:=let ⟨vs,e,h⟩:=h;⟨vs,e,RepL.keep ds h hk⟩
theorem RepL.nil_:RepL w own [] [] []:=⟨rfl,rfl⟩
theorem RepL.cons_ {S1 S2:List Nat} (h:Rep w own d v S1) (h2:RepL w own ds vs S2):RepL w own (d::ds) (v::vs) (S1++S2):=⟨v,vs,S1,S2,rfl,rfl,h,h2⟩
theorem RepL.val_ {u:Value} (h2:RepL w own ds vs S):RepL w own (.val u::ds) (u::vs) S:=⟨u,vs,[],S,rfl,rfl,⟨rfl,rfl⟩,h2⟩
theorem RepL.val_inv {u:Value} (h:RepL w own (.val u::ds) vs S):∃vs',vs=u::vs'/\RepL w own ds vs' S:=by
 obtain ⟨v,vs',S1,S2,rfl,rfl,⟨rfl,rfl⟩,h2⟩:=h;exact ⟨vs',rfl,h2⟩
theorem RepL.length:∀(ds:List D) {vs:List Value} {S:List Nat},RepL w own ds vs S->vs.length=ds.length
 |[],_,_,h=>by obtain ⟨rfl,_⟩:=h;rfl
 |d::ds,_,_,h=>by
  obtain ⟨v,vs',S1,S2,rfl,rfl,h1,h2⟩:=h;simp [RepL.length ds h2]
theorem RepL.append_inv:∀(ds:List D) {vs:List Value} {S:List Nat},RepL w own (ds++es) vs S->∃v1 v2 S1 S2,vs=v1++v2/\S=S1++S2/\RepL w own ds v1 S1/\RepL w own es v2 S2
 |[],vs,S,h=>⟨[],vs,[],S,rfl,rfl,RepL.nil_,h⟩
 |d::ds,_,_,h=>by
  obtain ⟨v,vs',S1,S2,rfl,rfl,h1,h2⟩:=h;obtain ⟨v1,v2,S3,S4,rfl,rfl,h3,h4⟩:=RepL.append_inv ds h2;exact ⟨v::v1,v2,S1++S3,S4,rfl,by simp,RepL.cons_ h1 h3,h4⟩
theorem RepL.append_:∀(ds:List D) {v1 v2:List Value} {S1 S2:List Nat},RepL w own ds v1 S1->RepL w own es v2 S2->RepL w own (ds++es) (v1++v2) (S1++S2)
 |[],_,_,_,_,h,h2=>by obtain ⟨rfl,rfl⟩:=h;exact h2
 |d::ds,_,_,_,_,h,h2=>by
  obtain ⟨v,vs',S1,S2,rfl,rfl,h1,h3⟩:=h;rw [aOB];exact RepL.cons_ h1 (RepL.append_ ds h3 h2)
end
section
variable {α:Type} {enc:α->List D} {size:Nat} {w w':World} {own:Bool}
theorem jC (hl:∀x,(enc x).length=size):∀xs:List α,(xs.flatMap enc).length=xs.length*size
 |[]=>by simp
 |x::xs=>by simp [hl,jC hl xs,aRB];omega
theorem RepL.get (hl:∀x,(enc x).length=size):∀(xs:List α) {vs:List Value} {S:List Nat},RepL w own (xs.flatMap enc) vs S->∀(k:Nat) (x:α),xs[k]?=some x->
 ∃v1 vk v2 Sa Sk Sb,vs=v1++vk++v2/\v1.length=k*size/\vk.length=size/\S=Sa++Sk++Sb/\RepL w own (enc x) vk Sk
  /\RepL w own ((xs.take k).flatMap enc) v1 Sa/\RepL w own ((xs.drop (k+1)).flatMap enc) v2 Sb:=by
 intro xs vs S h k x hx;have hk:k<xs.length:=(aNP.1 hx).1
 have e:xs=xs.take k++([x]++xs.drop (k+1)):=by
  have bT:xs[k]=x:=by rw [aNS hk] at hx;exact aOH hx
  rw [<-bT];simp
 rw [e,aPK,aPK] at h;obtain ⟨v1,v2,S1,S2,rfl,rfl,h1,h2⟩:=RepL.append_inv _ h;obtain ⟨vk,v3,S3,S4,rfl,rfl,h3,h4⟩:=RepL.append_inv _ h2;have lG:RepL w own (enc x) vk S3:=by simpa using h3
 refine ⟨v1,vk,v3,S1,S3,S4,by simp,?_,?_,by simp,lG,h1,h4⟩
 ·rw [RepL.length _ h1,jC hl,aNV,aPD (by omega)]
 ·rw [RepL.length _ lG,hl]
theorem RepL.put (xs:List α) {v1 vk v2:List Value} {Sa Sk Sb:List Nat} {k:Nat} {y:α} (hk:k<xs.length)
 (h1:RepL w own ((xs.take k).flatMap enc) v1 Sa) (h:RepL w own (enc y) vk Sk) (h2:RepL w own ((xs.drop (k+1)).flatMap enc) v2 Sb):
 RepL w own ((xs.set k y).flatMap enc) (v1++vk++v2) (Sa++Sk++Sb):=by
 have e:xs.set k y=xs.take k++([y]++xs.drop (k+1)):=by
  rw [List.set_eq_take_append_cons_drop];simp [hk]
 rw [e,aPK,aPK,aOB,aOB];exact RepL.append_ _ h1 (RepL.append_ _ (by simpa using h) h2)
theorem Rep.open_ (hl:∀x,(enc x).length=size) (hs:0<size) {ty:TypeId} {xs:List α} {v:Value} {S:List Nat} (h:Rep w own (.sl size ty (xs.flatMap enc)) v S):
 ∃A c,v=.slice A xs.length c/\xs.length<=c/\c<=maxLen/\
  ∀k x,xs[k]?=some x->∃b o vk Sk,A=some ⟨b,o,none⟩/\vk.length=size/\RepL w own (enc x) vk Sk/\(∀s∈Sk,s∈S)/\b∈S/\b<w.heap.size/\
   ∀j u,vk[j]?=some u->w.cell? ⟨b,o+k*size+j,none⟩=some u:=by
 obtain ⟨vs,T,S',h1,h2,rfl⟩:=h;obtain ⟨aB,A,n,c,rfl,hn,mR,n6,_,hc⟩:=h1.ro;have aD:vs.length=xs.length*size:=by rw [RepL.length _ h2,jC hl]
 have cH:n=xs.length:=Nat.eq_of_mul_eq_mul_right hs (hn.symm.trans aD);subst cH;refine ⟨A,c,rfl,mR,n6,λk x hx=>?_⟩
 obtain ⟨v1,vk,v2,Sa,Sk,Sb,rfl,gM,hvk,rfl,hr,_,_⟩:=RepL.get hl xs h2 k x hx
 have aJ:v1++vk++v2≠ []:=by
  intro e;have:=congrArg List.length e;simp only [aNR,aOR] at this;omega
 obtain ⟨b,o,rfl,rfl,bK⟩:=hc aJ;refine ⟨b,o,vk,Sk,rfl,hvk,hr,λs hs=>by simp [hs],by simp,aB b (by simp),λj u hu=>?_⟩
 have:=bK (k*size+j) u (by
  rw [aOB,aPL (by omega),gM,aPI,aQE (by have:=(aNP.1 hu).1;omega)]
  exact hu)
 rwa [<-aRC] at this
end
theorem RepL.flat {w w':World} {own own':Bool}:∀(ds:List D) {vs:List Value} {S:List Nat},(∀d∈ds,∃v,d=.val v)->RepL w own ds vs S->RepL w' own' ds vs []/\S=[]
 |[],_,_,_,h=>by obtain ⟨rfl,rfl⟩:=h;exact ⟨⟨rfl,rfl⟩,rfl⟩
 |d::ds,_,_,hd,h=>by
  obtain ⟨v,vs',S1,S2,rfl,rfl,h1,h2⟩:=h;obtain ⟨u,rfl⟩:=hd d (by simp)
  obtain ⟨rfl,rfl⟩:=h1;obtain ⟨h3,rfl⟩:=RepL.flat (w':=w') (own':=own') ds (λd n5=>hd d (by simp [n5])) h2
  exact ⟨RepL.val_ h3,rfl⟩
theorem Rep.src {α:Type} {enc:α->List D} {size:Nat} {w:World} {own:Bool} {ty:TypeId} {xs:List α} {v:Value} {S:List Nat} (hl:∀x,(enc x).length=size) (hs:0<size) (hf:∀x,∀d∈enc x,∃u,d=.val u) (h:Rep w own (.sl size ty (xs.flatMap enc)) v S):
 ∃A c news,v=.slice A xs.length c/\RepL w true (xs.flatMap enc) news []/\(A=none->xs.length=0/\c=0)/\∀ad,A=some ad->∀j u,news[j]?=some u->w.cell? (ad.add j)=some u:=by
 obtain ⟨vs,T,S',h1,h2,rfl⟩:=h;obtain ⟨aB,A,n,c,rfl,hn,mR,n6,h0,hc⟩:=h1.ro;have aD:vs.length=xs.length*size:=by rw [RepL.length _ h2,jC hl]
 have cH:n=xs.length:=Nat.eq_of_mul_eq_mul_right hs (hn.symm.trans aD);subst cH;obtain ⟨h3,_⟩:=RepL.flat (w':=w) (own':=true) _ (λd hd=>by obtain ⟨x,_,hx⟩:=aQQ.1 hd;exact hf x d hx) h2
 refine ⟨A,c,vs,rfl,h3,λe=>⟨by have:=h0 e;omega,h0 e⟩,λad ha j u hu=>?_⟩
 obtain ⟨b,o,rfl,_,bK⟩:=hc (λe=>by subst e;simp at hu)
 injection ha with ha;subst ha;have:=bK j u hu;have e:(⟨b,o,none⟩:Addr).add j=⟨b,o+j,none⟩:=by unfold Addr.add;split<;>simp_all
 rwa [e]
structure Only (S:List Nat) (w w':World):Prop where
 os:w'.os=w.os
 tape:w'.tape=w.tape
 output:w'.output=w.output
 size:w.heap.size<=w'.heap.size
 block:∀k,k<w.heap.size->k∉S->w'.heap[k]?=w.heap[k]?
section
variable {S T:List Nat} {w w' w'':World}
theorem Only.refl (S:List Nat) (w:World):Only S w w:=⟨rfl,rfl,rfl,aOC _,λ_ _ _=>rfl⟩
theorem Only.below {B:Nat} (h:Only S w w') (hS:∀s∈S,B<=s) (hB:B<=w.heap.size):Below B w w':=
 ⟨h.os,h.tape,h.output,h.size,λi hi=>h.block i (by omega) (λhs=>by have:=hS i hs;omega)⟩
theorem Only.of_grown {v:Value} (h:w.grownBy w' v.ownBlock) (hv:∀b∈blk v,b∈S):Only S w w':=
 ⟨h.os,h.tape,h.output,h.size,λi hi hn=>h.block i hi (λe=>hn (hv i (by
  unfold Value.ownBlock at e;unfold blk;split at e<;>simp_all)))⟩
theorem Only.of_grown1 {g:Nat} (h:w.grownBy w' (some g)) (hg:g∈S):Only S w w':=
 ⟨h.os,h.tape,h.output,h.size,λi hi hn=>h.block i hi (λe=>hn (by injection e with e;subst e;exact hg))⟩
theorem jq1 (h:w.grownBy w' none):Below w.heap.size w w':=⟨h.os,h.tape,h.output,h.size,λi hi=>h.block i hi (by simp)⟩
theorem kj (h:Below w.heap.size w w') (k:Below w'.heap.size w' w''):Below w.heap.size w w'':=h.trans (k.mono h.size)
variable {own:Bool} {d:D} {ds:List D} {v:Value} {vs:List Value}
theorem Rep.only (h:Rep w own d v S) (ho:Only T w w') (hd:∀s∈S,s∉T):Rep w' own d v S:=Rep.keep d h λb hb=>ho.block b (Rep.lt d h b hb) (hd b hb)
theorem RepL.only (h:RepL w own ds vs S) (ho:Only T w w') (hd:∀s∈S,s∉T):RepL w' own ds vs S:=RepL.keep ds h λb hb=>ho.block b (RepL.lt ds h b hb) (hd b hb)
theorem Fresh.nil (B:Nat):Fresh B []:=⟨List.nodup_nil,by simp⟩
theorem Fresh.mono {B B':Nat} (h:Fresh B S) (hB:B'<=B):Fresh B' S:=⟨h.1,λb hb=>aPC hB (h.2 b hb)⟩
theorem Fresh.left {B:Nat} (h:Fresh B (S++T)):Fresh B S:=⟨(aNY.1 h.1).1,λb hb=>h.2 b (by simp [hb])⟩
theorem Fresh.right {B:Nat} (h:Fresh B (S++T)):Fresh B T:=⟨(aNY.1 h.1).2.1,λb hb=>h.2 b (by simp [hb])⟩
theorem Fresh.apart {B:Nat} (h:Fresh B (S++T)):∀s∈S,s∉T:=λs hs ht=>(aNY.1 h.1).2.2 s hs s ht rfl
theorem Fresh.join {B B':Nat} (h:Fresh B S) (k:Fresh B' T) (hB:B<=B') (aB:∀s∈S,s<B'):Fresh B (S++T):=
 ⟨aNY.2 ⟨h.1,k.1,λa ha b hb e=>by have h1:=aB a ha;have h2:=k.2 b hb;omega⟩,
  λb hb=>by rcases aNT.1 hb with hb|hb;exact h.2 b hb;exact aPC hB (k.2 b hb)⟩
theorem Fresh.one (B g:Nat) (h:B<=g):Fresh B [g]:=⟨by simp,by simpa using h⟩
end
def D.one:D->Prop
 |.val v=>v.oneCell'=true
 |.sl ..=>True
theorem Rep.one {w:World} {own:Bool} {d:D} {v:Value} {S:List Nat} (h:Rep w own d v S) (h1:d.one):v.oneCell'=true:=by
 cases d with
 |val u=>obtain ⟨rfl,_⟩:=h;exact h1
 |sl size ty cs=>
  obtain ⟨vs,T,S',hr,_,_⟩:=h;obtain ⟨_,A,n,c,rfl,_⟩:=hr.ro;rfl
theorem RepL.one {w:World} {own:Bool}:∀(ds:List D) {vs:List Value} {S:List Nat},RepL w own ds vs S->(∀d∈ds,d.one)->∀v∈vs,v.oneCell'=true
 |[],_,_,h,_=>by obtain ⟨rfl,_⟩:=h;simp
 |d::ds,_,_,h,hd=>by
  obtain ⟨v,vs',S1,S2,rfl,rfl,h1,h2⟩:=h;intro u hu;rcases aOK.1 hu with rfl|hu
  ·exact Rep.one h1 (hd d (by simp))
  ·exact RepL.one ds h2 (λd' n5=>hd d' (by simp [n5])) u hu
theorem Rep.nil_ (w:World) (size:Nat) (ty:TypeId):Rep w true (.sl size ty []) (.slice none 0 0) []:=
 ⟨[],[],[],⟨0,World.ownsRow_nil w 0 ty size,rfl⟩,RepL.nil_,rfl⟩
section
variable {α:Type} {enc:α->List D} {size:Nat} {w w':World} {ty:TypeId} {xs:List α} {v:Value} {S:List Nat}
theorem Rep.own (hl:∀x,(enc x).length=size) (hs:0<size) (h:Rep w true (.sl size ty (xs.flatMap enc)) v S):
 ∃vs S1,w.ownsRow 0 ty size v xs.length vs/\RepL w true (xs.flatMap enc) vs S1/\S=blk v++S1:=by
 obtain ⟨vs,T,S',⟨n,h1,rfl⟩,h2,rfl⟩:=h;have aD:vs.length=xs.length*size:=by rw [RepL.length _ h2,jC hl]
 have hn:n=xs.length:=Nat.eq_of_mul_eq_mul_right hs (h1.1.symm.trans aD);subst hn;exact ⟨vs,S',h1,h2,rfl⟩
theorem Rep.of_own {vs:List Value} {S1:List Nat} {n:Nat} (h:w.ownsRow 0 ty size v n vs) (h2:RepL w true (xs.flatMap enc) vs S1):Rep w true (.sl size ty (xs.flatMap enc)) v (blk v++S1):=
 ⟨vs,blk v,S1,⟨n,h,rfl⟩,h2,rfl⟩
def jmP:List Value->Nat->List Value->List Value
 |xs,_,[]=>xs
 |xs,o,v::r=>jmP (xs.set o v) (o+1) r
theorem jmO:∀(new:List Value) (v1 vk v2:List Value),vk.length=new.length->jmP (v1++vk++v2) v1.length new=v1++new++v2
 |[],v1,vk,v2,h=>by
  obtain rfl:vk=[]:=aON h;rfl
 |u::r,v1,vk,v2,h=>by
  match vk,h with
  |x::vk,h=>
   have e:(v1++x::vk++v2).set v1.length u=(v1++[u])++vk++v2:=by simp
   have:=jmO r (v1++[u]) vk v2 (by simpa using h)
   rw [jmP,e];rw [aNR,List.length_singleton] at this;rw [this];simp
theorem jds {g n cap:Nat} {e:TypeId}:∀(cs:List Value) (o:Nat) {w:World} {vs:List Value},w.ownsRow 0 e size (.slice (some ⟨g,0,none⟩) n cap) n vs->
 (w.setCells g o cs).ownsRow 0 e size (.slice (some ⟨g,0,none⟩) n cap) n (jmP vs o cs)/\w.grownBy (w.setCells g o cs) (some g)
 |[],_,w,_,h=>⟨h,⟨rfl,rfl,rfl,aOC _,λ_ _ _=>rfl⟩⟩
 |u::r,o,w,vs,h=>by
  obtain ⟨h1,h2⟩:=h.stored o u;obtain ⟨h3,h4⟩:=jds r (o+1) h1;exact ⟨h3,⟨h4.os.trans h2.os,h4.tape.trans h2.tape,h4.output.trans h2.output,aPC h2.size h4.size,λk hk aJ=>(h4.block k (Nat.lt_of_lt_of_le hk h2.size) aJ).trans (h2.block k hk aJ)⟩⟩
theorem jxB {g n cap:Nat} {e:TypeId} {vs:List Value} (h:w.ownsRow 0 e size (.slice (some ⟨g,0,none⟩) n cap) n vs) (o m:Nat) (hm:o+m<=n*size):w.there g o m:=λj hj=>
 ⟨by rw [h.cellAt (o+j) (by omega),aNS (by rw [h.1];omega)];rfl,h.frozenAt _⟩
theorem Rep.setElem (hl:∀x,(enc x).length=size) (hs:0<size) {g n cap k:Nat} {B:Nat} (h:Rep w true (.sl size ty (xs.flatMap enc)) (.slice (some ⟨g,0,none⟩) n cap) S) (hk:k<xs.length)
 {y:α} {vy:List Value} {Sy:List Nat} (hy:RepL w true (enc y) vy Sy) (hF:Fresh B (S++Sy)):
 ∃S',Rep (w.setCells g (k*size) vy) true (.sl size ty ((xs.set k y).flatMap enc)) (.slice (some ⟨g,0,none⟩) n cap) S'/\Fresh B S'/\Only [g] w (w.setCells g (k*size) vy)/\g∈S/\(∀s∈S',s∈S\/s∈Sy):=by
 obtain ⟨vs,S1,h1,h2,rfl⟩:=Rep.own hl hs h;obtain ⟨x,hx⟩:∃x,xs[k]?=some x:=⟨xs[k],aNS hk⟩;obtain ⟨v1,vk,v2,Sa,Sk,Sb,rfl,gM,hvk,rfl,hr,nY,fK⟩:=RepL.get hl xs h2 k x hx
 have hn:n=xs.length:=by
  rcases h1.2 with ⟨e,_⟩|⟨g',cap',cur,e,_⟩
  ·cases e
  ·simp only [Value.slice.injEq] at e;exact e.2.1
 subst hn;obtain ⟨h3,h4⟩:=jds vy (k*size) h1;have hvy:vy.length=size:=by rw [RepL.length _ hy,hl]
 rw [<-gM,jmO vy v1 vk v2 (by omega)] at h3
 rw [gM] at h3;have ho:Only [g] w (w.setCells g (k*size) vy):=Only.of_grown1 h4 (by simp)
 have uY:Fresh B ((blk (.slice (some ⟨g,0,none⟩) xs.length cap)++(Sa++Sy++Sb))++Sk):=by
  refine ⟨?_,λb hb=>hF.2 b (by simp only [aNT] at hb⊢;grind)⟩
  refine (List.Perm.nodup_iff ?_).1 hF.1;simp only [aOB];refine aQG _ (aQG _ ?_)
  exact (aQH (l₁:=Sk) (l₂:=Sb++Sy)).trans (by
   rw [<-aOB];exact List.Perm.append_right _ aQH)
 have hg:∀s,s∈Sa++Sy++Sb->s∉ [g]:=λs hs hsg=>by
  have:=uY.left.apart g (by simp [blk])
  simp only [aQL] at hsg;subst hsg;exact this hs
 refine ⟨_,Rep.of_own h3 (RepL.put xs hk (nY.only ho λs hs=>hg s (by simp [hs])) (hy.only ho λs hs=>hg s (by simp [hs])) (fK.only ho λs hs=>hg s (by simp [hs]))),uY.left,ho,by simp [blk],λs hs=>?_⟩
 simp only [aNT] at hs⊢
 grind
end
def Fill {α:Type} (enc:α->List D) (size:Nat) (ty:TypeId) (w:World) (xs:List α) (v:Value) (wr:World):Prop:=∃S,Rep wr true (.sl size ty (xs.flatMap enc)) v S/\Fresh w.heap.size S/\Below w.heap.size w wr
def jHl (w:World) (d:D) (e:Ending) (w':World):Prop:=∃v S,e=.returned v/\Rep w' true d v S/\Fresh w.heap.size S/\Below w.heap.size w w'
def jzw (w:World) (ds:List D) (e:Ending) (w':World):Prop:=∃v S,e=.returned v/\AggRep w' true ds v S/\Fresh w.heap.size S/\Below w.heap.size w w'
structure SlT (P:Program) (t e:TypeId) (size bytes:Nat) (z:List Value):Prop where
 und:P.underlying t=some (.slice e)
 info:∃i zv,P.info? e=some i/\i.zero=some zv/\zv.cells=z.toArray/\i.size=size/\i.bytes=bytes
 zlen:z.length=size
 pos:0<size
section
variable {P:Program} {α:Type} {enc:α->List D} {size bytes:Nat} {w:World} {t e:TypeId} {z:List Value} {xs ys:List α} {v:Value} {S Sy:List Nat}
theorem jnt {ty:TypeId} {i:TypeInfo} {zv:Value} (ht:P.underlying t=some (.slice e)) (hi:P.info? e=some i) (hz:i.zero=some zv) {n:Nat} {vs:List Value} (cA:w.ownsRow 0 e i.size v n vs)
 {ad:Addr} {m c:Nat} {news:List Value} (hl:news.length=m*i.size) (dQ:∀j u,news[j]?=some u->w.cell? (ad.add j)=some u) (h1:∀u∈news,u.oneCell'=true)
 (rA:n+m<=maxLen) (d8:(n+m)*i.bytes<=140737488355328) {v':Value} {w':World}
 (hr:(Builtin.append_ #[t,t] ty #[v,.slice (some ad) m c]).run P w=.ok v' w'):∀b∈blk v',b∈blk v\/b=w.heap.size:=by
 unfold maxLen at rA;intro b hb;rcases cA.2 with ⟨rfl,rfl⟩|⟨g,cap,cur,rfl,_,hg,mR,n6,fE,gY⟩
 ·by_cases hm:m=0
  ·subst hm
   simp [Builtin.append_,run_underlying ht,sizeOf,typeInfo,hi,Builtin.lenOf,Builtin.firstCells,loadCells,loadCellsFrom] at hr;rw [<-hr.1] at hb;exact .inl hb
  ·rw [run_append_nil (P:=P) w t ty e i zv ht hi hz ad m c news hl dQ (by omega) (by omega) (by simp only [aPH] at d8;omega)] at hr
   injection hr with e1 _;subst e1;simp only [blk,aQL] at hb;exact .inr hb
 ·by_cases bY:n+m<=cap
  ·rw [run_append_room (P:=P) w t ty e i ht hi g n cap cur hg ad m c news hl dQ h1 bY (by rw [hl,fE,<-aRB];exact aQW _ bY)] at hr
   injection hr with e1 _;subst e1;exact .inl hb
  ·rw [run_append_grow (P:=P) w t ty e i zv ht hi hz ⟨g,0,none⟩ n cap vs cA.1 (cA.cells (g:=g) rfl) ad m c news hl dQ (by omega) (by omega) (growslice_fits (by omega) d8)] at hr
   injection hr with e1 _;subst e1;simp only [blk,aQL] at hb;exact .inr hb
theorem jbw {ops:Array Oper} {rest:List Oper} {o:Oper} {a:Act} {Q:Exit->Act->World->Prop} (yB:o.guard=none) (s x:Operand)
 (ho:o.op=.call {callee:=.builtin .append,args:=#[s,x],argTypes:=#[t,t]}) (T:SlT P t e size bytes z) (hl:∀x,(enc x).length=size)
 (hs:a.eval s=v) (bE:Rep w true (.sl size e (xs.flatMap enc)) v S)
 (A:Option Addr) (m c:Nat) (news:List Value) (hx:a.eval x=.slice A m c) (hy:RepL w true (ys.flatMap enc) news Sy) (hm:m=ys.length)
 (hA:A=none->m=0/\c=0) (dQ:∀ad,A=some ad->∀j u,news[j]?=some u->w.cell? (ad.add j)=some u) (h1:∀y,∀d∈enc y,d.one)
 (B:Nat) (hB:B<=w.heap.size) (hF:Fresh B (S++Sy)) (rA:xs.length+ys.length<=maxLen) (d8:(xs.length+ys.length)*bytes<=140737488355328)
 (h:∀v' w' S',Rep w' true (.sl size e ((xs++ys).flatMap enc)) v' S'->Fresh B S'->Only S w w'->(∀s∈S',s∈S\/s∈Sy\/w.heap.size<=s)->wpList P ops Q rest (a.put o.dst v') w'):
 wpList P ops Q (o::rest) a w:=by
 obtain ⟨i,zv,hi,hz,oA,cP,p8⟩:=T.info;obtain ⟨vs,S1,cA,bR,rfl⟩:=Rep.own hl T.pos bE;have fX:news.length=ys.length*size:=by rw [RepL.length _ hy,jC hl]
 have eX:∀u∈news,u.oneCell'=true:=RepL.one _ hy (λd hd=>by
  obtain ⟨y,_,hd⟩:=aQQ.1 hd;exact h1 y d hd)
 subst hm;refine wpList_plain yB λK hK=>?_
 cases A with
 |none=>
  obtain ⟨h0,rfl⟩:=hA rfl;have wS:ys=[]:=aON h0;subst wS;have hr:=run_append_owned_none (P:=P) w 0 t o.type e i size T.und hi v xs.length vs cA;unfold Oper.wp execOp;simp only [ho,resolve,invoke,builtin,Sem.run_bind,Sem.run_pure,Result.andThen_ok,List.map_toArray,aPB,List.map_nil,hs,hx,aOR,hr];refine hK _ _ (h v w (blk v++S1) (by simpa using Rep.of_own cA bR) hF.left (Only.refl _ _) λs hs=>.inl hs)
 |some ad=>
  obtain ⟨v',w',hr,h2,h3,_⟩:=run_append_own (P:=P) w 0 t o.type e i zv size bytes T.und hi hz cP p8 (by rw [oA];simpa using T.zlen) T.pos v xs.length vs cA ad ys.length c news fX (dQ ad rfl) eX rA d8 (aOL _)
  unfold Oper.wp execOp;simp only [ho,resolve,invoke,builtin,Sem.run_bind,Sem.run_pure,Result.andThen_ok,List.map_toArray,aPB,List.map_nil,hs,hx,hr];have dJ:Only (blk v++S1) w w':=Only.of_grown h3 (λb hb=>by simp [hb])
  have eW:Only (blk v) w w':=Only.of_grown h3 (λb hb=>hb)
  have lF:∀s∈S1++Sy,s∉blk v:=λs hs hb=>by
   have:=hF.1;rw [aOB] at this;exact (aNY.1 this).2.2 s hb s hs rfl
  have cD:∀b∈blk v',b∈blk v\/b=w.heap.size:=jnt T.und hi hz (by rw [cP];exact cA) (by rw [cP];exact fX) (dQ ad rfl) eX rA (by rw [p8];exact d8) hr
  have eP:Rep w' true (.sl size e ((xs++ys).flatMap enc)) v' (blk v'++(S1++Sy)):=by
   refine Rep.of_own h2 ?_;rw [aPK];exact RepL.append_ _ (bR.only eW λs hs=>lF s (by simp [hs])) (hy.only eW λs hs=>lF s (by simp [hs]))
  have aB:∀s∈S1++Sy,s<w.heap.size:=λs hs=>by
   rcases aNT.1 hs with hs|hs
   ·exact RepL.lt _ bR s hs
   ·exact RepL.lt _ hy s hs
  refine hK _ _ (h v' w' _ eP ?_ dJ λs hs=>?_)
  ·rw [aOB] at hF
   refine ⟨aNY.2 ⟨?_,(aNY.1 hF.1).2.1,λa ha b hb e=>?_⟩,λb hb=>?_⟩
   ·rcases h2.2 with ⟨rfl,_⟩|⟨g,cap,cur,rfl,_⟩<;>simp [blk]
   ·subst e
    rcases cD a ha with h4|h4
    ·exact lF a hb h4
    ·have:=aB a hb;omega
   ·rcases aNT.1 hb with hb|hb
    ·rcases cD b hb with h4|h4
     ·exact hF.2 b (by simp [h4])
     ·omega
    ·exact hF.2 b (by rw [aNT];exact .inr hb)
  ·rcases aNT.1 hs with hs|hs
   ·rcases cD s hs with h4|h4
    ·exact .inl (by simp [h4])
    ·right;right;omega
   ·rcases aNT.1 hs with hs|hs
    ·exact .inl (by simp [hs])
    ·exact .inr (.inl hs)
theorem zW {z:List Value} {size:Nat} (hz:z.length=size) (iX:0<size):∀(n j:Nat),j<n*size->((List.replicate n z).flatten)[j]?=z[j%size]?
 |0,j,h=>by omega
 |n+1,j,h=>by
  rw [List.replicate_succ,aQY];by_cases xY:j<size
  ·rw [Nat.mod_eq_of_lt xY,aQE (by omega)]
  ·rw [aPL (by omega),hz,zW hz iX n (j-size) (by rw [Nat.succ_mul] at h;omega)]
   rw [Nat.mod_eq_sub_mod (a:=j) (by omega)]
theorem jky {ops:Array Oper} {rest:List Oper} {o:Oper} {a:Act} {Q:Exit->Act->World->Prop} (yB:o.guard=none) (l c:Operand) (hop:o.op=Op.makeSlice t l c) (T:SlT P t e size bytes z)
 (z0:α) (fQ:∀w,RepL w true (enc z0) z []) (kl kc:IntKind) (L C:Int) (n:Nat) (hl:a.eval l=.int kl L) (hc:a.eval c=.int kc C) (hL:L=(n:Int)) (hC:C=(n:Int)) (b2:bytes*n<=281474976710656) (b3:n<=maxLen)
 (hK:∀w' A,Rep w' true (.sl size e ((List.replicate n z0).flatMap enc)) (.slice A n n) [w.heap.size]->Below w.heap.size w w'->wpList P ops Q rest (a.put o.dst (.slice A n n)) w'):
 wpList P ops Q (o::rest) a w:=by
 obtain ⟨i,zv,hi,hz,oA,cP,p8⟩:=T.info;refine wpList_make_full w yB l c t hop 0 e i zv size T.und hi hz cP kl kc L C n hl hc hL hC (by rw [p8];exact b2) b3 (aOL _) λw' h1 h2=>?_
 refine hK w' _ ?_ (jq1 h2)
 have cX:∀n,∃vs,RepL w' true ((List.replicate n z0).flatMap enc) vs []/\vs=(List.replicate n z).flatten:=by
  intro n
  induction n with
  |zero=>exact ⟨[],RepL.nil_,rfl⟩
  |succ n ih=>
   obtain ⟨vs,h3,rfl⟩:=ih;refine ⟨z++(List.replicate n z).flatten,?_,by simp [List.replicate_succ]⟩
   have:=RepL.append_ _ (fQ w') h3;simpa [List.replicate_succ] using this
 obtain ⟨vs,h3,h4⟩:=cX n
 have h5:(madeCells zv.cells (n*size)).toList=(List.replicate n z).flatten:=by
  rw [oA];have n9:=T.zlen
  apply aPY
  intro j;by_cases hj:j<n*size
  ·rw [zW n9 T.pos n j hj]
   simp [madeCells,hj,n9];rw [aNS (by rw [n9];exact Nat.mod_lt _ T.pos)]
   simp
  ·rw [aPN (by simp [madeCells];omega),aPN (by simp [n9];omega)]
 rw [h5,<-h4] at h1;have:=Rep.of_own h1 h3;simpa [blk] using this
theorem jq7 {ops:Array Oper} {rest:List Oper} {a:Act} {Q:Exit->Act->World->Prop} (x y:Operand) {d:Option Tmp} {ts:Array TypeId} {t:TypeId} {pos:String} {aft:Array Edge} {g:Option (Nat×Bool)}
 (h:wpList P ops Q (⟨d,.call {callee:=.builtin .append,args:=#[x,y],argTypes:=ts},t,pos,aft,g⟩::rest) a w):wpList P ops Q (⟨d,.call {callee:=.builtin .append,args:=#[x,y],argTypes:=ts},t,pos,aft,g⟩::rest) a w:=h
end
inductive X where
 |t (n:Nat)
 |c (v:Value)
 |f (n:Nat)
inductive Cv where
 |num (k:IntKind)
 |bytes
 |text
inductive I where
 |mov (x:X)
 |pick (c a b:X)
 |box (ty n:Nat) (x:X)
 |alloc (ty:Nat) (zs:List Value)
 |bld (zs:List Value) (ps:List (Nat×Nat×X))
 |bsl (e size len:Nat) (ks:List (Option (Nat×Nat))) (ps:List (Nat×Nat×X))
 |ld (agg:Bool) (n:Nat) (x:X)
 |st (n:Nat) (ks:List (Option (Nat×Nat))) (a x:X)
 |fa (off:Nat) (x:X)
 |ia (size:Nat) (x i:X)
 |sidx (x i:X)
 |bin (op:BinOp) (ty:Nat) (x y:X)
 |beq (neg:Bool) (x y:X)
 |un (op:UnOp) (x:X)
 |cv (c:Cv) (e:Nat) (x:X)
 |len (str:Bool) (x:X)
 |app (e size bytes:Nat) (x y:X)
 |apps (e:Nat) (x y:X)
 |clr (size:Nat) (zs:List D) (x:X)
 |mm (mx:Bool) (x y:X)
 |mks (e size bytes:Nat) (zs:List D) (l c:X)
 |sl (size:Nat) (x:X) (lo hi:Option X)
 |ext (x:X) (i:Nat)
 |fld (agg:Bool) (off n:Nat) (x:X)
 |mkf (f:Nat) (caps:List X)
 |call (f:Nat) (args:List X)
 |callv (x:X) (args:List X)
structure Ins where
 d:Option Nat
 g:Option (Nat×Bool)
 i:I
abbrev iA (d:Nat) (i:I):Ins:=⟨some d,none,i⟩
abbrev iB (d g:Nat) (w:Bool) (i:I):Ins:=⟨some d,some (g,w),i⟩
abbrev iC (i:I):Ins:=⟨none,none,i⟩
abbrev iM (n:Nat):I:=.mov (.t n)
abbrev iN (n:Int):I:=.mov (.c (.int .i64 n))
abbrev iO (b:Bool):I:=.mov (.c (.bool b))
abbrev iL (n:Nat):I:=.ld false 1 (.t n)
abbrev iT (k n:Nat):I:=.ld true k (.t n)
abbrev iF (k n:Nat):I:=.fa k (.t n)
abbrev iI (k a b:Nat):I:=.ia k (.t a) (.t b)
abbrev iP (o:BinOp) (k a b:Nat):I:=.bin o k (.t a) (.t b)
abbrev iQ (o:BinOp) (k a:Nat) (v:Int):I:=.bin o k (.t a) (.c (.int .i64 v))
abbrev iE (a k:Nat):I:=.ext (.t a) k
abbrev iG (a:Nat):I:=.len false (.t a)
abbrev iU (a:Nat):I:=.un .not (.t a)
abbrev aM (d n:Nat):Ins:=iA d (iM n)
abbrev aN (d:Nat) (n:Int):Ins:=iA d (iN n)
abbrev aO (d:Nat) (b:Bool):Ins:=iA d (iO b)
abbrev aL (d n:Nat):Ins:=iA d (iL n)
abbrev aT (d k n:Nat):Ins:=iA d (iT k n)
abbrev aF (d k n:Nat):Ins:=iA d (iF k n)
abbrev aI (d k a b:Nat):Ins:=iA d (iI k a b)
abbrev aP (d:Nat) (o:BinOp) (k a b:Nat):Ins:=iA d (iP o k a b)
abbrev aQ (d:Nat) (o:BinOp) (k a:Nat) (v:Int):Ins:=iA d (iQ o k a v)
abbrev aE (d a k:Nat):Ins:=iA d (iE a k)
abbrev aG (d a:Nat):Ins:=iA d (iG a)
abbrev aU (d a:Nat):Ins:=iA d (iU a)
abbrev iK (f:Nat) (l:List Nat):I:=.call f (l.map .t)
abbrev oI (n:Int):X:=.c (.int .i64 n)
abbrev oT:X:=.c (.bool true)
abbrev oF:X:=.c (.bool false)
abbrev iY (c:Nat) (a b:X):I:=.pick (.t c) a b
abbrev wAA (a b:Nat):Ins:=iC (.st 4 [none,none,some (1,35),some (8,52)] (.t a) (.t b))
abbrev wAB (a b:Nat):Ins:=iC (.st 4 [none,none,none,none] (.t a) (.t b))
abbrev wAC (a b:Nat):Ins:=iC (.st 8 [none,none,none,none,none,some (2,161),none,some (4,46)] (.t a) (.t b))
abbrev wAD (a b:Nat):Ins:=iC (.st 1 [none] (.t a) (.t b))
abbrev wAE (a b:Nat):Ins:=iC (.st 11 [none,none,none,none,none,none,some (2,161),none,none,none,none] (.t a) (.t b))
abbrev wAF (a b:Nat):Ins:=iC (.st 1 [some (4,44)] (.t a) (.t b))
abbrev wAG (a b:Nat):Ins:=iC (.st 5 [none,none,none,none,some (2,161)] (.t a) (.t b))
abbrev wAH (a b:Nat):Ins:=iC (.st 2 [none,none] (.t a) (.t b))
abbrev wAI (a b:Nat):Ins:=iC (.st 1 [some (8,52)] (.t a) (.t b))
abbrev wAJ (a b:Nat):Ins:=iC (.st 1 [some (4,46)] (.t a) (.t b))
abbrev wAK (a b:Nat):Ins:=iC (.st 1 [some (2,161)] (.t a) (.t b))
abbrev wAL (a b:Nat):Ins:=iC (.st 12 [none,none,none,none,none,none,none,some (2,161),none,none,none,none] (.t a) (.t b))
abbrev wAM:I:=.alloc 27 [.int .i64 0,.int .i64 0,.slice none 0 0,.slice none 0 0]
abbrev wAN:I:=.alloc 52 [.int .i64 0,.int .i64 0,.int .i64 0,.int .i64 0,.int .i64 0,.slice none 0 0,.int .i64 0,.slice none 0 0]
abbrev wAO:I:=.alloc 46 [.int .i64 0,.int .i64 0,.int .i64 0,.int .i64 0]
abbrev wAP:I:=.alloc 161 [.int .i64 0,.int .i64 0]
abbrev wAQ:I:=.alloc 44 [.int .i64 0,.int .i64 0,.int .i64 0,.int .i64 0]
abbrev wAR:I:=.alloc 32 [.int .i64 0,.int .i64 0,.int .i64 0,.int .i64 0]
abbrev wAS:I:=.alloc 49 [.int .i64 0,.int .i64 0,.int .i64 0,.int .i64 0,.slice none 0 0]
abbrev wAT:I:=.alloc 60 [.int .i64 0,.int .i64 0,.int .i64 0,.int .i64 0,.int .i64 0,.int .i64 0,.slice none 0 0,.int .i64 0,.int .i64 0,.int .i64 0,.int .i64 0]
abbrev wAU:I:=.alloc 70 [.int .i64 0,.int .i64 0,.int .i64 0,.int .i64 0,.int .i64 0,.int .i64 0,.int .i64 0,.slice none 0 0,.int .i64 0,.int .i64 0,.int .i64 0,.int .i64 0]
abbrev wAV (p:List (Nat×Nat×X)):I:=.bld [.int .i64 0,.int .i64 0,.int .i64 0,.int .i64 0] p
abbrev wAW (p:List (Nat×Nat×X)):I:=.bld [.int .i64 0,.int .i64 0,.slice none 0 0,.slice none 0 0] p
abbrev wAX (p:List (Nat×Nat×X)):I:=.bld [.int .i64 0,.int .i64 0,.int .i64 0,.int .i64 0,.int .i64 0,.int .i64 0,.slice none 0 0,.int .i64 0,.int .i64 0,.int .i64 0,.int .i64 0] p
abbrev wAY (p:List (Nat×Nat×X)):I:=.bld [.int .i64 0,.int .i64 0,.int .i64 0,.int .i64 0,.int .i64 0,.slice none 0 0,.int .i64 0,.slice none 0 0] p
abbrev wAZ (p:List (Nat×Nat×X)):I:=.bld [.int .i64 0,.int .i64 0,.int .i64 0,.int .i64 0,.int .i64 0,.int .i64 0,.int .i64 0,.slice none 0 0,.int .i64 0,.int .i64 0,.int .i64 0,.int .i64 0] p
abbrev wA0 (p:List (Nat×Nat×X)):I:=.bld [.int .i64 0,.int .i64 0,.int .i64 0,.int .i64 0,.slice none 0 0] p
abbrev wA1 (p:List (Nat×Nat×X)):I:=.bsl 3 1 1 [none] p
abbrev wA2 (p:List (Nat×Nat×X)):I:=.bsl 44 4 0 [] p
abbrev wA3 (p:List (Nat×Nat×X)):I:=.bsl 3 1 0 [] p
abbrev wA4 (p:List (Nat×Nat×X)):I:=.bsl 44 4 1 [none,none,none,none] p
abbrev wA5 (p:List (Nat×Nat×X)):I:=.bsl 52 8 1 [none,none,none,none,none,some (2,161),none,some (4,46)] p
abbrev wA6 (p:List (Nat×Nat×X)):I:=.bsl 3 1 2 [none,none] p
abbrev wA7 (p:List (Nat×Nat×X)):I:=.bsl 3 1 3 [none,none,none] p
abbrev wA8 (p:List (Nat×Nat×X)):I:=.bsl 46 4 1 [none,none,none,none] p
abbrev wA9 (p:List (Nat×Nat×X)):I:=.bsl 70 12 1 [none,none,none,none,none,none,none,some (2,161),none,none,none,none] p
abbrev wBA (a b:Nat):I:=.app 3 1 8 (.t a) (.t b)
abbrev wBB (a b:Nat):I:=.app 44 4 32 (.t a) (.t b)
abbrev wBC (a b:Nat):I:=.app 52 8 96 (.t a) (.t b)
inductive T where
 |done
 |stop
 |pure (pid:Nat) (i:Ins) (t:T)
 |alt (i:Ins) (chk:List Nat) (t rest:T)
abbrev tA (p d:Nat) (i:I) (t:T):T:=.pure p ⟨some d,none,i⟩ t
abbrev tB (p d g:Nat) (w:Bool) (i:I) (t:T):T:=.pure p ⟨some d,some (g,w),i⟩ t
abbrev tC (d:Nat) (i:I) (l:List Nat) (t r:T):T:=.alt ⟨some d,none,i⟩ l t r
inductive C where
 |skip
 |reg (is:List Ins)
 |dreg (t:T)
 |seq (a b:C)
 |cond (x:X) (a b:C)
 |blk (id:Nat) (a:C)
 |loop (a:C)
 |exit (id:Nat)
 |ret
 |gh (a:C)
abbrev iS (l:List Ins) (c:C):C:=.seq (.reg l) c
abbrev iD (a:Nat) (x y:C):C:=.cond (.t a) x y
def C.er:C->C
 |.seq a b=>.seq a.er b.er
 |.cond x a b=>.cond x a.er b.er
 |.blk id a=>.blk id a.er
 |.loop a=>.loop a.er
 |.gh a=>a.er
 |c=>c
def C.ghAt:List Nat->C->C
 |[],c=>.gh c
 |0::p,.seq a b=>.seq (a.ghAt p) b
 |_::p,.seq a b=>.seq a (b.ghAt p)
 |0::p,.cond x a b=>.cond x (a.ghAt p) b
 |_::p,.cond x a b=>.cond x a (b.ghAt p)
 |_::p,.blk id a=>.blk id (a.ghAt p)
 |_::p,.loop a=>.loop (a.ghAt p)
 |_,c=>c
inductive A0 where
 |v (x:Value)
 |ro (d:D)
 |rp (ds:List D)
 |h (g c:Nat) (p:List Nat) (x:Value)
 |bp (g c b:Nat)
 |ep (g c:Nat) (p:List Nat) (i:Nat) (x:Value)
 |un
 |hs (g c:Nat) (p:List Nat) (x:Value) (size lo n:Nat)
inductive AV where
 |c (a:A0)
 |agg (l:List A0)
 |fn (f:Nat) (caps:List A0)
 |tup (l:List (Bool×List A0))
 |unk
abbrev jf:=List Nat->Value
inductive Cell where
 |a (x:A0)
 |own (d:D) (η:jf)
inductive Ob where
 |none
 |loose (d:D) (η:jf)
 |box (b ty:Nat) (cs:List Cell)
structure St where
 t:Nat->AV
 o:Nat->Ob
structure jzt where
 blk:Nat
 η:Nat->jf
inductive RT where
 |c (d:D)
 |agg (ds:List D)
 |tup (l:List (Bool×List D))
inductive View where
 |c (d:D)
 |agg (ds:List D)
 |ptr (ds:List D)
 |fn (f:Nat) (caps:List (List D))
def D.get:List Nat->D->Option D
 |[],d=>some d
 |i::p,.sl _ _ cs=>match cs[i]? with
  |some d=>D.get p d
  |none=>none
 |_::_,.val _=>none
def D.cells:D->List D
 |.sl _ _ cs=>cs
 |.val _=>[]
def D.size:D->Nat
 |.sl s _ _=>s
 |.val _=>1
def D.isSl:D->Bool
 |.sl _ _ _=>true
 |.val _=>false
def D.len (d:D):Nat:=d.cells.length/d.size
def D.sub (d:D) (l h:Nat):D:=match d with
 |.sl size ty cs=>.sl size ty ((cs.drop (l*size)).take ((h-l)*size))
 |.val u=>.val u
def D.elem (d:D) (k:Nat):List D:=(d.cells.drop (k*d.size)).take d.size
def D.toRo:D->A0
 |.val u=>.v u
 |.sl s t cs=>.ro (.sl s t cs)
def D.toOwn (d:D) (g c:Nat) (p:List Nat) (η:jf):A0:=match d with
 |.val u=>.v u
 |.sl _ _ _=>.h g c p (η p)
def D.obj (d:D) (g:Nat) (η:jf):List (Nat×Ob):=match d with
 |.val _=>[]
 |.sl s t cs=>[(g,.loose (.sl s t cs) η)]
def jF9 (g:Nat) (η:Nat->jf):Nat->List D->List A0
 |_,[]=>[]
 |j,d::ds=>d.toOwn (g+j) 0 [] (η j)::jF9 g η (j+1) ds
def jl3 (g:Nat) (η:Nat->jf):Nat->List D->List (Nat×Ob)
 |_,[]=>[]
 |j,d::ds=>d.obj (g+j) (η j)++jl3 g η (j+1) ds
def jHn (g:Nat) (η:Nat->jf):Nat->List (Bool×List D)->List (Bool×List A0)
 |_,[]=>[]
 |j,(b,ds)::l=>(b,jF9 g η j ds)::jHn g η (j+ds.length) l
def RT.flat:RT->List D
 |.c d=>[d]
 |.agg ds=>ds
 |.tup l=>l.flatMap (·.2)
def RT.av (g:Nat) (η:Nat->jf):RT->AV
 |.c d=>.c (d.toOwn g 0 [] (η 0))
 |.agg ds=>.agg (jF9 g η 0 ds)
 |.tup l=>.tup (jHn g η 0 l)
def Ob.own:Ob->Nat->Option (D×jf)
 |.loose d η,0=>some (d,η)
 |.box _ _ cs,c=>match cs[c]? with
  |some (.own d η)=>some (d,η)
  |_=>Option.none
 |_,_=>Option.none
def rmC (cs:List Cell) (c:Nat):Option Cell->List Cell
 |some (.own _ η)=>cs.set c (.a (.v (η [])))
 |_=>cs
def Ob.rm:Ob->Nat->Ob
 |.box b ty cs,c=>.box b ty (rmC cs c cs[c]?)
 |.loose d η,c=>if c=0 then .none else .loose d η
 |.none,_=>.none
namespace St
def ev (s:St):X->AV
 |.t n=>s.t n
 |.c v=>match v with
  |.agg cs=>.agg (cs.toList.map .v)
  |v=>.c (.v v)
 |.f n=>.fn n []
def put (s:St) (d:Option Nat) (v:AV):St:=match d with
 |some d=>⟨λn=>if n=d then v else s.t n,s.o⟩
 |none=>s
def setO (s:St) (g:Nat) (ob:Ob):St:=⟨s.t,λk=>if k=g then ob else s.o k⟩
def addO (s:St):List (Nat×Ob)->St
 |[]=>s
 |(g,ob)::l=>(s.setO g ob).addO l
def rm (s:St) (g c:Nat):St:=s.setO g ((s.o g).rm c)
end St
def Is (s:St):A0->D->Prop
 |.v x,d=>d=.val x\/(x=.slice none 0 0/\∃size ty,d=.sl size ty [])
 |.ro d',d=>d=d'
 |.h g c p x,d=>∃d0 η,(s.o g).own c=some (d0,η)/\η p=x/\D.get p d0=some d/\d.isSl=true
 |.hs g c p x size lo n,d=>∃d0 η dd,(s.o g).own c=some (d0,η)/\η p=x/\D.get p d0=some dd/\dd.isSl=true/\dd.size=size/\0<size/\lo+n<=dd.len/\d=dd.sub lo (lo+n)
 |_,_=>False
def IsP:A0->D->Prop
 |.v x,d=>d=.val x\/(x=.slice none 0 0/\∃size ty,d=.sl size ty [])
 |.ro d',d=>d=d'
 |_,_=>False
def IsL (s:St):List A0->List D->Prop
 |[],[]=>True
 |a::l,d::ds=>Is s a d/\IsL s l ds
 |_,_=>False
def Ptr (s:St):A0->List D->Prop
 |.rp ds',ds=>ds'=ds
 |.bp g c b,ds=>∃ty cs,s.o g=.box b ty cs/\∃l,(cs.drop c).take ds.length=l/\go s g b l c ds
 |_,_=>False
where go (s:St) (g b:Nat):List Cell->Nat->List D->Prop
 |[],_,[]=>True
 |.a x::l,c,d::ds=>IsP x d/\go s g b l (c+1) ds
 |.own d' _::l,c,d::ds=>d'=d/\go s g b l (c+1) ds
 |_,_,_=>False
def jBD (s:St):List A0->List (List D)->Prop
 |[],[]=>True
 |a::l,d::ds=>Ptr s a d/\jBD s l ds
 |_,_=>False
def jmB (s:St):AV->View->Prop
 |.c a,.c d=>Is s a d
 |.agg l,.agg ds=>IsL s l ds
 |.c a,.ptr ds=>Ptr s a ds
 |.fn f caps,.fn f' caps'=>f=f'/\jBD s caps caps'
 |_,_=>False
def zR (s:St):List AV->List View->Prop
 |[],[]=>True
 |a::l,v::vs=>jmB s a v/\zR s l vs
 |_,_=>False
def A0.one:A0->Bool
 |.v x=>x.oneCell'
 |.h _ _ _ _=>false
 |_=>true
def qz (s:St):List A0->(List Cell->St->Prop)->Prop
 |[],K=>K [] s
 |.h g c p x::l,K=>p=[]/\∃d η,(s.o g).own c=some (d,η)/\η []=x/\qz (s.rm g c) l (λcs s'=>K (.own d η::cs) s')
 |a::l,K=>a.one=true/\qz s l (λcs s'=>K (.a a::cs) s')
def A0.c1:A0->Bool
 |.v x=>x.oneCell'
 |_=>true
def AV.cells:AV->Option (List A0)
 |.c a=>if a.c1 then some [a] else none
 |.agg l=>some l
 |_=>none
def ky {α:Type}:List α->Nat->List α->List α
 |xs,_,[]=>xs
 |xs,o,v::r=>ky (xs.set o v) (o+1) r
def jcB (op:BinOp) (k:IntKind) (a b:Int):Value:=match op with
 |.add=>.int k (k.wrap (a+b))
 |.sub=>.int k (k.wrap (a-b))
 |.mul=>.int k (k.wrap (a*b))
 |.quo=>.int k (k.wrap (a.tdiv b))
 |.rem=>.int k (a.tmod b)
 |.and=>.int k (k.wrap ((BitVec.ofInt k.bits a&&&BitVec.ofInt k.bits b).toNat))
 |.or=>.int k (k.wrap ((BitVec.ofInt k.bits a|||BitVec.ofInt k.bits b).toNat))
 |.xor=>.int k (k.wrap ((BitVec.ofInt k.bits a^^^BitVec.ofInt k.bits b).toNat))
 |.andNot=>.int k (k.wrap ((BitVec.ofInt k.bits a&&&~~~BitVec.ofInt k.bits b).toNat))
 |.shl=>.int k (k.wrap (a*2^(min b.toNat k.bits)))
 |.shr=>.int k (a.fdiv (2^(min b.toNat k.bits)))
 |.eql=>.bool (a==b)
 |.neq=>.bool (a !=b)
 |.lss=>.bool (decide (a<b))
 |.leq=>.bool (decide (a<=b))
 |.gtr=>.bool (decide (a>b))
 |.geq=>.bool (decide (a>=b))
def jAP (op:BinOp) (k k':IntKind) (b:Int):Prop:=match op with
 |.shl|.shr=>0<=b
 |.quo|.rem=>k=k'/\b≠0
 |_=>k=k'
def jEG (op:BinOp):Value->Value->Value->Prop
 |.int k a,.int k' b,v=>jAP op k k' b/\v=jcB op k a b
 |.string a,.string b,v=>match op with
  |.add=>a.size+b.size<=maxLen/\v=.string (a++b)
  |.eql=>v=.bool (a.toList==b.toList)
  |.neq=>v=.bool (!(a.toList==b.toList))
  |_=>False
 |_,_,_=>False
def EqR (P:Program) (op:BinOp) (ty:Nat) (xs ys:List Value) (b:Bool):Prop:=
 ∀w,(binOp op ty (.agg xs.toArray) (.agg ys.toArray)).run P w=.ok (.bool b) w/\∀x y,(eqGuard op ty x y (.agg xs.toArray) (.agg ys.toArray)).run P w=.ok () w
def jc2:List A0->Option (List Value)
 |[]=>some []
 |.v x::l=>match jc2 l with
  |some r=>some (x::r)
  |none=>none
 |_::_=>none
def qe (b:UInt8):D:=.val (.int .u8 b.toNat)
def ViewRel (w:World):View->Value->Prop
 |.c d,x=>∃S,Rep w false d x S
 |.agg ds,x=>∃S,AggRep w false ds x S
 |.ptr ds,x=>CellsAt w ds x
 |.fn f caps,x=>∃xs:List Value,x=.func (.func f) #[] xs.toArray/\All2 caps xs
where
 CellsAt (w:World) (ds:List D) (x:Value):Prop:=∃b o us S,x=.pointer (some ⟨b,o,none⟩)/\RepL w false ds us S/\∀j u,us[j]?=some u->w.cell? ⟨b,o+j,none⟩=some u
 All2:List (List D)->List Value->Prop
  |[],xs=>xs=[]
  |ds::l,xs=>∃x xs',xs=x::xs'/\CellsAt w ds x/\All2 l xs'
def jab (w:World):List View->List Value->Prop
 |[],xs=>xs=[]
 |v::l,xs=>∃x xs',xs=x::xs'/\ViewRel w v x/\jab w l xs'
def juk (w:World):List (Bool×List D)->List Value->List Nat->Prop
 |[],xs,S=>xs=[]/\S=[]
 |(b,ds)::l,xs,S=>∃x xs' us S1 S2,xs=x::xs'/\S=S1++S2/\RepL w true ds us S1/\(if b then x=.agg us.toArray else us=[x])/\juk w l xs' S2
def jl0 (w:World):RT->Value->List Nat->Prop
 |.c d,x,S=>Rep w true d x S
 |.agg ds,x,S=>AggRep w true ds x S
 |.tup l,x,S=>∃xs,x=.tuple xs.toArray/\juk w l xs S
def jrb (P:Program) (f:FuncId):Prop:=∃fn,P.funcs[f]?=some fn/\fn.body.isSome=true/\(fn.name != "runtime.NumGoroutine")=true
def jW (P:Program) (f:FuncId) (vs:List View) (rt:RT):Prop:=
 jrb P f/\∀w xs,jab w vs xs->Calls P f xs.toArray w λe w'=>∃v S,e=.returned v/\jl0 w' rt v S/\Fresh w.heap.size S/\Below w.heap.size w w'
def jez (g:Nat):Nat->List Cell->List A0
 |_,[]=>[]
 |c,.a x::l=>x::jez g (c+1) l
 |c,.own _ η::l=>.h g c [] (η [])::jez g (c+1) l
def jig (g c:Nat) (p:List Nat) (η:jf):Nat->List D->List A0
 |_,[]=>[]
 |i,d::l=>d.toOwn g c (p++[i]) η::jig g c p η (i+1) l
def jaw (s:St) (n:Nat) (l:List A0):AV->Prop
 |.c (.rp ds)=>n<=ds.length/\l=(ds.take n).map D.toRo
 |.c (.bp g c b)=>∃ty cs,s.o g=.box b ty cs/\c+n<=cs.length/\l=jez g c ((cs.drop c).take n)
 |.c (.ep g c p i x)=>∃d0 η d,(s.o g).own c=some (d0,η)/\η p=x/\D.get p d0=some d/\d.isSl=true/\i+n<=d.cells.length/\l=jig g c p η i ((d.cells.drop i).take n)
 |_=>False
def jjC (s:St):List A0->List (Nat×Nat×X)->Option (List A0)
 |cs,[]=>some cs
 |cs,(off,size,x)::ps=>match (s.ev x).cells with
  |some l=>if l.length=size/\off+size<=cs.length then jjC s (ky cs off l) ps else none
  |none=>none
def jvM (s:St):List (Nat×Nat×X)->Option (List A0)
 |[]=>some []
 |(_,size,x)::ps=>match (s.ev x).cells,jvM s ps with
  |some l,some r=>if l.length=size then some (l++r) else none
  |_,_=>none
def jvX (s:St) (str:Bool) (a:AV) (n:Nat):Prop:=match str,a with
 |true,.c (.v (.string b))=>n=b.size
 |false,.c (.v (.slice none 0 0))=>n=0
 |false,.c (.ro d)=>d.isSl=true/\0<d.size/\n=d.len
 |false,.c (.h g c p x)=>∃d,Is s (.h g c p x) d/\0<d.size/\n=d.len
 |false,.c (.hs g c p x size lo m)=>(∃d,Is s (.hs g c p x size lo m) d)/\n=m
 |_,_=>False
def jhK (s:St) (x:Option X) (dflt:Nat) (n:Nat):Prop:=match x with
 |none=>n=dflt
 |some x=>∃k,s.ev x=.c (.v (.int k (n:Int)))
def jcF (s:St):List X->Option (List A0)
 |[]=>some []
 |x::l=>match s.ev x,jcF s l with
  |.c a,some r=>some (a::r)
  |_,_=>none
def Gen (P:Program) (s:St) (d:Nat) (rt:RT) (st:jzt):I->AV->List (Nat×Ob)->Prop
 |.mov x,av,os=>av=s.ev x/\os=[]
 |.pick c a b,av,os=>∃t,s.ev c=.c (.v (.bool t))/\av=(if t then s.ev a else s.ev b)/\os=[]
 |.alloc ty zs,av,os=>av=.c (.bp (100*d) 0 st.blk)/\os=[(100*d,.box st.blk ty (zs.map λz=>.a (.v z)))]
 |.bld zs ps,av,os=>∃l,jjC s (zs.map .v) ps=some l/\av=.agg l/\os=[]
 |.ld agg n x,av,os=>∃l,jaw s n l (s.ev x)/\(if agg then av=.agg l else∃a,l=[a]/\av=.c a)/\os=[]
 |.fa off x,av,os=>(match s.ev x with
  |.c (.rp ds)=>av=.c (.rp (ds.drop off))
  |.c (.bp g c b)=>av=.c (.bp g (c+off) b)
  |.c (.ep g c p i x)=>av=.c (.ep g c p (i+off) x)
  |_=>False)/\os=[]
 |.ia size x i,av,os=>∃k n,s.ev i=.c (.v (.int k n))/\0<=n/\(match s.ev x with
  |.c (.ro d)=>d.isSl=true/\d.size=size/\n.toNat<d.len/\av=.c (.rp (d.elem n.toNat))
  |.c (.h g c p hx)=>(∃d,Is s (.h g c p hx) d/\d.size=size/\n.toNat<d.len)/\av=.c (.ep g c p (n.toNat*size) hx)
  |.c (.hs g c p hx sz lo m)=>(∃d,Is s (.hs g c p hx sz lo m) d)/\sz=size/\n.toNat<m/\av=.c (.ep g c p ((lo+n.toNat)*size) hx)
  |_=>False)/\os=[]
 |.sidx x i,av,os=>∃b k n u,s.ev x=.c (.v (.string b))/\s.ev i=.c (.v (.int k n))/\0<=n/\b[n.toNat]?=some u/\av=.c (.v (.int .u8 u.toNat))/\os=[]
 |.bin op ty x y,av,os=>((∃a b v,s.ev x=.c (.v a)/\s.ev y=.c (.v b)/\jEG op a b v/\av=.c (.v v))\/
  (∃l m xs ys b,s.ev x=.agg l/\s.ev y=.agg m/\jc2 l=some xs/\jc2 m=some ys/\EqR P op ty xs ys b/\av=.c (.v (.bool b))))/\os=[]
 |.beq neg x y,av,os=>∃a b,s.ev x=.c (.v (.bool a))/\s.ev y=.c (.v (.bool b))/\av=.c (.v (.bool (if neg then !(a==b) else a==b)))/\os=[]
 |.un op x,av,os=>(match op with
  |.not=>∃b,s.ev x=.c (.v (.bool b))/\av=.c (.v (.bool (!b)))
  |.neg=>∃k n,s.ev x=.c (.v (.int k n))/\av=.c (.v (.int k (k.wrap (0-n))))
  |_=>False)/\os=[]
 |.cv c _ x,av,os=>(match c with
  |.num k=>∃k' n,s.ev x=.c (.v (.int k' n))/\av=.c (.v (.int k (k.wrap n)))
  |.text=>∃(a:A0) (ty:Nat) (bs:List UInt8),s.ev x=.c a/\Is s a (.sl 1 ty (bs.map qe))/\av=.c (.v (.string ⟨bs.toArray⟩))
  |.bytes=>False)/\os=[]
 |.len str x,av,os=>∃n,jvX s str (s.ev x) n/\av=.c (.v (.int .i64 n))/\os=[]
 |.mm mx x y,av,os=>∃k k' a b,s.ev x=.c (.v (.int k a))/\s.ev y=.c (.v (.int k' b))/\av=.c (.v (.int k (if mx then (if b>a then b else a) else (if b<a then b else a))))/\os=[]
 |.mks e size bytes zs l c,av,os=>∃(k k':IntKind) (n:Nat),s.ev l=.c (.v (.int k (n:Int)))/\s.ev c=.c (.v (.int k' (n:Int)))/\bytes*n<=281474976710656/\n<=maxLen/\
  av=.c (.h (100*d) 0 [] (st.η 0 []))/\os=[(100*d,.loose (.sl size e ((List.replicate n zs).flatten)) (st.η 0))]
 |.sl size x lo hi,av,os=>∃l h,jhK s lo 0 l/\l<=h/\(match s.ev x with
  |.c (.v (.string b))=>size=0/\jhK s hi b.size h/\h<=b.size/\av=.c (.v (.string (b.extract l h)))
  |.c (.ro d)=>0<size/\d.isSl=true/\d.size=size/\jhK s hi d.len h/\h<=d.len/\av=.c (.ro (d.sub l h))
  |.c (.h g c p hx)=>0<size/\(∃d,Is s (.h g c p hx) d/\d.size=size/\jhK s hi d.len h/\h<=d.len)/\av=.c (.hs g c p hx size l (h-l))
  |.c (.hs g c p hx sz lo m)=>(∃d,Is s (.hs g c p hx sz lo m) d)/\sz=size/\jhK s hi m h/\h<=m/\av=.c (.hs g c p hx size (lo+l) (h-l))
  |_=>False)/\os=[]
 |.ext x i,av,os=>∃l b az,s.ev x=.tup l/\l[i]?=some (b,az)/\(if b then av=.agg az else∃a,az=[a]/\av=.c a)/\os=[]
 |.fld agg off n x,av,os=>∃l,s.ev x=.agg l/\off+n<=l.length/\(if agg then av=.agg ((l.drop off).take n) else∃a,(l.drop off).take n=[a]/\av=.c a)/\os=[]
 |.mkf f caps,av,os=>∃l,jcF s caps=some l/\av=.fn f l/\os=[]
 |.call f args,av,os=>∃vs,zR s (args.map s.ev) vs/\jW P f vs rt/\av=rt.av (100*d) st.η/\os=jl3 (100*d) st.η 0 rt.flat
 |.callv x args,av,os=>∃f caps vs,s.ev x=.fn f caps/\zR s (args.map s.ev++caps.map .c) vs/\jW P f vs rt/\av=rt.av (100*d) st.η/\os=jl3 (100*d) st.η 0 rt.flat
 |_,_,_=>False
def jre (k:Option (Nat×Nat)) (x:Value):D:=match k,x with
 |some (size,ty),.slice none 0 0=>.sl size ty []
 |_,x=>.val x
def jve:List (Option (Nat×Nat))->List Value->List D
 |_,[]=>[]
 |ks,x::l=>jre (ks.head?.getD none) x::jve ks.tail l
def jas:List (Option (Nat×Nat))->List Cell->Option (List D)
 |_,[]=>some []
 |ks,.a (.v x)::l=>match jas ks.tail l with
  |some r=>some (jre (ks.head?.getD none) x::r)
  |none=>none
 |ks,.own d _::l=>match jas ks.tail l with
  |some r=>some (d::r)
  |none=>none
 |_,_::_=>none
def ka:List D->Bool
 |[]=>true
 |.val u::l=>u.oneCell'&&ka l
 |_::_=>false
def jkn:List D->Bool
 |[]=>true
 |.val u::l=>u.oneCell'&&jkn l
 |.sl _ _ _::l=>jkn l
def strCells (b:ByteArray):List D:=b.data.toList.map qe
def Ob.putOwn:Ob->Nat->D->jf->Ob
 |.loose _ _,_,d,η=>.loose d η
 |.box b ty cs,c,d,η=>.box b ty (cs.set c (.own d η))
 |.none,_,_,_=>.none
def jf5 (s:St) (e size:Nat) (a:AV) (K:List D->St->Prop):Prop:=match a with
 |.c (.v (.slice none 0 0))=>K [] s
 |.c (.h g c p x)=>(p=[]/\∃cs η,(s.o g).own c=some (.sl size e cs,η)/\η []=x/\K cs (s.rm g c))\/
  ∃k,p=[k]/\∃sz tyo ds0 cs η,(s.o g).own c=some (.sl sz tyo ds0,η)/\ds0[k]?=some (.sl size e cs)/\η [k]=x/\∀aC,aC []=η []->K cs (s.setO g ((s.o g).putOwn c (.sl sz tyo (ds0.set k (.val x))) aC))
 |_=>False
def jzu (s:St) (size:Nat) (a:AV) (K:List D->St->Prop):Prop:=match a with
 |.c (.v (.slice none 0 0))=>K [] s
 |.c (.ro d)=>d.isSl=true/\d.size=size/\ka d.cells=true/\K d.cells s
 |.c (.hs g c p x sz lo m)=>∃d,Is s (.hs g c p x sz lo m) d/\d.size=size/\ka d.cells=true/\K d.cells s
 |.c (.h g c p x)=>∃d,Is s (.h g c p x) d/\d.size=size/\(if ka d.cells=true then K d.cells s else p=[]/\jkn d.cells=true/\K d.cells (s.rm g c))
 |_=>False
def View.av:View->AV
 |.c d=>.c d.toRo
 |.agg ds=>.agg (ds.map D.toRo)
 |.ptr ds=>.c (.rp ds)
 |.fn f caps=>.fn f (caps.map .rp)
def St.init (vs:List View):St:=⟨λn=>((vs.map View.av)[n]?).getD .unk,λ_=>.none⟩
inductive R where
 |t (n:Nat)
 |cell (n:Nat) (agg:Bool) (size:Nat)
def jju (s:St):List R->(List (Bool×List A0)->Prop)->Prop
 |[],K=>K []
 |.t n::rs,K=>match s.t n with
  |.agg l=>jju s rs λps=>K ((true,l)::ps)
  |.c a=>jju s rs λps=>K ((false,[a])::ps)
  |_=>False
 |.cell n agg size::rs,K=>∃l,jaw s size l (s.t n)/\(agg=true\/l.length=1)/\jju s rs λps=>K ((agg,l)::ps)
def ja0:RT->List (Bool×List A0)->Prop
 |.c _,ps=>∃a,ps=[(false,[a])]
 |.agg _,ps=>∃l,ps=[(true,l)]
 |.tup l,ps=>ps.length≠1/\ps.map (λp=>(p.1,p.2.length))=l.map (λp=>(p.1,p.2.length))
def IsD:List Cell->List D->Prop
 |[],ds=>ds=[]
 |.a (.v x)::l,d::ds=>(d=.val x\/x=.slice none 0 0/\∃size ty,d=.sl size ty [])/\IsD l ds
 |.own d' _::l,d::ds=>d'=d/\IsD l ds
 |_,_=>False
def jv2 (rs:List R) (rt:RT) (s:St):Prop:=jju s rs λps=>ja0 rt ps/\qz s (ps.flatMap (·.2)) λcs _=>IsD cs rt.flat
def jh6:Value->Bool
 |.agg cs=>cs.toList.all (·.oneCell')
 |.tuple _=>false
 |_=>true
def jQ:Operand->Option X
 |.tmp t=>some (.t t)
 |.const v=>if jh6 v then some (.c v) else none
 |.func f=>some (.f f)
 |.global _=>none
def zE:List Operand->Option (List X)
 |[]=>some []
 |x::l=>match jQ x,zE l with
  |some x,some l=>some (x::l)
  |_,_=>none
def jdA (off:Nat->Option (Nat×Nat)):List (Nat×Operand)->Option (List (Nat×Nat×X))
 |[]=>some []
 |(i,x)::l=>match off i,jQ x,jdA off l with
  |some (o,n),some x,some l=>some ((o,n,x)::l)
  |_,_,_=>none
def vE (P:Program) (t:TypeId):Option (List Value):=match P.info? t with
 |some i=>match i.zero with
  |some z=>if z.cells.size=i.size&&z.cells.toList.all (·.oneCell') then some z.cells.toList else none
  |none=>none
 |none=>none
def qk (P:Program) (t:TypeId):Option Nat:=(P.info? t).map (·.size)
def jld (P:Program):Nat->TypeId->List (Option (Nat×Nat))
 |0,_=>[]
 |n+1,t=>match P.underlying t with
  |some (.slice e)=>[(qk P e).map λk=>(k,e)]
  |some (.struct fs)=>fs.toList.flatMap λf=>jld P n f.type
  |_=>List.replicate ((qk P t).getD 1) none
def joQ (P:Program) (c:Call):Option I:=match c.callee,c.args.toList with
 |.builtin .len,[x]=>match (c.argTypes[0]?).bind P.underlying,jQ x with
  |some .string,some x=>some (.len true x)
  |some (.slice _),some x=>some (.len false x)
  |_,_=>none
 |.builtin .append,[x,y]=>match c.argTypes.toList with
  |[t,t']=>match P.underlying t,P.underlying t' with
   |some (.slice e),some (.slice _)=>match P.info? e,vE P e,jQ x,jQ y with
    |some i,some _,some x,some y=>if 0<i.size&&t==t' then some (.app e i.size i.bytes x y) else none
    |_,_,_,_=>none
   |some (.slice e),some .string=>match P.underlying e,P.info? e,jQ x,jQ y with
    |some (.int .u8),some i,some x,some y=>match i.zero with
     |some (.int .u8 0)=>if i.size==1&&i.bytes==1 then some (.apps e x y) else none
     |_=>none
    |_,_,_,_=>none
   |_,_=>none
  |_=>none
 |.builtin .clear,[x]=>match c.argTypes.toList with
  |[t]=>match P.underlying t with
   |some (.slice e)=>match P.info? e,vE P e,jQ x with
    |some i,some z,some x=>if 0<i.size then some (.clr i.size (jve (jld P 6 e) z) x) else none
    |_,_,_=>none
   |_=>none
  |_=>none
 |.builtin .max,[x,y]=>match jQ x,jQ y with
  |some x,some y=>some (.mm true x y)
  |_,_=>none
 |.builtin .min,[x,y]=>match jQ x,jQ y with
  |some x,some y=>some (.mm false x y)
  |_,_=>none
 |.value (.func f),l=>match P.funcs[f]?,zE l with
  |some fn,some l=>if fn.body.isSome&&fn.name != "runtime.NumGoroutine" then some (.call f l) else none
  |_,_=>none
 |.value (.tmp t),l=>(zE l).map (.callv (.t t))
 |_,_=>none
def zA (P:Program) (op:Op):Option I:=match op with
 |.move x|.assign x=>(jQ x).map .mov
 |.pick c a b=>match jQ c,jQ a,jQ b with
  |some c,some a,some b=>some (.pick c a b)
  |_,_,_=>none
 |.alloc e=>(vE P e).map (.alloc e)
 |.box e x=>match qk P e,jQ x with
  |some n,some x=>some (.box e n x)
  |_,_=>none
 |.build t ps=>match P.underlying t,vE P t with
  |some (.struct fs),some z=>if !(fs.toList.all λf=>(P.info? f.type).isSome) then none else (jdA (λi=>match fs[i]? with
   |some f=>(qk P f.type).map λn=>(f.offset,n)
   |none=>none) ps.toList).map (.bld z)
  |_,_=>none
 |.buildSlice t n ps=>match P.underlying t with
  |some (.slice e)=>match qk P e with
   |some size=>if 0<size&&(vE P e).isSome&&(ps.toList.map (·.1)==List.range n)&&n*size<1000 then (jdA (λi=>some (i*size,size)) ps.toList).map (.bsl e size n ((List.replicate n (jld P 6 e)).flatten)) else none
   |none=>none
  |_=>none
 |.load t x=>match P.underlying t,qk P t,jQ x with
  |some (.struct _),some n,some x=>some (.ld true n x)
  |some (.array _ _),_,_=>none
  |some _,some 1,some x=>some (.ld false 1 x)
  |_,_,_=>none
 |.store t a x=>match qk P t,jQ a,jQ x with
  |some n,some a,some x=>some (.st n (jld P 6 t) a x)
  |_,_,_=>none
 |.fieldAddr t x f=>match P.underlying t,jQ x with
  |some (.struct fs),some x=>match fs[f]? with
   |some f=>match qk P f.type with
    |some (_+1)=>some (.fa f.offset x)
    |_=>none
   |none=>none
  |_,_=>none
 |.nilCheck x=>(jQ x).map (.fa 0)
 |.indexAddr t x i=>match P.underlying t,jQ x,jQ i with
  |some (.slice e),some x,some i=>match qk P e with
   |some (n+1)=>some (.ia (n+1) x i)
   |_=>none
  |_,_,_=>none
 |.index t x i=>match P.underlying t,jQ x,jQ i with
  |some .string,some x,some i=>some (.sidx x i)
  |_,_,_=>none
 |.binOp op t x y _=>match jQ x,jQ y with
  |some x,some y=>match P.underlying t with
   |some .bool=>match op with
    |.eql=>some (.beq false x y)
    |.neq=>some (.beq true x y)
    |_=>none
   |some _=>some (.bin op t x y)
   |none=>none
  |_,_=>none
 |.unOp op _ x=>(jQ x).map (.un op)
 |.convert t t' x=>match P.underlying t,P.underlying t',jQ x with
  |some (.int _),some (.int k),some x=>some (.cv (.num k) 0 x)
  |some (.slice e),some .string,some x=>match P.underlying e with
   |some (.int .u8)=>some (.cv .text e x)
   |_=>none
  |_,_,_=>none
 |.makeSlice t l c=>match P.underlying t,jQ l,jQ c with
  |some (.slice e),some l,some c=>match P.info? e,vE P e with
   |some i,some z=>if 0<i.size then some (.mks e i.size i.bytes (jve (jld P 6 e) z) l c) else none
   |_,_=>none
  |_,_,_=>none
 |.slice t x lo hi none=>match P.underlying t,jQ x with
  |some (.slice e),some x=>match qk P e with
   |some (n+1)=>match lo.map jQ,hi.map jQ with
    |none,none=>some (.sl (n+1) x none none)
    |some (some a),none=>some (.sl (n+1) x (some a) none)
    |none,some (some b)=>some (.sl (n+1) x none (some b))
    |some (some a),some (some b)=>some (.sl (n+1) x (some a) (some b))
    |_,_=>none
   |_=>none
  |some .string,some x=>match lo.map jQ,hi.map jQ with
   |none,none=>some (.sl 0 x none none)
   |some (some a),none=>some (.sl 0 x (some a) none)
   |none,some (some b)=>some (.sl 0 x none (some b))
   |some (some a),some (some b)=>some (.sl 0 x (some a) (some b))
   |_,_=>none
  |_,_=>none
 |.extract x i=>(jQ x).map (.ext · i)
 |.field t x f=>match P.underlying t,jQ x with
  |some (.struct fs),some x=>match fs[f]? with
   |some f=>match P.underlying f.type,qk P f.type with
    |some (.struct _),some n=>some (.fld true f.offset n x)
    |some (.array _ _),_=>none
    |some _,some 1=>some (.fld false f.offset 1 x)
    |_,_=>none
   |none=>none
  |_,_=>none
 |.makeFunc (.func f) first caps=>if first.isEmpty then (zE caps.toList).map (.mkf f) else none
 |.call c=>joQ P c
 |_=>none
def jBp (P:Program) (N:Nat) (ops:Array Oper) (o:Oper):Option Ins:=
 match zA P o.op,(match o.dst with|some d=>decide (d<N)|none=>true) with
 |some i,true=>match o.guard with
  |none=>some ⟨o.dst,none,i⟩
  |some (j,want)=>match (ops[j]?).bind (·.dst) with
   |some t=>if t<N then some ⟨o.dst,some (t,want),i⟩ else none
   |none=>none
 |_,_=>none
def jlw (P:Program) (N:Nat) (ops:Array Oper):List Oper->Option (List Ins)
 |[]=>some []
 |o::l=>match jBp P N ops o,jlw P N ops l with
  |some i,some r=>some (i::r)
  |_,_=>none
def I.pureB:I->Bool
 |.mov _|.pick _ _ _|.bld _ _|.ld _ _ _|.fa _ _|.ia _ _ _|.sidx _ _|.bin _ _ _ _|.beq _ _ _|.un _ _|.cv _ _ _|.len _ _|.mm _ _ _|.sl _ _ _ _|.ext _ _|.fld _ _ _ _|.mkf _ _=>true
 |_=>false
def jEF (ops:Array Oper):Nat->List Nat->List Nat->List Nat
 |0,seen,_=>seen
 |_+1,seen,[]=>seen
 |n+1,seen,j::todo=>match ops[j]? with
  |some o=>jEF ops n (((o.after.toList.filter λe=>Region.binds .any e&&!seen.contains e.on).map (·.on))++seen) (((o.after.toList.filter λe=>Region.binds .any e&&!seen.contains e.on).map (·.on))++todo)
  |none=>jEF ops n seen todo
def jpa (ops:Array Oper) (n j i:Nat):Bool:=(jEF ops (8*n+8) [] [j]).contains i
def I.xs:I->List X
 |.mov x|.box _ _ x|.ld _ _ x|.fa _ x|.un _ x|.cv _ _ x|.len _ x|.ext x _|.fld _ _ _ x=>[x]
 |.pick c a b=>[c,a,b]
 |.alloc _ _=>[]
 |.bld _ ps|.bsl _ _ _ _ ps=>ps.map (·.2.2)
 |.st _ _ a x|.ia _ a x|.sidx a x|.bin _ _ a x|.beq _ a x|.app _ _ _ a x|.apps _ a x|.mm _ a x|.mks _ _ _ _ a x=>[a,x]
 |.sl _ x lo hi=>x::(lo.toList++hi.toList)
 |.mkf _ l|.call _ l=>l
 |.clr _ _ x=>[x]
 |.callv x l=>x::l
def X.tmp?:X->Option Nat
 |.t n=>some n
 |_=>none
def Ins.uses (i:Ins):List Nat:=i.i.xs.filterMap X.tmp?++(i.g.map (·.1)).toList
def jnw (i j:Ins):Bool:=
 (match i.d with
  |some d=>!(j.uses.contains d)&&j.d !=some d
  |none=>true)&&
 (match j.d with
  |some d=>!(i.uses.contains d)
  |none=>true)
def jD8 (ops:Array Oper) (is:List Ins) (listed:Array Bool) (i:Nat):Bool:=match is[i]? with
 |none=>false
 |some x=>x.i.pureB&&(List.range ops.size).all λj=>j==i||listed.getD j true||(match ops[j]?,is[j]? with
  |some oj,some y=>oj.after.any (λe=>Region.binds .any e&&e.on==i)||jnw x y
  |_,_=>true)
def mkT (ops:Array Oper) (is:List Ins):Nat->List Nat->Array Bool->Option T
 |0,_,listed=>if (Region.ready .any ops listed).isEmpty then some .done else none
 |f+1,pures,listed=>
  if (Region.ready .any ops listed).isEmpty then some .done
  else match (Region.ready .any ops listed).find? (jD8 ops is listed) with
   |some i=>match is[i]?,mkT ops is f (i::pures) (listed.setIfInBounds i true) with
    |some x,some t=>some (.pure i x t)
    |_,_=>none
   |none=>(Region.ready .any ops listed).foldr (λj acc=>match is[j]?,mkT ops is f pures (listed.setIfInBounds j true),acc with
    |some x,some t,some rest=>some (.alt x (pures.filter λp=>!jpa ops ops.size j p) t rest)
    |_,_,_=>none) (some .stop)
def jBo (P:Program) (N:Nat) (ops:Array Oper):Option T:=
 if P.follows .mixedOrders then match jlw P N ops ops.toList with
  |some is=>mkT ops is ops.size [] (Array.replicate ops.size false)
  |none=>none
 else none
def comp (P:Program) (N:Nat):Code->Option C
 |.skip=>some .skip
 |.region _ ops false=>(jlw P N ops ops.toList).map .reg
 |.region _ ops true=>(jBo P N ops).map .dreg
 |.seq a b=>match comp P N a,comp P N b with
  |some a,some b=>some (.seq a b)
  |_,_=>none
 |.cond c a b=>match jQ c,comp P N a,comp P N b with
  |some c,some a,some b=>some (.cond c a b)
  |_,_,_=>none
 |.block id a=>(comp P N a).map (.blk id)
 |.loop a=>(comp P N a).map .loop
 |.exit id=>some (.exit id)
 |.ret=>some .ret
 |_=>none
def jlu (P:Program) (N:Nat):List ResultVar->Option (List R)
 |[]=>some []
 |.tmp n::rs=>if n<N then (jlu P N rs).map (.t n:: ·) else none
 |.cell n t::rs=>if n<N then match P.underlying t,qk P t,jlu P N rs with
  |some (.struct _),some k,some r=>some (.cell n true k::r)
  |some (.array _ _),_,_=>none
  |some _,some k,some r=>some (.cell n false k::r)
  |_,_,_=>none
  else none
def fnC (P:Program) (fn:Func):Option (C×List R×Nat):=match fn.body with
 |some b=>if fn.name != "runtime.NumGoroutine" then match comp P fn.ntmps b,jlu P fn.ntmps fn.results.toList with
  |some c,some rs=>some (c,rs,fn.ntmps)
  |_,_=>none
  else none
 |none=>none
