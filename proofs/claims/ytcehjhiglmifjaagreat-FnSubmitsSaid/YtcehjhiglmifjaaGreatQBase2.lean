/- Parts. -/
import Derived.Test.YtcehjhiglmifjaaGreatQA
import Derived.WalkKit
import Derived.WalkSpells
import Derived.WalkLawsBesides
import Derived.Lib.Hide
import Derived.Lib.QuietBelow
import Derived.BigQuiet
import Derived.Deep.MidRow
import Derived.OwnWalk
set_option linter.all false
namespace Go.Proofs.YtcehjhiglmifjaaGreat
open Go.RowKit
inductive D where
 |val (v:Value)
 |sl (size:Nat) (ty:TypeId) (cs:List D)
def blk (v:Value):List Nat:=match v with
 |.slice (some a) _ _=>[a.block]
 |_=>[]
def RowAt (w:World) (own:Bool) (size:Nat) (ty:TypeId) (vs:List Value) (v:Value) (T:List Nat):Prop:=
 match own with
 |true=>∃n,w.ownsRow 0 ty size v n vs/\T=blk v
 |false=>(∀b∈T,b<w.heap.size)/\∃A n c,v=.slice A n c/\vs.length=n*size/\n<=c/\c<=maxLen/\(A=none->c=0)/\
  (vs≠ []->∃b o,A=some ⟨b,o,none⟩/\T=[b]/\∀j u,vs[j]?=some u->w.cell? ⟨b,o+j,none⟩=some u)
mutual
def Rep (w:World) (own:Bool):D->Value->List Nat->Prop
 |.val u,v,S=>v=u/\S=[]
 |.sl size ty cs,v,S=>∃vs T S',RowAt w own size ty vs v T/\RepL w own cs vs S'/\S=T++S'
def RepL (w:World) (own:Bool):List D->List Value->List Nat->Prop
 |[],vs,S=>vs=[]/\S=[]
 |d::ds,vs,S=>∃v vs' S1 S2,vs=v::vs'/\S=S1++S2/\Rep w own d v S1/\RepL w own ds vs' S2
end
def AggRep (w:World) (own:Bool) (ds:List D) (v:Value) (S:List Nat):Prop:=∃vs,v=.agg vs.toArray/\RepL w own ds vs S
def Fresh (B:Nat) (S:List Nat):Prop:=S.Nodup/\∀b∈S,B<=b
theorem jbT {α:Type} {a:Array α} {i:Nat} {x:α} (h:a[i]?=some x):i<a.size:=(Array.getElem?_eq_some_iff.1 h).1
section
variable {w w':World} {own:Bool} {size:Nat} {ty:TypeId} {vs:List Value} {v:Value} {T:List Nat}
theorem RowAt.lt (h:RowAt w own size ty vs v T):∀b∈T,b<w.heap.size:=by
 intro b hb;cases own with
 |true=>
  obtain ⟨n,h,rfl⟩:=h;rcases h.2 with ⟨rfl,_⟩|⟨g,cap,cur,rfl,_,hg,_⟩
  ·simp [blk] at hb
  ·simp [blk] at hb;subst hb;exact jbT hg
 |false=>exact h.1 b hb
theorem jCF {b:Nat} (h:b<w.heap.size) (hk:w'.heap[b]?=w.heap[b]?):b<w'.heap.size:=by
 rw [Array.getElem?_eq_getElem h] at hk;exact jbT hk
theorem RowAt.keep (h:RowAt w own size ty vs v T) (hk:∀b∈T,w'.heap[b]?=w.heap[b]?):RowAt w' own size ty vs v T:=by
 cases own with
 |true=>
  obtain ⟨n,h,rfl⟩:=h;refine ⟨n,⟨h.1,?_⟩,rfl⟩;rcases h.2 with h2|⟨g,cap,cur,rfl,hb,hg,r⟩
  ·exact .inl h2
  ·exact .inr ⟨g,cap,cur,rfl,hb,(hk g (by simp [blk])).trans hg,r⟩
 |false=>
  obtain ⟨hl,A,n,c,rfl,h1,h2,h3,h5,h4⟩:=h;refine ⟨λb hb=>jCF (hl b hb) (hk b hb),A,n,c,rfl,h1,h2,h3,h5,λaK=>?_⟩
  obtain ⟨b,o,rfl,rfl,hc⟩:=h4 aK;exact ⟨b,o,rfl,rfl,λj u hu=>(World.cell?_of_block (a:=⟨b,o+j,none⟩) (hk b (by simp))).trans (hc j u hu)⟩
theorem RowAt.ro (h:RowAt w own size ty vs v T):RowAt w false size ty vs v T:=by
 cases own with
 |false=>exact h
 |true=>
  have hl:=h.lt;obtain ⟨n,h,rfl⟩:=h;refine ⟨hl,?_⟩;rcases h.2 with ⟨rfl,rfl⟩|⟨g,cap,cur,rfl,hb,hg,nB,oJ,fI,ht⟩
  ·exact ⟨none,0,0,rfl,h.1,aPD _,aPP _,λ_=>rfl,λaK=>absurd (aPS (by simpa using h.1)) aK⟩
  ·refine ⟨some ⟨g,0,none⟩,n,cap,rfl,h.1,nB,oJ,(λe=>nomatch e),λ_=>⟨g,0,rfl,rfl,λj u hu=>?_⟩⟩
   have:=h.cells (g:=g) rfl j u hu;have e:(⟨g,0,none⟩:Addr).add j=⟨g,0+j,none⟩:=by unfold Addr.add;split<;>simp_all
   rwa [e] at this
end
mutual
theorem Rep.lt {w:World} {own:Bool}:∀(d:D) {v:Value} {S:List Nat},Rep w own d v S->∀b∈S,b<w.heap.size
 |.val _,_,_,h=>by obtain ⟨_,rfl⟩:=h;simp
 |.sl _ _ cs,_,_,h=>by
  obtain ⟨vs,T,S',h1,h2,rfl⟩:=h;intro b hb;rcases aOX.1 hb with hb|hb
  ·exact h1.lt b hb
  ·exact RepL.lt cs h2 b hb
theorem RepL.lt {w:World} {own:Bool}:∀(ds:List D) {vs:List Value} {S:List Nat},RepL w own ds vs S->∀b∈S,b<w.heap.size
 |[],_,_,h=>by obtain ⟨_,rfl⟩:=h;simp
 |d::ds,_,_,h=>by
  obtain ⟨v,vs',S1,S2,rfl,rfl,h1,h2⟩:=h;intro b hb;rcases aOX.1 hb with hb|hb
  ·exact Rep.lt d h1 b hb
  ·exact RepL.lt ds h2 b hb
end
mutual
theorem Rep.keep {w w':World} {own:Bool}:∀(d:D) {v:Value} {S:List Nat},Rep w own d v S->(∀b∈S,w'.heap[b]?=w.heap[b]?)->Rep w' own d v S
 |.val _,_,_,h,_=>h
 |.sl _ _ cs,_,_,h,hk=>by
  obtain ⟨vs,T,S',h1,h2,rfl⟩:=h;exact ⟨vs,T,S',h1.keep λb hb=>hk b (aOX.2 (.inl hb)),RepL.keep cs h2 λb hb=>hk b (aOX.2 (.inr hb)),rfl⟩
theorem RepL.keep {w w':World} {own:Bool}:∀(ds:List D) {vs:List Value} {S:List Nat},RepL w own ds vs S->(∀b∈S,w'.heap[b]?=w.heap[b]?)->RepL w' own ds vs S
 |[],_,_,h,_=>h
 |d::ds,_,_,h,hk=>by
  obtain ⟨v,vs',S1,S2,rfl,rfl,h1,h2⟩:=h;exact ⟨v,vs',S1,S2,rfl,rfl,Rep.keep d h1 λb hb=>hk b (aOX.2 (.inl hb)),RepL.keep ds h2 λb hb=>hk b (aOX.2 (.inr hb))⟩
end
mutual
theorem Rep.ro {w:World} {own:Bool}:∀(d:D) {v:Value} {S:List Nat},Rep w own d v S->Rep w false d v S
 |.val _,_,_,h=>h
 |.sl _ _ cs,_,_,h=>by
  obtain ⟨vs,T,S',h1,h2,rfl⟩:=h;exact ⟨vs,T,S',h1.ro,RepL.ro cs h2,rfl⟩
theorem RepL.ro {w:World} {own:Bool}:∀(ds:List D) {vs:List Value} {S:List Nat},RepL w own ds vs S->RepL w false ds vs S
 |[],_,_,h=>h
 |d::ds,_,_,h=>by
  obtain ⟨v,vs',S1,S2,rfl,rfl,h1,h2⟩:=h;exact ⟨v,vs',S1,S2,rfl,rfl,Rep.ro d h1,RepL.ro ds h2⟩
end
section
variable {w w':World} {own:Bool} {d:D} {ds es:List D} {v:Value} {vs:List Value} {S:List Nat}
theorem Rep.below {B:Nat} (h:Rep w own d v S) (hb:Below B w w') (hB:w.heap.size<=B):Rep w' own d v S:=
 Rep.keep d h λb hs=>hb.block b (Nat.lt_of_lt_of_le (Rep.lt d h b hs) hB)
theorem RepL.below {B:Nat} (h:RepL w own ds vs S) (hb:Below B w w') (hB:w.heap.size<=B):RepL w' own ds vs S:=
 RepL.keep ds h λb hs=>hb.block b (Nat.lt_of_lt_of_le (RepL.lt ds h b hs) hB)
theorem AggRep.below {B:Nat} (h:AggRep w own ds v S) (hb:Below B w w') (hB:w.heap.size<=B):AggRep w' own ds v S:=
 let ⟨vs,e,h⟩:=h;⟨vs,e,h.below hb hB⟩
theorem AggRep.ro (h:AggRep w own ds v S):AggRep w false ds v S:=let ⟨vs,e,h⟩:=h;⟨vs,e,RepL.ro ds h⟩
theorem AggRep.keep (h:AggRep w own ds v S) (hk:∀b∈S,w'.heap[b]?=w.heap[b]?):AggRep w' own ds v S:=let ⟨vs,e,h⟩:=h;⟨vs,e,RepL.keep ds h hk⟩
theorem RepL.nil_:RepL w own [] [] []:=⟨rfl,rfl⟩
theorem RepL.cons_ {S1 S2:List Nat} (h:Rep w own d v S1) (h2:RepL w own ds vs S2):RepL w own (d::ds) (v::vs) (S1++S2):=⟨v,vs,S1,S2,rfl,rfl,h,h2⟩
theorem RepL.val_ {u:Value} (h2:RepL w own ds vs S):RepL w own (.val u::ds) (u::vs) S:=⟨u,vs,[],S,rfl,rfl,⟨rfl,rfl⟩,h2⟩
theorem RepL.val_inv {u:Value} (h:RepL w own (.val u::ds) vs S):∃vs',vs=u::vs'/\RepL w own ds vs' S:=by
 obtain ⟨v,vs',S1,S2,rfl,rfl,⟨rfl,rfl⟩,h2⟩:=h;exact ⟨vs',rfl,h2⟩
theorem RepL.length:∀(ds:List D) {vs:List Value} {S:List Nat},RepL w own ds vs S->vs.length=ds.length
 |[],_,_,h=>by obtain ⟨rfl,_⟩:=h;rfl
 |d::ds,_,_,h=>by
  obtain ⟨v,vs',S1,S2,rfl,rfl,h1,h2⟩:=h;simp [RepL.length ds h2]
theorem RepL.append_inv:∀(ds:List D) {vs:List Value} {S:List Nat},RepL w own (ds++es) vs S->∃v1 v2 S1 S2,vs=v1++v2/\S=S1++S2/\RepL w own ds v1 S1/\RepL w own es v2 S2
 |[],vs,S,h=>⟨[],vs,[],S,rfl,rfl,RepL.nil_,h⟩
 |d::ds,_,_,h=>by
  obtain ⟨v,vs',S1,S2,rfl,rfl,h1,h2⟩:=h;obtain ⟨v1,v2,S3,S4,rfl,rfl,h3,h4⟩:=RepL.append_inv ds h2;exact ⟨v::v1,v2,S1++S3,S4,rfl,by simp,RepL.cons_ h1 h3,h4⟩
theorem RepL.append_:∀(ds:List D) {v1 v2:List Value} {S1 S2:List Nat},RepL w own ds v1 S1->RepL w own es v2 S2->RepL w own (ds++es) (v1++v2) (S1++S2)
 |[],_,_,_,_,h,h2=>by obtain ⟨rfl,rfl⟩:=h;exact h2
 |d::ds,_,_,_,_,h,h2=>by
  obtain ⟨v,vs',S1,S2,rfl,rfl,h1,h3⟩:=h;rw [aPH];exact RepL.cons_ h1 (RepL.append_ ds h3 h2)
end
section
variable {α:Type} {enc:α->List D} {size:Nat} {w w':World} {own:Bool}
theorem jD (hl:∀x,(enc x).length=size):∀xs:List α,(xs.flatMap enc).length=xs.length*size
 |[]=>by simp
 |x::xs=>by simp [hl,jD hl xs,aSD];omega
theorem RepL.get (hl:∀x,(enc x).length=size):∀(xs:List α) {vs:List Value} {S:List Nat},RepL w own (xs.flatMap enc) vs S->∀(k:Nat) (x:α),xs[k]?=some x->
 ∃v1 vk v2 Sa Sk Sb,vs=v1++vk++v2/\v1.length=k*size/\vk.length=size/\S=Sa++Sk++Sb/\RepL w own (enc x) vk Sk
  /\RepL w own ((xs.take k).flatMap enc) v1 Sa/\RepL w own ((xs.drop (k+1)).flatMap enc) v2 Sb:=by
 intro xs vs S h k x hx;have hk:k<xs.length:=(aOS.1 hx).1
 have e:xs=xs.take k++([x]++xs.drop (k+1)):=by
  have bV:xs[k]=x:=by rw [aOV hk] at hx;exact aPJ hx
  rw [<-bV];simp
 rw [e,aQO,aQO] at h;obtain ⟨v1,v2,S1,S2,rfl,rfl,h1,h2⟩:=RepL.append_inv _ h;obtain ⟨vk,v3,S3,S4,rfl,rfl,h3,h4⟩:=RepL.append_inv _ h2;have lL:RepL w own (enc x) vk S3:=by simpa using h3
 refine ⟨v1,vk,v3,S1,S3,S4,by simp,?_,?_,by simp,lL,h1,h4⟩
 ·rw [RepL.length _ h1,jD hl,aOZ,aQL (by omega)]
 ·rw [RepL.length _ lL,hl]
theorem RepL.put (xs:List α) {v1 vk v2:List Value} {Sa Sk Sb:List Nat} {k:Nat} {y:α} (hk:k<xs.length)
 (h1:RepL w own ((xs.take k).flatMap enc) v1 Sa) (h:RepL w own (enc y) vk Sk) (h2:RepL w own ((xs.drop (k+1)).flatMap enc) v2 Sb):
 RepL w own ((xs.set k y).flatMap enc) (v1++vk++v2) (Sa++Sk++Sb):=by
 have e:xs.set k y=xs.take k++([y]++xs.drop (k+1)):=by
  rw [List.set_eq_take_append_cons_drop];simp [hk]
 rw [e,aQO,aQO,aPH,aPH];exact RepL.append_ _ h1 (RepL.append_ _ (by simpa using h) h2)
theorem Rep.open_ (hl:∀x,(enc x).length=size) (hs:0<size) {ty:TypeId} {xs:List α} {v:Value} {S:List Nat} (h:Rep w own (.sl size ty (xs.flatMap enc)) v S):
 ∃A c,v=.slice A xs.length c/\xs.length<=c/\c<=maxLen/\
  ∀k x,xs[k]?=some x->∃b o vk Sk,A=some ⟨b,o,none⟩/\vk.length=size/\RepL w own (enc x) vk Sk/\(∀s∈Sk,s∈S)/\b∈S/\b<w.heap.size/\
   ∀j u,vk[j]?=some u->w.cell? ⟨b,o+k*size+j,none⟩=some u:=by
 obtain ⟨vs,T,S',h1,h2,rfl⟩:=h;obtain ⟨aB,A,n,c,rfl,hn,nB,oJ,_,hc⟩:=h1.ro;have aC:vs.length=xs.length*size:=by rw [RepL.length _ h2,jD hl]
 have cE:n=xs.length:=Nat.eq_of_mul_eq_mul_right hs (hn.symm.trans aC);subst cE;refine ⟨A,c,rfl,nB,oJ,λk x hx=>?_⟩
 obtain ⟨v1,vk,v2,Sa,Sk,Sb,rfl,gQ,hvk,rfl,hr,_,_⟩:=RepL.get hl xs h2 k x hx
 have aK:v1++vk++v2≠ []:=by
  intro e;have:=congrArg List.length e;simp only [aOU,aPU] at this;omega
 obtain ⟨b,o,rfl,rfl,bW⟩:=hc aK;refine ⟨b,o,vk,Sk,rfl,hvk,hr,λs hs=>by simp [hs],by simp,aB b (by simp),λj u hu=>?_⟩
 have:=bW (k*size+j) u (by
  rw [aPH,aQF (by omega),gQ,aQE,aRH (by have:=(aOS.1 hu).1;omega)]
  exact hu)
 rwa [<-aSF] at this
end
theorem RepL.flat {w w':World} {own own':Bool}:∀(ds:List D) {vs:List Value} {S:List Nat},(∀d∈ds,∃v,d=.val v)->RepL w own ds vs S->RepL w' own' ds vs []/\S=[]
 |[],_,_,_,h=>by obtain ⟨rfl,rfl⟩:=h;exact ⟨⟨rfl,rfl⟩,rfl⟩
 |d::ds,_,_,hd,h=>by
  obtain ⟨v,vs',S1,S2,rfl,rfl,h1,h2⟩:=h;obtain ⟨u,rfl⟩:=hd d (by simp)
  obtain ⟨rfl,rfl⟩:=h1;obtain ⟨h3,rfl⟩:=RepL.flat (w':=w') (own':=own') ds (λd oH=>hd d (by simp [oH])) h2
  exact ⟨RepL.val_ h3,rfl⟩
theorem Rep.src {α:Type} {enc:α->List D} {size:Nat} {w:World} {own:Bool} {ty:TypeId} {xs:List α} {v:Value} {S:List Nat} (hl:∀x,(enc x).length=size) (hs:0<size) (hf:∀x,∀d∈enc x,∃u,d=.val u) (h:Rep w own (.sl size ty (xs.flatMap enc)) v S):
 ∃A c news,v=.slice A xs.length c/\RepL w true (xs.flatMap enc) news []/\(A=none->xs.length=0/\c=0)/\∀ad,A=some ad->∀j u,news[j]?=some u->w.cell? (ad.add j)=some u:=by
 obtain ⟨vs,T,S',h1,h2,rfl⟩:=h;obtain ⟨aB,A,n,c,rfl,hn,nB,oJ,h0,hc⟩:=h1.ro;have aC:vs.length=xs.length*size:=by rw [RepL.length _ h2,jD hl]
 have cE:n=xs.length:=Nat.eq_of_mul_eq_mul_right hs (hn.symm.trans aC);subst cE;obtain ⟨h3,_⟩:=RepL.flat (w':=w) (own':=true) _ (λd hd=>by obtain ⟨x,_,hx⟩:=aRR.1 hd;exact hf x d hx) h2
 refine ⟨A,c,vs,rfl,h3,λe=>⟨by have:=h0 e;omega,h0 e⟩,λad ha j u hu=>?_⟩
 obtain ⟨b,o,rfl,_,bW⟩:=hc (λe=>by subst e;simp at hu)
 injection ha with ha;subst ha;have:=bW j u hu;have e:(⟨b,o,none⟩:Addr).add j=⟨b,o+j,none⟩:=by unfold Addr.add;split<;>simp_all
 rwa [e]
structure Only (S:List Nat) (w w':World):Prop where
 os:w'.os=w.os
 tape:w'.tape=w.tape
 output:w'.output=w.output
 size:w.heap.size<=w'.heap.size
 block:∀k,k<w.heap.size->k∉S->w'.heap[k]?=w.heap[k]?
section
variable {S T:List Nat} {w w' w'':World}
theorem Only.refl (S:List Nat) (w:World):Only S w w:=⟨rfl,rfl,rfl,aPD _,λ_ _ _=>rfl⟩
theorem Only.below {B:Nat} (h:Only S w w') (hS:∀s∈S,B<=s) (hB:B<=w.heap.size):Below B w w':=
 ⟨h.os,h.tape,h.output,h.size,λi hi=>h.block i (by omega) (λhs=>by have:=hS i hs;omega)⟩
theorem Only.of_grown {v:Value} (h:w.grownBy w' v.ownBlock) (hv:∀b∈blk v,b∈S):Only S w w':=
 ⟨h.os,h.tape,h.output,h.size,λi hi hn=>h.block i hi (λe=>hn (hv i (by
  unfold Value.ownBlock at e;unfold blk;split at e<;>simp_all)))⟩
theorem Only.of_grown1 {g:Nat} (h:w.grownBy w' (some g)) (hg:g∈S):Only S w w':=
 ⟨h.os,h.tape,h.output,h.size,λi hi hn=>h.block i hi (λe=>hn (by injection e with e;subst e;exact hg))⟩
theorem jqJ (h:w.grownBy w' none):Below w.heap.size w w':=⟨h.os,h.tape,h.output,h.size,λi hi=>h.block i hi (by simp)⟩
theorem jW (h:Below w.heap.size w w') (k:Below w'.heap.size w' w''):Below w.heap.size w w'':=h.trans (k.mono h.size)
variable {own:Bool} {d:D} {ds:List D} {v:Value} {vs:List Value}
theorem Rep.only (h:Rep w own d v S) (ho:Only T w w') (hd:∀s∈S,s∉T):Rep w' own d v S:=Rep.keep d h λb hb=>ho.block b (Rep.lt d h b hb) (hd b hb)
theorem RepL.only (h:RepL w own ds vs S) (ho:Only T w w') (hd:∀s∈S,s∉T):RepL w' own ds vs S:=RepL.keep ds h λb hb=>ho.block b (RepL.lt ds h b hb) (hd b hb)
theorem Fresh.nil (B:Nat):Fresh B []:=⟨List.nodup_nil,by simp⟩
theorem Fresh.mono {B B':Nat} (h:Fresh B S) (hB:B'<=B):Fresh B' S:=⟨h.1,λb hb=>aQJ hB (h.2 b hb)⟩
theorem Fresh.left {B:Nat} (h:Fresh B (S++T)):Fresh B S:=⟨(aPC.1 h.1).1,λb hb=>h.2 b (by simp [hb])⟩
theorem Fresh.right {B:Nat} (h:Fresh B (S++T)):Fresh B T:=⟨(aPC.1 h.1).2.1,λb hb=>h.2 b (by simp [hb])⟩
theorem Fresh.apart {B:Nat} (h:Fresh B (S++T)):∀s∈S,s∉T:=λs hs ht=>(aPC.1 h.1).2.2 s hs s ht rfl
theorem Fresh.join {B B':Nat} (h:Fresh B S) (k:Fresh B' T) (hB:B<=B') (aB:∀s∈S,s<B'):Fresh B (S++T):=
 ⟨aPC.2 ⟨h.1,k.1,λa ha b hb e=>by have h1:=aB a ha;have h2:=k.2 b hb;omega⟩,
  λb hb=>by rcases aOX.1 hb with hb|hb;exact h.2 b hb;exact aQJ hB (k.2 b hb)⟩
theorem Fresh.one (B g:Nat) (h:B<=g):Fresh B [g]:=⟨by simp,by simpa using h⟩
end
def D.one:D->Prop
 |.val v=>v.oneCell'=true
 |.sl ..=>True
theorem Rep.one {w:World} {own:Bool} {d:D} {v:Value} {S:List Nat} (h:Rep w own d v S) (h1:d.one):v.oneCell'=true:=by
 cases d with
 |val u=>obtain ⟨rfl,_⟩:=h;exact h1
 |sl size ty cs=>
  obtain ⟨vs,T,S',hr,_,_⟩:=h;obtain ⟨_,A,n,c,rfl,_⟩:=hr.ro;rfl
theorem RepL.one {w:World} {own:Bool}:∀(ds:List D) {vs:List Value} {S:List Nat},RepL w own ds vs S->(∀d∈ds,d.one)->∀v∈vs,v.oneCell'=true
 |[],_,_,h,_=>by obtain ⟨rfl,_⟩:=h;simp
 |d::ds,_,_,h,hd=>by
  obtain ⟨v,vs',S1,S2,rfl,rfl,h1,h2⟩:=h;intro u hu;rcases aPL.1 hu with rfl|hu
  ·exact Rep.one h1 (hd d (by simp))
  ·exact RepL.one ds h2 (λd' oH=>hd d' (by simp [oH])) u hu
theorem Rep.nil_ (w:World) (size:Nat) (ty:TypeId):Rep w true (.sl size ty []) (.slice none 0 0) []:=
 ⟨[],[],[],⟨0,World.ownsRow_nil w 0 ty size,rfl⟩,RepL.nil_,rfl⟩
section
variable {α:Type} {enc:α->List D} {size:Nat} {w w':World} {ty:TypeId} {xs:List α} {v:Value} {S:List Nat}
theorem Rep.own (hl:∀x,(enc x).length=size) (hs:0<size) (h:Rep w true (.sl size ty (xs.flatMap enc)) v S):
 ∃vs S1,w.ownsRow 0 ty size v xs.length vs/\RepL w true (xs.flatMap enc) vs S1/\S=blk v++S1:=by
 obtain ⟨vs,T,S',⟨n,h1,rfl⟩,h2,rfl⟩:=h;have aC:vs.length=xs.length*size:=by rw [RepL.length _ h2,jD hl]
 have hn:n=xs.length:=Nat.eq_of_mul_eq_mul_right hs (h1.1.symm.trans aC);subst hn;exact ⟨vs,S',h1,h2,rfl⟩
theorem Rep.of_own {vs:List Value} {S1:List Nat} {n:Nat} (h:w.ownsRow 0 ty size v n vs) (h2:RepL w true (xs.flatMap enc) vs S1):Rep w true (.sl size ty (xs.flatMap enc)) v (blk v++S1):=
 ⟨vs,blk v,S1,⟨n,h,rfl⟩,h2,rfl⟩
def jmM:List Value->Nat->List Value->List Value
 |xs,_,[]=>xs
 |xs,o,v::r=>jmM (xs.set o v) (o+1) r
theorem jmL:∀(new:List Value) (v1 vk v2:List Value),vk.length=new.length->jmM (v1++vk++v2) v1.length new=v1++new++v2
 |[],v1,vk,v2,h=>by
  obtain rfl:vk=[]:=aPS h;rfl
 |u::r,v1,vk,v2,h=>by
  match vk,h with
  |x::vk,h=>
   have e:(v1++x::vk++v2).set v1.length u=(v1++[u])++vk++v2:=by simp
   have:=jmL r (v1++[u]) vk v2 (by simpa using h)
   rw [jmM,e];rw [aOU,List.length_singleton] at this;rw [this];simp
theorem jdq {g n cap:Nat} {e:TypeId}:∀(cs:List Value) (o:Nat) {w:World} {vs:List Value},w.ownsRow 0 e size (.slice (some ⟨g,0,none⟩) n cap) n vs->
 (w.setCells g o cs).ownsRow 0 e size (.slice (some ⟨g,0,none⟩) n cap) n (jmM vs o cs)/\w.grownBy (w.setCells g o cs) (some g)
 |[],_,w,_,h=>⟨h,⟨rfl,rfl,rfl,aPD _,λ_ _ _=>rfl⟩⟩
 |u::r,o,w,vs,h=>by
  obtain ⟨h1,h2⟩:=h.stored o u;obtain ⟨h3,h4⟩:=jdq r (o+1) h1;exact ⟨h3,⟨h4.os.trans h2.os,h4.tape.trans h2.tape,h4.output.trans h2.output,aQJ h2.size h4.size,λk hk aK=>(h4.block k (Nat.lt_of_lt_of_le hk h2.size) aK).trans (h2.block k hk aK)⟩⟩
theorem jwN {g n cap:Nat} {e:TypeId} {vs:List Value} (h:w.ownsRow 0 e size (.slice (some ⟨g,0,none⟩) n cap) n vs) (o m:Nat) (hm:o+m<=n*size):w.there g o m:=λj hj=>
 ⟨by rw [h.cellAt (o+j) (by omega),aOV (by rw [h.1];omega)];rfl,h.frozenAt _⟩
theorem Rep.setElem (hl:∀x,(enc x).length=size) (hs:0<size) {g n cap k:Nat} {B:Nat} (h:Rep w true (.sl size ty (xs.flatMap enc)) (.slice (some ⟨g,0,none⟩) n cap) S) (hk:k<xs.length)
 {y:α} {vy:List Value} {Sy:List Nat} (hy:RepL w true (enc y) vy Sy) (hF:Fresh B (S++Sy)):
 ∃S',Rep (w.setCells g (k*size) vy) true (.sl size ty ((xs.set k y).flatMap enc)) (.slice (some ⟨g,0,none⟩) n cap) S'/\Fresh B S'/\Only [g] w (w.setCells g (k*size) vy)/\g∈S/\(∀s∈S',s∈S\/s∈Sy):=by
 obtain ⟨vs,S1,h1,h2,rfl⟩:=Rep.own hl hs h;obtain ⟨x,hx⟩:∃x,xs[k]?=some x:=⟨xs[k],aOV hk⟩;obtain ⟨v1,vk,v2,Sa,Sk,Sb,rfl,gQ,hvk,rfl,hr,oC,fQ⟩:=RepL.get hl xs h2 k x hx
 have hn:n=xs.length:=by
  rcases h1.2 with ⟨e,_⟩|⟨g',cap',cur,e,_⟩
  ·cases e
  ·simp only [Value.slice.injEq] at e;exact e.2.1
 subst hn;obtain ⟨h3,h4⟩:=jdq vy (k*size) h1;have hvy:vy.length=size:=by rw [RepL.length _ hy,hl]
 rw [<-gQ,jmL vy v1 vk v2 (by omega)] at h3
 rw [gQ] at h3;have ho:Only [g] w (w.setCells g (k*size) vy):=Only.of_grown1 h4 (by simp)
 have wC:Fresh B ((blk (.slice (some ⟨g,0,none⟩) xs.length cap)++(Sa++Sy++Sb))++Sk):=by
  refine ⟨?_,λb hb=>hF.2 b (by simp only [aOX] at hb⊢;grind)⟩
  refine (List.Perm.nodup_iff ?_).1 hF.1;simp only [aPH];refine aRN _ (aRN _ ?_)
  exact (aRO (l₁:=Sk) (l₂:=Sb++Sy)).trans (by
   rw [<-aPH];exact List.Perm.append_right _ aRO)
 have hg:∀s,s∈Sa++Sy++Sb->s∉ [g]:=λs hs hsg=>by
  have:=wC.left.apart g (by simp [blk])
  simp only [aRK] at hsg;subst hsg;exact this hs
 refine ⟨_,Rep.of_own h3 (RepL.put xs hk (oC.only ho λs hs=>hg s (by simp [hs])) (hy.only ho λs hs=>hg s (by simp [hs])) (fQ.only ho λs hs=>hg s (by simp [hs]))),wC.left,ho,by simp [blk],λs hs=>?_⟩
 simp only [aOX] at hs⊢
 grind
end
def Fill {α:Type} (enc:α->List D) (size:Nat) (ty:TypeId) (w:World) (xs:List α) (v:Value) (wr:World):Prop:=∃S,Rep wr true (.sl size ty (xs.flatMap enc)) v S/\Fresh w.heap.size S/\Below w.heap.size w wr
def jGc (w:World) (d:D) (e:Ending) (w':World):Prop:=∃v S,e=.returned v/\Rep w' true d v S/\Fresh w.heap.size S/\Below w.heap.size w w'
def jys (w:World) (ds:List D) (e:Ending) (w':World):Prop:=∃v S,e=.returned v/\AggRep w' true ds v S/\Fresh w.heap.size S/\Below w.heap.size w w'
structure SlT (P:Program) (t e:TypeId) (size bytes:Nat) (z:List Value):Prop where
 und:P.underlying t=some (.slice e)
 info:∃i zv,P.info? e=some i/\i.zero=some zv/\zv.cells=z.toArray/\i.size=size/\i.bytes=bytes
 zlen:z.length=size
 pos:0<size
section
variable {P:Program} {α:Type} {enc:α->List D} {size bytes:Nat} {w:World} {t e:TypeId} {z:List Value} {xs ys:List α} {v:Value} {S Sy:List Nat}
theorem jnt {ty:TypeId} {i:TypeInfo} {zv:Value} (ht:P.underlying t=some (.slice e)) (hi:P.info? e=some i) (hz:i.zero=some zv) {n:Nat} {vs:List Value} (bQ:w.ownsRow 0 e i.size v n vs)
 {ad:Addr} {m c:Nat} {news:List Value} (hl:news.length=m*i.size) (dW:∀j u,news[j]?=some u->w.cell? (ad.add j)=some u) (h1:∀u∈news,u.oneCell'=true)
 (rI:n+m<=maxLen) (eC:(n+m)*i.bytes<=140737488355328) {v':Value} {w':World}
 (hr:(Builtin.append_ #[t,t] ty #[v,.slice (some ad) m c]).run P w=.ok v' w'):∀b∈blk v',b∈blk v\/b=w.heap.size:=by
 unfold maxLen at rI;intro b hb;rcases bQ.2 with ⟨rfl,rfl⟩|⟨g,cap,cur,rfl,_,hg,nB,oJ,fI,iH⟩
 ·by_cases hm:m=0
  ·subst hm
   simp [Builtin.append_,run_underlying ht,sizeOf,typeInfo,hi,Builtin.lenOf,Builtin.firstCells,loadCells,loadCellsFrom] at hr;rw [<-hr.1] at hb;exact .inl hb
  ·rw [run_append_nil (P:=P) w t ty e i zv ht hi hz ad m c news hl dW (by omega) (by omega) (by simp only [aQN] at eC;omega)] at hr
   injection hr with e1 _;subst e1;simp only [blk,aRK] at hb;exact .inr hb
 ·by_cases bE:n+m<=cap
  ·rw [run_append_room (P:=P) w t ty e i ht hi g n cap cur hg ad m c news hl dW h1 bE (by rw [hl,fI,<-aSD];exact aRY _ bE)] at hr
   injection hr with e1 _;subst e1;exact .inl hb
  ·rw [run_append_grow (P:=P) w t ty e i zv ht hi hz ⟨g,0,none⟩ n cap vs bQ.1 (bQ.cells (g:=g) rfl) ad m c news hl dW (by omega) (by omega) (growslice_fits (by omega) eC)] at hr
   injection hr with e1 _;subst e1;simp only [blk,aRK] at hb;exact .inr hb
theorem jbC {ops:Array Oper} {rest:List Oper} {o:Oper} {a:Act} {Q:Exit->Act->World->Prop} (yP:o.guard=none) (s x:Operand)
 (ho:o.op=.call {callee:=.builtin .append,args:=#[s,x],argTypes:=#[t,t]}) (T:SlT P t e size bytes z) (hl:∀x,(enc x).length=size)
 (hs:a.eval s=v) (bH:Rep w true (.sl size e (xs.flatMap enc)) v S)
 (A:Option Addr) (m c:Nat) (news:List Value) (hx:a.eval x=.slice A m c) (hy:RepL w true (ys.flatMap enc) news Sy) (hm:m=ys.length)
 (hA:A=none->m=0/\c=0) (dW:∀ad,A=some ad->∀j u,news[j]?=some u->w.cell? (ad.add j)=some u) (h1:∀y,∀d∈enc y,d.one)
 (B:Nat) (hB:B<=w.heap.size) (hF:Fresh B (S++Sy)) (rI:xs.length+ys.length<=maxLen) (eC:(xs.length+ys.length)*bytes<=140737488355328)
 (h:∀v' w' S',Rep w' true (.sl size e ((xs++ys).flatMap enc)) v' S'->Fresh B S'->Only S w w'->(∀s∈S',s∈S\/s∈Sy\/w.heap.size<=s)->wpList P ops Q rest (a.put o.dst v') w'):
 wpList P ops Q (o::rest) a w:=by
 obtain ⟨i,zv,hi,hz,oN,cW,rH⟩:=T.info;obtain ⟨vs,S1,bQ,cH,rfl⟩:=Rep.own hl T.pos bH;have iV:news.length=ys.length*size:=by rw [RepL.length _ hy,jD hl]
 have eK:∀u∈news,u.oneCell'=true:=RepL.one _ hy (λd hd=>by
  obtain ⟨y,_,hd⟩:=aRR.1 hd;exact h1 y d hd)
 subst hm;refine wpList_plain yP λK hK=>?_
 cases A with
 |none=>
  obtain ⟨h0,rfl⟩:=hA rfl;have rL:ys=[]:=aPS h0;subst rL;have hr:=run_append_owned_none (P:=P) w 0 t o.type e i size T.und hi v xs.length vs bQ;unfold Oper.wp execOp;simp only [ho,resolve,invoke,builtin,Sem.run_bind,Sem.run_pure,Result.andThen_ok,List.map_toArray,aQX,List.map_nil,hs,hx,aPU,hr];refine hK _ _ (h v w (blk v++S1) (by simpa using Rep.of_own bQ cH) hF.left (Only.refl _ _) λs hs=>.inl hs)
 |some ad=>
  obtain ⟨v',w',hr,h2,h3,_⟩:=run_append_own (P:=P) w 0 t o.type e i zv size bytes T.und hi hz cW rH (by rw [oN];simpa using T.zlen) T.pos v xs.length vs bQ ad ys.length c news iV (dW ad rfl) eK rI eC (aPP _)
  unfold Oper.wp execOp;simp only [ho,resolve,invoke,builtin,Sem.run_bind,Sem.run_pure,Result.andThen_ok,List.map_toArray,aQX,List.map_nil,hs,hx,hr];have dL:Only (blk v++S1) w w':=Only.of_grown h3 (λb hb=>by simp [hb])
  have eX:Only (blk v) w w':=Only.of_grown h3 (λb hb=>hb)
  have lK:∀s∈S1++Sy,s∉blk v:=λs hs hb=>by
   have:=hF.1;rw [aPH] at this;exact (aPC.1 this).2.2 s hb s hs rfl
  have cB:∀b∈blk v',b∈blk v\/b=w.heap.size:=jnt T.und hi hz (by rw [cW];exact bQ) (by rw [cW];exact iV) (dW ad rfl) eK rI (by rw [rH];exact eC) hr
  have eQ:Rep w' true (.sl size e ((xs++ys).flatMap enc)) v' (blk v'++(S1++Sy)):=by
   refine Rep.of_own h2 ?_;rw [aQO];exact RepL.append_ _ (cH.only eX λs hs=>lK s (by simp [hs])) (hy.only eX λs hs=>lK s (by simp [hs]))
  have aB:∀s∈S1++Sy,s<w.heap.size:=λs hs=>by
   rcases aOX.1 hs with hs|hs
   ·exact RepL.lt _ cH s hs
   ·exact RepL.lt _ hy s hs
  refine hK _ _ (h v' w' _ eQ ?_ dL λs hs=>?_)
  ·rw [aPH] at hF
   refine ⟨aPC.2 ⟨?_,(aPC.1 hF.1).2.1,λa ha b hb e=>?_⟩,λb hb=>?_⟩
   ·rcases h2.2 with ⟨rfl,_⟩|⟨g,cap,cur,rfl,_⟩<;>simp [blk]
   ·subst e
    rcases cB a ha with h4|h4
    ·exact lK a hb h4
    ·have:=aB a hb;omega
   ·rcases aOX.1 hb with hb|hb
    ·rcases cB b hb with h4|h4
     ·exact hF.2 b (by simp [h4])
     ·omega
    ·exact hF.2 b (by rw [aOX];exact .inr hb)
  ·rcases aOX.1 hs with hs|hs
   ·rcases cB s hs with h4|h4
    ·exact .inl (by simp [h4])
    ·right;right;omega
   ·rcases aOX.1 hs with hs|hs
    ·exact .inl (by simp [hs])
    ·exact .inr (.inl hs)
theorem jac {z:List Value} {size:Nat} (hz:z.length=size) (lB:0<size):∀(n j:Nat),j<n*size->((List.replicate n z).flatten)[j]?=z[j%size]?
 |0,j,h=>by omega
 |n+1,j,h=>by
  rw [List.replicate_succ,aSB];by_cases yG:j<size
  ·rw [Nat.mod_eq_of_lt yG,aRH (by omega)]
  ·rw [aQF (by omega),hz,jac hz lB n (j-size) (by rw [Nat.succ_mul] at h;omega)]
   rw [Nat.mod_eq_sub_mod (a:=j) (by omega)]
theorem jkp {ops:Array Oper} {rest:List Oper} {o:Oper} {a:Act} {Q:Exit->Act->World->Prop} (yP:o.guard=none) (l c:Operand) (hop:o.op=Op.makeSlice t l c) (T:SlT P t e size bytes z)
 (z0:α) (fX:∀w,RepL w true (enc z0) z []) (kl kc:IntKind) (L C:Int) (n:Nat) (hl:a.eval l=.int kl L) (hc:a.eval c=.int kc C) (hL:L=(n:Int)) (hC:C=(n:Int)) (b2:bytes*n<=281474976710656) (b3:n<=maxLen)
 (hK:∀w' A,Rep w' true (.sl size e ((List.replicate n z0).flatMap enc)) (.slice A n n) [w.heap.size]->Below w.heap.size w w'->wpList P ops Q rest (a.put o.dst (.slice A n n)) w'):
 wpList P ops Q (o::rest) a w:=by
 obtain ⟨i,zv,hi,hz,oN,cW,rH⟩:=T.info;refine wpList_make_full w yP l c t hop 0 e i zv size T.und hi hz cW kl kc L C n hl hc hL hC (by rw [rH];exact b2) b3 (aPP _) λw' h1 h2=>?_
 refine hK w' _ ?_ (jqJ h2)
 have cV:∀n,∃vs,RepL w' true ((List.replicate n z0).flatMap enc) vs []/\vs=(List.replicate n z).flatten:=by
  intro n
  induction n with
  |zero=>exact ⟨[],RepL.nil_,rfl⟩
  |succ n ih=>
   obtain ⟨vs,h3,rfl⟩:=ih;refine ⟨z++(List.replicate n z).flatten,?_,by simp [List.replicate_succ]⟩
   have:=RepL.append_ _ (fX w') h3;simpa [List.replicate_succ] using this
 obtain ⟨vs,h3,h4⟩:=cV n
 have h5:(madeCells zv.cells (n*size)).toList=(List.replicate n z).flatten:=by
  rw [oN];have oM:=T.zlen
  apply aRB
  intro j;by_cases hj:j<n*size
  ·rw [jac oM T.pos n j hj]
   simp [madeCells,hj,oM];rw [aOV (by rw [oM];exact Nat.mod_lt _ T.pos)]
   simp
  ·rw [aQQ (by simp [madeCells];omega),aQQ (by simp [oM];omega)]
 rw [h5,<-h4] at h1;have:=Rep.of_own h1 h3;simpa [blk] using this
theorem jqP {ops:Array Oper} {rest:List Oper} {a:Act} {Q:Exit->Act->World->Prop} (x y:Operand) {d:Option Tmp} {ts:Array TypeId} {t:TypeId} {pos:String} {aft:Array Edge} {g:Option (Nat×Bool)}
 (h:wpList P ops Q (⟨d,.call {callee:=.builtin .append,args:=#[x,y],argTypes:=ts},t,pos,aft,g⟩::rest) a w):wpList P ops Q (⟨d,.call {callee:=.builtin .append,args:=#[x,y],argTypes:=ts},t,pos,aft,g⟩::rest) a w:=h
end
inductive X where
 |t (n:Nat)
 |c (v:Value)
 |f (n:Nat)
inductive Cv where
 |num (k:IntKind)
 |bytes
 |text
inductive I where
 |mov (x:X)
 |pick (c a b:X)
 |box (ty n:Nat) (x:X)
 |alloc (ty:Nat) (zs:List Value)
 |bld (zs:List Value) (ps:List (Nat×Nat×X))
 |bsl (e size len:Nat) (ks:List (Option (Nat×Nat))) (ps:List (Nat×Nat×X))
 |ld (agg:Bool) (n:Nat) (x:X)
 |st (n:Nat) (ks:List (Option (Nat×Nat))) (a x:X)
 |fa (off:Nat) (x:X)
 |ia (size:Nat) (x i:X)
 |sidx (x i:X)
 |bin (op:BinOp) (ty:Nat) (x y:X)
 |beq (neg:Bool) (x y:X)
 |un (op:UnOp) (x:X)
 |cv (c:Cv) (e:Nat) (x:X)
 |len (str:Bool) (x:X)
 |app (e size bytes:Nat) (x y:X)
 |apps (e:Nat) (x y:X)
 |clr (size:Nat) (zs:List D) (x:X)
 |mm (mx:Bool) (x y:X)
 |mks (e size bytes:Nat) (zs:List D) (l c:X)
 |sl (size:Nat) (x:X) (lo hi:Option X)
 |ext (x:X) (i:Nat)
 |fld (agg:Bool) (off n:Nat) (x:X)
 |mkf (f:Nat) (caps:List X)
 |call (f:Nat) (args:List X)
 |callv (x:X) (args:List X)
structure Ins where
 d:Option Nat
 g:Option (Nat×Bool)
 i:I
abbrev iA (d:Nat) (i:I):Ins:=⟨some d,none,i⟩
abbrev iB (d g:Nat) (w:Bool) (i:I):Ins:=⟨some d,some (g,w),i⟩
abbrev iC (i:I):Ins:=⟨none,none,i⟩
abbrev iM (n:Nat):I:=.mov (.t n)
abbrev iN (n:Int):I:=.mov (.c (.int .i64 n))
abbrev iO (b:Bool):I:=.mov (.c (.bool b))
abbrev iL (n:Nat):I:=.ld false 1 (.t n)
abbrev iT (k n:Nat):I:=.ld true k (.t n)
abbrev iF (k n:Nat):I:=.fa k (.t n)
abbrev iI (k a b:Nat):I:=.ia k (.t a) (.t b)
abbrev iP (o:BinOp) (k a b:Nat):I:=.bin o k (.t a) (.t b)
abbrev iQ (o:BinOp) (k a:Nat) (v:Int):I:=.bin o k (.t a) (.c (.int .i64 v))
abbrev iE (a k:Nat):I:=.ext (.t a) k
abbrev iG (a:Nat):I:=.len false (.t a)
abbrev iU (a:Nat):I:=.un .not (.t a)
abbrev aM (d n:Nat):Ins:=iA d (iM n)
abbrev aN (d:Nat) (n:Int):Ins:=iA d (iN n)
abbrev aO (d:Nat) (b:Bool):Ins:=iA d (iO b)
abbrev aL (d n:Nat):Ins:=iA d (iL n)
abbrev aT (d k n:Nat):Ins:=iA d (iT k n)
abbrev aF (d k n:Nat):Ins:=iA d (iF k n)
abbrev aI (d k a b:Nat):Ins:=iA d (iI k a b)
abbrev aP (d:Nat) (o:BinOp) (k a b:Nat):Ins:=iA d (iP o k a b)
abbrev aQ (d:Nat) (o:BinOp) (k a:Nat) (v:Int):Ins:=iA d (iQ o k a v)
abbrev aE (d a k:Nat):Ins:=iA d (iE a k)
abbrev aG (d a:Nat):Ins:=iA d (iG a)
abbrev aU (d a:Nat):Ins:=iA d (iU a)
abbrev iK (f:Nat) (l:List Nat):I:=.call f (l.map .t)
abbrev oI (n:Int):X:=.c (.int .i64 n)
abbrev oT:X:=.c (.bool true)
abbrev oF:X:=.c (.bool false)
abbrev iY (c:Nat) (a b:X):I:=.pick (.t c) a b
abbrev wAA (a b:Nat):Ins:=iC (.st 4 [none,none,some (1,35),some (8,52)] (.t a) (.t b))
abbrev wAB (a b:Nat):Ins:=iC (.st 4 [none,none,none,none] (.t a) (.t b))
abbrev wAC (a b:Nat):Ins:=iC (.st 8 [none,none,none,none,none,some (2,161),none,some (4,46)] (.t a) (.t b))
abbrev wAD (a b:Nat):Ins:=iC (.st 1 [none] (.t a) (.t b))
abbrev wAE (a b:Nat):Ins:=iC (.st 1 [some (4,44)] (.t a) (.t b))
abbrev wAF (a b:Nat):Ins:=iC (.st 5 [none,none,none,none,some (2,161)] (.t a) (.t b))
abbrev wAG (a b:Nat):Ins:=iC (.st 11 [none,none,none,none,none,none,some (2,161),none,none,none,none] (.t a) (.t b))
abbrev wAH (a b:Nat):Ins:=iC (.st 2 [none,none] (.t a) (.t b))
abbrev wAI (a b:Nat):Ins:=iC (.st 1 [some (8,52)] (.t a) (.t b))
abbrev wAJ (a b:Nat):Ins:=iC (.st 1 [some (4,46)] (.t a) (.t b))
abbrev wAK (a b:Nat):Ins:=iC (.st 1 [some (2,161)] (.t a) (.t b))
abbrev wAL:I:=.alloc 27 [.int .i64 0,.int .i64 0,.slice none 0 0,.slice none 0 0]
abbrev wAM:I:=.alloc 52 [.int .i64 0,.int .i64 0,.int .i64 0,.int .i64 0,.int .i64 0,.slice none 0 0,.int .i64 0,.slice none 0 0]
abbrev wAN:I:=.alloc 46 [.int .i64 0,.int .i64 0,.int .i64 0,.int .i64 0]
abbrev wAO:I:=.alloc 32 [.int .i64 0,.int .i64 0,.int .i64 0,.int .i64 0]
abbrev wAP:I:=.alloc 44 [.int .i64 0,.int .i64 0,.int .i64 0,.int .i64 0]
abbrev wAQ:I:=.alloc 161 [.int .i64 0,.int .i64 0]
abbrev wAR:I:=.alloc 49 [.int .i64 0,.int .i64 0,.int .i64 0,.int .i64 0,.slice none 0 0]
abbrev wAS:I:=.alloc 60 [.int .i64 0,.int .i64 0,.int .i64 0,.int .i64 0,.int .i64 0,.int .i64 0,.slice none 0 0,.int .i64 0,.int .i64 0,.int .i64 0,.int .i64 0]
abbrev wAT (p:List (Nat×Nat×X)):I:=.bld [.int .i64 0,.int .i64 0,.int .i64 0,.int .i64 0] p
abbrev wAU (p:List (Nat×Nat×X)):I:=.bld [.int .i64 0,.int .i64 0,.slice none 0 0,.slice none 0 0] p
abbrev wAV (p:List (Nat×Nat×X)):I:=.bld [.int .i64 0,.int .i64 0,.int .i64 0,.int .i64 0,.int .i64 0,.int .i64 0,.slice none 0 0,.int .i64 0,.int .i64 0,.int .i64 0,.int .i64 0] p
abbrev wAW (p:List (Nat×Nat×X)):I:=.bld [.int .i64 0,.int .i64 0,.int .i64 0,.int .i64 0,.int .i64 0,.slice none 0 0,.int .i64 0,.slice none 0 0] p
abbrev wAX (p:List (Nat×Nat×X)):I:=.bld [.int .i64 0,.int .i64 0,.int .i64 0,.int .i64 0,.slice none 0 0] p
abbrev wAY (p:List (Nat×Nat×X)):I:=.bsl 3 1 1 [none] p
abbrev wAZ (p:List (Nat×Nat×X)):I:=.bsl 44 4 0 [] p
abbrev wA0 (p:List (Nat×Nat×X)):I:=.bsl 44 4 1 [none,none,none,none] p
abbrev wA1 (p:List (Nat×Nat×X)):I:=.bsl 3 1 0 [] p
abbrev wA2 (p:List (Nat×Nat×X)):I:=.bsl 3 1 2 [none,none] p
abbrev wA3 (p:List (Nat×Nat×X)):I:=.bsl 52 8 1 [none,none,none,none,none,some (2,161),none,some (4,46)] p
abbrev wA4 (p:List (Nat×Nat×X)):I:=.bsl 3 1 4 [none,none,none,none] p
abbrev wA5 (p:List (Nat×Nat×X)):I:=.bsl 3 1 3 [none,none,none] p
abbrev wA6 (p:List (Nat×Nat×X)):I:=.bsl 46 4 1 [none,none,none,none] p
abbrev wA7 (a b:Nat):I:=.app 3 1 8 (.t a) (.t b)
abbrev wA8 (a b:Nat):I:=.app 44 4 32 (.t a) (.t b)
abbrev wA9 (a b:Nat):I:=.app 52 8 96 (.t a) (.t b)
inductive T where
 |done
 |stop
 |pure (pid:Nat) (i:Ins) (t:T)
 |alt (i:Ins) (chk:List Nat) (t rest:T)
abbrev tA (p d:Nat) (i:I) (t:T):T:=.pure p ⟨some d,none,i⟩ t
abbrev tB (p d g:Nat) (w:Bool) (i:I) (t:T):T:=.pure p ⟨some d,some (g,w),i⟩ t
abbrev tC (d:Nat) (i:I) (l:List Nat) (t r:T):T:=.alt ⟨some d,none,i⟩ l t r
inductive C where
 |skip
 |reg (is:List Ins)
 |dreg (t:T)
 |seq (a b:C)
 |cond (x:X) (a b:C)
 |blk (id:Nat) (a:C)
 |loop (a:C)
 |exit (id:Nat)
 |ret
 |gh (a:C)
abbrev iS (l:List Ins) (c:C):C:=.seq (.reg l) c
abbrev iD (a:Nat) (x y:C):C:=.cond (.t a) x y
def C.er:C->C
 |.seq a b=>.seq a.er b.er
 |.cond x a b=>.cond x a.er b.er
 |.blk id a=>.blk id a.er
 |.loop a=>.loop a.er
 |.gh a=>a.er
 |c=>c
def C.ghAt:List Nat->C->C
 |[],c=>.gh c
 |0::p,.seq a b=>.seq (a.ghAt p) b
 |_::p,.seq a b=>.seq a (b.ghAt p)
 |0::p,.cond x a b=>.cond x (a.ghAt p) b
 |_::p,.cond x a b=>.cond x a (b.ghAt p)
 |_::p,.blk id a=>.blk id (a.ghAt p)
 |_::p,.loop a=>.loop (a.ghAt p)
 |_,c=>c
inductive A0 where
 |v (x:Value)
 |ro (d:D)
 |rp (ds:List D)
 |h (g c:Nat) (p:List Nat) (x:Value)
 |bp (g c b:Nat)
 |ep (g c:Nat) (p:List Nat) (i:Nat) (x:Value)
 |un
 |hs (g c:Nat) (p:List Nat) (x:Value) (size lo n:Nat)
inductive AV where
 |c (a:A0)
 |agg (l:List A0)
 |fn (f:Nat) (caps:List A0)
 |tup (l:List (Bool×List A0))
 |unk
abbrev jg:=List Nat->Value
inductive Cell where
 |a (x:A0)
 |own (d:D) (η:jg)
inductive Ob where
 |none
 |loose (d:D) (η:jg)
 |box (b ty:Nat) (cs:List Cell)
structure St where
 t:Nat->AV
 o:Nat->Ob
structure jyp where
 blk:Nat
 η:Nat->jg
inductive RT where
 |c (d:D)
 |agg (ds:List D)
 |tup (l:List (Bool×List D))
inductive View where
 |c (d:D)
 |agg (ds:List D)
 |ptr (ds:List D)
 |fn (f:Nat) (caps:List (List D))
def D.get:List Nat->D->Option D
 |[],d=>some d
 |i::p,.sl _ _ cs=>match cs[i]? with
  |some d=>D.get p d
  |none=>none
 |_::_,.val _=>none
def D.cells:D->List D
 |.sl _ _ cs=>cs
 |.val _=>[]
def D.size:D->Nat
 |.sl s _ _=>s
 |.val _=>1
def D.isSl:D->Bool
 |.sl _ _ _=>true
 |.val _=>false
def D.len (d:D):Nat:=d.cells.length/d.size
def D.sub (d:D) (l h:Nat):D:=match d with
 |.sl size ty cs=>.sl size ty ((cs.drop (l*size)).take ((h-l)*size))
 |.val u=>.val u
def D.elem (d:D) (k:Nat):List D:=(d.cells.drop (k*d.size)).take d.size
def D.toRo:D->A0
 |.val u=>.v u
 |.sl s t cs=>.ro (.sl s t cs)
def D.toOwn (d:D) (g c:Nat) (p:List Nat) (η:jg):A0:=match d with
 |.val u=>.v u
 |.sl _ _ _=>.h g c p (η p)
def D.obj (d:D) (g:Nat) (η:jg):List (Nat×Ob):=match d with
 |.val _=>[]
 |.sl s t cs=>[(g,.loose (.sl s t cs) η)]
def jE1 (g:Nat) (η:Nat->jg):Nat->List D->List A0
 |_,[]=>[]
 |j,d::ds=>d.toOwn (g+j) 0 [] (η j)::jE1 g η (j+1) ds
def jl2 (g:Nat) (η:Nat->jg):Nat->List D->List (Nat×Ob)
 |_,[]=>[]
 |j,d::ds=>d.obj (g+j) (η j)++jl2 g η (j+1) ds
def jGe (g:Nat) (η:Nat->jg):Nat->List (Bool×List D)->List (Bool×List A0)
 |_,[]=>[]
 |j,(b,ds)::l=>(b,jE1 g η j ds)::jGe g η (j+ds.length) l
def RT.flat:RT->List D
 |.c d=>[d]
 |.agg ds=>ds
 |.tup l=>l.flatMap (·.2)
def RT.av (g:Nat) (η:Nat->jg):RT->AV
 |.c d=>.c (d.toOwn g 0 [] (η 0))
 |.agg ds=>.agg (jE1 g η 0 ds)
 |.tup l=>.tup (jGe g η 0 l)
def Ob.own:Ob->Nat->Option (D×jg)
 |.loose d η,0=>some (d,η)
 |.box _ _ cs,c=>match cs[c]? with
  |some (.own d η)=>some (d,η)
  |_=>Option.none
 |_,_=>Option.none
def rmC (cs:List Cell) (c:Nat):Option Cell->List Cell
 |some (.own _ η)=>cs.set c (.a (.v (η [])))
 |_=>cs
def Ob.rm:Ob->Nat->Ob
 |.box b ty cs,c=>.box b ty (rmC cs c cs[c]?)
 |.loose d η,c=>if c=0 then .none else .loose d η
 |.none,_=>.none
namespace St
def ev (s:St):X->AV
 |.t n=>s.t n
 |.c v=>match v with
  |.agg cs=>.agg (cs.toList.map .v)
  |v=>.c (.v v)
 |.f n=>.fn n []
def put (s:St) (d:Option Nat) (v:AV):St:=match d with
 |some d=>⟨λn=>if n=d then v else s.t n,s.o⟩
 |none=>s
def setO (s:St) (g:Nat) (ob:Ob):St:=⟨s.t,λk=>if k=g then ob else s.o k⟩
def addO (s:St):List (Nat×Ob)->St
 |[]=>s
 |(g,ob)::l=>(s.setO g ob).addO l
def rm (s:St) (g c:Nat):St:=s.setO g ((s.o g).rm c)
end St
def Is (s:St):A0->D->Prop
 |.v x,d=>d=.val x\/(x=.slice none 0 0/\∃size ty,d=.sl size ty [])
 |.ro d',d=>d=d'
 |.h g c p x,d=>∃d0 η,(s.o g).own c=some (d0,η)/\η p=x/\D.get p d0=some d/\d.isSl=true
 |.hs g c p x size lo n,d=>∃d0 η dd,(s.o g).own c=some (d0,η)/\η p=x/\D.get p d0=some dd/\dd.isSl=true/\dd.size=size/\0<size/\lo+n<=dd.len/\d=dd.sub lo (lo+n)
 |_,_=>False
def IsP:A0->D->Prop
 |.v x,d=>d=.val x\/(x=.slice none 0 0/\∃size ty,d=.sl size ty [])
 |.ro d',d=>d=d'
 |_,_=>False
def IsL (s:St):List A0->List D->Prop
 |[],[]=>True
 |a::l,d::ds=>Is s a d/\IsL s l ds
 |_,_=>False
def Ptr (s:St):A0->List D->Prop
 |.rp ds',ds=>ds'=ds
 |.bp g c b,ds=>∃ty cs,s.o g=.box b ty cs/\∃l,(cs.drop c).take ds.length=l/\go s g b l c ds
 |_,_=>False
where go (s:St) (g b:Nat):List Cell->Nat->List D->Prop
 |[],_,[]=>True
 |.a x::l,c,d::ds=>IsP x d/\go s g b l (c+1) ds
 |.own d' _::l,c,d::ds=>d'=d/\go s g b l (c+1) ds
 |_,_,_=>False
def jAx (s:St):List A0->List (List D)->Prop
 |[],[]=>True
 |a::l,d::ds=>Ptr s a d/\jAx s l ds
 |_,_=>False
def jmz (s:St):AV->View->Prop
 |.c a,.c d=>Is s a d
 |.agg l,.agg ds=>IsL s l ds
 |.c a,.ptr ds=>Ptr s a ds
 |.fn f caps,.fn f' caps'=>f=f'/\jAx s caps caps'
 |_,_=>False
def zZ (s:St):List AV->List View->Prop
 |[],[]=>True
 |a::l,v::vs=>jmz s a v/\zZ s l vs
 |_,_=>False
def A0.one:A0->Bool
 |.v x=>x.oneCell'
 |.h _ _ _ _=>false
 |_=>true
def qC (s:St):List A0->(List Cell->St->Prop)->Prop
 |[],K=>K [] s
 |.h g c p x::l,K=>p=[]/\∃d η,(s.o g).own c=some (d,η)/\η []=x/\qC (s.rm g c) l (λcs s'=>K (.own d η::cs) s')
 |a::l,K=>a.one=true/\qC s l (λcs s'=>K (.a a::cs) s')
def A0.c1:A0->Bool
 |.v x=>x.oneCell'
 |_=>true
def AV.cells:AV->Option (List A0)
 |.c a=>if a.c1 then some [a] else none
 |.agg l=>some l
 |_=>none
def kz {α:Type}:List α->Nat->List α->List α
 |xs,_,[]=>xs
 |xs,o,v::r=>kz (xs.set o v) (o+1) r
def jcC (op:BinOp) (k:IntKind) (a b:Int):Value:=match op with
 |.add=>.int k (k.wrap (a+b))
 |.sub=>.int k (k.wrap (a-b))
 |.mul=>.int k (k.wrap (a*b))
 |.quo=>.int k (k.wrap (a.tdiv b))
 |.rem=>.int k (a.tmod b)
 |.and=>.int k (k.wrap ((BitVec.ofInt k.bits a&&&BitVec.ofInt k.bits b).toNat))
 |.or=>.int k (k.wrap ((BitVec.ofInt k.bits a|||BitVec.ofInt k.bits b).toNat))
 |.xor=>.int k (k.wrap ((BitVec.ofInt k.bits a^^^BitVec.ofInt k.bits b).toNat))
 |.andNot=>.int k (k.wrap ((BitVec.ofInt k.bits a&&&~~~BitVec.ofInt k.bits b).toNat))
 |.shl=>.int k (k.wrap (a*2^(min b.toNat k.bits)))
 |.shr=>.int k (a.fdiv (2^(min b.toNat k.bits)))
 |.eql=>.bool (a==b)
 |.neq=>.bool (a !=b)
 |.lss=>.bool (decide (a<b))
 |.leq=>.bool (decide (a<=b))
 |.gtr=>.bool (decide (a>b))
 |.geq=>.bool (decide (a>=b))
def jzN (op:BinOp) (k k':IntKind) (b:Int):Prop:=match op with
 |.shl|.shr=>0<=b
 |.quo|.rem=>k=k'/\b≠0
 |_=>k=k'
def jDy (op:BinOp):Value->Value->Value->Prop
 |.int k a,.int k' b,v=>jzN op k k' b/\v=jcC op k a b
 |.string a,.string b,v=>match op with
  |.add=>a.size+b.size<=maxLen/\v=.string (a++b)
  |.eql=>v=.bool (a.toList==b.toList)
  |.neq=>v=.bool (!(a.toList==b.toList))
  |_=>False
 |_,_,_=>False
def EqR (P:Program) (op:BinOp) (ty:Nat) (xs ys:List Value) (b:Bool):Prop:=
 ∀w,(binOp op ty (.agg xs.toArray) (.agg ys.toArray)).run P w=.ok (.bool b) w/\∀x y,(eqGuard op ty x y (.agg xs.toArray) (.agg ys.toArray)).run P w=.ok () w
def jc3:List A0->Option (List Value)
 |[]=>some []
 |.v x::l=>match jc3 l with
  |some r=>some (x::r)
  |none=>none
 |_::_=>none
def qv (b:UInt8):D:=.val (.int .u8 b.toNat)
def ViewRel (w:World):View->Value->Prop
 |.c d,x=>∃S,Rep w false d x S
 |.agg ds,x=>∃S,AggRep w false ds x S
 |.ptr ds,x=>CellsAt w ds x
 |.fn f caps,x=>∃xs:List Value,x=.func (.func f) #[] xs.toArray/\All2 caps xs
where
 CellsAt (w:World) (ds:List D) (x:Value):Prop:=∃b o us S,x=.pointer (some ⟨b,o,none⟩)/\RepL w false ds us S/\∀j u,us[j]?=some u->w.cell? ⟨b,o+j,none⟩=some u
 All2:List (List D)->List Value->Prop
  |[],xs=>xs=[]
  |ds::l,xs=>∃x xs',xs=x::xs'/\CellsAt w ds x/\All2 l xs'
def jag (w:World):List View->List Value->Prop
 |[],xs=>xs=[]
 |v::l,xs=>∃x xs',xs=x::xs'/\ViewRel w v x/\jag w l xs'
def jtQ (w:World):List (Bool×List D)->List Value->List Nat->Prop
 |[],xs,S=>xs=[]/\S=[]
 |(b,ds)::l,xs,S=>∃x xs' us S1 S2,xs=x::xs'/\S=S1++S2/\RepL w true ds us S1/\(if b then x=.agg us.toArray else us=[x])/\jtQ w l xs' S2
def jl0 (w:World):RT->Value->List Nat->Prop
 |.c d,x,S=>Rep w true d x S
 |.agg ds,x,S=>AggRep w true ds x S
 |.tup l,x,S=>∃xs,x=.tuple xs.toArray/\jtQ w l xs S
def jqT (P:Program) (f:FuncId):Prop:=∃fn,P.funcs[f]?=some fn/\fn.body.isSome=true/\(fn.name != "runtime.NumGoroutine")=true
def jZ (P:Program) (f:FuncId) (vs:List View) (rt:RT):Prop:=
 jqT P f/\∀w xs,jag w vs xs->Calls P f xs.toArray w λe w'=>∃v S,e=.returned v/\jl0 w' rt v S/\Fresh w.heap.size S/\Below w.heap.size w w'
def jeu (g:Nat):Nat->List Cell->List A0
 |_,[]=>[]
 |c,.a x::l=>x::jeu g (c+1) l
 |c,.own _ η::l=>.h g c [] (η [])::jeu g (c+1) l
def jig (g c:Nat) (p:List Nat) (η:jg):Nat->List D->List A0
 |_,[]=>[]
 |i,d::l=>d.toOwn g c (p++[i]) η::jig g c p η (i+1) l
def jaE (s:St) (n:Nat) (l:List A0):AV->Prop
 |.c (.rp ds)=>n<=ds.length/\l=(ds.take n).map D.toRo
 |.c (.bp g c b)=>∃ty cs,s.o g=.box b ty cs/\c+n<=cs.length/\l=jeu g c ((cs.drop c).take n)
 |.c (.ep g c p i x)=>∃d0 η d,(s.o g).own c=some (d0,η)/\η p=x/\D.get p d0=some d/\d.isSl=true/\i+n<=d.cells.length/\l=jig g c p η i ((d.cells.drop i).take n)
 |_=>False
def jjw (s:St):List A0->List (Nat×Nat×X)->Option (List A0)
 |cs,[]=>some cs
 |cs,(off,size,x)::ps=>match (s.ev x).cells with
  |some l=>if l.length=size/\off+size<=cs.length then jjw s (kz cs off l) ps else none
  |none=>none
def jvd (s:St):List (Nat×Nat×X)->Option (List A0)
 |[]=>some []
 |(_,size,x)::ps=>match (s.ev x).cells,jvd s ps with
  |some l,some r=>if l.length=size then some (l++r) else none
  |_,_=>none
def jvn (s:St) (str:Bool) (a:AV) (n:Nat):Prop:=match str,a with
 |true,.c (.v (.string b))=>n=b.size
 |false,.c (.v (.slice none 0 0))=>n=0
 |false,.c (.ro d)=>d.isSl=true/\0<d.size/\n=d.len
 |false,.c (.h g c p x)=>∃d,Is s (.h g c p x) d/\0<d.size/\n=d.len
 |false,.c (.hs g c p x size lo m)=>(∃d,Is s (.hs g c p x size lo m) d)/\n=m
 |_,_=>False
def jhO (s:St) (x:Option X) (dflt:Nat) (n:Nat):Prop:=match x with
 |none=>n=dflt
 |some x=>∃k,s.ev x=.c (.v (.int k (n:Int)))
def jcF (s:St):List X->Option (List A0)
 |[]=>some []
 |x::l=>match s.ev x,jcF s l with
  |.c a,some r=>some (a::r)
  |_,_=>none
def Gen (P:Program) (s:St) (d:Nat) (rt:RT) (st:jyp):I->AV->List (Nat×Ob)->Prop
 |.mov x,av,os=>av=s.ev x/\os=[]
 |.pick c a b,av,os=>∃t,s.ev c=.c (.v (.bool t))/\av=(if t then s.ev a else s.ev b)/\os=[]
 |.alloc ty zs,av,os=>av=.c (.bp (100*d) 0 st.blk)/\os=[(100*d,.box st.blk ty (zs.map λz=>.a (.v z)))]
 |.bld zs ps,av,os=>∃l,jjw s (zs.map .v) ps=some l/\av=.agg l/\os=[]
 |.ld agg n x,av,os=>∃l,jaE s n l (s.ev x)/\(if agg then av=.agg l else∃a,l=[a]/\av=.c a)/\os=[]
 |.fa off x,av,os=>(match s.ev x with
  |.c (.rp ds)=>av=.c (.rp (ds.drop off))
  |.c (.bp g c b)=>av=.c (.bp g (c+off) b)
  |.c (.ep g c p i x)=>av=.c (.ep g c p (i+off) x)
  |_=>False)/\os=[]
 |.ia size x i,av,os=>∃k n,s.ev i=.c (.v (.int k n))/\0<=n/\(match s.ev x with
  |.c (.ro d)=>d.isSl=true/\d.size=size/\n.toNat<d.len/\av=.c (.rp (d.elem n.toNat))
  |.c (.h g c p hx)=>(∃d,Is s (.h g c p hx) d/\d.size=size/\n.toNat<d.len)/\av=.c (.ep g c p (n.toNat*size) hx)
  |.c (.hs g c p hx sz lo m)=>(∃d,Is s (.hs g c p hx sz lo m) d)/\sz=size/\n.toNat<m/\av=.c (.ep g c p ((lo+n.toNat)*size) hx)
  |_=>False)/\os=[]
 |.sidx x i,av,os=>∃b k n u,s.ev x=.c (.v (.string b))/\s.ev i=.c (.v (.int k n))/\0<=n/\b[n.toNat]?=some u/\av=.c (.v (.int .u8 u.toNat))/\os=[]
 |.bin op ty x y,av,os=>((∃a b v,s.ev x=.c (.v a)/\s.ev y=.c (.v b)/\jDy op a b v/\av=.c (.v v))\/
  (∃l m xs ys b,s.ev x=.agg l/\s.ev y=.agg m/\jc3 l=some xs/\jc3 m=some ys/\EqR P op ty xs ys b/\av=.c (.v (.bool b))))/\os=[]
 |.beq neg x y,av,os=>∃a b,s.ev x=.c (.v (.bool a))/\s.ev y=.c (.v (.bool b))/\av=.c (.v (.bool (if neg then !(a==b) else a==b)))/\os=[]
 |.un op x,av,os=>(match op with
  |.not=>∃b,s.ev x=.c (.v (.bool b))/\av=.c (.v (.bool (!b)))
  |.neg=>∃k n,s.ev x=.c (.v (.int k n))/\av=.c (.v (.int k (k.wrap (0-n))))
  |_=>False)/\os=[]
 |.cv c _ x,av,os=>(match c with
  |.num k=>∃k' n,s.ev x=.c (.v (.int k' n))/\av=.c (.v (.int k (k.wrap n)))
  |.text=>∃(a:A0) (ty:Nat) (bs:List UInt8),s.ev x=.c a/\Is s a (.sl 1 ty (bs.map qv))/\av=.c (.v (.string ⟨bs.toArray⟩))
  |.bytes=>False)/\os=[]
 |.len str x,av,os=>∃n,jvn s str (s.ev x) n/\av=.c (.v (.int .i64 n))/\os=[]
 |.mm mx x y,av,os=>∃k k' a b,s.ev x=.c (.v (.int k a))/\s.ev y=.c (.v (.int k' b))/\av=.c (.v (.int k (if mx then (if b>a then b else a) else (if b<a then b else a))))/\os=[]
 |.mks e size bytes zs l c,av,os=>∃(k k':IntKind) (n:Nat),s.ev l=.c (.v (.int k (n:Int)))/\s.ev c=.c (.v (.int k' (n:Int)))/\bytes*n<=281474976710656/\n<=maxLen/\
  av=.c (.h (100*d) 0 [] (st.η 0 []))/\os=[(100*d,.loose (.sl size e ((List.replicate n zs).flatten)) (st.η 0))]
 |.sl size x lo hi,av,os=>∃l h,jhO s lo 0 l/\l<=h/\(match s.ev x with
  |.c (.v (.string b))=>size=0/\jhO s hi b.size h/\h<=b.size/\av=.c (.v (.string (b.extract l h)))
  |.c (.ro d)=>0<size/\d.isSl=true/\d.size=size/\jhO s hi d.len h/\h<=d.len/\av=.c (.ro (d.sub l h))
  |.c (.h g c p hx)=>0<size/\(∃d,Is s (.h g c p hx) d/\d.size=size/\jhO s hi d.len h/\h<=d.len)/\av=.c (.hs g c p hx size l (h-l))
  |.c (.hs g c p hx sz lo m)=>(∃d,Is s (.hs g c p hx sz lo m) d)/\sz=size/\jhO s hi m h/\h<=m/\av=.c (.hs g c p hx size (lo+l) (h-l))
  |_=>False)/\os=[]
 |.ext x i,av,os=>∃l b az,s.ev x=.tup l/\l[i]?=some (b,az)/\(if b then av=.agg az else∃a,az=[a]/\av=.c a)/\os=[]
 |.fld agg off n x,av,os=>∃l,s.ev x=.agg l/\off+n<=l.length/\(if agg then av=.agg ((l.drop off).take n) else∃a,(l.drop off).take n=[a]/\av=.c a)/\os=[]
 |.mkf f caps,av,os=>∃l,jcF s caps=some l/\av=.fn f l/\os=[]
 |.call f args,av,os=>∃vs,zZ s (args.map s.ev) vs/\jZ P f vs rt/\av=rt.av (100*d) st.η/\os=jl2 (100*d) st.η 0 rt.flat
 |.callv x args,av,os=>∃f caps vs,s.ev x=.fn f caps/\zZ s (args.map s.ev++caps.map .c) vs/\jZ P f vs rt/\av=rt.av (100*d) st.η/\os=jl2 (100*d) st.η 0 rt.flat
 |_,_,_=>False
def js2 (k:Option (Nat×Nat)) (x:Value):D:=match k,x with
 |some (size,ty),.slice none 0 0=>.sl size ty []
 |_,x=>.val x
def juG:List (Option (Nat×Nat))->List Value->List D
 |_,[]=>[]
 |ks,x::l=>js2 (ks.head?.getD none) x::juG ks.tail l
def jaB:List (Option (Nat×Nat))->List Cell->Option (List D)
 |_,[]=>some []
 |ks,.a (.v x)::l=>match jaB ks.tail l with
  |some r=>some (js2 (ks.head?.getD none) x::r)
  |none=>none
 |ks,.own d _::l=>match jaB ks.tail l with
  |some r=>some (d::r)
  |none=>none
 |_,_::_=>none
def ka:List D->Bool
 |[]=>true
 |.val u::l=>u.oneCell'&&ka l
 |_::_=>false
def jk6:List D->Bool
 |[]=>true
 |.val u::l=>u.oneCell'&&jk6 l
 |.sl _ _ _::l=>jk6 l
def strCells (b:ByteArray):List D:=b.data.toList.map qv
def Ob.putOwn:Ob->Nat->D->jg->Ob
 |.loose _ _,_,d,η=>.loose d η
 |.box b ty cs,c,d,η=>.box b ty (cs.set c (.own d η))
 |.none,_,_,_=>.none
def jf4 (s:St) (e size:Nat) (a:AV) (K:List D->St->Prop):Prop:=match a with
 |.c (.v (.slice none 0 0))=>K [] s
 |.c (.h g c p x)=>(p=[]/\∃cs η,(s.o g).own c=some (.sl size e cs,η)/\η []=x/\K cs (s.rm g c))\/
  ∃k,p=[k]/\∃sz tyo ds0 cs η,(s.o g).own c=some (.sl sz tyo ds0,η)/\ds0[k]?=some (.sl size e cs)/\η [k]=x/\∀aH,aH []=η []->K cs (s.setO g ((s.o g).putOwn c (.sl sz tyo (ds0.set k (.val x))) aH))
 |_=>False
def jyq (s:St) (size:Nat) (a:AV) (K:List D->St->Prop):Prop:=match a with
 |.c (.v (.slice none 0 0))=>K [] s
 |.c (.ro d)=>d.isSl=true/\d.size=size/\ka d.cells=true/\K d.cells s
 |.c (.hs g c p x sz lo m)=>∃d,Is s (.hs g c p x sz lo m) d/\d.size=size/\ka d.cells=true/\K d.cells s
 |.c (.h g c p x)=>∃d,Is s (.h g c p x) d/\d.size=size/\(if ka d.cells=true then K d.cells s else p=[]/\jk6 d.cells=true/\K d.cells (s.rm g c))
 |_=>False
def View.av:View->AV
 |.c d=>.c d.toRo
 |.agg ds=>.agg (ds.map D.toRo)
 |.ptr ds=>.c (.rp ds)
 |.fn f caps=>.fn f (caps.map .rp)
def St.init (vs:List View):St:=⟨λn=>((vs.map View.av)[n]?).getD .unk,λ_=>.none⟩
inductive R where
 |t (n:Nat)
 |cell (n:Nat) (agg:Bool) (size:Nat)
def jjs (s:St):List R->(List (Bool×List A0)->Prop)->Prop
 |[],K=>K []
 |.t n::rs,K=>match s.t n with
  |.agg l=>jjs s rs λps=>K ((true,l)::ps)
  |.c a=>jjs s rs λps=>K ((false,[a])::ps)
  |_=>False
 |.cell n agg size::rs,K=>∃l,jaE s size l (s.t n)/\(agg=true\/l.length=1)/\jjs s rs λps=>K ((agg,l)::ps)
def ja6:RT->List (Bool×List A0)->Prop
 |.c _,ps=>∃a,ps=[(false,[a])]
 |.agg _,ps=>∃l,ps=[(true,l)]
 |.tup l,ps=>ps.length≠1/\ps.map (λp=>(p.1,p.2.length))=l.map (λp=>(p.1,p.2.length))
def IsD:List Cell->List D->Prop
 |[],ds=>ds=[]
 |.a (.v x)::l,d::ds=>(d=.val x\/x=.slice none 0 0/\∃size ty,d=.sl size ty [])/\IsD l ds
 |.own d' _::l,d::ds=>d'=d/\IsD l ds
 |_,_=>False
def jvs (rs:List R) (rt:RT) (s:St):Prop:=jjs s rs λps=>ja6 rt ps/\qC s (ps.flatMap (·.2)) λcs _=>IsD cs rt.flat
def jia:Value->Bool
 |.agg cs=>cs.toList.all (·.oneCell')
 |.tuple _=>false
 |_=>true
def jQ:Operand->Option X
 |.tmp t=>some (.t t)
 |.const v=>if jia v then some (.c v) else none
 |.func f=>some (.f f)
 |.global _=>none
def zI:List Operand->Option (List X)
 |[]=>some []
 |x::l=>match jQ x,zI l with
  |some x,some l=>some (x::l)
  |_,_=>none
def jdy (off:Nat->Option (Nat×Nat)):List (Nat×Operand)->Option (List (Nat×Nat×X))
 |[]=>some []
 |(i,x)::l=>match off i,jQ x,jdy off l with
  |some (o,n),some x,some l=>some ((o,n,x)::l)
  |_,_,_=>none
def vJ (P:Program) (t:TypeId):Option (List Value):=match P.info? t with
 |some i=>match i.zero with
  |some z=>if z.cells.size=i.size&&z.cells.toList.all (·.oneCell') then some z.cells.toList else none
  |none=>none
 |none=>none
def qj (P:Program) (t:TypeId):Option Nat:=(P.info? t).map (·.size)
def jlc (P:Program):Nat->TypeId->List (Option (Nat×Nat))
 |0,_=>[]
 |n+1,t=>match P.underlying t with
  |some (.slice e)=>[(qj P e).map λk=>(k,e)]
  |some (.struct fs)=>fs.toList.flatMap λf=>jlc P n f.type
  |_=>List.replicate ((qj P t).getD 1) none
def joH (P:Program) (c:Call):Option I:=match c.callee,c.args.toList with
 |.builtin .len,[x]=>match (c.argTypes[0]?).bind P.underlying,jQ x with
  |some .string,some x=>some (.len true x)
  |some (.slice _),some x=>some (.len false x)
  |_,_=>none
 |.builtin .append,[x,y]=>match c.argTypes.toList with
  |[t,t']=>match P.underlying t,P.underlying t' with
   |some (.slice e),some (.slice _)=>match P.info? e,vJ P e,jQ x,jQ y with
    |some i,some _,some x,some y=>if 0<i.size&&t==t' then some (.app e i.size i.bytes x y) else none
    |_,_,_,_=>none
   |some (.slice e),some .string=>match P.underlying e,P.info? e,jQ x,jQ y with
    |some (.int .u8),some i,some x,some y=>match i.zero with
     |some (.int .u8 0)=>if i.size==1&&i.bytes==1 then some (.apps e x y) else none
     |_=>none
    |_,_,_,_=>none
   |_,_=>none
  |_=>none
 |.builtin .clear,[x]=>match c.argTypes.toList with
  |[t]=>match P.underlying t with
   |some (.slice e)=>match P.info? e,vJ P e,jQ x with
    |some i,some z,some x=>if 0<i.size then some (.clr i.size (juG (jlc P 6 e) z) x) else none
    |_,_,_=>none
   |_=>none
  |_=>none
 |.builtin .max,[x,y]=>match jQ x,jQ y with
  |some x,some y=>some (.mm true x y)
  |_,_=>none
 |.builtin .min,[x,y]=>match jQ x,jQ y with
  |some x,some y=>some (.mm false x y)
  |_,_=>none
 |.value (.func f),l=>match P.funcs[f]?,zI l with
  |some fn,some l=>if fn.body.isSome&&fn.name != "runtime.NumGoroutine" then some (.call f l) else none
  |_,_=>none
 |.value (.tmp t),l=>(zI l).map (.callv (.t t))
 |_,_=>none
def zF (P:Program) (op:Op):Option I:=match op with
 |.move x|.assign x=>(jQ x).map .mov
 |.pick c a b=>match jQ c,jQ a,jQ b with
  |some c,some a,some b=>some (.pick c a b)
  |_,_,_=>none
 |.alloc e=>(vJ P e).map (.alloc e)
 |.box e x=>match qj P e,jQ x with
  |some n,some x=>some (.box e n x)
  |_,_=>none
 |.build t ps=>match P.underlying t,vJ P t with
  |some (.struct fs),some z=>if !(fs.toList.all λf=>(P.info? f.type).isSome) then none else (jdy (λi=>match fs[i]? with
   |some f=>(qj P f.type).map λn=>(f.offset,n)
   |none=>none) ps.toList).map (.bld z)
  |_,_=>none
 |.buildSlice t n ps=>match P.underlying t with
  |some (.slice e)=>match qj P e with
   |some size=>if 0<size&&(vJ P e).isSome&&(ps.toList.map (·.1)==List.range n)&&n*size<1000 then (jdy (λi=>some (i*size,size)) ps.toList).map (.bsl e size n ((List.replicate n (jlc P 6 e)).flatten)) else none
   |none=>none
  |_=>none
 |.load t x=>match P.underlying t,qj P t,jQ x with
  |some (.struct _),some n,some x=>some (.ld true n x)
  |some (.array _ _),_,_=>none
  |some _,some 1,some x=>some (.ld false 1 x)
  |_,_,_=>none
 |.store t a x=>match qj P t,jQ a,jQ x with
  |some n,some a,some x=>some (.st n (jlc P 6 t) a x)
  |_,_,_=>none
 |.fieldAddr t x f=>match P.underlying t,jQ x with
  |some (.struct fs),some x=>match fs[f]? with
   |some f=>match qj P f.type with
    |some (_+1)=>some (.fa f.offset x)
    |_=>none
   |none=>none
  |_,_=>none
 |.nilCheck x=>(jQ x).map (.fa 0)
 |.indexAddr t x i=>match P.underlying t,jQ x,jQ i with
  |some (.slice e),some x,some i=>match qj P e with
   |some (n+1)=>some (.ia (n+1) x i)
   |_=>none
  |_,_,_=>none
 |.index t x i=>match P.underlying t,jQ x,jQ i with
  |some .string,some x,some i=>some (.sidx x i)
  |_,_,_=>none
 |.binOp op t x y _=>match jQ x,jQ y with
  |some x,some y=>match P.underlying t with
   |some .bool=>match op with
    |.eql=>some (.beq false x y)
    |.neq=>some (.beq true x y)
    |_=>none
   |some _=>some (.bin op t x y)
   |none=>none
  |_,_=>none
 |.unOp op _ x=>(jQ x).map (.un op)
 |.convert t t' x=>match P.underlying t,P.underlying t',jQ x with
  |some (.int _),some (.int k),some x=>some (.cv (.num k) 0 x)
  |some (.slice e),some .string,some x=>match P.underlying e with
   |some (.int .u8)=>some (.cv .text e x)
   |_=>none
  |_,_,_=>none
 |.makeSlice t l c=>match P.underlying t,jQ l,jQ c with
  |some (.slice e),some l,some c=>match P.info? e,vJ P e with
   |some i,some z=>if 0<i.size then some (.mks e i.size i.bytes (juG (jlc P 6 e) z) l c) else none
   |_,_=>none
  |_,_,_=>none
 |.slice t x lo hi none=>match P.underlying t,jQ x with
  |some (.slice e),some x=>match qj P e with
   |some (n+1)=>match lo.map jQ,hi.map jQ with
    |none,none=>some (.sl (n+1) x none none)
    |some (some a),none=>some (.sl (n+1) x (some a) none)
    |none,some (some b)=>some (.sl (n+1) x none (some b))
    |some (some a),some (some b)=>some (.sl (n+1) x (some a) (some b))
    |_,_=>none
   |_=>none
  |some .string,some x=>match lo.map jQ,hi.map jQ with
   |none,none=>some (.sl 0 x none none)
   |some (some a),none=>some (.sl 0 x (some a) none)
   |none,some (some b)=>some (.sl 0 x none (some b))
   |some (some a),some (some b)=>some (.sl 0 x (some a) (some b))
   |_,_=>none
  |_,_=>none
 |.extract x i=>(jQ x).map (.ext · i)
 |.field t x f=>match P.underlying t,jQ x with
  |some (.struct fs),some x=>match fs[f]? with
   |some f=>match P.underlying f.type,qj P f.type with
    |some (.struct _),some n=>some (.fld true f.offset n x)
    |some (.array _ _),_=>none
    |some _,some 1=>some (.fld false f.offset 1 x)
    |_,_=>none
   |none=>none
  |_,_=>none
 |.makeFunc (.func f) first caps=>if first.isEmpty then (zI caps.toList).map (.mkf f) else none
 |.call c=>joH P c
 |_=>none
def jAk (P:Program) (N:Nat) (ops:Array Oper) (o:Oper):Option Ins:=
 match zF P o.op,(match o.dst with|some d=>decide (d<N)|none=>true) with
 |some i,true=>match o.guard with
  |none=>some ⟨o.dst,none,i⟩
  |some (j,want)=>match (ops[j]?).bind (·.dst) with
   |some t=>if t<N then some ⟨o.dst,some (t,want),i⟩ else none
   |none=>none
 |_,_=>none
def jlx (P:Program) (N:Nat) (ops:Array Oper):List Oper->Option (List Ins)
 |[]=>some []
 |o::l=>match jAk P N ops o,jlx P N ops l with
  |some i,some r=>some (i::r)
  |_,_=>none
def I.pureB:I->Bool
 |.mov _|.pick _ _ _|.bld _ _|.ld _ _ _|.fa _ _|.ia _ _ _|.sidx _ _|.bin _ _ _ _|.beq _ _ _|.un _ _|.cv _ _ _|.len _ _|.mm _ _ _|.sl _ _ _ _|.ext _ _|.fld _ _ _ _|.mkf _ _=>true
 |_=>false
def jDx (ops:Array Oper):Nat->List Nat->List Nat->List Nat
 |0,seen,_=>seen
 |_+1,seen,[]=>seen
 |n+1,seen,j::todo=>match ops[j]? with
  |some o=>jDx ops n (((o.after.toList.filter λe=>Region.binds .any e&&!seen.contains e.on).map (·.on))++seen) (((o.after.toList.filter λe=>Region.binds .any e&&!seen.contains e.on).map (·.on))++todo)
  |none=>jDx ops n seen todo
def joZ (ops:Array Oper) (n j i:Nat):Bool:=(jDx ops (8*n+8) [] [j]).contains i
def I.xs:I->List X
 |.mov x|.box _ _ x|.ld _ _ x|.fa _ x|.un _ x|.cv _ _ x|.len _ x|.ext x _|.fld _ _ _ x=>[x]
 |.pick c a b=>[c,a,b]
 |.alloc _ _=>[]
 |.bld _ ps|.bsl _ _ _ _ ps=>ps.map (·.2.2)
 |.st _ _ a x|.ia _ a x|.sidx a x|.bin _ _ a x|.beq _ a x|.app _ _ _ a x|.apps _ a x|.mm _ a x|.mks _ _ _ _ a x=>[a,x]
 |.sl _ x lo hi=>x::(lo.toList++hi.toList)
 |.mkf _ l|.call _ l=>l
 |.clr _ _ x=>[x]
 |.callv x l=>x::l
def X.tmp?:X->Option Nat
 |.t n=>some n
 |_=>none
def Ins.uses (i:Ins):List Nat:=i.i.xs.filterMap X.tmp?++(i.g.map (·.1)).toList
def jnv (i j:Ins):Bool:=
 (match i.d with
  |some d=>!(j.uses.contains d)&&j.d !=some d
  |none=>true)&&
 (match j.d with
  |some d=>!(i.uses.contains d)
  |none=>true)
def jC4 (ops:Array Oper) (is:List Ins) (listed:Array Bool) (i:Nat):Bool:=match is[i]? with
 |none=>false
 |some x=>x.i.pureB&&(List.range ops.size).all λj=>j==i||listed.getD j true||(match ops[j]?,is[j]? with
  |some oj,some y=>oj.after.any (λe=>Region.binds .any e&&e.on==i)||jnv x y
  |_,_=>true)
def mkT (ops:Array Oper) (is:List Ins):Nat->List Nat->Array Bool->Option T
 |0,_,listed=>if (Region.ready .any ops listed).isEmpty then some .done else none
 |f+1,pures,listed=>
  if (Region.ready .any ops listed).isEmpty then some .done
  else match (Region.ready .any ops listed).find? (jC4 ops is listed) with
   |some i=>match is[i]?,mkT ops is f (i::pures) (listed.setIfInBounds i true) with
    |some x,some t=>some (.pure i x t)
    |_,_=>none
   |none=>(Region.ready .any ops listed).foldr (λj acc=>match is[j]?,mkT ops is f pures (listed.setIfInBounds j true),acc with
    |some x,some t,some rest=>some (.alt x (pures.filter λp=>!joZ ops ops.size j p) t rest)
    |_,_,_=>none) (some .stop)
def jAj (P:Program) (N:Nat) (ops:Array Oper):Option T:=
 if P.follows .mixedOrders then match jlx P N ops ops.toList with
  |some is=>mkT ops is ops.size [] (Array.replicate ops.size false)
  |none=>none
 else none
def comp (P:Program) (N:Nat):Code->Option C
 |.skip=>some .skip
 |.region _ ops false=>(jlx P N ops ops.toList).map .reg
 |.region _ ops true=>(jAj P N ops).map .dreg
 |.seq a b=>match comp P N a,comp P N b with
  |some a,some b=>some (.seq a b)
  |_,_=>none
 |.cond c a b=>match jQ c,comp P N a,comp P N b with
  |some c,some a,some b=>some (.cond c a b)
  |_,_,_=>none
 |.block id a=>(comp P N a).map (.blk id)
 |.loop a=>(comp P N a).map .loop
 |.exit id=>some (.exit id)
 |.ret=>some .ret
 |_=>none
def jlv (P:Program) (N:Nat):List ResultVar->Option (List R)
 |[]=>some []
 |.tmp n::rs=>if n<N then (jlv P N rs).map (.t n:: ·) else none
 |.cell n t::rs=>if n<N then match P.underlying t,qj P t,jlv P N rs with
  |some (.struct _),some k,some r=>some (.cell n true k::r)
  |some (.array _ _),_,_=>none
  |some _,some k,some r=>some (.cell n false k::r)
  |_,_,_=>none
  else none
def fnC (P:Program) (fn:Func):Option (C×List R×Nat):=match fn.body with
 |some b=>if fn.name != "runtime.NumGoroutine" then match comp P fn.ntmps b,jlv P fn.ntmps fn.results.toList with
  |some c,some rs=>some (c,rs,fn.ntmps)
  |_,_=>none
  else none
 |none=>none
def jcp:Value->Nat->Addr
 |.slice (some a) _ _,k=>⟨a.block,a.off+k,none⟩
 |_,k=>⟨0,k,none⟩
def jj9 (x:Value) (size lo n:Nat):Value:=match x with
 |.slice A _ c=>.slice (if c=lo then A else A.map (·.add (lo*size))) n (c-lo)
 |_=>undef
def A0Rel (B:Nat) (w:World):A0->Value->Prop
 |.v x,u=>u=x
 |.ro d,u=>d.isSl=true/\∃S,Rep w false d u S/\∀b∈S,b<B
 |.rp ds,u=>∃b o us S,u=.pointer (some ⟨b,o,none⟩)/\RepL w false ds us S/\(∀x∈S,x<B)/\(ds≠ []->b<B)/\∀j x,us[j]?=some x->w.cell? ⟨b,o+j,none⟩=some x
 |.h _ _ _ x,u=>u=x/\x.oneCell'=true
 |.bp _ c b,u=>u=.pointer (some ⟨b,c,none⟩)
 |.ep _ _ _ i x,u=>u=.pointer (some (jcp x i))
 |.un,u=>u.oneCell'=true
 |.hs _ _ _ x size lo n,u=>(u=jj9 x size lo n\/0<lo/\n=0/\∃A,u=.slice A 0 0)/\u.oneCell'=true
def A0RelL (B:Nat) (w:World):List A0->List Value->Prop
 |[],us=>us=[]
 |a::l,us=>∃u us',us=u::us'/\A0Rel B w a u/\A0RelL B w l us'
def TRelL (B:Nat) (w:World):List (Bool×List A0)->List Value->Prop
 |[],us=>us=[]
 |(b,az)::l,us=>∃u us' xs,us=u::us'/\A0RelL B w az xs/\(if b then u=.agg xs.toArray else xs=[u])/\TRelL B w l us'
def VRel (B:Nat) (w:World):AV->Value->Prop
 |.c a,u=>A0Rel B w a u
 |.agg l,u=>∃us:List Value,u=.agg us.toArray/\A0RelL B w l us
 |.fn f caps,u=>∃us:List Value,u=.func (.func f) #[] us.toArray/\A0RelL B w caps us
 |.tup l,u=>∃us:List Value,u=.tuple us.toArray/\TRelL B w l us
 |.unk,_=>True
def hdr (w:World):List Nat->D->Value->Value
 |[],.sl _ _ _,u=>u
 |i::p,.sl _ _ cs,.slice (some a) _ _=>match cs[i]? with
  |some d=>hdr w p d ((w.cell? ⟨a.block,a.off+i,none⟩).getD undef)
  |none=>undef
 |_,_,_=>undef
def CRel (B:Nat) (w:World):List Cell->List Value->List Nat->Prop
 |[],us,S=>us=[]/\S=[]
 |.a x::l,us,S=>∃u us',us=u::us'/\A0Rel B w x u/\CRel B w l us' S
 |.own d η::l,us,S=>∃u us' S1 S2,us=u::us'/\S=S1++S2/\d.isSl=true/\Rep w true d u S1/\(∀p,η p=hdr w p d u)/\CRel B w l us' S2
def ORel (B:Nat) (w:World):Ob->List Nat->Prop
 |.none,S=>S=[]
 |.loose d η,S=>d.isSl=true/\∃u,Rep w true d u S/\∀p,η p=hdr w p d u
 |.box b ty cs,S=>∃us S1,w.heap[b]?=some (.cells us.toArray ty (0,0))/\CRel B w cs us S1/\S=b::S1
structure RelF (B:Nat) (w0:World) (N:Nat) (s:St) (a:Act) (w:World) (F:Nat->List Nat):Prop where
 below:Below B w0 w
 hB:B<=w0.heap.size
 df:a.defers=[]
 sz:a.tmps.size=N
 sl:∀n,VRel B w (s.t n) (a.tmps.getD n undef)
 ob:∀g,ORel B w (s.o g) (F g)
 fr:∀g,Fresh B (F g)
 dj:∀g g',g≠g'->∀b∈F g,b∉F g'
section
variable {B:Nat} {w w' w0:World}
theorem zr {own:Bool} {size:Nat} {ty:TypeId} {cs:List D} {v:Value} {S:List Nat} (h:Rep w own (.sl size ty cs) v S):∃A n c,v=.slice A n c:=by
 obtain ⟨vs,T,S',hr,_,_⟩:=h;obtain ⟨_,A,n,c,rfl,_⟩:=hr.ro;exact ⟨A,n,c,rfl⟩
theorem A0Rel.mono (hb:Below B w w'):∀{a:A0} {u:Value},A0Rel B w a u->A0Rel B w' a u
 |.v _,_,h=>h
 |.ro _,_,⟨h1,S,h2,h3⟩=>⟨h1,S,Rep.keep _ h2 λb hs=>hb.block b (h3 b hs),h3⟩
 |.rp ds,_,⟨b,o,us,S,h1,h2,h3,h4,h5⟩=>⟨b,o,us,S,h1,RepL.keep _ h2 λb hs=>hb.block b (h3 b hs),h3,h4,λj x hx=>by
  have aK:ds≠ []:=λe=>by subst e;obtain ⟨rfl,_⟩:=h2;simp at hx
  rw [hb.cell (p:=⟨b,o+j,none⟩) (h4 aK)];exact h5 j x hx⟩
 |.h _ _ _ _,_,h=>h
 |.bp _ _ _,_,h=>h
 |.ep _ _ _ _ _,_,h=>h
 |.un,_,h=>h
 |.hs _ _ _ _ _ _ _,_,h=>h
theorem A0RelL.mono (hb:Below B w w'):∀{l:List A0} {us:List Value},A0RelL B w l us->A0RelL B w' l us
 |[],_,h=>h
 |_::_,_,⟨u,us',h1,h2,h3⟩=>⟨u,us',h1,h2.mono hb,A0RelL.mono hb h3⟩
theorem TRelL.mono (hb:Below B w w'):∀{l:List (Bool×List A0)} {us:List Value},TRelL B w l us->TRelL B w' l us
 |[],_,h=>h
 |(_,_)::_,_,⟨u,us',xs,h1,h2,h3,h4⟩=>⟨u,us',xs,h1,h2.mono hb,h3,TRelL.mono hb h4⟩
theorem VRel.mono (hb:Below B w w'):∀{v:AV} {u:Value},VRel B w v u->VRel B w' v u
 |.c _,_,h=>A0Rel.mono hb h
 |.agg _,_,⟨us,h1,h2⟩=>⟨us,h1,h2.mono hb⟩
 |.fn _ _,_,⟨us,h1,h2⟩=>⟨us,h1,h2.mono hb⟩
 |.tup _,_,⟨us,h1,h2⟩=>⟨us,h1,h2.mono hb⟩
 |.unk,_,h=>h
theorem A0Rel.one:∀{a:A0} {u:Value},A0Rel B w a u->a.one=true->u.oneCell'=true
 |.v _,_,h,h'=>by rw [show _=_ from h];exact h'
 |.ro d,u,⟨h1,S,h2,_⟩,_=>by
  cases d with
  |val _=>cases h1
  |sl size ty cs=>obtain ⟨A,n,c,rfl⟩:=zr h2;rfl
 |.rp _,_,⟨_,_,_,_,h,_⟩,_=>by rw [h];rfl
 |.h _ _ _ _,_,⟨h,h'⟩,_=>by rw [h];exact h'
 |.bp _ _ _,_,h,_=>by rw [show _=_ from h];rfl
 |.ep _ _ _ _ _,_,h,_=>by rw [show _=_ from h];rfl
 |.un,_,h,_=>h
 |.hs _ _ _ _ _ _ _,_,⟨_,h⟩,_=>h
theorem A0Rel.c1:∀{a:A0} {u:Value},A0Rel B w a u->a.c1=true->u.oneCell'=true
 |.v _,_,h,h'=>by rw [show _=_ from h];exact h'
 |.ro _,_,h,_=>h.one rfl
 |.rp _,_,h,_=>h.one rfl
 |.h _ _ _ _,_,⟨h,h'⟩,_=>by rw [h];exact h'
 |.bp _ _ _,_,h,_=>h.one rfl
 |.ep _ _ _ _ _,_,h,_=>h.one rfl
 |.un,_,h,_=>h
 |.hs _ _ _ _ _ _ _,_,⟨_,h⟩,_=>h
theorem jwQ {u:Value} (h:u.oneCell'=true):u.cells=#[u]:=by cases u<;>first|rfl|cases h
theorem VRel.cells:∀{v:AV} {u:Value} {l:List A0},VRel B w v u->v.cells=some l->∃us:List Value,u.cells=us.toArray/\A0RelL B w l us
 |.c a,u,l,h,hl=>by
  simp only [AV.cells] at hl;split at hl
  ·simp at hl;subst hl
   exact ⟨[u],jwQ (A0Rel.c1 h (by assumption)),u,[],rfl,h,rfl⟩
  ·simp at hl
 |.agg l',_,l,⟨us,h1,h2⟩,hl=>by
  simp [AV.cells] at hl;subst hl;exact ⟨us,by rw [h1];rfl,h2⟩
 |.fn _ _,_,_,_,hl=>by simp [AV.cells] at hl
 |.tup _,_,_,_,hl=>by simp [AV.cells] at hl
 |.unk,_,_,_,hl=>by simp [AV.cells] at hl
theorem A0RelL.len:∀{l:List A0} {us:List Value},A0RelL B w l us->us.length=l.length
 |[],_,h=>by rw [show _=_ from h];rfl
 |_::_,_,⟨_,_,h1,_,h3⟩=>by subst h1;simp [A0RelL.len h3]
theorem RepL.nth {own:Bool}:∀{cs:List D} {vs:List Value} {S:List Nat} {i:Nat} {d:D},RepL w own cs vs S->cs[i]?=some d->∃v S1,vs[i]?=some v/\Rep w own d v S1/\∀s∈S1,s∈S
 |[],_,_,_,_,_,h=>by simp at h
 |_::_,_,_,0,_,⟨v,vs',S1,S2,h1,h2,h3,h4⟩,h=>by
  simp at h;subst h;exact ⟨v,S1,by rw [h1];rfl,h3,λs hs=>by rw [h2];simp [hs]⟩
 |_::cs,_,_,i+1,_,⟨v,vs',S1,S2,h1,h2,h3,h4⟩,h=>by
  simp at h;obtain ⟨v',S',h5,h6,h7⟩:=RepL.nth h4 h;exact ⟨v',S',by rw [h1];simpa using h5,h6,λs hs=>by rw [h2];simp [h7 s hs]⟩
theorem qM {size:Nat} {ty:TypeId} {vs:List Value} {u:Value} {T:List Nat} (h:RowAt w true size ty vs u T):(u=.slice none 0 0/\vs=[])\/∃g n c,u=.slice (some ⟨g,0,none⟩) n c/\T=[g]/\vs.length=n*size/\(∀j v,vs[j]?=some v->w.cell? ⟨g,j,none⟩=some v)/\∀j,w.frozen? ⟨g,j,none⟩=false:=by
 obtain ⟨n,h,rfl⟩:=h;have h1:=h.1;rcases h.2 with ⟨rfl,h0⟩|⟨g,cap,cur,rfl,hb,hg,hr⟩
 ·subst h0;exact .inl ⟨rfl,aPS (by simpa using h1)⟩
 ·refine .inr ⟨g,n,cap,rfl,rfl,h1,λj v hv=>?_,h.frozenAt⟩
  have:=h.cells (g:=g) rfl j v hv;have e:(⟨g,0,none⟩:Addr).add j=⟨g,j,none⟩:=by unfold Addr.add;split<;>simp_all
  rwa [e] at this
theorem jeq:∀(p:List Nat) {d:D} {u:Value} {S:List Nat},Rep w true d u S->(∀b∈S,w'.heap[b]?=w.heap[b]?)->hdr w' p d u=hdr w p d u
 |[],.sl _ _ _,_,_,_,_=>rfl
 |[],.val _,_,_,_,_=>rfl
 |i::p,.val _,_,_,_,_=>rfl
 |i::p,.sl size ty cs,u,S,⟨vs,T,S',h1,h2,h3⟩,hk=>by
  rcases qM h1 with ⟨rfl,_⟩|⟨g,n,c,rfl,rfl,h4,h5,_⟩
  ·rfl
  ·simp only [hdr]
   cases hc:cs[i]? with
   |none=>rfl
   |some d=>
    obtain ⟨v,S1,h6,h7,h8⟩:=RepL.nth h2 hc;have e1:w.cell? ⟨g,0+i,none⟩=some v:=by rw [aQN];exact h5 i v h6
    have e2:w'.cell? ⟨g,0+i,none⟩=some v:=by
     rw [World.cell?_of_block (w:=w) (a:=⟨g,0+i,none⟩) (hk g (by rw [h3];simp))];exact e1
    simp only [e1,e2,aPA];exact jeq p h7 λb hb=>hk b (by rw [h3];simp [h8 b hb])
theorem jwr:∀(p:List Nat) {d d':D} {u:Value} {S:List Nat},Rep w true d u S->D.get p d=some d'->d'.isSl=true->∃S',Rep w true d' (hdr w p d u) S'/\∀s∈S',s∈S
 |[],.sl _ _ _,_,_,S,h,hg,_=>by simp [D.get] at hg;subst hg;exact ⟨S,h,λ_ h=>h⟩
 |[],.val _,_,_,_,_,hg,hs=>by simp [D.get] at hg;subst hg;cases hs
 |i::p,.val _,_,_,_,_,hg,_=>by simp [D.get] at hg
 |i::p,.sl size ty cs,d',u,S,⟨vs,T,S',h1,h2,h3⟩,hg,hs=>by
  simp only [D.get] at hg;cases hc:cs[i]? with
  |none=>rw [hc] at hg;simp at hg
  |some d=>
   rw [hc] at hg;obtain ⟨v,S1,h6,h7,h8⟩:=RepL.nth h2 hc;rcases qM h1 with ⟨rfl,rfl⟩|⟨g,n,c,rfl,rfl,h4,h5,_⟩
   ·simp at h6
   ·simp only [hdr,hc,aQN,h5 i v h6,aPA]
    obtain ⟨S2,h9,lG⟩:=jwr p h7 hg hs;exact ⟨S2,h9,λs hs=>by rw [h3];simp [h8 s (lG s hs)]⟩
theorem jax {d:D} {u:Value} (h:d.isSl=true):hdr w [] d u=u:=by cases d<;>first|rfl|cases h
theorem CRel.keep (hb:Below B w w'):∀{cs:List Cell} {us:List Value} {S:List Nat},CRel B w cs us S->(∀b∈S,w'.heap[b]?=w.heap[b]?)->CRel B w' cs us S
 |[],_,_,h,_=>h
 |.a _::_,_,_,⟨u,us',h1,h2,h3⟩,hk=>⟨u,us',h1,h2.mono hb,CRel.keep hb h3 hk⟩
 |.own _ _::_,_,_,⟨u,us',S1,S2,h1,h2,h3,h4,h5,h6⟩,hk=>⟨u,us',S1,S2,h1,h2,h3,Rep.keep _ h4 λb hs=>hk b (by rw [h2];simp [hs]),
  λp=>by rw [jeq p h4 λb hs=>hk b (by rw [h2];simp [hs])];exact h5 p,CRel.keep hb h6 λb hs=>hk b (by rw [h2];simp [hs])⟩
theorem CRel.lt:∀{cs:List Cell} {us:List Value} {S:List Nat},CRel B w cs us S->∀b∈S,b<w.heap.size
 |[],_,_,⟨_,h⟩,b,hb=>by rw [h] at hb;simp at hb
 |.a _::_,_,_,⟨_,_,_,_,h⟩,b,hb=>CRel.lt h b hb
 |.own _ _::_,_,_,⟨u,us',S1,S2,_,h2,_,h4,_,h6⟩,b,hb=>by
  rw [h2] at hb;rcases aOX.1 hb with hb|hb
  ·exact Rep.lt _ h4 b hb
  ·exact CRel.lt h6 b hb
theorem CRel.len:∀{cs:List Cell} {us:List Value} {S:List Nat},CRel B w cs us S->us.length=cs.length
 |[],_,_,⟨h,_⟩=>by rw [h];rfl
 |.a _::_,_,_,⟨_,_,h1,_,h3⟩=>by subst h1;simp [CRel.len h3]
 |.own _ _::_,_,_,⟨_,_,_,_,h1,_,_,_,_,h6⟩=>by subst h1;simp [CRel.len h6]
theorem ORel.keep (hb:Below B w w'):∀{ob:Ob} {S:List Nat},ORel B w ob S->(∀b∈S,w'.heap[b]?=w.heap[b]?)->ORel B w' ob S
 |.none,_,h,_=>h
 |.loose _ _,_,⟨h0,u,h1,h2⟩,hk=>⟨h0,u,Rep.keep _ h1 hk,λp=>by rw [jeq p h1 hk];exact h2 p⟩
 |.box b _ _,_,⟨us,S1,h1,h2,h3⟩,hk=>⟨us,S1,(hk b (by rw [h3];simp)).trans h1,h2.keep hb λx hx=>hk x (by rw [h3];simp [hx]),h3⟩
theorem ORel.lt:∀{ob:Ob} {S:List Nat},ORel B w ob S->∀b∈S,b<w.heap.size
 |.none,_,h,b,hb=>by rw [show _=_ from h] at hb;simp at hb
 |.loose _ _,_,⟨_,u,h1,_⟩,b,hb=>Rep.lt _ h1 b hb
 |.box b' _ _,_,⟨us,S1,h1,h2,h3⟩,b,hb=>by
  rw [h3] at hb;rcases aPL.1 hb with rfl|hb
  ·exact jbT h1
  ·exact h2.lt b hb
theorem ORel.own:∀{ob:Ob} {S:List Nat} {c:Nat} {d:D} {η:jg},ORel B w ob S->ob.own c=some (d,η)->∃u S',d.isSl=true/\Rep w true d u S'/\(∀p,η p=hdr w p d u)/\∀s∈S',s∈S
 |.none,_,_,_,_,_,h=>by simp [Ob.own] at h
 |.loose d' aH,S,0,d,η,⟨h0,u,h1,h2⟩,h=>by simp [Ob.own] at h;obtain ⟨rfl,rfl⟩:=h;exact ⟨u,S,h0,h1,h2,λ_ h=>h⟩
 |.loose _ _,_,c+1,_,_,_,h=>by simp [Ob.own] at h
 |.box b ty cs,S,c,d,η,⟨us,S1,h1,h2,h3⟩,h=>by
  have:∀{cs:List Cell} {us:List Value} {S1:List Nat} {c:Nat},CRel B w cs us S1->cs[c]?=some (.own d η)->∃u S',d.isSl=true/\Rep w true d u S'/\(∀p,η p=hdr w p d u)/\∀s∈S',s∈S1:=by
   intro cs
   induction cs with
   |nil=>intro _ _ _ _ h;simp at h
   |cons x l ih=>
    intro us S1 c hr hc;cases x with
    |a x=>
     obtain ⟨u,us',rfl,_,h5⟩:=hr;cases c with
     |zero=>simp at hc
     |succ c=>exact ih h5 (by simpa using hc)
    |own d' aH=>
     obtain ⟨u,us',S2,S3,rfl,rfl,k0,k1,k2,k3⟩:=hr;cases c with
     |zero=>simp at hc;obtain ⟨rfl,rfl⟩:=hc;exact ⟨u,S2,k0,k1,k2,λs hs=>by simp [hs]⟩
     |succ c=>
      obtain ⟨u',S',k4,k5,k6,k7⟩:=ih k3 (by simpa using hc)
      exact ⟨u',S',k4,k5,k6,λs hs=>by simp [k7 s hs]⟩
  simp only [Ob.own] at h;split at h
  ·rename_i d' aH hc
   simp at h;obtain ⟨rfl,rfl⟩:=h;obtain ⟨u,S',k1,k2,k3,k4⟩:=this h2 hc;exact ⟨u,S',k1,k2,k3,λs hs=>by rw [h3];simp [k4 s hs]⟩
  ·simp at h
variable {N:Nat} {s:St} {a:Act} {F:Nat->List Nat}
theorem RelF.world (h:RelF B w0 N s a w F) (hb:Below w.heap.size w w'):RelF B w0 N s a w' F:=by
 have hB:B<=w.heap.size:=aQJ h.hB h.below.size;have a9:=hb.mono hB;exact ⟨h.below.trans a9,h.hB,h.df,h.sz,λn=>(h.sl n).mono a9,λg=>(h.ob g).keep a9 λb hs=>hb.block b ((h.ob g).lt b hs),h.fr,h.dj⟩
theorem RelF.put (h:RelF B w0 N s a w F) {v:AV} {u:Value} (hv:VRel B w v u) {d:Option Nat} (hd:∀k,d=some k->k<N):RelF B w0 N (s.put d v) (a.put d u) w F:=by
 cases d with
 |none=>exact h
 |some k=>
  have hk:=hd k rfl;refine ⟨h.below,h.hB,h.df,by simp [Act.put,h.sz],λn=>?_,h.ob,h.fr,h.dj⟩
  simp only [St.put,Act.put];by_cases hn:n=k
  ·subst hn
   rw [if_pos rfl];simp [Array.getD_eq_getD_getElem?,h.sz,hk];exact hv
  ·rw [if_neg hn]
   simp [Array.getD_eq_getD_getElem?,Array.getElem?_setIfInBounds_ne (Ne.symm hn)];simpa [Array.getD_eq_getD_getElem?] using h.sl n
theorem RelF.setO (h:RelF B w0 N s a w F) {g:Nat} {ob:Ob} {S:List Nat} (ho:ORel B w ob S) (hf:Fresh B S) (hd:∀g',g'≠g->∀b∈S,b∉F g'):
 RelF B w0 N (s.setO g ob) a w (λk=>if k=g then S else F k):=by
 refine ⟨h.below,h.hB,h.df,h.sz,h.sl,λk=>?_,λk=>?_,λk k' aK b hb a9=>?_⟩
 ·simp only [St.setO];split
  ·exact ho
  ·exact h.ob k
 ·split
  ·exact hf
  ·exact h.fr k
 ·have aZ:b∈(if k=g then S else F k):=hb
  have bF:b∈(if k'=g then S else F k'):=a9
  split at aZ<;>split at bF
  ·omega
  ·exact hd k' (by omega) b aZ bF
  ·exact hd k (by omega) b bF aZ
  ·exact h.dj k k' aK b aZ bF
def jcW (B:Nat) (w:World):List (Nat×Ob)->List Nat->Prop
 |[],S=>S=[]
 |(_,ob)::l,S=>∃S1 S2,S=S1++S2/\ORel B w ob S1/\jcW B w l S2
theorem RelF.addO:∀{os:List (Nat×Ob)} {s:St} {S:List Nat} {F:Nat->List Nat},RelF B w0 N s a w F->jcW B w os S->Fresh B S->(∀g,∀b∈S,b∉F g)->∃F',RelF B w0 N (s.addO os) a w F'
 |[],s,S,F,h,_,_,_=>⟨F,h⟩
 |(g,ob)::os,s,S,F,h,⟨S1,S2,hS,ho,hn⟩,hf,hd=>by
  subst hS;have h1:=h.setO (g:=g) ho hf.left λg' _ b hb=>hd g' b (by simp [hb])
  have h2:=RelF.addO h1 hn hf.right (λk b hb=>by
   by_cases hk:k=g
   ·rw [if_pos hk];exact λa9=>hf.apart b a9 hb
   ·rw [if_neg hk];exact hd k b (by simp [hb]))
  exact h2
theorem RelF.rm (h:RelF B w0 N s a w F) {g c:Nat} {d:D} {η:jg} (ho:(s.o g).own c=some (d,η)):
 ∃u S F',d.isSl=true/\Rep w true d u S/\(∀p,η p=hdr w p d u)/\Fresh B S/\RelF B w0 N (s.rm g c) a w F'/\(∀g',∀b∈S,b∉F' g')/\(∀b∈S,b∈F g)/\∀g' b,b∈F' g'->b∈F g':=by
 have rB:=h.ob g;have hfg:=h.fr g;unfold St.rm;cases bT:s.o g with
 |none=>rw [bT] at ho;simp [Ob.own] at ho
 |loose d' aH=>
  rw [bT] at ho rB;cases c with
  |succ c=>simp [Ob.own] at ho
  |zero=>
   simp [Ob.own] at ho;obtain ⟨rfl,rfl⟩:=ho;obtain ⟨h0,u,h1,h2⟩:=rB;refine ⟨u,F g,_,h0,h1,h2,hfg,h.setO (S:=[]) (ob:=(Ob.loose d' aH).rm 0) (by simp [Ob.rm,ORel]) (Fresh.nil _) (by simp),λg' b hb a9=>?_,λ_ h=>h,λg' b hb=>?_⟩
   ·split at a9
    ·simp at a9
    ·exact h.dj g g' (by omega) b hb a9
   ·split at hb
    ·simp at hb
    ·exact hb
 |box b ty cs=>
  rw [bT] at ho rB;obtain ⟨us,S1,h1,h2,h3⟩:=rB
  have key:∀{cs:List Cell} {us:List Value} {S1:List Nat} {c:Nat},CRel B w cs us S1->S1.Nodup->cs[c]?=some (.own d η)->
   ∃u S S',d.isSl=true/\Rep w true d u S/\(∀p,η p=hdr w p d u)/\CRel B w (cs.set c (.a (.v (η [])))) us S'/\(∀x,x∈S1↔x∈S\/x∈S')/\S'.Nodup/\S.Nodup/\∀x∈S,x∉S':=by
   intro cs
   induction cs with
   |nil=>intro _ _ _ _ _ h;simp at h
   |cons x l ih=>
    intro us S1 c hr aY hc;cases x with
    |a x=>
     obtain ⟨u,us',rfl,k1,k2⟩:=hr;cases c with
     |zero=>simp at hc
     |succ c=>
      obtain ⟨u',S,S',j1,j2,j3,j4,j5,j6,j7,j8⟩:=ih k2 aY (by simpa using hc)
      exact ⟨u',S,S',j1,j2,j3,⟨u,us',rfl,k1,j4⟩,j5,j6,j7,j8⟩
    |own d' aH=>
     obtain ⟨u,us',S2,S3,rfl,rfl,k0,k1,k2,k3⟩:=hr;have gW:=aPC.1 aY;cases c with
     |zero=>
      simp at hc;obtain ⟨rfl,rfl⟩:=hc;refine ⟨u,S2,S3,k0,k1,k2,⟨u,us',rfl,?_,k3⟩,λx=>aOX,gW.2.1,gW.1,λx hx bV=>gW.2.2 x hx x bV rfl⟩
      show u=aH [];rw [k2,jax k0]
     |succ c=>
      obtain ⟨u',S,S',j1,j2,j3,j4,j5,j6,j7,j8⟩:=ih k3 gW.2.1 (by simpa using hc)
      refine ⟨u',S,S2++S',j1,j2,j3,⟨u,us',S2,S',rfl,rfl,k0,k1,k2,j4⟩,λx=>?_,aPC.2 ⟨gW.1,j6,λa ha b hb e=>gW.2.2 a ha b ((j5 b).2 (.inr hb)) e⟩,j7,λx hx bV=>?_⟩
      ·rw [aOX,aOX,j5];grind
      ·rcases aOX.1 bV with bV|bV
       ·exact gW.2.2 x bV x ((j5 x).2 (.inl hx)) rfl
       ·exact j8 x hx bV
  have hc:cs[c]?=some (.own d η):=by
   simp only [Ob.own] at ho;split at ho
   ·simp at ho;obtain ⟨rfl,rfl⟩:=ho;assumption
   ·simp at ho
  have aY:(b::S1).Nodup:=by rw [<-h3];exact hfg.1
  obtain ⟨u,S,S',j1,j2,j3,j4,j5,j6,j7,j8⟩:=key h2 (aQZ.1 aY).2 hc;have hS:∀x∈S,x∈F g:=λx hx=>by rw [h3];simp [(j5 x).2 (.inl hx)]
  have u9:∀x∈b::S',x∈F g:=λx hx=>by
   rw [h3];rcases aPL.1 hx with rfl|hx
   ·simp
   ·simp [(j5 x).2 (.inr hx)]
  have sD:b∉S':=λhb=>(aQZ.1 aY).1 ((j5 b).2 (.inr hb))
  have rQ:(Ob.box b ty cs).rm c=.box b ty (cs.set c (.a (.v (η [])))):=by simp only [Ob.rm,hc,rmC]
  refine ⟨u,S,_,j1,j2,j3,⟨j7,λx hx=>hfg.2 x (hS x hx)⟩,h.setO (S:=b::S') (ob:=(Ob.box b ty cs).rm c) (by rw [rQ];exact ⟨us,S',h1,j4,rfl⟩) ⟨aQZ.2 ⟨sD,j6⟩,λx hx=>hfg.2 x (u9 x hx)⟩ (λg' hg x hx=>h.dj g g' (Ne.symm hg) x (u9 x hx)),λg' x hx bV=>?_,hS,λg' x hx=>?_⟩
  ·split at bV
   ·rcases aPL.1 bV with rfl|bV
    ·exact (aQZ.1 aY).1 ((j5 x).2 (.inl hx))
    ·exact j8 x hx bV
   ·exact h.dj g g' (by omega) x (hS x hx) bV
  ·split at hx
   ·rename_i e;subst e;exact u9 x hx
   ·exact hx
end
def jlZ (B:Nat) (w:World):List AV->List Value->Prop
 |[],xs=>xs=[]
 |a::l,xs=>∃x xs',xs=x::xs'/\VRel B w a x/\jlZ B w l xs'
abbrev St.only (o:Nat->Ob):St:=⟨λ_=>.unk,o⟩
def Act.bare:Act:={tmps:=#[],defers:=[]}
def Turns (P:Program) (f:FuncId) (args:List AV) (o:Nat->Ob) (R:RT->(Nat->Ob)->Prop):Prop:=
 jqT P f/\∀(B:Nat) (w:World) (F:Nat->List Nat) (xs:List Value),RelF B w 0 (.only o) Act.bare w F->jlZ B w args xs->
  Calls P f xs.toArray w λe w'=>∃v rt o' S F',e=.returned v/\RelF B w 0 (.only o') Act.bare w' F'/\jl0 w' rt v S/\Fresh B S/\(∀g,∀b∈S,b∉F' g)/\R rt o'
def Inl (P:Program) (f:FuncId) (args:List AV) (o:Nat->Ob) (R:AV->(Nat->Ob)->Prop):Prop:=
 jqT P f/\∀(B:Nat) (w:World) (F:Nat->List Nat) (xs:List Value),RelF B w 0 (.only o) Act.bare w F->jlZ B w args xs->
  Calls P f xs.toArray w λe w'=>∃v av o',∃F':Nat->List Nat,e=.returned v/\RelF B w 0 (.only o') Act.bare w' F'/\VRel B w' av v/\R av o'
def D.put:List Nat->Nat->List D->D->D
 |[],i,ds,.sl size ty cs=>.sl size ty (kz cs i ds)
 |k::p,i,ds,.sl size ty cs=>.sl size ty (match cs[k]? with
  |some d=>cs.set k (D.put p i ds d)
  |none=>cs)
 |_,_,_,.val u=>.val u
def jsf (p:List Nat) (i n:Nat) (q:List Nat):Prop:=∃j r,q=p++j::r/\i<=j/\j<i+n
def stH (flat:Bool) (p:List Nat) (k n:Nat) (η:jg) (K:jg->Prop):Prop:=match flat with
 |true=>K η
 |false=>∀aH,(∀q,¬jsf p k n q->aH q=η q)->K aH
theorem jsw {flat:Bool} {p:List Nat} {k n:Nat} {η:jg} {K K':jg->Prop} (h:∀aH,K aH->K' aH) (hk:stH flat p k n η K):stH flat p k n η K':=by
 cases flat with
 |true=>exact h _ hk
 |false=>exact λaH hη=>h _ (hk aH hη)
theorem jAF {flat:Bool} {p:List Nat} {k n:Nat} {η aH:jg} {K:jg->Prop} (hk:stH flat p k n η K) (h:∀q,¬jsf p k n q->aH q=η q) (hf:flat=true->aH=η):K aH:=by
 cases flat with
 |true=>rw [hf rfl];exact hk
 |false=>exact hk aH h
def vp (P:Program) (β:Nat) (i:Ins) (s:St) (K:St->Prop):Prop:=match i.i with
 |.box ty n x=>∃l,(s.ev x).cells=some l/\l.length=n/\qC s l λcs s'=>∀b,K ((s'.addO [(100*(β+i.d.getD 0),.box b ty cs)]).put i.d (.c (.bp (100*(β+i.d.getD 0)) 0 b)))
 |.bsl e size _ ks ps=>∃l,jvd s ps=some l/\qC s l λcs s'=>∃ds,jaB ks cs=some ds/\∀η,K ((s'.addO [(100*(β+i.d.getD 0),.loose (.sl size e ds) η)]).put i.d (.c (.h (100*(β+i.d.getD 0)) 0 [] (η []))))
 |.st n ks a x=>i.d=none/\∃l,(s.ev x).cells=some l/\l.length=n/\qC s l λcs s'=>match s.ev a with
  |.c (.bp g c b)=>∃ty ds,s'.o g=.box b ty ds/\c+n<=ds.length/\K (s'.setO g (.box b ty (kz ds c cs)))
  |.c (.ep g c p k hx)=>0<n/\∃ds,jaB ks cs=some ds/\∃d0 η dd,(s'.o g).own c=some (d0,η)/\η p=hx/\D.get p d0=some dd/\dd.isSl=true/\k+n<=dd.cells.length/\
   stH (ka ds&&ka ((dd.cells.drop k).take n)) p k n η λaH=>K (s'.setO g ((s'.o g).putOwn c (D.put p k ds d0) aH))
  |_=>False
 |.app e size bytes x y=>jyq s size (s.ev y) λys s1=>jf4 s1 e size (s.ev x) λxs s2=>xs.length/size+ys.length/size<=maxLen/\(xs.length/size+ys.length/size)*bytes<=140737488355328/\
  ∀η,K ((s2.addO [(100*(β+i.d.getD 0),.loose (.sl size e (xs++ys)) η)]).put i.d (.c (.h (100*(β+i.d.getD 0)) 0 [] (η []))))
 |.apps e x y=>∃b,s.ev y=.c (.v (.string b))/\jf4 s e 1 (s.ev x) λxs s2=>xs.length+b.size<=140737488355328/\
  ∀η,K ((s2.addO [(100*(β+i.d.getD 0),.loose (.sl 1 e (xs++strCells b)) η)]).put i.d (.c (.h (100*(β+i.d.getD 0)) 0 [] (η []))))
 |.clr size zs x=>i.d=none/\match s.ev x with
  |.c (.v (.slice none 0 0))=>K s
  |.c (.hs g c p hx sz lo n)=>sz=size/\0<n/\∃d0 η dd,(s.o g).own c=some (d0,η)/\η p=hx/\D.get p d0=some dd/\dd.isSl=true/\dd.size=sz/\lo+n<=dd.len/\
   stH (ka (List.replicate n zs).flatten&&ka ((dd.cells.drop (lo*sz)).take (n*sz))) p (lo*sz) (n*sz) η λaH=>K (s.setO g ((s.o g).putOwn c (D.put p (lo*sz) (List.replicate n zs).flatten d0) aH))
  |_=>False
 |.call f args=>(∃rt,∀st,∃av os,Gen P s (β+i.d.getD 0) rt st (.call f args) av os/\K ((s.addO os).put i.d av))\/
  (Turns P f (args.map s.ev) s.o λrt o'=>∀η:Nat->jg,K (((⟨s.t,o'⟩:St).addO (jl2 (100*(β+i.d.getD 0)) η 0 rt.flat)).put i.d (rt.av (100*(β+i.d.getD 0)) η)))\/
  Inl P f (args.map s.ev) s.o λav o'=>K (St.put ⟨s.t,o'⟩ i.d av)
 |.callv x args=>(∃rt,∀st,∃av os,Gen P s (β+i.d.getD 0) rt st (.callv x args) av os/\K ((s.addO os).put i.d av))\/
  ∃f caps,s.ev x=.fn f caps/\Turns P f (args.map s.ev++caps.map .c) s.o λrt o'=>∀η:Nat->jg,K (((⟨s.t,o'⟩:St).addO (jl2 (100*(β+i.d.getD 0)) η 0 rt.flat)).put i.d (rt.av (100*(β+i.d.getD 0)) η))
 |j=>∃rt,∀st,∃av os,Gen P s (β+i.d.getD 0) rt st j av os/\K ((s.addO os).put i.d av)
def zi (s:St):Option (Nat×Bool)->Option Bool
 |none=>some true
 |some (t,want)=>match s.t t with
  |.c (.v (.bool b))=>some (b==want)
  |.c (.v _)=>some false
  |_=>none
def jhV (P:Program) (β:Nat):List Ins->St->(St->Prop)->Prop
 |[],s,K=>K s
 |i::l,s,K=>match zi s i.g with
  |some true=>vp P β i s λs'=>jhV P β l s' K
  |some false=>jhV P β l (s.put i.d (.c (.v undef))) K
  |none=>False
def A0.ids:A0->List Nat
 |.h g _ _ _=>[g]
 |.hs g _ _ _ _ _ _=>[g]
 |.bp g _ _=>[g]
 |.ep g _ _ _ _=>[g]
 |_=>[]
def AV.ids:AV->List Nat
 |.c a=>a.ids
 |.agg l=>l.flatMap A0.ids
 |.fn _ l=>l.flatMap A0.ids
 |_=>[]
inductive Lk where
 |ob (g:Nat)
 |cs (g c n:Nat)
def A0.looks (n:Nat):A0->List Lk
 |.h g _ _ _=>[.ob g]
 |.hs g _ _ _ _ _ _=>[.ob g]
 |.bp g c _=>[.cs g c n]
 |.ep g _ _ _ _=>[.ob g]
 |.v _=>[]
 |.ro _=>[]
 |.rp _=>[]
 |.un=>[]
def AV.looks (n:Nat):AV->List Lk
 |.c a=>a.looks n
 |.agg _=>[]
 |.fn _ _=>[]
 |.tup _=>[]
 |.unk=>[]
def I.looks (s:St):I->List Lk
 |.ld _ n x=>(s.ev x).looks n
 |.ia _ x _=>(s.ev x).ids.map .ob
 |.cv _ _ x=>(s.ev x).ids.map .ob
 |.len _ x=>(s.ev x).ids.map .ob
 |.sl _ x _ _=>(s.ev x).ids.map .ob
 |_=>[]
def jub (g c n:Nat):Ob->Ob->Prop
 |.box b ty cs,.box b' ty' cs'=>b=b'/\ty=ty'/\cs.length=cs'.length/\jeu g c ((cs.drop c).take n)=jeu g c ((cs'.drop c).take n)
 |ob,ob'=>ob=ob'
def jta (s s':St):Lk->Prop
 |.ob g=>s'.o g=s.o g
 |.cs g c n=>jub g c n (s'.o g) (s.o g)
def jrK (s s':St):List Lk->Prop
 |[]=>True
 |k::l=>jta s s' k/\jrK s s' l
theorem jkK (g c n:Nat) (ob:Ob):jub g c n ob ob:=by cases ob<;>first|rfl|exact ⟨rfl,rfl,rfl,rfl⟩
theorem jom {s:St} {d:Option Nat} {v:AV} {k:Lk}:jta s (s.put d v) k:=by cases k<;>cases d<;>first|rfl|exact jkK _ _ _ _
theorem kept_put2 {s s2:St} {d:Option Nat} {v:AV} {k:Lk}:jta (s.put d v) (s2.put d v) k↔jta s s2 k:=by cases k<;>cases d<;>exact Iff.rfl
theorem jw7 {s:St} {d:Option Nat} {v:AV} {k:Lk}:jta (s.put d v) s k:=by cases k<;>cases d<;>first|rfl|exact jkK _ _ _ _
def joo (s s':St) (chk:List Nat):List (Nat×List Lk)->Prop
 |[]=>True
 |(p,ids)::l=>(if chk.contains p then jrK s s' ids else True)/\joo s s' chk l
def zD (P:Program) (β:Nat):T->List (Nat×List Lk)->St->(St->Prop)->Prop
 |.done,_,s,K=>K s
 |.stop,_,_,_=>True
 |.pure p i t,l,s,K=>match zi s i.g with
  |some true=>vp P β i s λs'=>zD P β t ((p,i.i.looks s)::l) s' K
  |some false=>zD P β t l (s.put i.d (.c (.v undef))) K
  |none=>False
 |.alt i chk t rest,l,s,K=>(match zi s i.g with
  |some true=>vp P β i s λs'=>joo s s' chk l/\zD P β t l s' K
  |some false=>zD P β t l (s.put i.d (.c (.v undef))) K
  |none=>False)/\zD P β rest l s K
def Wk (s s':St):Prop:=∀(B N:Nat) (w0 w:World) (a:Act) (F:Nat->List Nat),RelF B w0 N s a w F->∃F':Nat->List Nat,RelF B w0 N s' a w F'/\∀g,∀b∈F' g,∃g',b∈F g'
def WkK (s:St) (K:St->Prop):Prop:=∀(B N:Nat) (w0 w:World) (a:Act) (F:Nat->List Nat),RelF B w0 N s a w F->∃(s':St) (F':Nat->List Nat),RelF B w0 N s' a w F'/\K s'
inductive Ex where
 |normal
 |exit (id:Nat)
 |ret
def Ex.thn (next:St->Prop) (Q:Ex->St->Prop):Ex->St->Prop
 |.normal,s=>next s
 |.exit id,s=>Q (.exit id) s
 |.ret,s=>Q .ret s
def Ex.inBlk (id:Nat) (Q:Ex->St->Prop):Ex->St->Prop
 |.exit id',s=>if id'=id then Q .normal s else Q (.exit id') s
 |.normal,s=>Q .normal s
 |.ret,s=>Q .ret s
def wpC (P:Program) (β:Nat):C->(Ex->St->Prop)->St->Prop
 |.skip,Q,s=>Q .normal s
 |.reg is,Q,s=>jhV P β is s (Q .normal)
 |.dreg t,Q,s=>zD P β t [] s (Q .normal)
 |.seq a b,Q,s=>wpC P β a (Ex.thn (wpC P β b Q) Q) s
 |.cond x a b,Q,s=>∃t,s.ev x=.c (.v (.bool t))/\(t=true->wpC P β a Q s)/\(t=false->wpC P β b Q s)
 |.blk id a,Q,s=>wpC P β a (Ex.inBlk id Q) s
 |.loop a,Q,s=>∃(ι:Type) (mk:ι->St) (J:ι->Prop) (μ:ι->Nat),(∃i,J i/\Wk s (mk i))/\∀i,J i->wpC P β a (Ex.thn (λs'=>∃i',J i'/\Wk s' (mk i')/\μ i'<μ i) Q) (mk i)
 |.gh a,Q,s=>WkK s (wpC P β a Q)
 |.exit id,Q,s=>Q (.exit id) s
 |.ret,Q,s=>Q .ret s
def jzf (rs:List R) (rt:RT):Ex->St->Prop
 |.exit _,_=>False
 |_,s=>jvs rs rt s
def RetT (rs:List R) (K:RT->(Nat->Ob)->Prop) (s:St):Prop:=jjs s rs λps=>∃rt,ja6 rt ps/\qC s (ps.flatMap (·.2)) λcs s'=>IsD cs rt.flat/\K rt s'.o
def jDQ (rs:List R) (K:RT->(Nat->Ob)->Prop):Ex->St->Prop
 |.exit _,_=>False
 |_,s=>RetT rs K s
def St.start (args:List AV) (o:Nat->Ob):St:=⟨λn=>(args[n]?).getD .unk,o⟩
def jvt (rs:List R) (K:AV->(Nat->Ob)->Prop) (s:St):Prop:=jjs s rs λps=>match ps with
 |[(true,l)]=>K (.agg l) s.o
 |[(false,[a])]=>K (.c a) s.o
 |[]=>K (.tup []) s.o
 |p::q::r=>K (.tup (p::q::r)) s.o
 |_=>False
def jGg (rs:List R) (K:AV->(Nat->Ob)->Prop):Ex->St->Prop
 |.exit _,_=>False
 |_,s=>jvt rs K s
open Go.RowKit
structure Ed where
 src:Int
 dst:Int
 deriving DecidableEq,Inhabited
structure Pl where
 aOL:Int
 aOQ:Int
 aOP:Int
 aOD:Int
 aOI:List Ed
 deriving DecidableEq,Inhabited
structure En where
 aOL:Int
 seq:Int
 run:Int
 aOK:Int
 deriving DecidableEq,Inhabited
structure Tk where
 aOG:Int
 aOO:Int
 tri:Int
 til:Int
 deriving DecidableEq,Inhabited
structure Rn where
 id:Int
 aOF:Pl
 aOG:Int
 aOD:List Tk
 deriving DecidableEq,Inhabited
structure Yd where
 now:Int
 seq:Int
 aOE:List (List En)
 aOH:List Rn
 deriving DecidableEq,Inhabited
structure Dd where
 aON:Int
 run:Int
 aOF:Pl
 aOK:Int
 tri:Int
 aOJ:Int
 aOM:Int
 deriving DecidableEq,Inhabited
abbrev jDU:TypeId:=25
abbrev tSh:TypeId:=24
abbrev tEd:TypeId:=161
abbrev tEn:TypeId:=44
abbrev tTk:TypeId:=46
abbrev tRn:TypeId:=52
abbrev jq4:TypeId:=35
abbrev tDd:TypeId:=60
abbrev tYd:TypeId:=27
abbrev tPl:TypeId:=49
abbrev jes:TypeId:=3
abbrev iv (n:Int):D:=.val (.int .i64 n)
def jc (l:List Int):D:=.sl 1 jes (l.flatMap λn=>[iv n])
def kb (e:Ed):List D:=[iv e.src,iv e.dst]
def jn (l:List Ed):D:=.sl 2 tEd (l.flatMap kb)
def je (p:Pl):List D:=[iv p.aOL,iv p.aOQ,iv p.aOP,iv p.aOD,jn p.aOI]
def jj (e:En):List D:=[iv e.aOL,iv e.seq,iv e.run,iv e.aOK]
def jf (l:List En):D:=.sl 4 tEn (l.flatMap jj)
def jz (t:Tk):List D:=[iv t.aOG,iv t.aOO,iv t.tri,iv t.til]
def ju (l:List Tk):D:=.sl 4 tTk (l.flatMap jz)
def jd (r:Rn):List D:=iv r.id::(je r.aOF++[iv r.aOG,ju r.aOD])
def jG (l:List Rn):D:=.sl 8 tRn (l.flatMap jd)
def ke (l:List (List En)):D:=.sl 1 jq4 (l.flatMap λes=>[jf es])
def jb (y:Yd):List D:=[iv y.now,iv y.seq,ke y.aOE,jG y.aOH]
def kN (d:Dd):List D:=iv d.aON::iv d.run::(je d.aOF++[iv d.aOK,iv d.tri,iv d.aOJ,iv d.aOM])
def jeV (l:List Dd):D:=.sl 11 tDd (l.flatMap kN)
section
variable {w:World} {own:Bool} {vs:List Value} {v:Value} {S:List Nat}
theorem jco {e:En} (h:RepL w own (jj e) vs S):vs=[.int .i64 e.aOL,.int .i64 e.seq,.int .i64 e.run,.int .i64 e.aOK]/\S=[]:=by
 obtain ⟨_,rfl,g1⟩:=RepL.val_inv h;obtain ⟨_,rfl,g2⟩:=RepL.val_inv g1;obtain ⟨_,rfl,g3⟩:=RepL.val_inv g2;obtain ⟨_,rfl,g4⟩:=RepL.val_inv g3;obtain ⟨rfl,rfl⟩:=g4;exact ⟨rfl,rfl⟩
theorem jea {e:Tk} (h:RepL w own (jz e) vs S):vs=[.int .i64 e.aOG,.int .i64 e.aOO,.int .i64 e.tri,.int .i64 e.til]/\S=[]:=by
 obtain ⟨_,rfl,g1⟩:=RepL.val_inv h;obtain ⟨_,rfl,g2⟩:=RepL.val_inv g1;obtain ⟨_,rfl,g3⟩:=RepL.val_inv g2;obtain ⟨_,rfl,g4⟩:=RepL.val_inv g3;obtain ⟨rfl,rfl⟩:=g4;exact ⟨rfl,rfl⟩
theorem jts {e:Ed} (h:RepL w own (kb e) vs S):vs=[.int .i64 e.src,.int .i64 e.dst]/\S=[]:=by
 obtain ⟨_,rfl,g1⟩:=RepL.val_inv h;obtain ⟨_,rfl,g2⟩:=RepL.val_inv g1;obtain ⟨rfl,rfl⟩:=g2;exact ⟨rfl,rfl⟩
theorem jeh {p:Pl} (h:RepL w own (je p) vs S):∃ev,vs=[.int .i64 p.aOL,.int .i64 p.aOQ,.int .i64 p.aOP,.int .i64 p.aOD,ev]/\Rep w own (jn p.aOI) ev S:=by
 obtain ⟨_,rfl,g1⟩:=RepL.val_inv h;obtain ⟨_,rfl,g2⟩:=RepL.val_inv g1;obtain ⟨_,rfl,g3⟩:=RepL.val_inv g2;obtain ⟨_,rfl,g4⟩:=RepL.val_inv g3;obtain ⟨ev,_,S1,S2,rfl,rfl,h1,rfl,rfl⟩:=g4;exact ⟨ev,rfl,by simpa using h1⟩
theorem vE {r:Rn} (h:RepL w own (jd r) vs S):∃ev tv S1 S2,vs=[.int .i64 r.id,.int .i64 r.aOF.aOL,.int .i64 r.aOF.aOQ,.int .i64 r.aOF.aOP,.int .i64 r.aOF.aOD,ev,.int .i64 r.aOG,tv]
 /\Rep w own (jn r.aOF.aOI) ev S1/\Rep w own (ju r.aOD) tv S2/\S=S1++S2:=by
 obtain ⟨_,rfl,g1⟩:=RepL.val_inv h;obtain ⟨v1,v2,S1,S2,rfl,rfl,h1,h2⟩:=RepL.append_inv _ g1;obtain ⟨ev,rfl,k1⟩:=jeh h1;obtain ⟨_,rfl,g2⟩:=RepL.val_inv h2;obtain ⟨tv,_,S3,S4,rfl,rfl,h3,rfl,rfl⟩:=g2;exact ⟨ev,tv,S1,S3,rfl,k1,h3,by simp⟩
theorem qW {y:Yd} (h:RepL w own (jb y) vs S):∃sv rv S1 S2,vs=[.int .i64 y.now,.int .i64 y.seq,sv,rv]/\Rep w own (ke y.aOE) sv S1/\Rep w own (jG y.aOH) rv S2/\S=S1++S2:=by
 obtain ⟨_,rfl,g1⟩:=RepL.val_inv h;obtain ⟨_,rfl,g2⟩:=RepL.val_inv g1;obtain ⟨sv,_,S1,S2,rfl,rfl,h1,k⟩:=g2;obtain ⟨rv,_,S3,S4,rfl,rfl,h3,rfl,rfl⟩:=k;exact ⟨sv,rv,S1,S3,rfl,h1,h3,by simp⟩
theorem jtv {d:Dd} (h:RepL w own (kN d) vs S):∃ev,vs=[.int .i64 d.aON,.int .i64 d.run,.int .i64 d.aOF.aOL,.int .i64 d.aOF.aOQ,.int .i64 d.aOF.aOP,.int .i64 d.aOF.aOD,ev,.int .i64 d.aOK,.int .i64 d.tri,.int .i64 d.aOJ,.int .i64 d.aOM]
 /\Rep w own (jn d.aOF.aOI) ev S:=by
 obtain ⟨_,rfl,g1⟩:=RepL.val_inv h;obtain ⟨_,rfl,g2⟩:=RepL.val_inv g1;obtain ⟨v1,v2,S1,S2,rfl,rfl,h1,h2⟩:=RepL.append_inv _ g2;obtain ⟨ev,rfl,k1⟩:=jeh h1;obtain ⟨_,rfl,g3⟩:=RepL.val_inv h2;obtain ⟨_,rfl,g4⟩:=RepL.val_inv g3;obtain ⟨_,rfl,g5⟩:=RepL.val_inv g4;obtain ⟨_,rfl,g6⟩:=RepL.val_inv g5;obtain ⟨rfl,rfl⟩:=g6;exact ⟨ev,rfl,by simpa using k1⟩
theorem jz8 (w:World) (own:Bool) (e:En):RepL w own (jj e) [.int .i64 e.aOL,.int .i64 e.seq,.int .i64 e.run,.int .i64 e.aOK] []:=RepL.val_ (RepL.val_ (RepL.val_ (RepL.val_ RepL.nil_)))
theorem jwF {p:Pl} {ev:Value} (h:Rep w own (jn p.aOI) ev S):RepL w own (je p) [.int .i64 p.aOL,.int .i64 p.aOQ,.int .i64 p.aOP,.int .i64 p.aOD,ev] S:=by
 have:=RepL.val_ (u:=.int .i64 p.aOL) (RepL.val_ (u:=.int .i64 p.aOQ) (RepL.val_ (u:=.int .i64 p.aOP) (RepL.val_ (u:=.int .i64 p.aOD) (RepL.cons_ h (RepL.nil_ (w:=w) (own:=own))))))
 rwa [aPR] at this
theorem jEz {r:Rn} {ev tv:Value} {S1 S2:List Nat} (h:Rep w own (jn r.aOF.aOI) ev S1) (h2:Rep w own (ju r.aOD) tv S2):
 RepL w own (jd r) [.int .i64 r.id,.int .i64 r.aOF.aOL,.int .i64 r.aOF.aOQ,.int .i64 r.aOF.aOP,.int .i64 r.aOF.aOD,ev,.int .i64 r.aOG,tv] (S1++S2):=by
 have:=RepL.val_ (u:=.int .i64 r.id) (RepL.append_ _ (jwF h) (RepL.val_ (u:=.int .i64 r.aOG) (RepL.cons_ h2 (RepL.nil_ (w:=w) (own:=own)))))
 rwa [aPR] at this
theorem jaF {y:Yd} {sv rv:Value} {S1 S2:List Nat} (h:Rep w own (ke y.aOE) sv S1) (h2:Rep w own (jG y.aOH) rv S2):
 RepL w own (jb y) [.int .i64 y.now,.int .i64 y.seq,sv,rv] (S1++S2):=by
 have:=RepL.val_ (u:=.int .i64 y.now) (RepL.val_ (u:=.int .i64 y.seq) (RepL.cons_ h (RepL.cons_ h2 (RepL.nil_ (w:=w) (own:=own)))))
 rwa [aPR] at this
end
theorem jgR {α:Type} {l m:List α} {k:Nat} {x:α} (hx:l[k]?=some x) (hy:m[k]?=some x) (h:l.take k=m.take k):l.take (k+1)=m.take (k+1):=by
 rw [aPE,aPE,h,hx,hy]
theorem jqr {α:Type} {l m:List α} {k:Nat} {x y:α} (hx:l[k]?=some x) (hy:m[k]?=some y) (h:x≠y):l≠m:=by
 intro e;subst e;rw [hx] at hy;exact h (aPJ hy)
theorem jgS {α:Type} {l m:List α} {k:Nat} (hl:l.length<=k) (hm:m.length<=k) (h:l.take k=m.take k):l=m:=by
 rwa [aOW hl,aOW hm] at h
theorem ja {α:Type} {l:List α} {k:Nat} (h:k<l.length):∃x,l[k]?=some x:=⟨l[k],aOV h⟩
theorem jH {b b':Bool} (h:b=b'):Ending.returned (.bool b)=Ending.returned (.bool b'):=by rw [h]
theorem jrQ {P:Program} {e:TypeId} {size bytes:Nat} {z:Value} (h:(P.info? e).map (λi=>(i.zero,i.size,i.bytes))=some (some z,size,bytes)):
 ∃i zv,P.info? e=some i/\i.zero=some zv/\zv.cells=z.cells/\i.size=size/\i.bytes=bytes:=by
 cases hq:P.info? e with
 |none=>rw [hq] at h;simp at h
 |some i=>
  rw [hq] at h;simp at h;exact ⟨i,z,rfl,h.1,rfl,h.2.1,h.2.2⟩
theorem cb {P:Program} {f:FuncId} {args:Array Value} {w:World} {b b':Bool} (h:Calls P f args w λe w'=>e=.returned (.bool b)/\Below w.heap.size w w') (hb:b=b'):Calls P f args w λe w'=>e=.returned (.bool b')/\Below w.heap.size w w':=by subst hb;exact h
theorem zC {W w1:World} (hb:Below W.heap.size W w1):(∀b o,b<W.heap.size->w1.cell? ⟨b,o,none⟩=W.cell? ⟨b,o,none⟩)/\(∀b o,b<W.heap.size->w1.frozen? ⟨b,o,none⟩=W.frozen? ⟨b,o,none⟩):=
 ⟨λb o h=>hb.cell (p:=⟨b,o,none⟩) h,λb o h=>hb.frozen (p:=⟨b,o,none⟩) h⟩
theorem jon {w:World} {own:Bool} {d:D} {v:Value} {S:List Nat} {p:Addr} {u:Value} (h:Rep w own d v S) (hp:∀b∈S,b≠p.block):Rep (w.setCell p u) own d v S:=
 Rep.keep d h λb hb=>Below.heap_setCell w p u b (hp b hb)
theorem Rep.form {w:World} {own:Bool} {size:Nat} {ty:TypeId} {cs:List D} {v:Value} {S:List Nat} (h:Rep w own (.sl size ty cs) v S):∃A n c,v=.slice A n c:=by
 obtain ⟨vs,T,S',hr,_,_⟩:=h;obtain ⟨_,A,n,c,rfl,_⟩:=hr.ro;exact ⟨A,n,c,rfl⟩
def vh {α:Type} (tot:α->Nat) (l:List α):Nat:=(l.map tot).sum
theorem jku {α:Type} (tot:α->Nat) (l m:List α):vh tot (l++m)=vh tot l+vh tot m:=by simp [vh]
theorem zp {α:Type} {tot:α->Nat} {l:List α} {k:Nat} {x:α} (h:l[k]?=some x):vh tot (l.take (k+1))=vh tot (l.take k)+tot x:=by
 rw [aPE,h,jku];simp [vh]
theorem jaP {α:Type} (tot:α->Nat) (l:List α) (k:Nat):vh tot (l.take k)<=vh tot l:=by
 conv=>rhs;rw [<-aQR k l,jku]
 exact aSG _ _
def jf9 (p:Pl):Nat:=p.aOI.length
def qH (r:Rn):Nat:=jf9 r.aOF+r.aOD.length
def zb (l:List En):Nat:=l.length
def jbG (l:List (List En)):Nat:=l.length+vh zb l
def jaQ (l:List Rn):Nat:=l.length+vh qH l
def jB (y:Yd):Nat:=jbG y.aOE+jaQ y.aOH
def jjr (d:Dd):Nat:=jf9 d.aOF
theorem jh4 {a b:Int} (h:a=b):Ending.returned (.int .i64 a)=Ending.returned (.int .i64 b):=by rw [h]
def jh2 (rs:List Rn) (id:Int):Int:=match rs.findIdx? (λr=>r.id==id) with
 |some k=>k
 |none=>-1
def runAt (y:Yd) (id:Int):Int:=if 8<y.aOH.length then -1 else jh2 y.aOH id
theorem jce {rs:List Rn} {id:Int} {k:Nat} {x:Rn} (hx:rs[k]?=some x) (h:x.id=id) (eA:∀j,j<k->∀z,rs[j]?=some z->z.id≠id):jh2 rs id=k:=by
 have hk:k<rs.length:=(aOS.1 hx).1
 have:rs.findIdx? (λr=>r.id==id)=some k:=by
  rw [List.findIdx?_eq_some_iff_getElem];refine ⟨hk,?_,λj hj=>?_⟩
  ·rw [aOV hk] at hx
   simp only [Option.some.injEq] at hx;simp [hx,h]
  ·have:=eA j hj rs[j] (aOV (by omega))
   simpa using this
 simp [jh2,this]
theorem jed {rs:List Rn} {id:Int} (eA:∀j,j<rs.length->∀z,rs[j]?=some z->z.id≠id):jh2 rs id=-1:=by
 have:rs.findIdx? (λr=>r.id==id)=none:=by
  rw [List.findIdx?_eq_none_iff];intro x hx;obtain ⟨j,hj,rfl⟩:=aPY hx;simpa using eA j hj rs[j] (aOV hj)
 simp [jh2,this]
theorem jkO (rs:List Rn) (id:Int):(∃(k:Nat) (x:Rn),rs[k]?=some x/\x.id=id/\(∀j,j<k->∀z,rs[j]?=some z->z.id≠id)/\jh2 rs id=k)\/((∀x∈rs,x.id≠id)/\jh2 rs id=-1):=by
 cases h:rs.findIdx? (λr=>r.id==id) with
 |none=>
  right;rw [List.findIdx?_eq_none_iff] at h;have h':∀x∈rs,x.id≠id:=λx hx=>by simpa using h x hx
  exact ⟨h',jed λj hj z hz=>h' z (aOT hz)⟩
 |some k=>
  left;rw [List.findIdx?_eq_some_iff_getElem] at h;obtain ⟨hk,h1,h2⟩:=h;have hx:rs[k]?=some rs[k]:=aOV hk;have dG:rs[k].id=id:=by simpa using h1
  have eA:∀j,j<k->∀z,rs[j]?=some z->z.id≠id:=λj hj z hz=>by
   have:=h2 j hj;rw [aOV (by omega)] at hz
   simp only [Option.some.injEq] at hz;subst hz;simpa using this
  exact ⟨k,rs[k],hx,dG,eA,jce hx dG eA⟩
def jaR (y:Yd) (id aOK:Int):Option Tk:=
 if runAt y id<0 then none else match y.aOH[(runAt y id).toNat]? with
 |some r=>if 0<=aOK then r.aOD[aOK.toNat]? else none
 |none=>none
def jJ (y:Yd) (e:En):Bool:=match jaR y e.run e.aOK with
 |some t=>t.aOG==2
 |none=>false
def vu (y:Yd) (id aOK tri:Int):Bool:=match jaR y id aOK with
 |some t=>t.aOG==3&&t.tri==tri
 |none=>false
theorem zc (y:Yd) (id aOK:Int):(runAt y id=-1/\jaR y id aOK=none)\/
 (∃(k:Nat) (r:Rn),runAt y id=k/\y.aOH[k]?=some r/\((¬(0<=aOK/\aOK<=(r.aOD.length:Int)-1)/\jaR y id aOK=none)\/
  (∃(j:Nat) (t:Tk),aOK=j/\r.aOD[j]?=some t/\jaR y id aOK=some t))):=by
 have h1:runAt y id=-1\/∃(k:Nat) (r:Rn),runAt y id=k/\y.aOH[k]?=some r:=by
  unfold runAt;split
  ·exact .inl rfl
  ·rcases jkO y.aOH id with ⟨k,x,hx,_,_,he⟩|⟨_,he⟩
   ·exact .inr ⟨k,x,he,hx⟩
   ·exact .inl he
 rcases h1 with h|⟨k,r,h,hr⟩
 ·exact .inl ⟨h,by unfold jaR;rw [if_pos (by omega)]⟩
 ·right
  refine ⟨k,r,h,hr,?_⟩
  have e:jaR y id aOK=if 0<=aOK then r.aOD[aOK.toNat]? else none:=by
   unfold jaR;rw [if_neg (by omega),h,aPB,hr]
  by_cases h0:0<=aOK
  ·rw [if_pos h0] at e
   by_cases hl:aOK.toNat<r.aOD.length
   ·right
    exact ⟨aOK.toNat,r.aOD[aOK.toNat],by omega,aOV hl,by rw [e,aOV hl]⟩
   ·left
    exact ⟨by omega,by rw [e,aQQ (by omega)]⟩
  ·left
   rw [if_neg h0] at e;exact ⟨by omega,e⟩
def kL (r:Rn):Nat:=if r.aOG=1 then r.aOD.length else 0
def qi (y:Yd) (l:List En):Nat:=l.countP (λe=>!jJ y e)
def zY (y:Yd):List En:=y.aOE.flatten
def kG (y:Yd):Int:=vh kL y.aOH+qi y (zY y)
def kX (y:Yd) (p:Pl):Bool:=decide (y.aOH.length<8)&&(decide (0<=p.aOD/\p.aOD<=12)&&(decide (kG y+p.aOD<=40)&&decide (y.seq<=1000000000-1000-p.aOD)))
theorem jkt (l:List Rn):vh kL l<=vh qH l:=by
 induction l with
 |nil=>simp [vh]
 |cons r l ih=>
  have h:kL r<=qH r:=by unfold kL qH;split<;>omega
  simp only [vh,aQX,aRV] at*;omega
theorem vz (l:List (List En)):l.flatten.length=vh zb l:=by
 induction l with
 |nil=>simp [vh]
 |cons r l ih=>simp only [aSB,aOU,vh,aQX,aRV,zb] at*;omega
theorem jnF (y:Yd) (l:List En):qi y l<=l.length:=List.countP_le_length
theorem jmH {y:Yd} {l:List En} {k:Nat} {e:En} (h:l[k]?=some e):qi y (l.take (k+1))=qi y (l.take k)+(if jJ y e then 0 else 1):=by
 unfold qi;rw [aPE,h,List.countP_append];cases hf:jJ y e<;>simp [hf]
theorem jmG (y:Yd) (l:List En) (k:Nat):qi y (l.take k)<=qi y l:=by
 unfold qi;exact (List.take_sublist k l).countP_le
theorem jbU {l:List (List En)} {k:Nat} {es:List En} (h:l[k]?=some es):(l.take (k+1)).flatten=(l.take k).flatten++es:=by
 rw [aPE,h,List.flatten_append];simp
section
variable {P:Program} {β:Nat} {s:St} {K:St->Prop} {Q:Ex->St->Prop} {d:Option Nat} {g:Option (Nat×Bool)}
theorem ev_t (n:Nat):s.ev (.t n)=s.t n:=(rfl)
theorem ev_i (k:IntKind) (n:Int):s.ev (.c (.int k n))=.c (.v (.int k n)):=(rfl)
theorem ev_b (b:Bool):s.ev (.c (.bool b))=.c (.v (.bool b)):=(rfl)
theorem ev_s (b:ByteArray):s.ev (.c (.string b))=.c (.v (.string b)):=(rfl)
theorem ev_n:s.ev (.c (.slice none 0 0))=.c (.v (.slice none 0 0)):=(rfl)
theorem put_t (k n:Nat) (v:AV):(s.put (some k) v).t n=if n=k then v else s.t n:=(rfl)
theorem put_o (v:AV) (n:Nat):(s.put d v).o n=s.o n:=by cases d<;>rfl
theorem jEg (k:Nat) (ob:Ob) (n:Nat):(s.setO k ob).t n=s.t n:=(rfl)
theorem jEh (k:Nat) (ob:Ob) (n:Nat):(s.setO k ob).o n=if n=k then ob else s.o n:=(rfl)
theorem jAw:s.addO []=s:=(rfl)
theorem jyo (k:Nat) (ob:Ob) (l:List (Nat×Ob)):s.addO ((k,ob)::l)=(s.setO k ob).addO l:=(rfl)
theorem jyC:wpC P β .skip Q s=Q .normal s:=(rfl)
theorem jDL (is:List Ins):wpC P β (.reg is) Q s=jhV P β is s (Q .normal):=(rfl)
theorem jqY (a b:C):wpC P β (.seq a b) Q s=wpC P β a (Ex.thn (wpC P β b Q) Q) s:=(rfl)
theorem jAB (id:Nat) (a:C):wpC P β (.blk id a) Q s=wpC P β a (Ex.inBlk id Q) s:=(rfl)
theorem jyD (id:Nat):wpC P β (.exit id) Q s=Q (.exit id) s:=(rfl)
theorem jBA:wpC P β .ret Q s=Q .ret s:=(rfl)
theorem jvx {x:X} (a b:C) (h:s.ev x=.c (.v (.bool true))):wpC P β (.cond x a b) Q s=wpC P β a Q s:=by simp [wpC,h]
theorem jvy {x:X} (a b:C) (h:s.ev x=.c (.v (.bool false))):wpC P β (.cond x a b) Q s=wpC P β b Q s:=by simp [wpC,h]
theorem thn_n (next:St->Prop):Ex.thn next Q .normal s=next s:=(rfl)
theorem thn_e (next:St->Prop) (id:Nat):Ex.thn next Q (.exit id) s=Q (.exit id) s:=(rfl)
theorem thn_r (next:St->Prop):Ex.thn next Q .ret s=Q .ret s:=(rfl)
theorem blk_n (id:Nat):Ex.inBlk id Q .normal s=Q .normal s:=(rfl)
theorem blk_r (id:Nat):Ex.inBlk id Q .ret s=Q .ret s:=(rfl)
theorem blk_e (id id':Nat):Ex.inBlk id Q (.exit id') s=if id'=id then Q .normal s else Q (.exit id') s:=(rfl)
theorem jy8:jhV P β [] s K=K s:=(rfl)
theorem jwb (i:I) (l:List Ins):jhV P β (⟨d,none,i⟩::l) s K=vp P β ⟨d,none,i⟩ s (λs'=>jhV P β l s' K):=(rfl)
theorem jB5 {t:Nat} (i:I) (l:List Ins) (h:s.t t=.c (.v (.bool true))):jhV P β (⟨d,some (t,true),i⟩::l) s K=vp P β ⟨d,some (t,true),i⟩ s (λs'=>jhV P β l s' K):=by simp [jhV,zi,h]
theorem jB6 {t:Nat} (i:I) (l:List Ins) (h:s.t t=.c (.v (.bool false))):jhV P β (⟨d,some (t,true),i⟩::l) s K=jhV P β l (s.put d (.c (.v undef))) K:=by simp [jhV,zi,h]
theorem jB7 {t:Nat} (i:I) (l:List Ins) (h:s.t t=.c (.v (.bool true))):jhV P β (⟨d,some (t,false),i⟩::l) s K=jhV P β l (s.put d (.c (.v undef))) K:=by simp [jhV,zi,h]
theorem jB8 {t:Nat} (i:I) (l:List Ins) (h:s.t t=.c (.v (.bool false))):jhV P β (⟨d,some (t,false),i⟩::l) s K=vp P β ⟨d,some (t,false),i⟩ s (λs'=>jhV P β l s' K):=by simp [jhV,zi,h]
def I.writes:I->Bool
 |.box ..|.bsl ..|.st ..|.app ..|.apps ..|.clr ..|.call ..|.callv ..=>true
 |_=>false
theorem jBd {i:I} {av:AV} {os:List (Nat×Ob)} (hw:i.writes=false) (h:∀rt st av' os',Gen P s (β+d.getD 0) rt st i av' os'↔av'=av/\os'=os):
 vp P β ⟨d,g,i⟩ s K=K ((s.addO os).put d av):=by
 have e:vp P β ⟨d,g,i⟩ s K=(∃rt,∀st,∃av os,Gen P s (β+d.getD 0) rt st i av os/\K ((s.addO os).put d av)):=by
  cases i<;>first|rfl|cases hw
 rw [e]
 apply propext
 constructor
 ·rintro ⟨rt,h1⟩
  obtain ⟨av',os',h2,h3⟩:=h1 ⟨0,λ_ _=>undef⟩
  obtain ⟨rfl,rfl⟩:=(h _ _ _ _).1 h2;exact h3
 ·intro h1
  exact ⟨.c (.val undef),λst=>⟨_,_,(h _ _ _ _).2 ⟨rfl,rfl⟩,h1⟩⟩
theorem jzV {i:I} {av:AV} (hw:i.writes=false) (h:∀rt st av' os',Gen P s (β+d.getD 0) rt st i av' os'↔av'=av/\os'=[]):vp P β ⟨d,g,i⟩ s K=K (s.put d av):=jBd hw h
theorem jB1 (x:X):vp P β ⟨d,g,.mov x⟩ s K=K (s.put d (s.ev x)):=jzV rfl λ_ _ _ _=>Iff.rfl
theorem jC3 {i:I} {p:Prop} {av:AV} (hw:i.writes=false) (h:∀rt st av' os',Gen P s (β+d.getD 0) rt st i av' os'↔p/\av'=av/\os'=[]):vp P β ⟨d,g,i⟩ s K=(p/\K (s.put d av)):=by
 by_cases hp:p
 ·rw [jzV hw (av:=av) λrt st av' os'=>by rw [h];simp [hp]];simp [hp]
 ·have e:vp P β ⟨d,g,i⟩ s K=(∃rt,∀st,∃av os,Gen P s (β+d.getD 0) rt st i av os/\K ((s.addO os).put d av)):=by
   cases i<;>first|rfl|cases hw
  rw [e]
  apply propext
  constructor
  ·rintro ⟨rt,h1⟩
   obtain ⟨av',os',h2,_⟩:=h1 ⟨0,λ_ _=>undef⟩
   exact absurd ((h _ _ _ _).1 h2).1 hp
  ·exact λh=>absurd h.1 hp
theorem jtj {i:I} (hw:i.writes=false) (h:∀rt st av' os',¬Gen P s (β+d.getD 0) rt st i av' os'):vp P β ⟨d,g,i⟩ s K=False:=by
 have e:vp P β ⟨d,g,i⟩ s K=(∃rt,∀st,∃av os,Gen P s (β+d.getD 0) rt st i av os/\K ((s.addO os).put d av)):=by
  cases i<;>first|rfl|cases hw
 rw [e]
 apply propext
 constructor
 ·rintro ⟨rt,h1⟩
  obtain ⟨av',os',h2,_⟩:=h1 ⟨0,λ_ _=>undef⟩
  exact absurd h2 (h _ _ _ _)
 ·exact False.elim
def jCv (d:Option Nat) (s:St) (K:St->Prop) (c a b:AV):Prop:=match c with
 |.c (.v (.bool t))=>K (s.put d (if t then a else b))
 |_=>False
theorem jy7 (c a b:X):vp P β ⟨d,g,.pick c a b⟩ s K=jCv d s K (s.ev c) (s.ev a) (s.ev b):=by
 unfold jCv;split
 ·exact jzV rfl λ_ _ _ _=>by simp [Gen, *]
 ·rename_i h
  exact jtj rfl λ_ _ _ _ ⟨t,h1,_⟩=>h t h1
theorem jEX (t:Bool) (a b:AV):jCv d s K (.c (.v (.bool t))) a b=K (s.put d (if t then a else b)):=(rfl)
def faK (d:Option Nat) (s:St) (K:St->Prop) (off:Nat):AV->Prop
 |.c (.rp ds)=>K (s.put d (.c (.rp (ds.drop off))))
 |.c (.bp g c b)=>K (s.put d (.c (.bp g (c+off) b)))
 |.c (.ep g c p i x)=>K (s.put d (.c (.ep g c p (i+off) x)))
 |_=>False
theorem jEq (off:Nat) (x:X):vp P β ⟨d,g,.fa off x⟩ s K=faK d s K off (s.ev x):=by
 cases h:s.ev x with
 |c a=>cases a<;>first|exact jzV rfl (λ_ _ _ _=>by simp [Gen,h])|exact jtj rfl (λ_ _ _ _=>by simp [Gen,h])
 |_=>exact jtj rfl (λ_ _ _ _=>by simp [Gen,h])
theorem jFB (off:Nat) (ds:List D):faK d s K off (.c (.rp ds))=K (s.put d (.c (.rp (ds.drop off)))):=(rfl)
theorem jFD (off k c b:Nat):faK d s K off (.c (.bp k c b))=K (s.put d (.c (.bp k (c+off) b))):=(rfl)
theorem jFC (off k c:Nat) (p:List Nat) (i:Nat) (x:Value):faK d s K off (.c (.ep k c p i x))=K (s.put d (.c (.ep k c p (i+off) x))):=(rfl)
def ldV:Bool->List A0->(AV->Prop)->Prop
 |true,l,k=>k (.agg l)
 |false,[a],k=>k (.c a)
 |false,_,_=>False
theorem ldV_t (l:List A0) (k:AV->Prop):ldV true l k=k (.agg l):=(rfl)
theorem ldV_f (a:A0) (k:AV->Prop):ldV false [a] k=k (.c a):=(rfl)
def ldB (ob:Ob) (g c b n:Nat) (k:List A0->Prop):Prop:=match ob with
 |.box b' _ cs=>b'=b/\c+n<=cs.length/\k (jeu g c ((cs.drop c).take n))
 |_=>False
theorem ldB_ (b' ty:Nat) (cs:List Cell) (k c b n:Nat) (K:List A0->Prop):ldB (.box b' ty cs) k c b n K=(b'=b/\c+n<=cs.length/\K (jeu k c ((cs.drop c).take n))):=(rfl)
def ldK (d:Option Nat) (s:St) (K:St->Prop) (agg:Bool) (n:Nat):AV->Prop
 |.c (.rp ds)=>n<=ds.length/\ldV agg ((ds.take n).map D.toRo) λv=>K (s.put d v)
 |.c (.bp g c b)=>ldB (s.o g) g c b n λl=>ldV agg l λv=>K (s.put d v)
 |.c (.ep g c p i x)=>∃d0 η dd,(s.o g).own c=some (d0,η)/\η p=x/\D.get p d0=some dd/\dd.isSl=true/\i+n<=dd.cells.length/\ldV agg (jig g c p η i ((dd.cells.drop i).take n)) λv=>K (s.put d v)
 |_=>False
theorem jEn (agg:Bool) (n:Nat) (x:X):vp P β ⟨d,g,.ld agg n x⟩ s K=ldK d s K agg n (s.ev x):=by
 have e:vp P β ⟨d,g,.ld agg n x⟩ s K=(∃rt:RT,∀st:jyp,∃av os,(∃l,jaE s n l (s.ev x)/\(if agg then av=.agg l else∃a,l=[a]/\av=.c a)/\os=[])/\K ((s.addO os).put d av)):=rfl
 have h1:∀l,(∃av os,((if agg then av=.agg l else∃a,l=[a]/\av=.c a)/\os=[])/\K ((s.addO os).put d av))↔ldV agg l λv=>K (s.put d v):=λl=>by
  cases agg
  ·rcases l with _|⟨a,_|⟨b,l⟩⟩
   ·simp [ldV]
   ·simp only [ldV]
    constructor
    ·rintro ⟨_,_,⟨h,rfl⟩,h3⟩;simp at h;subst h;exact h3
    ·intro h3;exact ⟨_,_,⟨by simp,rfl⟩,h3⟩
   ·simp [ldV]
  ·simp only [ldV]
   constructor
   ·rintro ⟨_,_,⟨h,rfl⟩,h3⟩;simp at h;subst h;exact h3
   ·intro h3;exact ⟨_,_,⟨by simp,rfl⟩,h3⟩
 have e2:vp P β ⟨d,g,.ld agg n x⟩ s K↔∃l,jaE s n l (s.ev x)/\ldV agg l λv=>K (s.put d v):=by
  rw [e];constructor
  ·rintro ⟨_,h⟩
   obtain ⟨av,os,⟨l,h2,h3⟩,h4⟩:=h ⟨0,λ_ _=>undef⟩
   exact ⟨l,h2,(h1 l).1 ⟨av,os,h3,h4⟩⟩
  ·rintro ⟨l,h2,h3⟩
   refine ⟨.c (.val undef),λ_=>?_⟩
   obtain ⟨av,os,h4,h5⟩:=(h1 l).2 h3;exact ⟨av,os,⟨l,h2,h4⟩,h5⟩
 apply propext
 rw [e2];cases h:s.ev x with
 |c a=>
  cases a with
  |bp k c b=>
   simp only [jaE,ldK,ldB];cases ho:s.o k<;>simp
   constructor
   ·rintro ⟨l,⟨_,_,⟨rfl,_,rfl⟩,h2,rfl⟩,h3⟩;exact ⟨rfl,h2,h3⟩
   ·rintro ⟨rfl,h2,h3⟩;exact ⟨_,⟨_,_,⟨rfl,rfl,rfl⟩,h2,rfl⟩,h3⟩
  |rp ds=>
   simp only [jaE,ldK];constructor
   ·rintro ⟨l,⟨h2,rfl⟩,h3⟩;exact ⟨h2,h3⟩
   ·rintro ⟨h2,h3⟩;exact ⟨_,⟨h2,rfl⟩,h3⟩
  |ep k c p i x=>
   simp only [jaE,ldK];constructor
   ·rintro ⟨l,⟨d0,η,dd,h2,h3,h4,h7,h5,rfl⟩,h6⟩;exact ⟨d0,η,dd,h2,h3,h4,h7,h5,h6⟩
   ·rintro ⟨d0,η,dd,h2,h3,h4,h7,h5,h6⟩;exact ⟨_,⟨d0,η,dd,h2,h3,h4,h7,h5,rfl⟩,h6⟩
  |_=>simp [jaE,ldK]
 |_=>simp [jaE,ldK]
theorem jFh (agg:Bool) (n:Nat) (ds:List D):ldK d s K agg n (.c (.rp ds))=(n<=ds.length/\ldV agg ((ds.take n).map D.toRo) λv=>K (s.put d v)):=(rfl)
theorem jFi (agg:Bool) (n k c b:Nat):ldK d s K agg n (.c (.bp k c b))=ldB (s.o k) k c b n λl=>ldV agg l λv=>K (s.put d v):=(rfl)
def iaK (d:Option Nat) (s:St) (K:St->Prop) (size:Nat):AV->AV->Prop
 |.c (.ro dd),.c (.v (.int _ n))=>(0<=n/\n.toNat<dd.len/\dd.isSl=true/\dd.size=size)/\K (s.put d (.c (.rp (dd.elem n.toNat))))
 |.c (.hs g c p hx sz lo m),.c (.v (.int _ n))=>(0<=n/\(∃dd,Is s (.hs g c p hx sz lo m) dd)/\sz=size/\n.toNat<m)/\K (s.put d (.c (.ep g c p ((lo+n.toNat)*size) hx)))
 |.c (.h g c p hx),.c (.v (.int _ n))=>(0<=n/\∃dd,Is s (.h g c p hx) dd/\dd.size=size/\n.toNat<dd.len)/\K (s.put d (.c (.ep g c p (n.toNat*size) hx)))
 |_,_=>False
theorem jEo (size:Nat) (x i:X):vp P β ⟨d,g,.ia size x i⟩ s K=iaK d s K size (s.ev x) (s.ev i):=by
 unfold iaK;split
 ·rename_i dd k n h1 h2
  refine jC3 rfl λ_ _ _ _=>?_
  simp only [Gen,h1,h2];constructor
  ·rintro ⟨_,_,he,h3,⟨h4,h5,h6,h7⟩,h8⟩;cases he;exact ⟨⟨h3,h6,h4,h5⟩,h7,h8⟩
  ·rintro ⟨⟨h3,h6,h4,h5⟩,h7,h8⟩;exact ⟨_,_,rfl,h3,⟨h4,h5,h6,h7⟩,h8⟩
 ·rename_i k c p hx sz lo m kk n h1 h2
  refine jC3 rfl λ_ _ _ _=>?_
  simp only [Gen,h1,h2];constructor
  ·rintro ⟨_,_,he,h3,⟨h4,h5,h6,h7⟩,h8⟩;cases he;exact ⟨⟨h3,h4,h5,h6⟩,h7,h8⟩
  ·rintro ⟨⟨h3,h4,h5,h6⟩,h7,h8⟩;exact ⟨_,_,rfl,h3,⟨h4,h5,h6,h7⟩,h8⟩
 ·rename_i k c p hx kk n h1 h2
  refine jC3 rfl λ_ _ _ _=>?_
  simp only [Gen,h1,h2];constructor
  ·rintro ⟨_,_,he,h3,⟨h4,h7⟩,h8⟩;cases he;exact ⟨⟨h3,h4⟩,h7,h8⟩
  ·rintro ⟨⟨h3,h4⟩,h7,h8⟩;exact ⟨_,_,rfl,h3,⟨h4,h7⟩,h8⟩
 ·rename_i h1 h2 lL
  refine jtj rfl λ_ _ _ _=>?_
  simp only [Gen];rintro ⟨k,n,he,h3,h4,_⟩;split at h4
  ·exact h1 _ _ _ (by assumption) he
  ·exact lL _ _ _ _ _ _ (by assumption) he
  ·exact h2 _ _ _ _ _ _ _ _ _ (by assumption) he
  ·exact h4
theorem jFr (size:Nat) (dd:D) (k:IntKind) (n:Int):iaK d s K size (.c (.ro dd)) (.c (.v (.int k n)))=((0<=n/\n.toNat<dd.len/\dd.isSl=true/\dd.size=size)/\K (s.put d (.c (.rp (dd.elem n.toNat))))):=(rfl)
theorem iaK_h (size k c:Nat) (p:List Nat) (hx:Value) (kk:IntKind) (n:Int):iaK d s K size (.c (.h k c p hx)) (.c (.v (.int kk n)))=((0<=n/\∃dd,Is s (.h k c p hx) dd/\dd.size=size/\n.toNat<dd.len)/\K (s.put d (.c (.ep k c p (n.toNat*size) hx)))):=rfl
theorem jlh {i:I} {G:AV->Prop} (hw:i.writes=false) (h:∀rt st av' os',Gen P s (β+d.getD 0) rt st i av' os'↔G av'/\os'=[]):vp P β ⟨d,g,i⟩ s K=∃av,G av/\K (s.put d av):=by
 have e:vp P β ⟨d,g,i⟩ s K=(∃rt,∀st,∃av os,Gen P s (β+d.getD 0) rt st i av os/\K ((s.addO os).put d av)):=by
  cases i<;>first|rfl|cases hw
 rw [e]
 apply propext
 constructor
 ·rintro ⟨_,h1⟩
  obtain ⟨av',os',h2,h3⟩:=h1 ⟨0,λ_ _=>undef⟩
  obtain ⟨h4,rfl⟩:=(h _ _ _ _).1 h2;exact ⟨av',h4,h3⟩
 ·rintro ⟨av,h1,h2⟩
  exact ⟨.c (.val undef),λ_=>⟨av,[],(h _ _ _ _).2 ⟨h1,rfl⟩,h2⟩⟩
def jA7 (d:Option Nat) (s:St) (K:St->Prop) (str:Bool) (a:AV):Prop:=∃av,(∃n,jvn s str a n/\av=.c (.v (.int .i64 (n:Int))))/\K (s.put d av)
theorem jB3 (str:Bool) (x:X):vp P β ⟨d,g,.len str x⟩ s K=jA7 d s K str (s.ev x):=jlh rfl λ_ _ av os=>by
 simp only [Gen];constructor
 ·rintro ⟨n,h1,h2,h3⟩;exact ⟨⟨n,h1,h2⟩,h3⟩
 ·rintro ⟨⟨n,h1,h2⟩,h3⟩;exact ⟨n,h1,h2,h3⟩
theorem jwZ (str:Bool) (a:AV):jA7 d s K str a=∃n,jvn s str a n/\K (s.put d (.c (.v (.int .i64 (n:Int))))):=by
 apply propext
 constructor
 ·rintro ⟨_,⟨n,h1,rfl⟩,h2⟩;exact ⟨n,h1,h2⟩
 ·rintro ⟨n,h1,h2⟩;exact ⟨_,⟨n,h1,rfl⟩,h2⟩
theorem jCJ (dd:D):jA7 d s K false (.c (.ro dd))=((dd.isSl=true/\0<dd.size)/\K (s.put d (.c (.v (.int .i64 dd.len))))):=by
 rw [jwZ]
 apply propext
 constructor
 ·rintro ⟨_,⟨h1,h2,rfl⟩,h3⟩;exact ⟨⟨h1,h2⟩,h3⟩
 ·rintro ⟨⟨h1,h2⟩,h3⟩;exact ⟨_,⟨h1,h2,rfl⟩,h3⟩
theorem jzH (b:ByteArray):jA7 d s K true (.c (.v (.string b)))=K (s.put d (.c (.v (.int .i64 b.size)))):=by
 rw [jwZ];simp [jvn]
theorem jzJ:jA7 d s K false (.c (.v (.slice none 0 0)))=K (s.put d (.c (.v (.int .i64 0)))):=by
 rw [jwZ];simp [jvn]
theorem jFg (k c:Nat) (p:List Nat) (x:Value):jA7 d s K false (.c (.h k c p x))=∃dd,Is s (.h k c p x) dd/\0<dd.size/\K (s.put d (.c (.v (.int .i64 dd.len)))):=by
 rw [jwZ]
 apply propext
 constructor
 ·rintro ⟨_,⟨dd,h1,h2,rfl⟩,h3⟩;exact ⟨dd,h1,h2,h3⟩
 ·rintro ⟨dd,h1,h2,h3⟩;exact ⟨_,⟨dd,h1,h2,rfl⟩,h3⟩
def jvr (P:Program) (d:Option Nat) (s:St) (K:St->Prop) (op:BinOp) (ty:Nat) (x y:AV):Prop:=∃av,((∃a b v,x=.c (.v a)/\y=.c (.v b)/\jDy op a b v/\av=.c (.v v))\/
 (∃l m xs ys b,x=.agg l/\y=.agg m/\jc3 l=some xs/\jc3 m=some ys/\EqR P op ty xs ys b/\av=.c (.v (.bool b))))/\K (s.put d av)
theorem jCf (op:BinOp) (ty:Nat) (x y:X):vp P β ⟨d,g,.bin op ty x y⟩ s K=jvr P d s K op ty (s.ev x) (s.ev y):=jlh rfl λ_ _ _ _=>Iff.rfl
theorem jtG (op:BinOp) (ty:Nat) (a b:Value):jvr P d s K op ty (.c (.v a)) (.c (.v b))=∃v,jDy op a b v/\K (s.put d (.c (.v v))):=by
 apply propext
 constructor
 ·rintro ⟨_,(⟨_,_,v,h1,h2,h3,rfl⟩|⟨_,_,_,_,_,h1,_⟩),h4⟩
  ·cases h1;cases h2;exact ⟨v,h3,h4⟩
  ·cases h1
 ·rintro ⟨v,h1,h2⟩;exact ⟨_,.inl ⟨_,_,v,rfl,rfl,h1,rfl⟩,h2⟩
theorem jF1 (op:BinOp) (ty:Nat) (k k':IntKind) (a b:Int):jvr P d s K op ty (.c (.v (.int k a))) (.c (.v (.int k' b)))=(jzN op k k' b/\K (s.put d (.c (.v (jcC op k a b))))):=by
 rw [jtG]
 apply propext
 constructor
 ·rintro ⟨_,⟨h1,rfl⟩,h2⟩;exact ⟨h1,h2⟩
 ·rintro ⟨h1,h2⟩;exact ⟨_,⟨h1,rfl⟩,h2⟩
theorem jAr (ty:Nat) (a b:ByteArray):jvr P d s K .eql ty (.c (.v (.string a))) (.c (.v (.string b)))=K (s.put d (.c (.v (.bool (a.toList==b.toList))))):=by rw [jtG];simp [jDy]
theorem jAq (ty:Nat) (a b:ByteArray):jvr P d s K .neq ty (.c (.v (.string a))) (.c (.v (.string b)))=K (s.put d (.c (.v (.bool (!(a.toList==b.toList)))))):=by rw [jtG];simp [jDy]
theorem jx6 (ty:Nat) (a b:ByteArray):jvr P d s K .add ty (.c (.v (.string a))) (.c (.v (.string b)))=(a.size+b.size<=maxLen/\K (s.put d (.c (.v (.string (a++b)))))):=by rw [jtG];simp [jDy,and_assoc]
def beqK (d:Option Nat) (s:St) (K:St->Prop) (neg:Bool) (x y:AV):Prop:=∃av,(∃a b,x=.c (.v (.bool a))/\y=.c (.v (.bool b))/\av=.c (.v (.bool (if neg then !(a==b) else a==b))))/\K (s.put d av)
theorem jCg (neg:Bool) (x y:X):vp P β ⟨d,g,.beq neg x y⟩ s K=beqK d s K neg (s.ev x) (s.ev y):=jlh rfl λ_ _ av os=>by
 simp only [Gen];constructor
 ·rintro ⟨a,b,h1,h2,h3,h4⟩;exact ⟨⟨a,b,h1,h2,h3⟩,h4⟩
 ·rintro ⟨⟨a,b,h1,h2,h3⟩,h4⟩;exact ⟨a,b,h1,h2,h3,h4⟩
theorem beqK_ (neg a b:Bool):beqK d s K neg (.c (.v (.bool a))) (.c (.v (.bool b)))=K (s.put d (.c (.v (.bool (if neg then !(a==b) else a==b))))):=by
 apply propext
 constructor
 ·rintro ⟨_,⟨_,_,h1,h2,rfl⟩,h⟩;cases h1;cases h2;exact h
 ·intro h;exact ⟨_,⟨_,_,rfl,rfl,rfl⟩,h⟩
def unK (d:Option Nat) (s:St) (K:St->Prop) (op:UnOp) (x:AV):Prop:=∃av,(match op with
 |.not=>∃b,x=.c (.v (.bool b))/\av=.c (.v (.bool (!b)))
 |.neg=>∃k n,x=.c (.v (.int k n))/\av=.c (.v (.int k (k.wrap (0-n))))
 |_=>False)/\K (s.put d av)
theorem jEj (op:UnOp) (x:X):vp P β ⟨d,g,.un op x⟩ s K=unK d s K op (s.ev x):=jlh rfl λ_ _ _ _=>Iff.rfl
theorem jBG (b:Bool):unK d s K .not (.c (.v (.bool b)))=K (s.put d (.c (.v (.bool (!b))))):=by simp [unK]
def cvK (d:Option Nat) (s:St) (K:St->Prop) (c:Cv) (x:AV):Prop:=∃av,(match c with
 |.num k=>∃k' n,x=.c (.v (.int k' n))/\av=.c (.v (.int k (k.wrap n)))
 |.text=>∃(a:A0) (ty:Nat) (bs:List UInt8),x=.c a/\Is s a (.sl 1 ty (bs.map qv))/\av=.c (.v (.string ⟨bs.toArray⟩))
 |.bytes=>False)/\K (s.put d av)
theorem jEr (c:Cv) (e:Nat) (x:X):vp P β ⟨d,g,.cv c e x⟩ s K=cvK d s K c (s.ev x):=jlh rfl λ_ _ _ _=>Iff.rfl
theorem jDn (k k':IntKind) (n:Int):cvK d s K (.num k) (.c (.v (.int k' n)))=K (s.put d (.c (.v (.int k (k.wrap n))))):=by
 apply propext
 constructor
 ·rintro ⟨_,⟨_,_,h1,rfl⟩,h⟩;cases h1;exact h
 ·intro h;exact ⟨_,⟨_,_,rfl,rfl⟩,h⟩
def mmK (d:Option Nat) (s:St) (K:St->Prop) (mx:Bool) (x y:AV):Prop:=∃av,(∃k k' a b,x=.c (.v (.int k a))/\y=.c (.v (.int k' b))/\av=.c (.v (.int k (if mx then (if b>a then b else a) else (if b<a then b else a)))))/\K (s.put d av)
theorem jEm (mx:Bool) (x y:X):vp P β ⟨d,g,.mm mx x y⟩ s K=mmK d s K mx (s.ev x) (s.ev y):=jlh rfl λ_ _ av os=>by
 simp only [Gen];constructor
 ·rintro ⟨k,k',a,b,h1,h2,h3,h4⟩;exact ⟨⟨k,k',a,b,h1,h2,h3⟩,h4⟩
 ·rintro ⟨⟨k,k',a,b,h1,h2,h3⟩,h4⟩;exact ⟨k,k',a,b,h1,h2,h3,h4⟩
theorem mmK_ (mx:Bool) (k k':IntKind) (a b:Int):mmK d s K mx (.c (.v (.int k a))) (.c (.v (.int k' b)))=K (s.put d (.c (.v (.int k (if mx then (if b>a then b else a) else (if b<a then b else a)))))):=by
 apply propext
 constructor
 ·rintro ⟨_,⟨_,_,_,_,h1,h2,rfl⟩,h⟩;cases h1;cases h2;exact h
 ·intro h;exact ⟨_,⟨_,_,_,_,rfl,rfl,rfl⟩,h⟩
def extK (d:Option Nat) (s:St) (K:St->Prop) (x:AV) (i:Nat):Prop:=∃av,(∃l b az,x=.tup l/\l[i]?=some (b,az)/\(if b then av=.agg az else∃a,az=[a]/\av=.c a))/\K (s.put d av)
theorem jCa (x:X) (i:Nat):vp P β ⟨d,g,.ext x i⟩ s K=extK d s K (s.ev x) i:=jlh rfl λ_ _ av os=>by
 simp only [Gen];constructor
 ·rintro ⟨l,b,az,h1,h2,h3,h4⟩;exact ⟨⟨l,b,az,h1,h2,h3⟩,h4⟩
 ·rintro ⟨⟨l,b,az,h1,h2,h3⟩,h4⟩;exact ⟨l,b,az,h1,h2,h3,h4⟩
def jGh (l:Option (Bool×List A0)) (k:AV->Prop):Prop:=match l with
 |some (true,az)=>k (.agg az)
 |some (false,[a])=>k (.c a)
 |_=>False
theorem extK_ (l:List (Bool×List A0)) (i:Nat):extK d s K (.tup l) i=jGh l[i]? λv=>K (s.put d v):=by
 apply propext
 unfold extK jGh;constructor
 ·rintro ⟨av,⟨l',b,az,h1,h2,h3⟩,h4⟩
  cases h1;rw [h2];cases b
  ·obtain ⟨a,rfl,rfl⟩:∃a,az=[a]/\av=.c a:=by simpa using h3
   exact h4
  ·obtain rfl:av=.agg az:=by simpa using h3
   exact h4
 ·split
  ·intro h;exact ⟨_,⟨_,_,_,rfl,by assumption,by simp⟩,h⟩
  ·intro h;exact ⟨_,⟨_,_,_,rfl,by assumption,by simp⟩,h⟩
  ·exact False.elim
theorem jFE (az:List A0) (k:AV->Prop):jGh (some (true,az)) k=k (.agg az):=(rfl)
theorem jFF (a:A0) (k:AV->Prop):jGh (some (false,[a])) k=k (.c a):=(rfl)
def fldK (d:Option Nat) (s:St) (K:St->Prop) (agg:Bool) (off n:Nat) (x:AV):Prop:=∃av,(∃l,x=.agg l/\off+n<=l.length/\(if agg then av=.agg ((l.drop off).take n) else∃a,(l.drop off).take n=[a]/\av=.c a))/\K (s.put d av)
theorem jB9 (agg:Bool) (off n:Nat) (x:X):vp P β ⟨d,g,.fld agg off n x⟩ s K=fldK d s K agg off n (s.ev x):=jlh rfl λ_ _ av os=>by
 simp only [Gen];constructor
 ·rintro ⟨l,h1,h2,h3,h4⟩;exact ⟨⟨l,h1,h2,h3⟩,h4⟩
 ·rintro ⟨⟨l,h1,h2,h3⟩,h4⟩;exact ⟨l,h1,h2,h3,h4⟩
def fldF (l:List A0) (k:AV->Prop):Prop:=match l with
 |[a]=>k (.c a)
 |_=>False
theorem jFw (off n:Nat) (l:List A0):fldK d s K false off n (.agg l)=(off+n<=l.length/\fldF ((l.drop off).take n) λv=>K (s.put d v)):=by
 apply propext
 constructor
 ·rintro ⟨av,⟨l',h1,h2,h3⟩,h4⟩
  cases h1;obtain ⟨a,e,rfl⟩:∃a,(l.drop off).take n=[a]/\av=.c a:=by simpa using h3
  rw [e];exact ⟨h2,h4⟩
 ·rintro ⟨h1,h2⟩
  unfold fldF at h2;split at h2
  ·rename_i a e
   exact ⟨_,⟨l,rfl,h1,by simp [e]⟩,h2⟩
  ·exact h2.elim
theorem jFx (a:A0) (k:AV->Prop):fldF [a] k=k (.c a):=(rfl)
def jEf (d:Option Nat) (s:St) (K:St->Prop) (x i:AV):Prop:=∃av,(∃b k n u,x=.c (.v (.string b))/\i=.c (.v (.int k n))/\0<=n/\b[n.toNat]?=some u/\av=.c (.v (.int .u8 u.toNat)))/\K (s.put d av)
theorem jy6 (x i:X):vp P β ⟨d,g,.sidx x i⟩ s K=jEf d s K (s.ev x) (s.ev i):=jlh rfl λ_ _ av os=>by
 simp only [Gen];constructor
 ·rintro ⟨b,k,n,u,h1,h2,h3,h4,h5,h6⟩;exact ⟨⟨b,k,n,u,h1,h2,h3,h4,h5⟩,h6⟩
 ·rintro ⟨⟨b,k,n,u,h1,h2,h3,h4,h5⟩,h6⟩;exact ⟨b,k,n,u,h1,h2,h3,h4,h5,h6⟩
theorem jEe (b:ByteArray) (k:IntKind) (n:Int):jEf d s K (.c (.v (.string b))) (.c (.v (.int k n)))=(0<=n/\∃u,b[n.toNat]?=some u/\K (s.put d (.c (.v (.int .u8 u.toNat))))):=by
 apply propext
 constructor
 ·rintro ⟨_,⟨_,_,_,u,h1,h2,h3,h4,rfl⟩,h5⟩;cases h1;cases h2;exact ⟨h3,u,h4,h5⟩
 ·rintro ⟨h3,u,h4,h5⟩;exact ⟨_,⟨_,_,_,u,rfl,rfl,h3,h4,rfl⟩,h5⟩
theorem jw {f:Nat} {args:List X} {vs:List View} {rt:RT} (hp:jZ P f vs rt) (ha:zZ s (args.map s.ev) vs) (hk:∀η:Nat->jg,K ((s.addO (jl2 (100*(β+d.getD 0)) η 0 rt.flat)).put d (rt.av (100*(β+d.getD 0)) η))):
 vp P β ⟨d,g,.call f args⟩ s K:=Or.inl ⟨rt,λst=>⟨_,_,⟨vs,ha,hp,rfl,rfl⟩,hk st.η⟩⟩
theorem jgg {f:Nat} {args:List X} {R:RT->(Nat->Ob)->Prop} (h:Turns P f (args.map s.ev) s.o R) (hk:∀rt o',R rt o'->∀η:Nat->jg,K (((⟨s.t,o'⟩:St).addO (jl2 (100*(β+d.getD 0)) η 0 rt.flat)).put d (rt.av (100*(β+d.getD 0)) η))):
 vp P β ⟨d,g,.call f args⟩ s K:=Or.inr (Or.inl ⟨h.1,λB w F xs h1 h2=>(h.2 B w F xs h1 h2).mono λe w' ⟨v,rt,o',S,F',k1,k2,k3,k4,k5,k6⟩=>⟨v,rt,o',S,F',k1,k2,k3,k4,k5,hk _ _ k6⟩⟩)
theorem kW {f:Nat} {args:List X} (h:Inl P f (args.map s.ev) s.o λav o'=>K (St.put ⟨s.t,o'⟩ d av)):vp P β ⟨d,g,.call f args⟩ s K:=Or.inr (Or.inr h)
theorem jv9 {f:Nat} {x:X} {caps:List A0} {args:List X} {R:RT->(Nat->Ob)->Prop} (h0:s.ev x=.fn f caps) (h:Turns P f (args.map s.ev++caps.map .c) s.o R) (hk:∀rt o',R rt o'->∀η:Nat->jg,K (((⟨s.t,o'⟩:St).addO (jl2 (100*(β+d.getD 0)) η 0 rt.flat)).put d (rt.av (100*(β+d.getD 0)) η))):
 vp P β ⟨d,g,.callv x args⟩ s K:=Or.inr ⟨f,caps,h0,h.1,λB w F xs h1 h2=>(h.2 B w F xs h1 h2).mono λe w' ⟨v,rt,o',S,F',k1,k2,k3,k4,k5,k6⟩=>⟨v,rt,o',S,F',k1,k2,k3,k4,k5,hk _ _ k6⟩⟩
theorem jkM {f:Nat} {x:X} {caps:List A0} {args:List X} {vs:List View} {rt:RT} (h0:s.ev x=.fn f caps) (hp:jZ P f vs rt) (ha:zZ s (args.map s.ev++caps.map .c) vs) (hk:∀η:Nat->jg,K ((s.addO (jl2 (100*(β+d.getD 0)) η 0 rt.flat)).put d (rt.av (100*(β+d.getD 0)) η))):
 vp P β ⟨d,g,.callv x args⟩ s K:=Or.inl ⟨rt,λst=>⟨_,_,⟨f,caps,vs,h0,ha,hp,rfl,rfl⟩,hk st.η⟩⟩
def jF0 (β:Nat) (d:Option Nat) (s:St) (K:St->Prop) (ty n:Nat) (x:AV):Prop:=∃l,x.cells=some l/\l.length=n/\qC s l λcs s'=>∀b,K ((s'.addO [(100*(β+d.getD 0),.box b ty cs)]).put d (.c (.bp (100*(β+d.getD 0)) 0 b)))
theorem jCd (ty n:Nat) (x:X):vp P β ⟨d,g,.box ty n x⟩ s K=jF0 β d s K ty n (s.ev x):=(rfl)
theorem jAn (ty n:Nat) (l:List A0):jF0 β d s K ty n (.agg l)=(l.length=n/\qC s l λcs s'=>∀b,K ((s'.addO [(100*(β+d.getD 0),.box b ty cs)]).put d (.c (.bp (100*(β+d.getD 0)) 0 b)))):=by simp [jF0,AV.cells]
theorem jFZ (ty n:Nat) (a:A0):jF0 β d s K ty n (.c a)=(a.c1=true/\1=n/\qC s [a] λcs s'=>∀b,K ((s'.addO [(100*(β+d.getD 0),.box b ty cs)]).put d (.c (.bp (100*(β+d.getD 0)) 0 b)))):=by
 unfold jF0 AV.cells;by_cases h:a.c1=true<;>simp [h]
theorem jsq (K:List Cell->St->Prop):qC s [] K=K [] s:=(rfl)
theorem jDS (x:Value) (l:List A0) (K:List Cell->St->Prop):qC s (.v x::l) K=(x.oneCell'=true/\qC s l (λcs s'=>K (.a (.v x)::cs) s')):=(rfl)
theorem jBK (x:D) (l:List A0) (K:List Cell->St->Prop):qC s (.ro x::l) K=qC s l (λcs s'=>K (.a (.ro x)::cs) s'):=by simp [qC,A0.one]
theorem one_i (k:IntKind) (n:Int):(Value.int k n).oneCell'=true:=(rfl)
theorem one_b (b:Bool):(Value.bool b).oneCell'=true:=(rfl)
theorem one_s (b:ByteArray):(Value.string b).oneCell'=true:=(rfl)
theorem one_n (a:Option Addr) (n c:Nat):(Value.slice a n c).oneCell'=true:=(rfl)
theorem jDT (k c:Nat) (x:Value) (l:List A0) (K:List Cell->St->Prop):qC s (.h k c [] x::l) K=∃d η,(s.o k).own c=some (d,η)/\η []=x/\qC (s.rm k c) l (λcs s'=>K (.own d η::cs) s'):=by simp [qC]
end
section
variable {P:Program} {β:Nat} {s:St} {K:St->Prop} {d:Option Nat} {l:List (Nat×List Lk)}
theorem jCk:zD P β .done l s K=K s:=(rfl)
theorem jCi:zD P β .stop l s K=True:=(rfl)
theorem jCj (p:Nat) (i:I) (t:T):zD P β (.pure p ⟨d,none,i⟩ t) l s K=vp P β ⟨d,none,i⟩ s λs'=>zD P β t ((p,i.looks s)::l) s' K:=(rfl)
theorem jEs {n:Nat} (p:Nat) (i:I) (t:T) (h:s.t n=.c (.v (.bool true))):zD P β (.pure p ⟨d,some (n,true),i⟩ t) l s K=vp P β ⟨d,some (n,true),i⟩ s λs'=>zD P β t ((p,i.looks s)::l) s' K:=by simp [zD,zi,h]
theorem jEt {n:Nat} (p:Nat) (i:I) (t:T) (h:s.t n=.c (.v (.bool false))):zD P β (.pure p ⟨d,some (n,true),i⟩ t) l s K=zD P β t l (s.put d (.c (.v undef))) K:=by simp [zD,zi,h]
theorem jEu {n:Nat} (p:Nat) (i:I) (t:T) (h:s.t n=.c (.v (.bool true))):zD P β (.pure p ⟨d,some (n,false),i⟩ t) l s K=zD P β t l (s.put d (.c (.v undef))) K:=by simp [zD,zi,h]
theorem jEv {n:Nat} (p:Nat) (i:I) (t:T) (h:s.t n=.c (.v (.bool false))):zD P β (.pure p ⟨d,some (n,false),i⟩ t) l s K=vp P β ⟨d,some (n,false),i⟩ s λs'=>zD P β t ((p,i.looks s)::l) s' K:=by simp [zD,zi,h]
theorem jEw (i:I) (chk:List Nat) (t r:T):zD P β (.alt ⟨d,none,i⟩ chk t r) l s K=(vp P β ⟨d,none,i⟩ s (λs'=>joo s s' chk l/\zD P β t l s' K)/\zD P β r l s K):=(rfl)
theorem jEJ {n:Nat} (i:I) (chk:List Nat) (t r:T) (h:s.t n=.c (.v (.bool true))):zD P β (.alt ⟨d,some (n,true),i⟩ chk t r) l s K=(vp P β ⟨d,some (n,true),i⟩ s (λs'=>joo s s' chk l/\zD P β t l s' K)/\zD P β r l s K):=by simp [zD,zi,h]
theorem jEK {n:Nat} (i:I) (chk:List Nat) (t r:T) (h:s.t n=.c (.v (.bool false))):zD P β (.alt ⟨d,some (n,true),i⟩ chk t r) l s K=(zD P β t l (s.put d (.c (.v undef))) K/\zD P β r l s K):=by simp [zD,zi,h]
theorem jEL {n:Nat} (i:I) (chk:List Nat) (t r:T) (h:s.t n=.c (.v (.bool true))):zD P β (.alt ⟨d,some (n,false),i⟩ chk t r) l s K=(zD P β t l (s.put d (.c (.v undef))) K/\zD P β r l s K):=by simp [zD,zi,h]
theorem jEM {n:Nat} (i:I) (chk:List Nat) (t r:T) (h:s.t n=.c (.v (.bool false))):zD P β (.alt ⟨d,some (n,false),i⟩ chk t r) l s K=(vp P β ⟨d,some (n,false),i⟩ s (λs'=>joo s s' chk l/\zD P β t l s' K)/\zD P β r l s K):=by simp [zD,zi,h]
theorem jBB (t:T) (Q:Ex->St->Prop):wpC P β (.dreg t) Q s=zD P β t [] s (Q .normal):=(rfl)
theorem jw8 (s':St) (chk:List Nat):joo s s' chk []=True:=(rfl)
theorem juN (s':St) (chk:List Nat) (p:Nat) (ids:List Lk) (l:List (Nat×List Lk)):joo s s' chk ((p,ids)::l)=((if chk.contains p then jrK s s' ids else True)/\joo s s' chk l):=(rfl)
theorem jw9 (s':St):jrK s s' []=True:=(rfl)
theorem juO (s':St) (k:Lk) (l:List Lk):jrK s s' (k::l)=(jta s s' k/\jrK s s' l):=(rfl)
theorem jCN (s':St) (g:Nat):jta s s' (.ob g)=(s'.o g=s.o g):=(rfl)
theorem jCO (s':St) (g c n:Nat):jta s s' (.cs g c n)=jub g c n (s'.o g) (s.o g):=(rfl)
theorem jBZ (g c n:Nat) (ob:Ob):jub g c n ob ob=True:=eq_true (jkK g c n ob)
theorem jv7 (g c n b ty b' ty':Nat) (cs cs':List Cell):jub g c n (.box b ty cs) (.box b' ty' cs')=(b=b'/\ty=ty'/\cs.length=cs'.length/\jeu g c ((cs.drop c).take n)=jeu g c ((cs'.drop c).take n)):=(rfl)
end
section
variable {α:Type} {enc:α->List D} {size:Nat}
theorem jbl (hl:∀x,(enc x).length=size) (hs:0<size) (ty:TypeId) (xs:List α):D.len (.sl size ty (xs.flatMap enc))=xs.length:=by
 simp only [D.len,D.cells,D.size];rw [jD hl,aPZ _ hs]
theorem jao (hl:∀x,(enc x).length=size) {ty:TypeId} {xs:List α} {k:Nat} {x:α} (hx:xs[k]?=some x):D.elem (.sl size ty (xs.flatMap enc)) k=enc x:=by
 have hk:k<xs.length:=(aOS.1 hx).1;have bV:xs[k]=x:=by rw [aOV hk] at hx;exact aPJ hx
 simp only [D.elem,D.cells,D.size];have e:xs=xs.take k++(x::xs.drop (k+1)):=by rw [<-bV];simp
 have e2:xs.flatMap enc=(xs.take k).flatMap enc++(enc x++(xs.drop (k+1)).flatMap enc):=by
  conv=>lhs;rw [e]
  simp
 have e3:((xs.take k).flatMap enc).length=k*size:=by rw [jD hl,aOZ,aQL (by omega)]
 rw [e2,<-e3,List.drop_left,<-hl x,List.take_left]
end
theorem vF (l:List Rn):(jG l).len=l.length:=jbl (enc:=jd) (λ_=>rfl) (by decide) _ _
theorem jR {l:List Rn} {k:Nat} {x:Rn} (h:l[k]?=some x):(jG l).elem k=jd x:=jao (enc:=jd) (λ_=>rfl) h
theorem ja0 (l:List (List En)):(ke l).len=l.length:=jbl (enc:=λes=>[jf es]) (λ_=>rfl) (by decide) _ _
theorem kC {l:List (List En)} {k:Nat} {x:List En} (h:l[k]?=some x):(ke l).elem k=[jf x]:=jao (enc:=λes=>[jf es]) (λ_=>rfl) h
theorem zU (l:List En):(jf l).len=l.length:=jbl (enc:=jj) (λ_=>rfl) (by decide) _ _
theorem jU {l:List En} {k:Nat} {x:En} (h:l[k]?=some x):(jf l).elem k=jj x:=jao (enc:=jj) (λ_=>rfl) h
theorem jek (l:List Tk):(ju l).len=l.length:=jbl (enc:=jz) (λ_=>rfl) (by decide) _ _
theorem jL {l:List Tk} {k:Nat} {x:Tk} (h:l[k]?=some x):(ju l).elem k=jz x:=jao (enc:=jz) (λ_=>rfl) h
theorem jvU (l:List Rn):(jG l).isSl=true:=(rfl)
theorem jyX (l:List (List En)):(ke l).isSl=true:=(rfl)
theorem jkE (l:List En):(jf l).isSl=true:=(rfl)
theorem jvT (l:List Tk):(ju l).isSl=true:=(rfl)
theorem jvK (l:List Rn):(jG l).size=8:=(rfl)
theorem jyQ (l:List (List En)):(ke l).size=1:=(rfl)
theorem jky (l:List En):(jf l).size=4:=(rfl)
theorem jvJ (l:List Tk):(ju l).size=4:=(rfl)
theorem jwf (l:List Rn):(jG l).toRo=.ro (jG l):=(rfl)
theorem jza (l:List (List En)):(ke l).toRo=.ro (ke l):=(rfl)
theorem jps (l:List En):(jf l).toRo=.ro (jf l):=(rfl)
theorem jwe (l:List Tk):(ju l).toRo=.ro (ju l):=(rfl)
theorem jwg (l:List Ed):(jn l).toRo=.ro (jn l):=(rfl)
theorem jEx (v:Value):(D.val v).toRo=.v v:=(rfl)
theorem jFn (vs:List View) (n:Nat):(St.init vs).o n=.none:=(rfl)
theorem jFm (vs:List View) (n:Nat):(St.init vs).t n=((vs.map View.av)[n]?).getD .unk:=(rfl)
def Goes (P:Program) (o:Oper) (a:Act) (w:World) (R:Value->World->Prop):Prop:=
 ∀(next:Act->World->Prop) (Q:Exit->Act->World->Prop),(∀v w',R v w'->next (a.put o.dst v) w')->o.wp P a w next Q
theorem Goes.of_run {P:Program} {o:Oper} {a:Act} {w w':World} {R:Value->World->Prop} {v:Value} (h:(execOp a.eval o).run P w=.ok (.value v) w') (hr:R v w'):Goes P o a w R:=
 λ_ _ hk=>by unfold Oper.wp;rw [h];exact hk v w' hr
def kt (B:Nat) (w:World) (G:AV->List (Nat×Ob)->Prop) (v:Value) (w':World):Prop:=∃av os S,VRel B w' av v/\jcW B w' os S/\Fresh w.heap.size S/\Below w.heap.size w w'/\G av os
section
variable {P:Program} {B N:Nat} {w w0:World} {s:St} {a:Act} {F:Nat->List Nat} {o:Oper} {G:AV->List (Nat×Ob)->Prop} {d:Nat} {rt:RT}
theorem vV {v:Value} {av:AV} (h:(execOp a.eval o).run P w=.ok (.value v) w) (hv:VRel B w av v) (hg:G av []):Goes P o a w (kt B w G):=
 Goes.of_run h ⟨av,[],[],hv,rfl,Fresh.nil _,Below.refl _ _,hg⟩
theorem mk_ {v:Value} {w':World} {av:AV} {os:List (Nat×Ob)} {S:List Nat} (h:(execOp a.eval o).run P w=.ok (.value v) w') (hv:VRel B w' av v) (hn:jcW B w' os S) (hf:Fresh w.heap.size S) (hb:Below w.heap.size w w') (hg:G av os):Goes P o a w (kt B w G):=
 Goes.of_run h ⟨av,os,S,hv,hn,hf,hb,hg⟩
theorem jth (w:World) (o:Obj):(w.alloc o).heap[w.heap.size]?=some o:=by
 show (w.heap.push o)[w.heap.size]?=_;simp
theorem qT (h:RelF B w0 N s a w F) {x:Operand} {x':X} (hx:jQ x=some x'):VRel B w (s.ev x') (a.eval x):=by
 cases x with
 |tmp t=>simp [jQ] at hx;subst hx;exact h.sl t
 |global g=>simp [jQ] at hx
 |func f=>simp [jQ] at hx;subst hx;exact ⟨[],rfl,rfl⟩
 |const v=>
  simp only [jQ] at hx;split at hx
  ·rename_i hp
   simp at hx;subst hx;cases v with
   |agg cs=>
    refine ⟨cs.toList,by simp [Act.eval],?_⟩
    simp only [jia,List.all_eq_true] at hp
    have:∀l:List Value,(∀x∈l,x.oneCell'=true)->A0RelL B w (l.map .v) l:=by
     intro l
     induction l with
     |nil=>intro _;rfl
     |cons x l ih=>intro hl;exact ⟨x,l,rfl,rfl,ih λy hy=>hl y (by simp [hy])⟩
    exact this _ hp
   |tuple _=>simp [jia] at hp
   |_=>exact rfl
  ·simp at hx
theorem jjx (h:RelF B w0 N s a w F) {x:Operand} {x':X} (hx:jQ x=some x') {u:Value} (hu:s.ev x'=.c (.v u)):a.eval x=u:=by
 have:=qT h hx;rw [hu] at this;exact this
theorem go_mov (h:RelF B w0 N s a w F) {x:Operand} {x':X} (ho:o.op=.move x\/o.op=.assign x) (hx:jQ x=some x') (hg:∀st,∃av os,Gen P s d rt st (.mov x') av os/\G av os):Goes P o a w (kt B w G):=by
 obtain ⟨av,os,⟨rfl,rfl⟩,hG⟩:=hg ⟨0,λ_ _=>undef⟩
 refine vV (v:=a.eval x) ?_ (qT h hx) hG;rcases ho with ho|ho<;>simp [execOp,ho]
theorem go_pick (h:RelF B w0 N s a w F) {c x y:Operand} {c' x' y':X} (ho:o.op=.pick c x y) (hc:jQ c=some c') (hx:jQ x=some x') (hy:jQ y=some y')
 (hg:∀st,∃av os,Gen P s d rt st (.pick c' x' y') av os/\G av os):Goes P o a w (kt B w G):=by
 obtain ⟨av,os,⟨t,h1,rfl,rfl⟩,hG⟩:=hg ⟨0,λ_ _=>undef⟩
 have e:=jjx h hc h1;refine vV (v:=if t then a.eval x else a.eval y) ?_ ?_ hG
 ·simp [execOp,ho,e,asBool]
 ·cases t
  ·exact qT h hy
  ·exact qT h hx
theorem go_alloc (h:RelF B w0 N s a w F) {e:TypeId} {zs:List Value} (ho:o.op=.alloc e) (hz:vJ P e=some zs) (hg:∀st,∃av os,Gen P s d rt st (.alloc e zs) av os/\G av os):Goes P o a w (kt B w G):=by
 obtain ⟨av,os,⟨rfl,rfl⟩,hG⟩:=hg ⟨w.heap.size,λ_ _=>undef⟩
 unfold vJ at hz;split at hz
 ·rename_i i hi
  split at hz
  ·rename_i z gC
   split at hz
   ·rename_i hc
    simp only [aPG,aPM,List.all_eq_true] at hc;simp at hz;subst hz
    have aW:(execOp a.eval o).run P w=.ok (.value (.pointer (some ⟨w.heap.size,0,none⟩))) (w.alloc (.cells z.cells e)):=by
     simp [execOp,ho,Instr.alloc,zeroValue,typeInfo,hi,gC,newVar,newRow]
    have:∀l:List Value,(∀x∈l,x.oneCell'=true)->CRel B (w.alloc (.cells z.cells e)) (l.map λz=>Cell.a (.v z)) l []:=by
     intro l
     induction l with
     |nil=>intro _;exact ⟨rfl,rfl⟩
     |cons x l ih=>intro hl;exact ⟨x,l,rfl,rfl,ih λy hy=>hl y (by simp [hy])⟩
    have hn:jcW B (w.alloc (.cells z.cells e)) [(100*d,.box w.heap.size e (z.cells.toList.map λz=>.a (.v z)))] [w.heap.size]:=
     ⟨[w.heap.size],[],rfl,⟨z.cells.toList,[],jth _ _,this _ hc.2,rfl⟩,rfl⟩
    have hv:VRel B (w.alloc (.cells z.cells e)) (.c (.bp (100*d) 0 w.heap.size)) (.pointer (some ⟨w.heap.size,0,none⟩)):=rfl;exact mk_ aW hv hn (Fresh.one _ _ (aPD _)) ((Below.refl _ _).alloc (aPD _) _) hG
   ·simp at hz
  ·simp at hz
 ·simp at hz
theorem jat (b o n:Nat):(⟨b,o,none⟩:Addr).add n=⟨b,o+n,none⟩:=by unfold Addr.add;split<;>simp_all
theorem jz9 (x:Value) (i n:Nat):(jcp x i).add n=jcp x (i+n):=by
 unfold jcp;split
 ·rw [jat];congr 1;omega
 ·rw [jat]
theorem RepL.drop {own:Bool}:∀(n:Nat) {ds:List D} {us:List Value} {S:List Nat},RepL w own ds us S->∃S',RepL w own (ds.drop n) (us.drop n) S'/\∀x∈S',x∈S
 |0,_,_,S,h=>⟨S,h,λ_ h=>h⟩
 |n+1,[],_,_,h=>by obtain ⟨rfl,rfl⟩:=h;exact ⟨[],⟨rfl,rfl⟩,by simp⟩
 |n+1,_::ds,_,_,⟨v,vs',S1,S2,rfl,rfl,_,h4⟩=>by
  obtain ⟨S',h5,h6⟩:=RepL.drop n h4;exact ⟨S',h5,λx hx=>by simp [h6 x hx]⟩
theorem RepL.take {own:Bool}:∀(n:Nat) {ds:List D} {us:List Value} {S:List Nat},RepL w own ds us S->∃S',RepL w own (ds.take n) (us.take n) S'/\∀x∈S',x∈S
 |0,_,_,S,h=>⟨[],⟨rfl,rfl⟩,by simp⟩
 |n+1,[],_,_,h=>by obtain ⟨rfl,rfl⟩:=h;exact ⟨[],⟨rfl,rfl⟩,by simp⟩
 |n+1,_::ds,_,_,⟨v,vs',S1,S2,rfl,rfl,h3,h4⟩=>by
  obtain ⟨S',h5,h6⟩:=RepL.take n h4;exact ⟨S1++S',RepL.cons_ h3 h5,λx hx=>by rcases aOX.1 hx with hx|hx;simp [hx];simp [h6 x hx]⟩
theorem go_fa0 (h:RelF B w0 N s a w F) {x:Operand} {x':X} {off:Nat} (hx:jQ x=some x') (aW:∀ad:Addr,a.eval x=.pointer (some ad)->(execOp a.eval o).run P w=.ok (.value (.pointer (some (ad.add off)))) w)
 (hg:∀st,∃av os,Gen P s d rt st (.fa off x') av os/\G av os):Goes P o a w (kt B w G):=by
 obtain ⟨av,os,⟨h1,rfl⟩,hG⟩:=hg ⟨0,λ_ _=>undef⟩
 have hv:=qT h hx;split at h1
 ·rename_i ds he
  subst h1;rw [he] at hv;obtain ⟨b,o',us,S,hp,h2,h3,h4,h5⟩:=hv;obtain ⟨S',h6,h7⟩:=RepL.drop off h2
  refine vV (aW _ hp) (by exact ⟨b,o'+off,us.drop off,S',by rw [jat],h6,λy hy=>h3 y (h7 y hy),λaK=>h4 λe=>aK (by rw [e];simp),λj y hy=>by
   rw [aQU] at hy;rw [aSF];exact h5 _ _ hy⟩) hG
 ·rename_i g c b he
  subst h1;rw [he] at hv;refine vV (aW _ hv) ?_ hG;rw [jat];rfl
 ·rename_i g c p i' x'' he
  subst h1;rw [he] at hv;refine vV (aW _ hv) ?_ hG;rw [jz9];rfl
 ·exact h1.elim
theorem go_fa (h:RelF B w0 N s a w F) {t:TypeId} {x:Operand} {x':X} {f n:Nat} {fs:Array Field} {fd:Field} (ho:o.op=.fieldAddr t x f) (ht:P.underlying t=some (.struct fs)) (hf:fs[f]?=some fd) (hn:qj P fd.type=some (n+1)) (hx:jQ x=some x')
 (hg:∀st,∃av os,Gen P s d rt st (.fa fd.offset x') av os/\G av os):Goes P o a w (kt B w G):=by
 obtain ⟨i,hi,cJ⟩:∃i,P.info? fd.type=some i/\i.size=n+1:=by
  unfold qj at hn;cases hq:P.info? fd.type with
  |none=>simp [hq] at hn
  |some i=>exact ⟨i,rfl,by simpa [hq] using hn⟩
 exact go_fa0 h hx (λad he=>by
  simp [execOp,ho,Instr.fieldAt,run_underlying ht,hf,he,Instr.sureAddr,fieldPlace,sizeOf,typeInfo,hi,cJ]) hg
theorem go_nc (h:RelF B w0 N s a w F) {x:Operand} {x':X} (ho:o.op=.nilCheck x) (hx:jQ x=some x')
 (hg:∀st,∃av os,Gen P s d rt st (.fa 0 x') av os/\G av os):Goes P o a w (kt B w G):=
 go_fa0 h hx (λad he=>by
  rw [show ad.add 0=ad from rfl]
  simp [execOp,ho,he]) hg
theorem RepL.ro_cells {own:Bool} {ds:List D} {us:List Value} {S:List Nat} (h:RepL w own ds us S) (hS:own=false/\∀x∈S,x<B):A0RelL B w (ds.map D.toRo) us:=by
 induction ds generalizing us S with
 |nil=>obtain ⟨rfl,_⟩:=h;rfl
 |cons d ds ih=>
  obtain ⟨v,vs',S1,S2,rfl,rfl,h3,h4⟩:=h;refine ⟨v,vs',rfl,?_,ih h4 ⟨hS.1,λx hx=>hS.2 x (by simp [hx])⟩⟩
  cases d with
  |val u=>exact h3.1
  |sl size ty cs=>exact ⟨rfl,S1,by rw [<-hS.1];exact h3,λx hx=>hS.2 x (by simp [hx])⟩
theorem A0RelL.of_get:∀{l:List A0} {us:List Value},us.length=l.length->(∀(j:Nat) (a:A0) (u:Value),l[j]?=some a->us[j]?=some u->A0Rel B w a u)->A0RelL B w l us
 |[],us,h,_=>aPS h
 |a::l,[],h,_=>by simp at h
 |a::l,u::us,h,hk=>⟨u,us,rfl,hk 0 a u rfl rfl,A0RelL.of_get (by simpa using h) λj a' u' h1 h2=>hk (j+1) a' u' h1 h2⟩
theorem CRel.load {g:Nat}:∀{cs:List Cell} {us:List Value} {S:List Nat} (c:Nat),CRel B w cs us S->A0RelL B w (jeu g c cs) us
 |[],_,_,_,⟨h,_⟩=>h
 |.a x::cs,_,_,c,⟨u,us',h1,h2,h3⟩=>⟨u,us',h1,h2,CRel.load (c+1) h3⟩
 |.own d η::cs,_,_,c,⟨u,us',S1,S2,h1,h2,h3,h4,h5,h6⟩=>by
  refine ⟨u,us',h1,⟨?_,?_⟩,CRel.load (c+1) h6⟩
  ·rw [h5,jax h3]
  ·rw [h5,jax h3]
   cases d with
   |val _=>cases h3
   |sl _ _ _=>obtain ⟨_,_,_,rfl⟩:=zr h4;rfl
theorem CRel.drop:∀(n:Nat) {cs:List Cell} {us:List Value} {S:List Nat},CRel B w cs us S->∃S',CRel B w (cs.drop n) (us.drop n) S'/\∀x∈S',x∈S
 |0,_,_,S,h=>⟨S,h,λ_ h=>h⟩
 |n+1,[],_,_,⟨h,h'⟩=>by subst h h';exact ⟨[],⟨rfl,rfl⟩,by simp⟩
 |n+1,.a _::cs,_,_,⟨u,us',h1,h2,h3⟩=>by
  subst h1;obtain ⟨S',h5,h6⟩:=CRel.drop n h3;exact ⟨S',h5,h6⟩
 |n+1,.own _ _::cs,_,_,⟨u,us',S1,S2,h1,h2,h3,h4,h5,h6⟩=>by
  subst h1 h2;obtain ⟨S',h7,h8⟩:=CRel.drop n h6;exact ⟨S',h7,λx hx=>by simp [h8 x hx]⟩
theorem CRel.take:∀(n:Nat) {cs:List Cell} {us:List Value} {S:List Nat},CRel B w cs us S->∃S',CRel B w (cs.take n) (us.take n) S'/\∀x∈S',x∈S
 |0,_,_,S,h=>⟨[],⟨rfl,rfl⟩,by simp⟩
 |n+1,[],_,_,⟨h,h'⟩=>by subst h h';exact ⟨[],⟨rfl,rfl⟩,by simp⟩
 |n+1,.a _::cs,_,_,⟨u,us',h1,h2,h3⟩=>by
  subst h1;obtain ⟨S',h5,h6⟩:=CRel.take n h3;exact ⟨S',⟨u,_,rfl,h2,h5⟩,h6⟩
 |n+1,.own _ _::cs,_,_,⟨u,us',S1,S2,h1,h2,h3,h4,h5,h6⟩=>by
  subst h1 h2;obtain ⟨S',h7,h8⟩:=CRel.take n h6;exact ⟨S1++S',⟨u,_,S1,S',rfl,rfl,h3,h4,h5,h7⟩,λx hx=>by rcases aOX.1 hx with hx|hx;simp [hx];simp [h8 x hx]⟩
theorem jpZ {g c:Nat} {p:List Nat} {η:jg}:∀{ds:List D} {i j:Nat} {d:D},ds[j]?=some d->(jig g c p η i ds)[j]?=some (d.toOwn g c (p++[i+j]) η)
 |[],_,_,_,h=>by simp at h
 |_::_,i,0,_,h=>by simp at h;subst h;rfl
 |_::ds,i,j+1,_,h=>by
  have:=jpZ (g:=g) (c:=c) (p:=p) (η:=η) (ds:=ds) (i:=i+1) (j:=j) (by simpa using h)
  simp only [jig,List.getElem?_cons_succ,this];rw [show i+1+j=i+(j+1) by omega]
theorem jk8 {g c:Nat} {p:List Nat} {η:jg}:∀{ds:List D} {i:Nat},(jig g c p η i ds).length=ds.length
 |[],_=>rfl
 |_::ds,i=>by simp [jig,jk8 (ds:=ds)]
theorem zt (h:RelF B w0 N s a w F) {g c:Nat} {p:List Nat} {x:Value} {d0 dd:D} {η:jg} (ho:(s.o g).own c=some (d0,η)) (hx:η p=x) (hg:D.get p d0=some dd) (hs:dd.isSl=true):
 ∃S,Rep w true dd x S/\∀q,η (p++q)=hdr w q dd x:=by
 obtain ⟨u,S',h1,h2,h3,h4⟩:=(h.ob g).own ho;obtain ⟨S2,h5,_⟩:=jwr p h2 hg hs;rw [<-h3 p,hx] at h5;refine ⟨S2,h5,λq=>?_⟩
 rw [h3,<-hx,h3]
 have key:∀(p:List Nat) {d0:D} {u:Value} {S:List Nat},Rep w true d0 u S->D.get p d0=some dd->hdr w (p++q) d0 u=hdr w q dd (hdr w p d0 u):=by
  intro p
  induction p with
  |nil=>
   intro d0 u S _ hg;simp [D.get] at hg;subst hg;rw [aQG,jax hs]
  |cons i p ih=>
   intro d0 u S hr hg;cases d0 with
   |val _=>simp [D.get] at hg
   |sl size ty cs=>
    simp only [D.get] at hg;obtain ⟨vs,T,S',k1,k2,k3⟩:=hr;cases hc:cs[i]? with
    |none=>rw [hc] at hg;simp at hg
    |some d=>
     rw [hc] at hg;obtain ⟨v,S1,k6,k7,k8⟩:=RepL.nth k2 hc;rcases qM k1 with ⟨rfl,rfl⟩|⟨g,n,c,rfl,rfl,k4,k5,_⟩
     ·simp at k6
     ·simp only [aRE,hdr,hc,aQN,k5 i v k6,aPA]
      exact ih k7 hg
 exact key p h2 hg
theorem js6 (h:RelF B w0 N s a w F) {A:AV} {u0:Value} {n:Nat} {l:List A0} (hv:VRel B w A u0) (h1:jaE s n l A):
 ∃b k us,u0=.pointer (some ⟨b,k,none⟩)/\us.length=n/\l.length=n/\(∀j u,us[j]?=some u->w.cell? ⟨b,k+j,none⟩=some u)/\A0RelL B w l us:=by
 have key:∀(b k:Nat) (us:List Value),u0=.pointer (some ⟨b,k,none⟩)->us.length=n->l.length=n->(∀j u,us[j]?=some u->w.cell? ⟨b,k+j,none⟩=some u)->A0RelL B w l us->
  ∃b k us,u0=.pointer (some ⟨b,k,none⟩)/\us.length=n/\l.length=n/\(∀j u,us[j]?=some u->w.cell? ⟨b,k+j,none⟩=some u)/\A0RelL B w l us:=λb k us k1 k2 k3 k4 k5=>⟨b,k,us,k1,k2,k3,k4,k5⟩
 generalize he:A=A' at h1;unfold jaE at h1;split at h1
 ·rename_i ds
  obtain ⟨h3,rfl⟩:=h1;rw [he] at hv;obtain ⟨b,k,us,S,hp,k2,k3,k4,k5⟩:=hv;obtain ⟨S',k6,k7⟩:=RepL.take n k2;have aC:=RepL.length _ k6;refine key b k (us.take n) hp (by rw [aC,aOZ];omega) (by simp;omega) (λj u hu=>?_) (RepL.ro_cells k6 ⟨rfl,λy hy=>k3 y (k7 y hy)⟩)
  rw [aQY] at hu;split at hu
  ·exact k5 j u hu
  ·simp at hu
 ·rename_i g c b
  obtain ⟨ty,cs,h3,h4,rfl⟩:=h1;rw [he] at hv;have bT:=h.ob g;rw [h3] at bT;obtain ⟨us,S1,k1,k2,k3⟩:=bT;obtain ⟨S2,k4,k5⟩:=CRel.drop c k2;obtain ⟨S3,k6,k7⟩:=CRel.take n k4;have oO:=CRel.len k2;refine key b c ((us.drop c).take n) hv (by simp;omega) ?_ (λj u hu=>?_) (CRel.load c k6)
  ·have:∀(g c:Nat) (cs:List Cell),(jeu g c cs).length=cs.length:=by
    intro g c cs
    induction cs generalizing c with
    |nil=>rfl
    |cons x l ih=>cases x<;>simp [jeu,ih]
   rw [this];simp;omega
  ·rw [aQY] at hu
   split at hu
   ·rw [aQU] at hu
    simp [World.cell?,k1,hu]
   ·simp at hu
 ·rename_i g c p i' x''
  obtain ⟨d0,η,dd,h3,h4,h5,hs,h6,rfl⟩:=h1;rw [he] at hv;obtain ⟨S,k1,k2⟩:=zt h h3 h4 h5 hs;cases dd with
  |val _=>cases hs
  |sl size ty cs=>
   obtain ⟨vs,T,S',k3,k4,k5⟩:=k1;have bO:=RepL.length _ k4;simp only [D.cells] at h6 key;rcases qM k3 with ⟨rfl,rfl⟩|⟨gg,nn,cc,rfl,rfl,k6,k7,_⟩
   ·have fI:cs=[]:=aPS (by simpa using bO.symm)
    subst fI;simp at h6;obtain ⟨rfl,rfl⟩:=h6;exact key 0 (0+0) [] (by rw [hv];rfl) rfl rfl (by simp) rfl
   ·refine key gg (0+i') ((vs.drop i').take n) (by rw [hv];rfl) (by simp;omega) (by rw [jk8];simp;omega) (λj u hu=>?_) (A0RelL.of_get (by rw [jk8];simp;omega) λj a0 u ha hu=>?_)
    ·rw [aQY] at hu
     split at hu
     ·rw [aQU] at hu
      rw [aQN];exact k7 _ _ hu
     ·simp at hu
    ·rw [aQY] at hu
     split at hu
     ·rename_i hj
      rw [aQU] at hu;obtain ⟨dj,oG⟩:∃dj,cs[i'+j]?=some dj:=⟨cs[i'+j],aOV (by omega)⟩
      have hdt:((cs.drop i').take n)[j]?=some dj:=by rw [aQY,if_pos hj,aQU];exact oG
      rw [jpZ hdt] at ha;simp at ha;subst ha;obtain ⟨u',S1,k8,k9,_⟩:=RepL.nth k4 oG;rw [hu] at k8;simp at k8;subst k8;cases dj with
      |val _=>exact k9.1
      |sl _ _ _=>
       have e:η (p++[i'+j])=u:=by rw [k2];simp [hdr,oG,k7 _ _ hu]
       obtain ⟨_,_,_,rfl⟩:=zr k9;exact ⟨e.symm,by rw [e];rfl⟩
     ·simp at hu
 ·exact h1.elim
def jDE:TypeDesc->Bool
 |.struct _|.array _ _=>true
 |_=>false
theorem jok {t:TypeId} {dsc:TypeDesc} {agg:Bool} {n b k:Nat} {us:List Value} (ht:P.underlying t=some dsc) (g9:agg=jDE dsc) (hn:qj P t=some n) (hl:us.length=n)
 (hc:∀j u,us[j]?=some u->w.cell? ⟨b,k+j,none⟩=some u) {v:Value} (hv:if agg then v=.agg us.toArray else us=[v]):(loadVar t ⟨b,k,none⟩).run P w=.ok v w:=by
 obtain ⟨i,hi,cJ⟩:∃i,P.info? t=some i/\i.size=n:=by
  unfold qj at hn;cases hq:P.info? t with
  |none=>simp [hq] at hn
  |some i=>exact ⟨i,rfl,by simpa [hq] using hn⟩
 cases agg with
 |true=>
  obtain rfl:v=.agg us.toArray:=by simpa using hv
  have yD:=run_loadCells_list (P:=P) w ⟨b,k,none⟩ us (λj u hu=>by rw [jat];exact hc j u hu)
  rw [hl] at yD
  have eY:(isAgg t).run P w=.ok true w:=by
   simp only [isAgg,Sem.run_bind,run_underlying ht];cases dsc<;>first|rfl|cases g9
  simp [loadVar,eY,sizeOf,typeInfo,hi,cJ,yD]
 |false=>
  obtain rfl:us=[v]:=by simpa using hv
  have bW:=hc 0 v rfl
  have eY:(isAgg t).run P w=.ok false w:=by
   simp only [isAgg,Sem.run_bind,run_underlying ht];cases dsc<;>first|rfl|cases g9
  simp only [aPO] at bW;simp [loadVar,eY,bW]
theorem go_ld (h:RelF B w0 N s a w F) {t:TypeId} {x:Operand} {x':X} {agg:Bool} {n:Nat} {dsc:TypeDesc} (ho:o.op=.load t x) (ht:P.underlying t=some dsc) (g9:agg=jDE dsc) (hn:qj P t=some n) (hx:jQ x=some x')
 (hg:∀st,∃av os,Gen P s d rt st (.ld agg n x') av os/\G av os):Goes P o a w (kt B w G):=by
 obtain ⟨av,os,⟨l,h1,h2,rfl⟩,hG⟩:=hg ⟨0,λ_ _=>undef⟩
 have hv:=qT h hx;obtain ⟨b,k,us,hp,hl,eR,hc,hr⟩:=js6 h hv h1;cases agg with
 |true=>
  obtain rfl:av=.agg l:=by simpa using h2
  have:=jok (P:=P) (v:=.agg us.toArray) ht g9 hn hl hc (by simp)
  refine vV (v:=.agg us.toArray) ?_ (by exact ⟨us,rfl,hr⟩) hG
  simp [execOp,ho,Instr.loadAt,hp,Instr.sureAddr,this]
 |false=>
  obtain ⟨a0,rfl,rfl⟩:∃a0,l=[a0]/\av=.c a0:=by simpa using h2
  obtain ⟨u,us',rfl,k1,k2⟩:=hr;have k3:us'=[]:=k2;subst k3;have:=jok (P:=P) (v:=u) ht g9 hn hl hc (by simp)
  refine vV (v:=u) ?_ (by exact k1) hG
  simp [execOp,ho,Instr.loadAt,hp,Instr.sureAddr,this]
theorem jkF {t:TypeId} {n:Nat} (hn:qj P t=some n):∃i,P.info? t=some i/\i.size=n:=by
 unfold qj at hn;cases hq:P.info? t with
 |none=>simp [hq] at hn
 |some i=>exact ⟨i,rfl,by simpa [hq] using hn⟩
theorem jad {size:Nat} {ty:TypeId} {cs:List D} {u:Value} {S:List Nat} (h:Rep w false (.sl size ty cs) u S):
 ∃A n c vs S',u=.slice A n c/\cs.length=n*size/\RepL w false cs vs S'/\(∀x∈S',x∈S)/\n<=c/\c<=maxLen/\(A=none->c=0)/\(vs≠ []->∃b o,A=some ⟨b,o,none⟩/\b∈S/\∀j u,vs[j]?=some u->w.cell? ⟨b,o+j,none⟩=some u):=by
 obtain ⟨vs,T,S',⟨_,A,n,c,rfl,h2,h3,h4,h5,h6⟩,h7,rfl⟩:=h;refine ⟨A,n,c,vs,S',rfl,by rw [<-RepL.length _ h7];exact h2,h7,λx hx=>by simp [hx],h3,h4,h5,λaK=>?_⟩
 obtain ⟨b,o',rfl,rfl,h8⟩:=h6 aK;exact ⟨b,o',rfl,by simp,h8⟩
theorem jjc {size:Nat} {ty:TypeId} {cs:List D} {n:Nat} (hs:0<size) (h:cs.length=n*size):D.len (.sl size ty cs)=n:=by
 simp only [D.len,D.cells,D.size,h];exact aPZ _ hs
theorem jwo {size:Nat} {ty:TypeId} {cs:List D} {A:Option Addr} {n c:Nat} {S:List Nat} {l hh:Nat} (hs:0<size) (hr:Rep w false (.sl size ty cs) (.slice A n c) S) (hS:∀b∈S,b<B) (h1:l<=hh) (h2:hh<=n):
 ∃S',Rep w false (D.sub (.sl size ty cs) l hh) (.slice (if c=l then A else A.map (·.add (l*size))) (hh-l) (c-l)) S'/\∀b∈S',b<B:=by
 obtain ⟨vs,T,S',⟨hT,A',n',c',he,h3,h4,h5,h6,h7⟩,h8,rfl⟩:=hr;cases he;obtain ⟨S2,h9,lG⟩:=RepL.drop (l*size) h8;obtain ⟨S3,oK,cC⟩:=RepL.take ((hh-l)*size) h9;have xZ:(hh-l)*size+l*size<=n*size:=by rw [<-aSD];exact aRY _ (by omega)
 have aC:((vs.drop (l*size)).take ((hh-l)*size)).length=(hh-l)*size:=by simp;omega
 by_cases aK:(vs.drop (l*size)).take ((hh-l)*size)=[]
 ·refine ⟨[]++S3,⟨_,[],S3,⟨by simp,_,_,_,rfl,aC,by omega,by omega,λhA=>?_,λh=>absurd aK h⟩,oK,rfl⟩,λb hb=>hS b (by simp [lG b (cC b (by simpa using hb))])⟩
  split at hA
  ·omega
  ·have:A=none:=by simpa using hA
   have:=h6 this;omega
 ·have aCB:vs≠ []:=λe=>aK (by subst e;simp)
  obtain ⟨b,o',rfl,rfl,h13⟩:=h7 aCB
  have dN:c≠l:=λe=>aK (by
   have:hh-l=0:=by omega
   rw [this];simp)
  refine ⟨[b]++S3,⟨_,[b],S3,⟨by simpa using hT,_,_,_,rfl,aC,by omega,by omega,by rw [if_neg dN];simp,λ_=>⟨b,o'+l*size,by rw [if_neg dN];simp [jat],rfl,λj u hu=>?_⟩⟩,oK,rfl⟩,λx hx=>?_⟩
  ·rw [aQY] at hu
   split at hu
   ·rw [aQU] at hu
    rw [aSF];exact h13 _ _ hu
   ·simp at hu
  ·rcases aOX.1 hx with hx|hx
   ·exact hS x (by simp at hx⊢;exact .inl hx)
   ·exact hS x (by simp [lG x (cC x hx)])
theorem jld (h:RelF B w0 N s a w F) {x:A0} {u:Value} {dd:D} (hr:A0Rel B w x u) (hi:Is s x dd):∃S,Rep w false dd u S:=by
 cases x with
 |v x=>
  have hr:u=x:=hr;subst hr;rcases hi with rfl|⟨rfl,size,ty,rfl⟩
  ·exact ⟨[],rfl,rfl⟩
  ·exact ⟨[],[],[],[],⟨by simp,none,0,0,rfl,by simp,aPD _,aPP _,λ_=>rfl,λh=>absurd rfl h⟩,RepL.nil_,rfl⟩
 |ro d'=>
  have hi:dd=d':=hi;subst hi;obtain ⟨_,S,h1,_⟩:=hr;exact ⟨S,h1⟩
 |h g c p x=>
  obtain ⟨hr,_⟩:=hr;subst hr;obtain ⟨d0,η,h1,h2,h3,h4⟩:=hi;obtain ⟨S,h5,_⟩:=zt h h1 h2 h3 h4;exact ⟨S,h5.ro⟩
 |hs g c p x size lo n=>
  obtain ⟨hr,_⟩:=hr;obtain ⟨d0,η,dd,h1,h2,h3,h4,h5,h6,h7,rfl⟩:=hi;obtain ⟨S,h8,_⟩:=zt h h1 h2 h3 h4;have h8:=h8.ro;cases dd with
  |val _=>cases h4
  |sl size' ty cs=>
   have mV:size'=size:=h5;subst mV;rcases hr with rfl|⟨_,rfl,A,rfl⟩;rotate_left
   ·refine ⟨[],[],[],[],⟨by simp,A,0,0,rfl,by simp,aPD _,aPP _,λ_=>rfl,λh=>absurd rfl h⟩,?_,rfl⟩
    have e:D.sub (.sl size' ty cs) lo (lo+0)=.sl size' ty []:=by simp [D.sub]
    simp only [aPO,aSK,Nat.zero_mul,aQH];exact RepL.nil_
   obtain ⟨A,n',c',vs,S',hu,k5,_⟩:=jad h8;have aC:=jjc (ty:=ty) h6 k5;rw [aC] at h7;rw [hu] at h8⊢;obtain ⟨S2,k7,_⟩:=jwo (B:=w.heap.size) h6 h8 (Rep.lt _ h8) (aSG lo n) h7;have e:lo+n-lo=n:=by omega
   rw [e] at k7;exact ⟨S2,k7⟩
 |_=>exact hi.elim
theorem go_len (h:RelF B w0 N s a w F) {c:Call} {x:Operand} {x':X} (ho:o.op=.call c) (hc:c.callee=.builtin .len) (ha:c.args.toList=[x]) {str:Bool} (ht:if str then (c.argTypes[0]?).bind P.underlying=some .string else∃e,(c.argTypes[0]?).bind P.underlying=some (.slice e)) (hx:jQ x=some x')
 (hg:∀st,∃av os,Gen P s d rt st (.len str x') av os/\G av os):Goes P o a w (kt B w G):=by
 obtain ⟨av,os,⟨n,h1,rfl,rfl⟩,hG⟩:=hg ⟨0,λ_ _=>undef⟩
 have hv:=qT h hx;have cG:c.args=#[x]:=by rw [<-Array.toArray_toList (xs:=c.args),ha]
 have hty:∀td,(c.argTypes[0]?).bind P.underlying=some td->∃t,c.argTypes[0]?=some t/\P.underlying t=some td:=λtd hb=>by
  cases hq:c.argTypes[0]? with
  |none=>simp [hq] at hb
  |some t=>exact ⟨t,rfl,by simpa [hq] using hb⟩
 have uD:str=false->∀(A:Option Addr) (c':Nat),a.eval x=.slice A n c'->Goes P o a w (kt B w G):=λhf A c' he=>by
  rw [hf] at ht;obtain ⟨e,hb⟩:∃e,(c.argTypes[0]?).bind P.underlying=some (.slice e):=by simpa using ht
  obtain ⟨t,h2,h3⟩:=hty _ hb;refine vV (v:=.int .i64 n) ?_ (by exact rfl) hG
  simp [execOp,ho,resolve,hc,cG,he,invoke,builtin,Builtin.len_,h2,run_underlying h3,goInt]
 have hd:str=false->∀dd:D,dd.isSl=true->0<dd.size->n=dd.len->∀S,Rep w false dd (a.eval x) S->Goes P o a w (kt B w G):=λhf dd k1 k2 k3 S k4=>by
  cases dd with
  |val _=>cases k1
  |sl size ty cs=>
   obtain ⟨A,n',c',vs,S',he,k5,_⟩:=jad k4;obtain rfl:n=n':=by rw [k3];exact jjc k2 k5
   exact uD hf A c' he
 unfold jvn at h1;split at h1
 ·rename_i b he
  have eS:=jjx h hx he;obtain ⟨t,h2,h3⟩:=hty _ (show (c.argTypes[0]?).bind P.underlying=some .string by simpa using ht)
  subst h1;refine vV (v:=.int .i64 b.size) ?_ (by exact rfl) hG
  simp [execOp,ho,resolve,hc,cG,eS,invoke,builtin,Builtin.len_,h2,run_underlying h3,goInt]
 ·rename_i he
  have eS:=jjx h hx he;subst h1;exact uD rfl none 0 eS
 ·rename_i dd he
  rw [he] at hv;obtain ⟨k1,S,k2,_⟩:=hv;exact hd rfl dd k1 h1.2.1 h1.2.2 S k2
 ·rename_i g c p x'' he
  obtain ⟨dd,k1,k2,k3⟩:=h1;rw [he] at hv;have hv:A0Rel B w (.h g c p x'') (a.eval x):=hv;obtain ⟨S,k4⟩:=jld h hv k1;obtain ⟨_,_,_,_,_,k5⟩:=k1;exact hd rfl dd k5 k2 k3 S k4
 ·rename_i g c p x'' size lo m he
  obtain ⟨⟨dd,d0,η,d1,k1,k2,k3,k4,k5,k6,k7,rfl⟩,rfl⟩:=h1;rw [he] at hv;have hv:a.eval x=jj9 x'' size lo n\/0<lo/\n=0/\∃A,a.eval x=.slice A 0 0:=hv.1;rcases hv with hv|⟨_,rfl,A,hv⟩;rotate_left
  ·exact uD rfl _ _ hv
  obtain ⟨S,k8,_⟩:=zt h k1 k2 k3 k4;cases d1 with
  |val _=>cases k4
  |sl size' ty cs=>
   obtain ⟨A,n',c',vs,S',hu,_⟩:=jad k8.ro;subst hu;exact uD rfl _ _ hv
 ·exact h1.elim
theorem go_ia (h:RelF B w0 N s a w F) {t e:TypeId} {x i:Operand} {x' i':X} {m:Nat} (ho:o.op=.indexAddr t x i) (ht:P.underlying t=some (.slice e)) (hm:qj P e=some (m+1)) (hx:jQ x=some x') (hi:jQ i=some i')
 (hg:∀st,∃av os,Gen P s d rt st (.ia (m+1) x' i') av os/\G av os):Goes P o a w (kt B w G):=by
 obtain ⟨av,os,⟨k,n,h1,h2,h3,rfl⟩,hG⟩:=hg ⟨0,λ_ _=>undef⟩
 have hv:=qT h hx;have hiv:=jjx h hi h1;obtain ⟨inf,fJ,cW⟩:=jkF hm
 have aW:∀(ad:Addr) (len c:Nat),a.eval x=.slice (some ad) len c->n<len->(execOp a.eval o).run P w=.ok (.value (.pointer (some (ad.add (n.toNat*(m+1)))))) w:=λad len c he aB=>by
  simp [execOp,ho,Instr.indexAt,asIntOf,hiv,he,run_underlying ht,h2,aB,sizeOf,typeInfo,fJ,cW]
 split at h3
 ·rename_i dd he
  obtain ⟨k1,k2,k3,rfl⟩:=h3;rw [he] at hv;obtain ⟨_,S,k4,k5⟩:=hv;cases dd with
  |val _=>cases k1
  |sl size ty cs=>
   have k2':size=m+1:=k2;subst k2';obtain ⟨A,n',c',vs,S',hu,k6,k7,k8,k9,_,_,k10⟩:=jad k4;have aC:=jjc (ty:=ty) (by omega:0<m+1) k6
   rw [aC] at k3;have bO:=RepL.length _ k7;have xZ:n.toNat*(m+1)+(m+1)<=n'*(m+1):=by rw [<-Nat.succ_mul];exact aRY _ k3
   obtain ⟨b,o',rfl,hb,k11⟩:=k10 (λe=>by subst e;simp at bO;omega)
   obtain ⟨S2,k12,k13⟩:=RepL.drop (n.toNat*(m+1)) k7;obtain ⟨S3,k14,k15⟩:=RepL.take (m+1) k12
   refine vV (aW _ _ _ hu (by omega)) (by
    refine ⟨b,o'+n.toNat*(m+1),(vs.drop (n.toNat*(m+1))).take (m+1),S3,by rw [jat],k14,λy hy=>k5 y (k8 y (k13 y (k15 y hy))),λ_=>k5 b hb,λj y hy=>?_⟩
    rw [aQY] at hy;split at hy
    ·rw [aQU] at hy
     rw [aSF];exact k11 _ _ hy
    ·simp at hy) hG
 ·rename_i g c p bV he
  obtain ⟨⟨dd,k1,k2,k3⟩,rfl⟩:=h3;rw [he] at hv;have hv:a.eval x=bV:=hv.1;obtain ⟨d0,η,k4,k5,k6,k7⟩:=k1;obtain ⟨S,k8,_⟩:=zt h k4 k5 k6 k7;cases dd with
  |val _=>cases k7
  |sl size ty cs=>
   have k2':size=m+1:=k2;subst k2';obtain ⟨vs,T,S',k9,k10,_⟩:=k8;have bO:=RepL.length _ k10;rcases qM k9 with ⟨rfl,rfl⟩|⟨gg,nn,cc,rfl,rfl,k11,_,_⟩
   ·simp at bO
    simp [D.len,D.cells,<-bO] at k3
   ·have aC:D.len (.sl (m+1) ty cs)=nn:=jjc (by omega) (by rw [<-bO];exact k11)
    rw [aC] at k3;refine vV (aW _ _ _ hv (by omega)) (by show _=_;rw [jat];rfl) hG
 ·rename_i g c p bV sz lo m' he
  obtain ⟨⟨dd,d0,η,d1,k4,k5,k6,k7,k8,k9,k10,rfl⟩,rfl,k3,rfl⟩:=h3;rw [he] at hv;have hv:a.eval x=jj9 bV (m+1) lo m':=hv.1.resolve_right λ⟨_,o0,_⟩=>by omega
  obtain ⟨S,k11,_⟩:=zt h k4 k5 k6 k7;cases d1 with
  |val _=>cases k7
  |sl size ty cs=>
   have k8':size=m+1:=k8;subst k8';obtain ⟨vs,T,S',k12,k13,_⟩:=k11;have bO:=RepL.length _ k13;rcases qM k12 with ⟨rfl,rfl⟩|⟨gg,nn,cc,rfl,rfl,k14,_,_⟩
   ·simp at bO
    simp [D.len,D.cells,<-bO] at k10;omega
   ·have aC:D.len (.sl (m+1) ty cs)=nn:=jjc (by omega) (by rw [<-bO];exact k14)
    rw [aC] at k10;obtain ⟨nv,bQ,_⟩:=k12;obtain ⟨_,⟨h,_⟩|⟨g1,cap,cur,nF,_,_,aEC,_⟩⟩:=bQ
    ·cases h
    ·cases nF
     have aK:cc≠lo:=by omega
     simp only [jj9,if_neg aK,Option.map_some] at hv
     refine vV (aW _ _ _ hv (by omega)) (by
      show _=_;rw [jat,jat,aSD,aQN];simp [jcp]) hG
 ·exact h3.elim
theorem go_sidx (h:RelF B w0 N s a w F) {t:TypeId} {x i:Operand} {x' i':X} (ho:o.op=.index t x i) (ht:P.underlying t=some .string) (hx:jQ x=some x') (hi:jQ i=some i')
 (hg:∀st,∃av os,Gen P s d rt st (.sidx x' i') av os/\G av os):Goes P o a w (kt B w G):=by
 obtain ⟨av,os,⟨b,k,n,u,h1,h2,h3,h4,rfl,rfl⟩,hG⟩:=hg ⟨0,λ_ _=>undef⟩
 refine vV (v:=.int .u8 u.toNat) ?_ (by exact rfl) hG
 simp [execOp,ho,Instr.index,asIntOf,jjx h hx h1,jjx h hi h2,run_underlying ht,h3,h4]
theorem go_mm (h:RelF B w0 N s a w F) {c:Call} {mx:Bool} {x y:Operand} {x' y':X} (ho:o.op=.call c) (hc:c.callee=.builtin (if mx then .max else .min)) (ha:c.args.toList=[x,y]) (hx:jQ x=some x') (hy:jQ y=some y')
 (hg:∀st,∃av os,Gen P s d rt st (.mm mx x' y') av os/\G av os):Goes P o a w (kt B w G):=by
 obtain ⟨av,os,⟨k,k',m,n,h1,h2,rfl,rfl⟩,hG⟩:=hg ⟨0,λ_ _=>undef⟩
 have cG:c.args=#[x,y]:=by rw [<-Array.toArray_toList (xs:=c.args),ha]
 refine vV (v:=.int k (if mx then (if n>m then n else m) else (if n<m then n else m))) ?_ (by exact rfl) hG
 cases mx
 ·simp at hc
  simp [execOp,ho,resolve,hc,cG,jjx h hx h1,jjx h hy h2,invoke,builtin,Builtin.min_,Builtin.min2]
 ·simp at hc
  simp [execOp,ho,resolve,hc,cG,jjx h hx h1,jjx h hy h2,invoke,builtin,Builtin.max_,Builtin.max2]
theorem go_un (h:RelF B w0 N s a w F) {op:UnOp} {t:TypeId} {x:Operand} {x':X} (ho:o.op=.unOp op t x) (hx:jQ x=some x')
 (hg:∀st,∃av os,Gen P s d rt st (.un op x') av os/\G av os):Goes P o a w (kt B w G):=by
 obtain ⟨av,os,⟨h1,rfl⟩,hG⟩:=hg ⟨0,λ_ _=>undef⟩
 cases op with
 |not=>
  obtain ⟨b,h2,rfl⟩:=h1;refine vV (v:=.bool (!b)) ?_ (by exact rfl) hG
  simp [execOp,ho,jjx h hx h2,Op.unary]
 |neg=>
  obtain ⟨k,n,h2,rfl⟩:=h1;refine vV (v:=.int k (k.wrap (0-n))) ?_ (by exact rfl) hG
  simp [execOp,ho,jjx h hx h2,Op.unary,Op.intArith]
 |_=>exact h1.elim
theorem go_beq (h:RelF B w0 N s a w F) {neg:Bool} {t t':TypeId} {x y:Operand} {x' y':X} (ho:o.op=.binOp (if neg then .neq else .eql) t x y t') (ht:P.underlying t=some .bool) (hx:jQ x=some x') (hy:jQ y=some y')
 (hg:∀st,∃av os,Gen P s d rt st (.beq neg x' y') av os/\G av os):Goes P o a w (kt B w G):=by
 obtain ⟨av,os,⟨b,c,h1,h2,rfl,rfl⟩,hG⟩:=hg ⟨0,λ_ _=>undef⟩
 refine vV (v:=.bool (if neg then !(b==c) else b==c)) ?_ (by exact rfl) hG
 cases neg
 ·simp at ho
  simp [execOp,ho,jjx h hx h1,jjx h hy h2,eqGuard,binOp,run_equal_bool (P:=P) w t b c ht]
 ·simp at ho
  simp [execOp,ho,jjx h hx h1,jjx h hy h2,eqGuard,binOp,run_equal_bool (P:=P) w t b c ht]
end
