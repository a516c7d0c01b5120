/- Parts. -/
import Derived.Test.YtekegiiikglhbaaGreatQA
import Derived.WalkKit
import Derived.WalkSpells
import Derived.WalkLawsBesides
import Derived.Lib.Hide
import Derived.Lib.QuietBelow
import Derived.BigQuiet
import Derived.Deep.MidRow
import Derived.OwnWalk
set_option linter.all false
namespace Go.Proofs.YtekegiiikglhbaaGreat
open Go.RowKit
inductive D where
 |val (v:Value)
 |sl (size:Nat) (ty:TypeId) (cs:List D)
def blk (v:Value):List Nat:=match v with
 |.slice (some a) _ _=>[a.block]
 |_=>[]
def RowAt (w:World) (own:Bool) (size:Nat) (ty:TypeId) (vs:List Value) (v:Value) (T:List Nat):Prop:=
 match own with
 |true=>∃n,w.ownsRow 0 ty size v n vs/\T=blk v
 |false=>(∀b∈T,b<w.heap.size)/\∃A n c,v=.slice A n c/\vs.length=n*size/\n<=c/\c<=maxLen/\(A=none->c=0)/\
  (vs≠ []->∃b o,A=some ⟨b,o,none⟩/\T=[b]/\∀j u,vs[j]?=some u->w.cell? ⟨b,o+j,none⟩=some u)
mutual
def Rep (w:World) (own:Bool):D->Value->List Nat->Prop
 |.val u,v,S=>v=u/\S=[]
 |.sl size ty cs,v,S=>∃vs T S',RowAt w own size ty vs v T/\RepL w own cs vs S'/\S=T++S'
def RepL (w:World) (own:Bool):List D->List Value->List Nat->Prop
 |[],vs,S=>vs=[]/\S=[]
 |d::ds,vs,S=>∃v vs' S1 S2,vs=v::vs'/\S=S1++S2/\Rep w own d v S1/\RepL w own ds vs' S2
end
def AggRep (w:World) (own:Bool) (ds:List D) (v:Value) (S:List Nat):Prop:=∃vs,v=.agg vs.toArray/\RepL w own ds vs S
def Fresh (B:Nat) (S:List Nat):Prop:=S.Nodup/\∀b∈S,B<=b
theorem qR {α:Type} {a:Array α} {i:Nat} {x:α} (h:a[i]?=some x):i<a.size:=(Array.getElem?_eq_some_iff.1 h).1
section
variable {w w':World} {own:Bool} {size:Nat} {ty:TypeId} {vs:List Value} {v:Value} {T:List Nat}
theorem RowAt.lt (h:RowAt w own size ty vs v T):∀b∈T,b<w.heap.size:=by
 intro b Z;cases own with
 |true=>
  obtain ⟨n,h,rfl⟩:=h;rcases h.2 with ⟨rfl,_⟩|⟨g,cap,cur,rfl,_,hg,_⟩
  ·simp [blk] at Z
  ·simp [blk] at Z;subst Z;exact qR hg
 |false=>exact h.1 b Z
theorem jpS {b:Nat} (h:b<w.heap.size) (hk:w'.heap[b]?=w.heap[b]?):b<w'.heap.size:=by
 rw [Array.getElem?_eq_getElem h] at hk;exact qR hk
theorem RowAt.keep (h:RowAt w own size ty vs v T) (hk:∀b∈T,w'.heap[b]?=w.heap[b]?):RowAt w' own size ty vs v T:=by
 cases own with
 |true=>
  obtain ⟨n,h,rfl⟩:=h;refine ⟨n,⟨h.1,?_⟩,rfl⟩;rcases h.2 with Y|⟨g,cap,cur,rfl,Z,hg,r⟩
  ·exact .inl Y
  ·exact .inr ⟨g,cap,cur,rfl,Z,(hk g (by simp [blk])).trans hg,r⟩
 |false=>
  obtain ⟨hl,A,n,c,rfl,V,Y,h3,h5,h4⟩:=h;refine ⟨λb Z=>jpS (hl b Z) (hk b Z),A,n,c,rfl,V,Y,h3,h5,λa7=>?_⟩
  obtain ⟨b,o,rfl,rfl,hc⟩:=h4 a7;exact ⟨b,o,rfl,rfl,λj u hu=>(World.cell?_of_block (a:=⟨b,o+j,none⟩) (hk b (by simp))).trans (hc j u hu)⟩
theorem RowAt.ro (h:RowAt w own size ty vs v T):RowAt w false size ty vs v T:=by
 cases own with
 |false=>exact h
 |true=>
  have hl:=h.lt;obtain ⟨n,h,rfl⟩:=h;refine ⟨hl,?_⟩;rcases h.2 with ⟨rfl,rfl⟩|⟨g,cap,cur,rfl,Z,hg,hO,gW,lL,ht⟩
  ·exact ⟨none,0,0,rfl,h.1,aAV _,aBR _,λ_=>rfl,λa7=>absurd (aBC (by simpa using h.1)) a7⟩
  ·refine ⟨some ⟨g,0,none⟩,n,cap,rfl,h.1,hO,gW,(λe=>nomatch e),λ_=>⟨g,0,rfl,rfl,λj u hu=>?_⟩⟩
   have:=h.cells (g:=g) rfl j u hu;have e:(⟨g,0,none⟩:Addr).add j=⟨g,0+j,none⟩:=by unfold Addr.add;split<;>simp_all
   rwa [e] at this
end
mutual
theorem Rep.lt {w:World} {own:Bool}:∀(d:D) {v:Value} {S:List Nat},Rep w own d v S->∀b∈S,b<w.heap.size
 |.val _,_,_,h=>by obtain ⟨_,rfl⟩:=h;simp
 |.sl _ _ cs,_,_,h=>by
  obtain ⟨vs,T,S',V,Y,rfl⟩:=h;intro b Z;rcases aAS.1 Z with Z|Z
  ·exact V.lt b Z
  ·exact RepL.lt cs Y b Z
theorem RepL.lt {w:World} {own:Bool}:∀(ds:List D) {vs:List Value} {S:List Nat},RepL w own ds vs S->∀b∈S,b<w.heap.size
 |[],_,_,h=>by obtain ⟨_,rfl⟩:=h;simp
 |d::ds,_,_,h=>by
  obtain ⟨v,vs',S1,S2,rfl,rfl,V,Y⟩:=h;intro b Z;rcases aAS.1 Z with Z|Z
  ·exact Rep.lt d V b Z
  ·exact RepL.lt ds Y b Z
end
mutual
theorem Rep.keep {w w':World} {own:Bool}:∀(d:D) {v:Value} {S:List Nat},Rep w own d v S->(∀b∈S,w'.heap[b]?=w.heap[b]?)->Rep w' own d v S
 |.val _,_,_,h,_=>h
 |.sl _ _ cs,_,_,h,hk=>by
  obtain ⟨vs,T,S',V,Y,rfl⟩:=h;exact ⟨vs,T,S',V.keep λb Z=>hk b (aAS.2 (.inl Z)),RepL.keep cs Y λb Z=>hk b (aAS.2 (.inr Z)),rfl⟩
theorem RepL.keep {w w':World} {own:Bool}:∀(ds:List D) {vs:List Value} {S:List Nat},RepL w own ds vs S->(∀b∈S,w'.heap[b]?=w.heap[b]?)->RepL w' own ds vs S
 |[],_,_,h,_=>h
 |d::ds,_,_,h,hk=>by
  obtain ⟨v,vs',S1,S2,rfl,rfl,V,Y⟩:=h;exact ⟨v,vs',S1,S2,rfl,rfl,Rep.keep d V λb Z=>hk b (aAS.2 (.inl Z)),RepL.keep ds Y λb Z=>hk b (aAS.2 (.inr Z))⟩
end
mutual
theorem Rep.ro {w:World} {own:Bool}:∀(d:D) {v:Value} {S:List Nat},Rep w own d v S->Rep w false d v S
 |.val _,_,_,h=>h
 |.sl _ _ cs,_,_,h=>by
  obtain ⟨vs,T,S',V,Y,rfl⟩:=h;exact ⟨vs,T,S',V.ro,RepL.ro cs Y,rfl⟩
theorem RepL.ro {w:World} {own:Bool}:∀(ds:List D) {vs:List Value} {S:List Nat},RepL w own ds vs S->RepL w false ds vs S
 |[],_,_,h=>h
 |d::ds,_,_,h=>by
  obtain ⟨v,vs',S1,S2,rfl,rfl,V,Y⟩:=h;exact ⟨v,vs',S1,S2,rfl,rfl,Rep.ro d V,RepL.ro ds Y⟩
end
section
variable {w w':World} {own:Bool} {d:D} {ds es:List D} {v:Value} {vs:List Value} {S:List Nat}
theorem Rep.below {B:Nat} (h:Rep w own d v S) (Z:Below B w w') (hB:w.heap.size<=B):Rep w' own d v S:=
 Rep.keep d h λb hs=>Z.block b (aCS (Rep.lt d h b hs) hB)
theorem RepL.below {B:Nat} (h:RepL w own ds vs S) (Z:Below B w w') (hB:w.heap.size<=B):RepL w' own ds vs S:=
 RepL.keep ds h λb hs=>Z.block b (aCS (RepL.lt ds h b hs) hB)
theorem AggRep.below {B:Nat} (h:AggRep w own ds v S) (Z:Below B w w') (hB:w.heap.size<=B):AggRep w' own ds v S:=
 let ⟨vs,e,h⟩:=h;⟨vs,e,h.below Z hB⟩
theorem AggRep.ro (h:AggRep w own ds v S):AggRep w false ds v S:=let ⟨vs,e,h⟩:=h;⟨vs,e,RepL.ro ds h⟩
theorem AggRep.keep (h:AggRep w own ds v S) (hk:∀b∈S,w'.heap[b]?=w.heap[b]?):AggRep w' own ds v S:=let ⟨vs,e,h⟩:=h;⟨vs,e,RepL.keep ds h hk⟩
theorem RepL.nil_:RepL w own [] [] []:=⟨rfl,rfl⟩
theorem RepL.cons_ {S1 S2:List Nat} (h:Rep w own d v S1) (Y:RepL w own ds vs S2):RepL w own (d::ds) (v::vs) (S1++S2):=⟨v,vs,S1,S2,rfl,rfl,h,Y⟩
theorem RepL.val_ {u:Value} (Y:RepL w own ds vs S):RepL w own (.val u::ds) (u::vs) S:=⟨u,vs,[],S,rfl,rfl,⟨rfl,rfl⟩,Y⟩
theorem RepL.val_inv {u:Value} (h:RepL w own (.val u::ds) vs S):∃vs',vs=u::vs'/\RepL w own ds vs' S:=by
 obtain ⟨v,vs',S1,S2,rfl,rfl,⟨rfl,rfl⟩,Y⟩:=h;exact ⟨vs',rfl,Y⟩
theorem RepL.length:∀(ds:List D) {vs:List Value} {S:List Nat},RepL w own ds vs S->vs.length=ds.length
 |[],_,_,h=>by obtain ⟨rfl,_⟩:=h;rfl
 |d::ds,_,_,h=>by
  obtain ⟨v,vs',S1,S2,rfl,rfl,V,Y⟩:=h;simp [RepL.length ds Y]
theorem RepL.append_inv:∀(ds:List D) {vs:List Value} {S:List Nat},RepL w own (ds++es) vs S->∃v1 v2 S1 S2,vs=v1++v2/\S=S1++S2/\RepL w own ds v1 S1/\RepL w own es v2 S2
 |[],vs,S,h=>⟨[],vs,[],S,rfl,rfl,RepL.nil_,h⟩
 |d::ds,_,_,h=>by
  obtain ⟨v,vs',S1,S2,rfl,rfl,V,Y⟩:=h;obtain ⟨v1,v2,S3,S4,rfl,rfl,h3,h4⟩:=RepL.append_inv ds Y;exact ⟨v::v1,v2,S1++S3,S4,rfl,by simp,RepL.cons_ V h3,h4⟩
theorem RepL.append_:∀(ds:List D) {v1 v2:List Value} {S1 S2:List Nat},RepL w own ds v1 S1->RepL w own es v2 S2->RepL w own (ds++es) (v1++v2) (S1++S2)
 |[],_,_,_,_,h,Y=>by obtain ⟨rfl,rfl⟩:=h;exact Y
 |d::ds,_,_,_,_,h,Y=>by
  obtain ⟨v,vs',S1,S2,rfl,rfl,V,h3⟩:=h;rw [aAZ];exact RepL.cons_ V (RepL.append_ ds h3 Y)
end
section
variable {α:Type} {enc:α->List D} {size:Nat} {w w':World} {own:Bool}
theorem jF (hl:∀x,(enc x).length=size):∀xs:List α,(xs.flatMap enc).length=xs.length*size
 |[]=>by simp
 |x::xs=>by simp [hl,jF hl xs,aCX];omega
theorem RepL.get (hl:∀x,(enc x).length=size):∀(xs:List α) {vs:List Value} {S:List Nat},RepL w own (xs.flatMap enc) vs S->∀(k:Nat) (x:α),xs[k]?=some x->
 ∃v1 vk v2 Sa Sk Sb,vs=v1++vk++v2/\v1.length=k*size/\vk.length=size/\S=Sa++Sk++Sb/\RepL w own (enc x) vk Sk
  /\RepL w own ((xs.take k).flatMap enc) v1 Sa/\RepL w own ((xs.drop (k+1)).flatMap enc) v2 Sb:=by
 intro xs vs S h k x hx;have hk:k<xs.length:=(aAR.1 hx).1
 have e:xs=xs.take k++([x]++xs.drop (k+1)):=by
  have cL:xs[k]=x:=by rw [aAT hk] at hx;exact aCV hx
  rw [<-cL];simp
 rw [e,aCB,aCB] at h;obtain ⟨v1,v2,S1,S2,rfl,rfl,V,Y⟩:=RepL.append_inv _ h;obtain ⟨vk,v3,S3,S4,rfl,rfl,h3,h4⟩:=RepL.append_inv _ Y;have eH:RepL w own (enc x) vk S3:=by simpa using h3
 refine ⟨v1,vk,v3,S1,S3,S4,by simp,?_,?_,by simp,eH,V,h4⟩
 ·rw [RepL.length _ V,jF hl,aBA,aCW (by omega)]
 ·rw [RepL.length _ eH,hl]
theorem RepL.put (xs:List α) {v1 vk v2:List Value} {Sa Sk Sb:List Nat} {k:Nat} {y:α} (hk:k<xs.length)
 (V:RepL w own ((xs.take k).flatMap enc) v1 Sa) (h:RepL w own (enc y) vk Sk) (Y:RepL w own ((xs.drop (k+1)).flatMap enc) v2 Sb):
 RepL w own ((xs.set k y).flatMap enc) (v1++vk++v2) (Sa++Sk++Sb):=by
 have e:xs.set k y=xs.take k++([y]++xs.drop (k+1)):=by
  rw [List.set_eq_take_append_cons_drop];simp [hk]
 rw [e,aCB,aCB,aAZ,aAZ];exact RepL.append_ _ V (RepL.append_ _ (by simpa using h) Y)
theorem Rep.open_ (hl:∀x,(enc x).length=size) (hs:0<size) {ty:TypeId} {xs:List α} {v:Value} {S:List Nat} (h:Rep w own (.sl size ty (xs.flatMap enc)) v S):
 ∃A c,v=.slice A xs.length c/\xs.length<=c/\c<=maxLen/\
  ∀k x,xs[k]?=some x->∃b o vk Sk,A=some ⟨b,o,none⟩/\vk.length=size/\RepL w own (enc x) vk Sk/\(∀s∈Sk,s∈S)/\b∈S/\b<w.heap.size/\
   ∀j u,vk[j]?=some u->w.cell? ⟨b,o+k*size+j,none⟩=some u:=by
 obtain ⟨vs,T,S',V,Y,rfl⟩:=h;obtain ⟨aC,A,n,c,rfl,hn,hO,gW,_,hc⟩:=V.ro;have aJ:vs.length=xs.length*size:=by rw [RepL.length _ Y,jF hl]
 have d8:n=xs.length:=Nat.eq_of_mul_eq_mul_right hs (hn.symm.trans aJ);subst d8;refine ⟨A,c,rfl,hO,gW,λk x hx=>?_⟩
 obtain ⟨v1,vk,v2,Sa,Sk,Sb,rfl,d7,pU,rfl,hr,_,_⟩:=RepL.get hl xs Y k x hx
 have a7:v1++vk++v2≠ []:=by
  intro e;have:=congrArg List.length e;simp only [aBE,aBW] at this;omega
 obtain ⟨b,o,rfl,rfl,aZ⟩:=hc a7;refine ⟨b,o,vk,Sk,rfl,pU,hr,λs hs=>by simp [hs],by simp,aC b (by simp),λj u hu=>?_⟩
 have:=aZ (k*size+j) u (by
  rw [aAZ,aBT (by omega),d7,aCM,aBZ (by have:=(aAR.1 hu).1;omega)]
  exact hu)
 rwa [<-Nat.add_assoc] at this
end
theorem RepL.flat {w w':World} {own own':Bool}:∀(ds:List D) {vs:List Value} {S:List Nat},(∀d∈ds,∃v,d=.val v)->RepL w own ds vs S->RepL w' own' ds vs []/\S=[]
 |[],_,_,_,h=>by obtain ⟨rfl,rfl⟩:=h;exact ⟨⟨rfl,rfl⟩,rfl⟩
 |d::ds,_,_,hd,h=>by
  obtain ⟨v,vs',S1,S2,rfl,rfl,V,Y⟩:=h;obtain ⟨u,rfl⟩:=hd d (by simp)
  obtain ⟨rfl,rfl⟩:=V;obtain ⟨h3,rfl⟩:=RepL.flat (w':=w') (own':=own') ds (λd mL=>hd d (by simp [mL])) Y
  exact ⟨RepL.val_ h3,rfl⟩
theorem Rep.src {α:Type} {enc:α->List D} {size:Nat} {w:World} {own:Bool} {ty:TypeId} {xs:List α} {v:Value} {S:List Nat} (hl:∀x,(enc x).length=size) (hs:0<size) (hf:∀x,∀d∈enc x,∃u,d=.val u) (h:Rep w own (.sl size ty (xs.flatMap enc)) v S):
 ∃A c news,v=.slice A xs.length c/\RepL w true (xs.flatMap enc) news []/\(A=none->xs.length=0/\c=0)/\∀ad,A=some ad->∀j u,news[j]?=some u->w.cell? (ad.add j)=some u:=by
 obtain ⟨vs,T,S',V,Y,rfl⟩:=h;obtain ⟨aC,A,n,c,rfl,hn,hO,gW,h0,hc⟩:=V.ro;have aJ:vs.length=xs.length*size:=by rw [RepL.length _ Y,jF hl]
 have d8:n=xs.length:=Nat.eq_of_mul_eq_mul_right hs (hn.symm.trans aJ);subst d8;obtain ⟨h3,_⟩:=RepL.flat (w':=w) (own':=true) _ (λd hd=>by obtain ⟨x,_,hx⟩:=List.mem_flatMap.1 hd;exact hf x d hx) Y
 refine ⟨A,c,vs,rfl,h3,λe=>⟨by have:=h0 e;omega,h0 e⟩,λad ha j u hu=>?_⟩
 obtain ⟨b,o,rfl,_,aZ⟩:=hc (λe=>by subst e;simp at hu)
 injection ha with ha;subst ha;have:=aZ j u hu;have e:(⟨b,o,none⟩:Addr).add j=⟨b,o+j,none⟩:=by unfold Addr.add;split<;>simp_all
 rwa [e]
structure Only (S:List Nat) (w w':World):Prop where
 os:w'.os=w.os
 tape:w'.tape=w.tape
 output:w'.output=w.output
 size:w.heap.size<=w'.heap.size
 block:∀k,k<w.heap.size->k∉S->w'.heap[k]?=w.heap[k]?
section
variable {S T:List Nat} {w w' w'':World}
theorem Only.refl (S:List Nat) (w:World):Only S w w:=⟨rfl,rfl,rfl,aAV _,λ_ _ _=>rfl⟩
theorem Only.trans (h:Only S w w') (k:Only T w' w'') (hT:∀t∈T,t∈S\/w.heap.size<=t):Only S w w'':=
 ⟨k.os.trans h.os,k.tape.trans h.tape,k.output.trans h.output,aBU h.size k.size,λi hi hn=>
  (k.block i (aCS hi h.size) (λht=>by rcases hT i ht with V|V;exact hn V;omega)).trans (h.block i hi hn)⟩
theorem Only.mono (h:Only S w w') (hS:∀s∈S,s∈T\/w.heap.size<=s):Only T w w':=
 ⟨h.os,h.tape,h.output,h.size,λi hi hn=>h.block i hi (λhs=>by rcases hS i hs with V|V;exact hn V;omega)⟩
theorem Only.of_below (h:Below w.heap.size w w'):Only S w w':=⟨h.os,h.tape,h.output,h.size,λi hi _=>h.block i hi⟩
theorem Only.below {B:Nat} (h:Only S w w') (hS:∀s∈S,B<=s) (hB:B<=w.heap.size):Below B w w':=
 ⟨h.os,h.tape,h.output,h.size,λi hi=>h.block i (by omega) (λhs=>by have:=hS i hs;omega)⟩
theorem Only.of_grown {v:Value} (h:w.grownBy w' v.ownBlock) (hv:∀b∈blk v,b∈S):Only S w w':=
 ⟨h.os,h.tape,h.output,h.size,λi hi hn=>h.block i hi (λe=>hn (hv i (by
  unfold Value.ownBlock at e;unfold blk;split at e<;>simp_all)))⟩
theorem Only.of_grown1 {g:Nat} (h:w.grownBy w' (some g)) (hg:g∈S):Only S w w':=
 ⟨h.os,h.tape,h.output,h.size,λi hi hn=>h.block i hi (λe=>hn (by injection e with e;subst e;exact hg))⟩
theorem jhn (h:w.grownBy w' none):Below w.heap.size w w':=⟨h.os,h.tape,h.output,h.size,λi hi=>h.block i hi (by simp)⟩
theorem jB (h:Below w.heap.size w w') (k:Below w'.heap.size w' w''):Below w.heap.size w w'':=h.trans (k.mono h.size)
variable {own:Bool} {d:D} {ds:List D} {v:Value} {vs:List Value}
theorem Rep.only (h:Rep w own d v S) (ho:Only T w w') (hd:∀s∈S,s∉T):Rep w' own d v S:=Rep.keep d h λb Z=>ho.block b (Rep.lt d h b Z) (hd b Z)
theorem RepL.only (h:RepL w own ds vs S) (ho:Only T w w') (hd:∀s∈S,s∉T):RepL w' own ds vs S:=RepL.keep ds h λb Z=>ho.block b (RepL.lt ds h b Z) (hd b Z)
theorem Fresh.nil (B:Nat):Fresh B []:=⟨List.nodup_nil,by simp⟩
theorem Fresh.mono {B B':Nat} (h:Fresh B S) (hB:B'<=B):Fresh B' S:=⟨h.1,λb Z=>aBU hB (h.2 b Z)⟩
theorem Fresh.left {B:Nat} (h:Fresh B (S++T)):Fresh B S:=⟨(aAU.1 h.1).1,λb Z=>h.2 b (by simp [Z])⟩
theorem Fresh.right {B:Nat} (h:Fresh B (S++T)):Fresh B T:=⟨(aAU.1 h.1).2.1,λb Z=>h.2 b (by simp [Z])⟩
theorem Fresh.apart {B:Nat} (h:Fresh B (S++T)):∀s∈S,s∉T:=λs hs ht=>(aAU.1 h.1).2.2 s hs s ht rfl
theorem Fresh.join {B B':Nat} (h:Fresh B S) (k:Fresh B' T) (hB:B<=B') (aC:∀s∈S,s<B'):Fresh B (S++T):=
 ⟨aAU.2 ⟨h.1,k.1,λa ha b Z e=>by have V:=aC a ha;have Y:=k.2 b Z;omega⟩,
  λb Z=>by rcases aAS.1 Z with Z|Z;exact h.2 b Z;exact aBU hB (k.2 b Z)⟩
theorem Fresh.one (B g:Nat) (h:B<=g):Fresh B [g]:=⟨by simp,by simpa using h⟩
end
def D.one:D->Prop
 |.val v=>v.oneCell'=true
 |.sl ..=>True
theorem Rep.one {w:World} {own:Bool} {d:D} {v:Value} {S:List Nat} (h:Rep w own d v S) (V:d.one):v.oneCell'=true:=by
 cases d with
 |val u=>obtain ⟨rfl,_⟩:=h;exact V
 |sl size ty cs=>
  obtain ⟨vs,T,S',hr,_,_⟩:=h;obtain ⟨_,A,n,c,rfl,_⟩:=hr.ro;rfl
theorem RepL.one {w:World} {own:Bool}:∀(ds:List D) {vs:List Value} {S:List Nat},RepL w own ds vs S->(∀d∈ds,d.one)->∀v∈vs,v.oneCell'=true
 |[],_,_,h,_=>by obtain ⟨rfl,_⟩:=h;simp
 |d::ds,_,_,h,hd=>by
  obtain ⟨v,vs',S1,S2,rfl,rfl,V,Y⟩:=h;intro u hu;rcases aBB.1 hu with rfl|hu
  ·exact Rep.one V (hd d (by simp))
  ·exact RepL.one ds Y (λd' mL=>hd d' (by simp [mL])) u hu
theorem Rep.nil_ (w:World) (size:Nat) (ty:TypeId):Rep w true (.sl size ty []) (.slice none 0 0) []:=
 ⟨[],[],[],⟨0,World.ownsRow_nil w 0 ty size,rfl⟩,RepL.nil_,rfl⟩
section
variable {α:Type} {enc:α->List D} {size:Nat} {w w':World} {ty:TypeId} {xs:List α} {v:Value} {S:List Nat}
theorem Rep.own (hl:∀x,(enc x).length=size) (hs:0<size) (h:Rep w true (.sl size ty (xs.flatMap enc)) v S):
 ∃vs S1,w.ownsRow 0 ty size v xs.length vs/\RepL w true (xs.flatMap enc) vs S1/\S=blk v++S1:=by
 obtain ⟨vs,T,S',⟨n,V,rfl⟩,Y,rfl⟩:=h;have aJ:vs.length=xs.length*size:=by rw [RepL.length _ Y,jF hl]
 have hn:n=xs.length:=Nat.eq_of_mul_eq_mul_right hs (V.1.symm.trans aJ);subst hn;exact ⟨vs,S',V,Y,rfl⟩
theorem Rep.of_own {vs:List Value} {S1:List Nat} {n:Nat} (h:w.ownsRow 0 ty size v n vs) (Y:RepL w true (xs.flatMap enc) vs S1):Rep w true (.sl size ty (xs.flatMap enc)) v (blk v++S1):=
 ⟨vs,blk v,S1,⟨n,h,rfl⟩,Y,rfl⟩
theorem jnG {n:Nat} {vs:List Value} {e:TypeId} (h:w.ownsRow 0 e size v n vs) (hn:0<n):∃g c,v=.slice (some ⟨g,0,none⟩) n c/\g<w.heap.size/\n<=c:=by
 rcases h.2 with ⟨rfl,h0⟩|⟨g,cap,cur,rfl,_,hg,hc,_⟩
 ·omega
 ·exact ⟨g,cap,rfl,qR hg,hc⟩
theorem Rep.head (hl:∀x,(enc x).length=size) (hs:0<size) {A:Option Addr} {n c:Nat} (h:Rep w true (.sl size ty (xs.flatMap enc)) (.slice A n c) S) (hx:0<xs.length):
 ∃g,A=some ⟨g,0,none⟩/\n=xs.length/\g∈S/\g<w.heap.size/\n<=c:=by
 obtain ⟨vs,S1,V,_,rfl⟩:=Rep.own hl hs h;obtain ⟨g,c',e,hg,hc⟩:=jnG V hx;injection e with e1 e2 e3;subst e1 e2 e3;exact ⟨g,rfl,rfl,by simp [blk],hg,hc⟩
def jff:List Value->Nat->List Value->List Value
 |xs,_,[]=>xs
 |xs,o,v::r=>jff (xs.set o v) (o+1) r
theorem jfe:∀(new:List Value) (v1 vk v2:List Value),vk.length=new.length->jff (v1++vk++v2) v1.length new=v1++new++v2
 |[],v1,vk,v2,h=>by
  obtain rfl:vk=[]:=aBC h;rfl
 |u::r,v1,vk,v2,h=>by
  match vk,h with
  |x::vk,h=>
   have e:(v1++x::vk++v2).set v1.length u=(v1++[u])++vk++v2:=by simp
   have:=jfe r (v1++[u]) vk v2 (by simpa using h)
   rw [jff,e];rw [aBE,List.length_singleton] at this;rw [this];simp
theorem zp {g n cap:Nat} {e:TypeId}:∀(cs:List Value) (o:Nat) {w:World} {vs:List Value},w.ownsRow 0 e size (.slice (some ⟨g,0,none⟩) n cap) n vs->
 (w.setCells g o cs).ownsRow 0 e size (.slice (some ⟨g,0,none⟩) n cap) n (jff vs o cs)/\w.grownBy (w.setCells g o cs) (some g)
 |[],_,w,_,h=>⟨h,⟨rfl,rfl,rfl,aAV _,λ_ _ _=>rfl⟩⟩
 |u::r,o,w,vs,h=>by
  obtain ⟨V,Y⟩:=h.stored o u;obtain ⟨h3,h4⟩:=zp r (o+1) V;exact ⟨h3,⟨h4.os.trans Y.os,h4.tape.trans Y.tape,h4.output.trans Y.output,aBU Y.size h4.size,λk hk a7=>(h4.block k (aCS hk Y.size) a7).trans (Y.block k hk a7)⟩⟩
theorem jbg {g n cap:Nat} {e:TypeId} {vs:List Value} (h:w.ownsRow 0 e size (.slice (some ⟨g,0,none⟩) n cap) n vs) (o m:Nat) (hm:o+m<=n*size):w.there g o m:=λj hj=>
 ⟨by rw [h.cellAt (o+j) (by omega),aAT (by rw [h.1];omega)];rfl,h.frozenAt _⟩
theorem Rep.setElem (hl:∀x,(enc x).length=size) (hs:0<size) {g n cap k:Nat} {B:Nat} (h:Rep w true (.sl size ty (xs.flatMap enc)) (.slice (some ⟨g,0,none⟩) n cap) S) (hk:k<xs.length)
 {y:α} {vy:List Value} {Sy:List Nat} (hy:RepL w true (enc y) vy Sy) (hF:Fresh B (S++Sy)):
 ∃S',Rep (w.setCells g (k*size) vy) true (.sl size ty ((xs.set k y).flatMap enc)) (.slice (some ⟨g,0,none⟩) n cap) S'/\Fresh B S'/\Only [g] w (w.setCells g (k*size) vy)/\g∈S/\(∀s∈S',s∈S\/s∈Sy):=by
 obtain ⟨vs,S1,V,Y,rfl⟩:=Rep.own hl hs h;obtain ⟨x,hx⟩:∃x,xs[k]?=some x:=⟨xs[k],aAT hk⟩;obtain ⟨v1,vk,v2,Sa,Sk,Sb,rfl,d7,pU,rfl,hr,l7,fX⟩:=RepL.get hl xs Y k x hx
 have hn:n=xs.length:=by
  rcases V.2 with ⟨e,_⟩|⟨g',cap',cur,e,_⟩
  ·cases e
  ·simp only [Value.slice.injEq] at e;exact e.2.1
 subst hn;obtain ⟨h3,h4⟩:=zp vy (k*size) V;have yT:vy.length=size:=by rw [RepL.length _ hy,hl]
 rw [<-d7,jfe vy v1 vk v2 (by omega)] at h3
 rw [d7] at h3;have ho:Only [g] w (w.setCells g (k*size) vy):=Only.of_grown1 h4 (by simp)
 have e9:Fresh B ((blk (.slice (some ⟨g,0,none⟩) xs.length cap)++(Sa++Sy++Sb))++Sk):=by
  refine ⟨?_,λb Z=>hF.2 b (by simp only [aAS] at Z⊢;grind)⟩
  refine (List.Perm.nodup_iff ?_).1 hF.1;simp only [aAZ];refine aCT _ (aCT _ ?_)
  exact (aCC (l₁:=Sk) (l₂:=Sb++Sy)).trans (by
   rw [<-aAZ];exact List.Perm.append_right _ aCC)
 have hg:∀s,s∈Sa++Sy++Sb->s∉ [g]:=λs hs n6=>by
  have:=e9.left.apart g (by simp [blk])
  simp only [aBM] at n6;subst n6;exact this hs
 refine ⟨_,Rep.of_own h3 (RepL.put xs hk (l7.only ho λs hs=>hg s (by simp [hs])) (hy.only ho λs hs=>hg s (by simp [hs])) (fX.only ho λs hs=>hg s (by simp [hs]))),e9.left,ho,by simp [blk],λs hs=>?_⟩
 simp only [aAS] at hs⊢
 grind
theorem Rep.setField (hl:∀x,(enc x).length=size) (hs:0<size) {g n cap k:Nat} {B:Nat} (h:Rep w true (.sl size ty (xs.flatMap enc)) (.slice (some ⟨g,0,none⟩) n cap) S) {x y:α} (hx:xs[k]?=some x) (j:Nat) (hj:j<size) (u:Value)
 (hy:∀vk Sk,RepL w true (enc x) vk Sk->RepL w true (enc y) (vk.set j u) Sk) (hF:Fresh B S):
 Rep (w.setCell ⟨g,k*size+j,none⟩ u) true (.sl size ty ((xs.set k y).flatMap enc)) (.slice (some ⟨g,0,none⟩) n cap) S/\Only [g] w (w.setCell ⟨g,k*size+j,none⟩ u)/\g∈S:=by
 obtain ⟨vs,S1,V,Y,rfl⟩:=Rep.own hl hs h;have hk:k<xs.length:=(aAR.1 hx).1;obtain ⟨v1,vk,v2,Sa,Sk,Sb,rfl,d7,pU,rfl,hr,l7,fX⟩:=RepL.get hl xs Y k x hx
 have hn:n=xs.length:=by
  rcases V.2 with ⟨e,_⟩|⟨g',cap',cur,e,_⟩
  ·cases e
  ·simp only [Value.slice.injEq] at e;exact e.2.1
 subst hn;obtain ⟨h3,h4⟩:=V.stored (k*size+j) u
 have d3:(v1++vk++v2).set (k*size+j) u=v1++vk.set j u++v2:=by
  rw [aAZ,List.set_append_right _ _ (by omega),d7,aCM,List.set_append_left _ _ (by omega),aAZ]
 rw [d3] at h3;have ho:Only [g] w (w.setCell ⟨g,k*size+j,none⟩ u):=Only.of_grown1 h4 (by simp)
 have hg:∀s,s∈Sa++Sk++Sb->s∉ [g]:=λs hs n6=>by
  have:=hF.apart g (by simp [blk])
  simp only [aBM] at n6;subst n6;exact this hs
 exact ⟨Rep.of_own h3 (RepL.put xs hk (l7.only ho λs hs=>hg s (by simp [hs])) ((hy vk Sk hr).only ho λs hs=>hg s (by simp [hs])) (fX.only ho λs hs=>hg s (by simp [hs]))),ho,by simp [blk]⟩
end
def jqM {α:Type} (enc:α->List D) (size:Nat) (ty:TypeId) (w:World) (xs:List α) (v:Value) (wr:World):Prop:=∃S,Rep wr true (.sl size ty (xs.flatMap enc)) v S/\Fresh w.heap.size S/\Below w.heap.size w wr
def jfr (w:World) (d:D) (e:Ending) (w':World):Prop:=∃v S,e=.returned v/\Rep w' true d v S/\Fresh w.heap.size S/\Below w.heap.size w w'
def jeJ (w:World) (ds:List D) (e:Ending) (w':World):Prop:=∃v S,e=.returned v/\AggRep w' true ds v S/\Fresh w.heap.size S/\Below w.heap.size w w'
structure SlT (P:Program) (t e:TypeId) (size bytes:Nat) (z:List Value):Prop where
 und:P.underlying t=some (.slice e)
 info:∃i zv,P.info? e=some i/\i.zero=some zv/\zv.cells=z.toArray/\i.size=size/\i.bytes=bytes
 zlen:z.length=size
 pos:0<size
section
variable {P:Program} {α:Type} {enc:α->List D} {size bytes:Nat} {w:World} {t e:TypeId} {z:List Value} {xs ys:List α} {v:Value} {S Sy:List Nat}
theorem jfp {ty:TypeId} {i:TypeInfo} {zv:Value} (ht:P.underlying t=some (.slice e)) (hi:P.info? e=some i) (hz:i.zero=some zv) {n:Nat} {vs:List Value} (bB:w.ownsRow 0 e i.size v n vs)
 {ad:Addr} {m c:Nat} {news:List Value} (hl:news.length=m*i.size) (dH:∀j u,news[j]?=some u->w.cell? (ad.add j)=some u) (V:∀u∈news,u.oneCell'=true)
 (gY:n+m<=maxLen) (cD:(n+m)*i.bytes<=140737488355328) {v':Value} {w':World}
 (hr:(Builtin.append_ #[t,t] ty #[v,.slice (some ad) m c]).run P w=.ok v' w'):∀b∈blk v',b∈blk v\/b=w.heap.size:=by
 unfold maxLen at gY;intro b Z;rcases bB.2 with ⟨rfl,rfl⟩|⟨g,cap,cur,rfl,_,hg,hO,gW,lL,dZ⟩
 ·by_cases hm:m=0
  ·subst hm
   simp [Builtin.append_,run_underlying ht,sizeOf,typeInfo,hi,Builtin.lenOf,Builtin.firstCells,loadCells,loadCellsFrom] at hr;rw [<-hr.1] at Z;exact .inl Z
  ·rw [run_append_nil (P:=P) w t ty e i zv ht hi hz ad m c news hl dH (by omega) (by omega) (by simp only [aBK] at cD;omega)] at hr
   injection hr with e1 _;subst e1;simp only [blk,aBM] at Z;exact .inr Z
 ·by_cases eT:n+m<=cap
  ·rw [run_append_room (P:=P) w t ty e i ht hi g n cap cur hg ad m c news hl dH V eT (by rw [hl,lL,<-aCX];exact aBY _ eT)] at hr
   injection hr with e1 _;subst e1;exact .inl Z
  ·rw [run_append_grow (P:=P) w t ty e i zv ht hi hz ⟨g,0,none⟩ n cap vs bB.1 (bB.cells (g:=g) rfl) ad m c news hl dH (by omega) (by omega) (growslice_fits (by omega) cD)] at hr
   injection hr with e1 _;subst e1;simp only [blk,aBM] at Z;exact .inr Z
theorem jce {ops:Array Oper} {rest:List Oper} {o:Oper} {a:Act} {Q:Exit->Act->World->Prop} (lI:o.guard=none) (s x:Operand)
 (ho:o.op=.call {callee:=.builtin .append,args:=#[s,x],argTypes:=#[t,t]}) (T:SlT P t e size bytes z) (hl:∀x,(enc x).length=size)
 (hs:a.eval s=v) (aD:Rep w true (.sl size e (xs.flatMap enc)) v S)
 (A:Option Addr) (m c:Nat) (news:List Value) (hx:a.eval x=.slice A m c) (hy:RepL w true (ys.flatMap enc) news Sy) (hm:m=ys.length)
 (hA:A=none->m=0/\c=0) (dH:∀ad,A=some ad->∀j u,news[j]?=some u->w.cell? (ad.add j)=some u) (V:∀y,∀d∈enc y,d.one)
 (B:Nat) (hB:B<=w.heap.size) (hF:Fresh B (S++Sy)) (gY:xs.length+ys.length<=maxLen) (cD:(xs.length+ys.length)*bytes<=140737488355328)
 (h:∀v' w' S',Rep w' true (.sl size e ((xs++ys).flatMap enc)) v' S'->Fresh B S'->Only S w w'->(∀s∈S',s∈S\/s∈Sy\/w.heap.size<=s)->wpList P ops Q rest (a.put o.dst v') w'):
 wpList P ops Q (o::rest) a w:=by
 obtain ⟨i,zv,hi,hz,rI,bT,gX⟩:=T.info;obtain ⟨vs,S1,bB,cU,rfl⟩:=Rep.own hl T.pos aD;have uH:news.length=ys.length*size:=by rw [RepL.length _ hy,jF hl]
 have eK:∀u∈news,u.oneCell'=true:=RepL.one _ hy (λd hd=>by
  obtain ⟨y,_,hd⟩:=List.mem_flatMap.1 hd;exact V y d hd)
 subst hm;refine wpList_plain lI λK hK=>?_
 cases A with
 |none=>
  obtain ⟨h0,rfl⟩:=hA rfl;have nL:ys=[]:=aBC h0;subst nL;have hr:=run_append_owned_none (P:=P) w 0 t o.type e i size T.und hi v xs.length vs bB;unfold Oper.wp execOp;simp only [ho,resolve,invoke,builtin,Sem.run_bind,Sem.run_pure,Result.andThen_ok,List.map_toArray,aCE,List.map_nil,hs,hx,aBW,hr];refine hK _ _ (h v w (blk v++S1) (by simpa using Rep.of_own bB cU) hF.left (Only.refl _ _) λs hs=>.inl hs)
 |some ad=>
  obtain ⟨v',w',hr,Y,h3,_⟩:=run_append_own (P:=P) w 0 t o.type e i zv size bytes T.und hi hz bT gX (by rw [rI];simpa using T.zlen) T.pos v xs.length vs bB ad ys.length c news uH (dH ad rfl) eK gY cD (aBR _)
  unfold Oper.wp execOp;simp only [ho,resolve,invoke,builtin,Sem.run_bind,Sem.run_pure,Result.andThen_ok,List.map_toArray,aCE,List.map_nil,hs,hx,hr];have cP:Only (blk v++S1) w w':=Only.of_grown h3 (λb Z=>by simp [Z])
  have cX:Only (blk v) w w':=Only.of_grown h3 (λb Z=>Z)
  have dU:∀s∈S1++Sy,s∉blk v:=λs hs Z=>by
   have:=hF.1;rw [aAZ] at this;exact (aAU.1 this).2.2 s Z s hs rfl
  have bR:∀b∈blk v',b∈blk v\/b=w.heap.size:=jfp T.und hi hz (by rw [bT];exact bB) (by rw [bT];exact uH) (dH ad rfl) eK gY (by rw [gX];exact cD) hr
  have cO:Rep w' true (.sl size e ((xs++ys).flatMap enc)) v' (blk v'++(S1++Sy)):=by
   refine Rep.of_own Y ?_;rw [aCB];exact RepL.append_ _ (cU.only cX λs hs=>dU s (by simp [hs])) (hy.only cX λs hs=>dU s (by simp [hs]))
  have aC:∀s∈S1++Sy,s<w.heap.size:=λs hs=>by
   rcases aAS.1 hs with hs|hs
   ·exact RepL.lt _ cU s hs
   ·exact RepL.lt _ hy s hs
  refine hK _ _ (h v' w' _ cO ?_ cP λs hs=>?_)
  ·rw [aAZ] at hF
   refine ⟨aAU.2 ⟨?_,(aAU.1 hF.1).2.1,λa ha b Z e=>?_⟩,λb Z=>?_⟩
   ·rcases Y.2 with ⟨rfl,_⟩|⟨g,cap,cur,rfl,_⟩<;>simp [blk]
   ·subst e
    rcases bR a ha with h4|h4
    ·exact dU a Z h4
    ·have:=aC a Z;omega
   ·rcases aAS.1 Z with Z|Z
    ·rcases bR b Z with h4|h4
     ·exact hF.2 b (by simp [h4])
     ·omega
    ·exact hF.2 b (by rw [aAS];exact .inr Z)
  ·rcases aAS.1 hs with hs|hs
   ·rcases bR s hs with h4|h4
    ·exact .inl (by simp [h4])
    ·right;right;omega
   ·rcases aAS.1 hs with hs|hs
    ·exact .inl (by simp [hs])
    ·exact .inr (.inl hs)
theorem qt {z:List Value} {size:Nat} (hz:z.length=size) (l9:0<size):∀(n j:Nat),j<n*size->((List.replicate n z).flatten)[j]?=z[j%size]?
 |0,j,h=>by omega
 |n+1,j,h=>by
  rw [List.replicate_succ,aDB];by_cases oZ:j<size
  ·rw [Nat.mod_eq_of_lt oZ,aBZ (by omega)]
  ·rw [aBT (by omega),hz,qt hz l9 n (j-size) (by rw [Nat.succ_mul] at h;omega)]
   rw [Nat.mod_eq_sub_mod (a:=j) (by omega)]
theorem kB {ops:Array Oper} {rest:List Oper} {o:Oper} {a:Act} {Q:Exit->Act->World->Prop} (lI:o.guard=none) (l c:Operand) (xD:o.op=Op.makeSlice t l c) (T:SlT P t e size bytes z)
 (z0:α) (fD:∀w,RepL w true (enc z0) z []) (kl kc:IntKind) (L C:Int) (n:Nat) (hl:a.eval l=.int kl L) (hc:a.eval c=.int kc C) (hL:L=(n:Int)) (hC:C=(n:Int)) (b2:bytes*n<=281474976710656) (b3:n<=maxLen)
 (hK:∀w' A,Rep w' true (.sl size e ((List.replicate n z0).flatMap enc)) (.slice A n n) [w.heap.size]->Below w.heap.size w w'->wpList P ops Q rest (a.put o.dst (.slice A n n)) w'):
 wpList P ops Q (o::rest) a w:=by
 obtain ⟨i,zv,hi,hz,rI,bT,gX⟩:=T.info;refine wpList_make_full w lI l c t xD 0 e i zv size T.und hi hz bT kl kc L C n hl hc hL hC (by rw [gX];exact b2) b3 (aBR _) λw' V Y=>?_
 refine hK w' _ ?_ (jhn Y)
 have bU:∀n,∃vs,RepL w' true ((List.replicate n z0).flatMap enc) vs []/\vs=(List.replicate n z).flatten:=by
  intro n
  induction n with
  |zero=>exact ⟨[],RepL.nil_,rfl⟩
  |succ n ih=>
   obtain ⟨vs,h3,rfl⟩:=ih;refine ⟨z++(List.replicate n z).flatten,?_,by simp [List.replicate_succ]⟩
   have:=RepL.append_ _ (fD w') h3;simpa [List.replicate_succ] using this
 obtain ⟨vs,h3,h4⟩:=bU n
 have h5:(madeCells zv.cells (n*size)).toList=(List.replicate n z).flatten:=by
  rw [rI];have mZ:=T.zlen
  apply aCH
  intro j;by_cases hj:j<n*size
  ·rw [qt mZ T.pos n j hj]
   simp [madeCells,hj,mZ];rw [aAT (by rw [mZ];exact Nat.mod_lt _ T.pos)]
   simp
  ·rw [aBD (by simp [madeCells];omega),aBD (by simp [mZ];omega)]
 rw [h5,<-h4] at V;have:=Rep.of_own V h3;simpa [blk] using this
theorem jdN {ops:Array Oper} {rest:List Oper} {a:Act} {Q:Exit->Act->World->Prop} (ty:TypeId) (x y:Tmp) {d:Option Tmp} {t:TypeId} {pos:String} {aft:Array Edge} {g:Option (Nat×Bool)}
 (h:wpList P ops Q (⟨d,.store ty (.tmp x) (.tmp y),t,pos,aft,g⟩::rest) a w):wpList P ops Q (⟨d,.store ty (.tmp x) (.tmp y),t,pos,aft,g⟩::rest) a w:=h
theorem jmv {ops:Array Oper} {rest:List Oper} {a:Act} {Q:Exit->Act->World->Prop} (x y:Operand) {d:Option Tmp} {ts:Array TypeId} {t:TypeId} {pos:String} {aft:Array Edge} {g:Option (Nat×Bool)}
 (h:wpList P ops Q (⟨d,.call {callee:=.builtin .append,args:=#[x,y],argTypes:=ts},t,pos,aft,g⟩::rest) a w):wpList P ops Q (⟨d,.call {callee:=.builtin .append,args:=#[x,y],argTypes:=ts},t,pos,aft,g⟩::rest) a w:=h
theorem kR {ops:Array Oper} {rest:List Oper} {op:Oper} {a:Act} {Q:Exit->Act->World->Prop} (lI:op.guard=none) (ty:TypeId) (x y:Operand) (ho:op.op=.store ty x y) (hl:∀x,(enc x).length=size) (hs:0<size)
 (p8:(P.info? ty).map (·.size)=some size) {g n cap k o:Nat} (V:∀y,∀d∈enc y,d.one) (aD:Rep w true (.sl size e (xs.flatMap enc)) (.slice (some ⟨g,0,none⟩) n cap) S) (hk:k<xs.length)
 (hx:a.eval x=.pointer (some ⟨g,o,none⟩)) (eL:o=k*size) (cells:Array Value) (wI:a.eval y=.agg cells) (u:α) (hu:RepL w true (enc u) cells.toList Sy) (B:Nat) (hF:Fresh B (S++Sy))
 (h:∀S',Rep (w.setCells g (k*size) cells.toList) true (.sl size e ((xs.set k u).flatMap enc)) (.slice (some ⟨g,0,none⟩) n cap) S'->Fresh B S'->Only [g] w (w.setCells g (k*size) cells.toList)->g∈S->(∀s∈S',s∈S\/s∈Sy)->
  wpList P ops Q rest (a.put op.dst undef) (w.setCells g (k*size) cells.toList)):wpList P ops Q (op::rest) a w:=by
 obtain ⟨S',Y,h3,h4,h5,h6⟩:=Rep.setElem hl hs aD hk hu hF;obtain ⟨vs,S1,bB,cU,rfl⟩:=Rep.own hl hs aD
 have hn:n=xs.length:=by
  rcases bB.2 with ⟨e,_⟩|⟨g',cap',cur,e,_⟩
  ·cases e
  ·simp only [Value.slice.injEq] at e;exact e.2.1
 subst hn;subst eL;have cJ:cells.size=size:=by have:=RepL.length _ hu;rw [hl] at this;simpa using this
 refine wpList_store_mid lI ty x y ho g (k*size) cells hx wI (jbg bB _ _ ?_) (by rw [p8,cJ]) ?_ (h S' Y h3 h4 h5 h6)
 ·rw [cJ,<-Nat.succ_mul]
  exact aBY _ hk
 ·exact Array.all_eq_true_iff_forall_mem.2 (λv hv=>RepL.one _ hu (V u) v (by simpa using hv))
end
