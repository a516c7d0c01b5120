/- Parts. -/
import Derived.WalkKit
import Derived.WalkSpells
import Derived.WalkLawsBesides
import Derived.Lib.Hide
import Derived.Lib.QuietBelow
import Derived.BigQuiet
import Derived.Deep.MidRow
import Derived.OwnWalk
set_option linter.unusedSimpArgs false
set_option linter.unusedVariables false
namespace Go.Proofs.Ytmnpailnelmpiaa
open Go.RowKit
inductive D where
 |val (v:Value)
 |sl (size:Nat) (ty:TypeId) (cs:List D)
def blk (v:Value):List Nat:=match v with
 |.slice (some a) _ _=>[a.block]
 |_=>[]
def RowAt (w:World) (own:Bool) (size:Nat) (ty:TypeId) (vs:List Value) (v:Value) (T:List Nat):Prop:=
 match own with
 |true=>∃n,w.ownsRow 0 ty size v n vs∧T=blk v
 |false=>(∀b∈T,b<w.heap.size)∧∃A n c,v=.slice A n c∧vs.length=n*size∧n≤c∧c≤maxLen∧(A=none→c=0)∧
  (vs≠ []→∃b o,A=some ⟨b,o,none⟩∧T=[b]∧∀j u,vs[j]?=some u→w.cell? ⟨b,o+j,none⟩=some u)
mutual
def Rep (w:World) (own:Bool):D→Value→List Nat→Prop
 |.val u,v,S=>v=u∧S=[]
 |.sl size ty cs,v,S=>∃vs T S',RowAt w own size ty vs v T∧RepL w own cs vs S'∧S=T++S'
def RepL (w:World) (own:Bool):List D→List Value→List Nat→Prop
 |[],vs,S=>vs=[]∧S=[]
 |d::ds,vs,S=>∃v vs' S1 S2,vs=v::vs'∧S=S1++S2∧Rep w own d v S1∧RepL w own ds vs' S2
end
def AggRep (w:World) (own:Bool) (ds:List D) (v:Value) (S:List Nat):Prop:=∃vs,v=.agg vs.toArray∧RepL w own ds vs S
def Fresh (B:Nat) (S:List Nat):Prop:=S.Nodup∧∀b∈S,B≤b
theorem zX {α:Type} {a:Array α} {i:Nat} {x:α} (h:a[i]?=some x):i<a.size:=(Array.getElem?_eq_some_iff.1 h).1
section
variable {w w':World} {own:Bool} {size:Nat} {ty:TypeId} {vs:List Value} {v:Value} {T:List Nat}
theorem RowAt.lt (h:RowAt w own size ty vs v T):∀b∈T,b<w.heap.size:=by
 intro b hb;cases own with
 |true=>
  obtain ⟨n,h,rfl⟩:=h;rcases h.2 with ⟨rfl,_⟩|⟨g,cap,cur,rfl,_,hg,_⟩
  ·simp [blk] at hb
  ·simp [blk] at hb;subst hb;exact zX hg
 |false=>exact h.1 b hb
theorem jxn {b:Nat} (h:b<w.heap.size) (hk:w'.heap[b]?=w.heap[b]?):b<w'.heap.size:=by
 rw [Array.getElem?_eq_getElem h] at hk;exact zX hk
theorem RowAt.keep (h:RowAt w own size ty vs v T) (hk:∀b∈T,w'.heap[b]?=w.heap[b]?):RowAt w' own size ty vs v T:=by
 cases own with
 |true=>
  obtain ⟨n,h,rfl⟩:=h;refine ⟨n,⟨h.1,?_⟩,rfl⟩;rcases h.2 with h2|⟨g,cap,cur,rfl,hb,hg,r⟩
  ·exact .inl h2
  ·exact .inr ⟨g,cap,cur,rfl,hb,(hk g (by simp [blk])).trans hg,r⟩
 |false=>
  obtain ⟨hl,A,n,c,rfl,h1,h2,h3,h5,h4⟩:=h;refine ⟨fun b hb=>jxn (hl b hb) (hk b hb),A,n,c,rfl,h1,h2,h3,h5,fun hne=>?_⟩
  obtain ⟨b,o,rfl,rfl,hc⟩:=h4 hne;exact ⟨b,o,rfl,rfl,fun j u hu=>(World.cell?_of_block (a:=⟨b,o+j,none⟩) (hk b (by simp))).trans (hc j u hu)⟩
theorem RowAt.ro (h:RowAt w own size ty vs v T):RowAt w false size ty vs v T:=by
 cases own with
 |false=>exact h
 |true=>
  have hl:=h.lt;obtain ⟨n,h,rfl⟩:=h;refine ⟨hl,?_⟩;rcases h.2 with ⟨rfl,rfl⟩|⟨g,cap,cur,rfl,hb,hg,hnc,hcm,hcs,ht⟩
  ·exact ⟨none,0,0,rfl,h.1,Nat.le_refl _,Nat.zero_le _,fun _=>rfl,fun hne=>absurd (List.eq_nil_of_length_eq_zero (by simpa using h.1)) hne⟩
  ·refine ⟨some ⟨g,0,none⟩,n,cap,rfl,h.1,hnc,hcm,(fun e=>nomatch e),fun _=>⟨g,0,rfl,rfl,fun j u hu=>?_⟩⟩
   have:=h.cells (g:=g) rfl j u hu;have e:(⟨g,0,none⟩:Addr).add j=⟨g,0+j,none⟩:=by unfold Addr.add;split<;>simp_all
   rwa [e] at this
end
mutual
theorem Rep.lt {w:World} {own:Bool}:∀(d:D) {v:Value} {S:List Nat},Rep w own d v S→∀b∈S,b<w.heap.size
 |.val _,_,_,h=>by obtain ⟨_,rfl⟩:=h;simp
 |.sl _ _ cs,_,_,h=>by
  obtain ⟨vs,T,S',h1,h2,rfl⟩:=h;intro b hb;rcases List.mem_append.1 hb with hb|hb
  ·exact h1.lt b hb
  ·exact RepL.lt cs h2 b hb
theorem RepL.lt {w:World} {own:Bool}:∀(ds:List D) {vs:List Value} {S:List Nat},RepL w own ds vs S→∀b∈S,b<w.heap.size
 |[],_,_,h=>by obtain ⟨_,rfl⟩:=h;simp
 |d::ds,_,_,h=>by
  obtain ⟨v,vs',S1,S2,rfl,rfl,h1,h2⟩:=h;intro b hb;rcases List.mem_append.1 hb with hb|hb
  ·exact Rep.lt d h1 b hb
  ·exact RepL.lt ds h2 b hb
end
mutual
theorem Rep.keep {w w':World} {own:Bool}:∀(d:D) {v:Value} {S:List Nat},Rep w own d v S→(∀b∈S,w'.heap[b]?=w.heap[b]?)→Rep w' own d v S
 |.val _,_,_,h,_=>h
 |.sl _ _ cs,_,_,h,hk=>by
  obtain ⟨vs,T,S',h1,h2,rfl⟩:=h;exact ⟨vs,T,S',h1.keep fun b hb=>hk b (List.mem_append.2 (.inl hb)),RepL.keep cs h2 fun b hb=>hk b (List.mem_append.2 (.inr hb)),rfl⟩
theorem RepL.keep {w w':World} {own:Bool}:∀(ds:List D) {vs:List Value} {S:List Nat},RepL w own ds vs S→(∀b∈S,w'.heap[b]?=w.heap[b]?)→RepL w' own ds vs S
 |[],_,_,h,_=>h
 |d::ds,_,_,h,hk=>by
  obtain ⟨v,vs',S1,S2,rfl,rfl,h1,h2⟩:=h;exact ⟨v,vs',S1,S2,rfl,rfl,Rep.keep d h1 fun b hb=>hk b (List.mem_append.2 (.inl hb)),RepL.keep ds h2 fun b hb=>hk b (List.mem_append.2 (.inr hb))⟩
end
mutual
theorem Rep.ro {w:World} {own:Bool}:∀(d:D) {v:Value} {S:List Nat},Rep w own d v S→Rep w false d v S
 |.val _,_,_,h=>h
 |.sl _ _ cs,_,_,h=>by
  obtain ⟨vs,T,S',h1,h2,rfl⟩:=h;exact ⟨vs,T,S',h1.ro,RepL.ro cs h2,rfl⟩
theorem RepL.ro {w:World} {own:Bool}:∀(ds:List D) {vs:List Value} {S:List Nat},RepL w own ds vs S→RepL w false ds vs S
 |[],_,_,h=>h
 |d::ds,_,_,h=>by
  obtain ⟨v,vs',S1,S2,rfl,rfl,h1,h2⟩:=h;exact ⟨v,vs',S1,S2,rfl,rfl,Rep.ro d h1,RepL.ro ds h2⟩
end
section
variable {w w':World} {own:Bool} {d:D} {ds es:List D} {v:Value} {vs:List Value} {S:List Nat}
theorem Rep.below {B:Nat} (h:Rep w own d v S) (hb:Below B w w') (hB:w.heap.size≤B):Rep w' own d v S:=
 Rep.keep d h fun b hs=>hb.block b (Nat.lt_of_lt_of_le (Rep.lt d h b hs) hB)
theorem RepL.below {B:Nat} (h:RepL w own ds vs S) (hb:Below B w w') (hB:w.heap.size≤B):RepL w' own ds vs S:=
 RepL.keep ds h fun b hs=>hb.block b (Nat.lt_of_lt_of_le (RepL.lt ds h b hs) hB)
theorem AggRep.below {B:Nat} (h:AggRep w own ds v S) (hb:Below B w w') (hB:w.heap.size≤B):AggRep w' own ds v S:=
 let ⟨vs,e,h⟩:=h;⟨vs,e,h.below hb hB⟩
theorem AggRep.ro (h:AggRep w own ds v S):AggRep w false ds v S:=let ⟨vs,e,h⟩:=h;⟨vs,e,RepL.ro ds h⟩
theorem AggRep.keep (h:AggRep w own ds v S) (hk:∀b∈S,w'.heap[b]?=w.heap[b]?):AggRep w' own ds v S:=let ⟨vs,e,h⟩:=h;⟨vs,e,RepL.keep ds h hk⟩
theorem RepL.nil_:RepL w own [] [] []:=⟨rfl,rfl⟩
theorem RepL.cons_ {S1 S2:List Nat} (h:Rep w own d v S1) (h2:RepL w own ds vs S2):RepL w own (d::ds) (v::vs) (S1++S2):=⟨v,vs,S1,S2,rfl,rfl,h,h2⟩
theorem RepL.val_ {u:Value} (h2:RepL w own ds vs S):RepL w own (.val u::ds) (u::vs) S:=⟨u,vs,[],S,rfl,rfl,⟨rfl,rfl⟩,h2⟩
theorem RepL.val_inv {u:Value} (h:RepL w own (.val u::ds) vs S):∃vs',vs=u::vs'∧RepL w own ds vs' S:=by
 obtain ⟨v,vs',S1,S2,rfl,rfl,⟨rfl,rfl⟩,h2⟩:=h;exact ⟨vs',rfl,h2⟩
theorem RepL.length:∀(ds:List D) {vs:List Value} {S:List Nat},RepL w own ds vs S→vs.length=ds.length
 |[],_,_,h=>by obtain ⟨rfl,_⟩:=h;rfl
 |d::ds,_,_,h=>by
  obtain ⟨v,vs',S1,S2,rfl,rfl,h1,h2⟩:=h;simp [RepL.length ds h2]
theorem RepL.append_inv:∀(ds:List D) {vs:List Value} {S:List Nat},RepL w own (ds++es) vs S→∃v1 v2 S1 S2,vs=v1++v2∧S=S1++S2∧RepL w own ds v1 S1∧RepL w own es v2 S2
 |[],vs,S,h=>⟨[],vs,[],S,rfl,rfl,RepL.nil_,h⟩
 |d::ds,_,_,h=>by
  obtain ⟨v,vs',S1,S2,rfl,rfl,h1,h2⟩:=h;obtain ⟨v1,v2,S3,S4,rfl,rfl,h3,h4⟩:=RepL.append_inv ds h2;exact ⟨v::v1,v2,S1++S3,S4,rfl,by simp,RepL.cons_ h1 h3,h4⟩
theorem RepL.append_:∀(ds:List D) {v1 v2:List Value} {S1 S2:List Nat},RepL w own ds v1 S1→RepL w own es v2 S2→RepL w own (ds++es) (v1++v2) (S1++S2)
 |[],_,_,_,_,h,h2=>by obtain ⟨rfl,rfl⟩:=h;exact h2
 |d::ds,_,_,_,_,h,h2=>by
  obtain ⟨v,vs',S1,S2,rfl,rfl,h1,h3⟩:=h;rw [List.append_assoc];exact RepL.cons_ h1 (RepL.append_ ds h3 h2)
end
section
variable {α:Type} {enc:α→List D} {size:Nat} {w w':World} {own:Bool}
theorem jG (hl:∀x,(enc x).length=size):∀xs:List α,(xs.flatMap enc).length=xs.length*size
 |[]=>by simp
 |x::xs=>by simp [hl,jG hl xs,Nat.add_mul];omega
theorem RepL.get (hl:∀x,(enc x).length=size):∀(xs:List α) {vs:List Value} {S:List Nat},RepL w own (xs.flatMap enc) vs S→∀(k:Nat) (x:α),xs[k]?=some x→
 ∃v1 vk v2 Sa Sk Sb,vs=v1++vk++v2∧v1.length=k*size∧vk.length=size∧S=Sa++Sk++Sb∧RepL w own (enc x) vk Sk
  ∧RepL w own ((xs.take k).flatMap enc) v1 Sa∧RepL w own ((xs.drop (k+1)).flatMap enc) v2 Sb:=by
 intro xs vs S h k x hx;have hk:k<xs.length:=(List.getElem?_eq_some_iff.1 hx).1
 have e:xs=xs.take k++([x]++xs.drop (k+1)):=by
  have hx':xs[k]=x:=by rw [List.getElem?_eq_getElem hk] at hx;exact Option.some.inj hx
  rw [←hx'];simp
 rw [e,List.flatMap_append,List.flatMap_append] at h;obtain ⟨v1,v2,S1,S2,rfl,rfl,h1,h2⟩:=RepL.append_inv _ h;obtain ⟨vk,v3,S3,S4,rfl,rfl,h3,h4⟩:=RepL.append_inv _ h2;have h3':RepL w own (enc x) vk S3:=by simpa using h3
 refine ⟨v1,vk,v3,S1,S3,S4,by simp,?_,?_,by simp,h3',h1,h4⟩
 ·rw [RepL.length _ h1,jG hl,List.length_take,Nat.min_eq_left (by omega)]
 ·rw [RepL.length _ h3',hl]
theorem RepL.put (xs:List α) {v1 vk v2:List Value} {Sa Sk Sb:List Nat} {k:Nat} {y:α} (hk:k<xs.length)
 (h1:RepL w own ((xs.take k).flatMap enc) v1 Sa) (h:RepL w own (enc y) vk Sk) (h2:RepL w own ((xs.drop (k+1)).flatMap enc) v2 Sb):
 RepL w own ((xs.set k y).flatMap enc) (v1++vk++v2) (Sa++Sk++Sb):=by
 have e:xs.set k y=xs.take k++([y]++xs.drop (k+1)):=by
  rw [List.set_eq_take_append_cons_drop];simp [hk]
 rw [e,List.flatMap_append,List.flatMap_append,List.append_assoc,List.append_assoc];exact RepL.append_ _ h1 (RepL.append_ _ (by simpa using h) h2)
theorem Rep.open_ (hl:∀x,(enc x).length=size) (hs:0<size) {ty:TypeId} {xs:List α} {v:Value} {S:List Nat} (h:Rep w own (.sl size ty (xs.flatMap enc)) v S):
 ∃A c,v=.slice A xs.length c∧xs.length≤c∧c≤maxLen∧
  ∀k x,xs[k]?=some x→∃b o vk Sk,A=some ⟨b,o,none⟩∧vk.length=size∧RepL w own (enc x) vk Sk∧(∀s∈Sk,s∈S)∧b∈S∧b<w.heap.size∧
   ∀j u,vk[j]?=some u→w.cell? ⟨b,o+k*size+j,none⟩=some u:=by
 obtain ⟨vs,T,S',h1,h2,rfl⟩:=h;obtain ⟨hlt,A,n,c,rfl,hn,hnc,hcm,_,hc⟩:=h1.ro;have hlen:vs.length=xs.length*size:=by rw [RepL.length _ h2,jG hl]
 have hnx:n=xs.length:=Nat.eq_of_mul_eq_mul_right hs (hn.symm.trans hlen);subst hnx;refine ⟨A,c,rfl,hnc,hcm,fun k x hx=>?_⟩
 obtain ⟨v1,vk,v2,Sa,Sk,Sb,rfl,hv1,hvk,rfl,hr,_,_⟩:=RepL.get hl xs h2 k x hx
 have hne:v1++vk++v2≠ []:=by
  intro e;have:=congrArg List.length e;simp only [List.length_append,List.length_nil] at this;omega
 obtain ⟨b,o,rfl,rfl,hcell⟩:=hc hne;refine ⟨b,o,vk,Sk,rfl,hvk,hr,fun s hs=>by simp [hs],by simp,hlt b (by simp),fun j u hu=>?_⟩
 have:=hcell (k*size+j) u (by
  rw [List.append_assoc,List.getElem?_append_right (by omega),hv1,Nat.add_sub_cancel_left,List.getElem?_append_left (by have:=(List.getElem?_eq_some_iff.1 hu).1;omega)]
  exact hu)
 rwa [←Nat.add_assoc] at this
end
theorem RepL.flat {w w':World} {own own':Bool}:∀(ds:List D) {vs:List Value} {S:List Nat},(∀d∈ds,∃v,d=.val v)→RepL w own ds vs S→RepL w' own' ds vs []∧S=[]
 |[],_,_,_,h=>by obtain ⟨rfl,rfl⟩:=h;exact ⟨⟨rfl,rfl⟩,rfl⟩
 |d::ds,_,_,hd,h=>by
  obtain ⟨v,vs',S1,S2,rfl,rfl,h1,h2⟩:=h;obtain ⟨u,rfl⟩:=hd d (by simp)
  obtain ⟨rfl,rfl⟩:=h1;obtain ⟨h3,rfl⟩:=RepL.flat (w':=w') (own':=own') ds (fun d hd'=>hd d (by simp [hd'])) h2
  exact ⟨RepL.val_ h3,rfl⟩
theorem Rep.src {α:Type} {enc:α→List D} {size:Nat} {w:World} {own:Bool} {ty:TypeId} {xs:List α} {v:Value} {S:List Nat} (hl:∀x,(enc x).length=size) (hs:0<size) (hf:∀x,∀d∈enc x,∃u,d=.val u) (h:Rep w own (.sl size ty (xs.flatMap enc)) v S):
 ∃A c news,v=.slice A xs.length c∧RepL w true (xs.flatMap enc) news []∧(A=none→xs.length=0∧c=0)∧∀ad,A=some ad→∀j u,news[j]?=some u→w.cell? (ad.add j)=some u:=by
 obtain ⟨vs,T,S',h1,h2,rfl⟩:=h;obtain ⟨hlt,A,n,c,rfl,hn,hnc,hcm,h0,hc⟩:=h1.ro;have hlen:vs.length=xs.length*size:=by rw [RepL.length _ h2,jG hl]
 have hnx:n=xs.length:=Nat.eq_of_mul_eq_mul_right hs (hn.symm.trans hlen);subst hnx;obtain ⟨h3,_⟩:=RepL.flat (w':=w) (own':=true) _ (fun d hd=>by obtain ⟨x,_,hx⟩:=List.mem_flatMap.1 hd;exact hf x d hx) h2
 refine ⟨A,c,vs,rfl,h3,fun e=>⟨by have:=h0 e;omega,h0 e⟩,fun ad ha j u hu=>?_⟩
 obtain ⟨b,o,rfl,_,hcell⟩:=hc (fun e=>by subst e;simp at hu)
 injection ha with ha;subst ha;have:=hcell j u hu;have e:(⟨b,o,none⟩:Addr).add j=⟨b,o+j,none⟩:=by unfold Addr.add;split<;>simp_all
 rwa [e]
structure Only (S:List Nat) (w w':World):Prop where
 os:w'.os=w.os
 tape:w'.tape=w.tape
 output:w'.output=w.output
 size:w.heap.size≤w'.heap.size
 block:∀k,k<w.heap.size→k∉S→w'.heap[k]?=w.heap[k]?
section
variable {S T:List Nat} {w w' w'':World}
theorem Only.refl (S:List Nat) (w:World):Only S w w:=⟨rfl,rfl,rfl,Nat.le_refl _,fun _ _ _=>rfl⟩
theorem Only.below {B:Nat} (h:Only S w w') (hS:∀s∈S,B≤s) (hB:B≤w.heap.size):Below B w w':=
 ⟨h.os,h.tape,h.output,h.size,fun i hi=>h.block i (by omega) (fun hs=>by have:=hS i hs;omega)⟩
theorem Only.of_grown {v:Value} (h:w.grownBy w' v.ownBlock) (hv:∀b∈blk v,b∈S):Only S w w':=
 ⟨h.os,h.tape,h.output,h.size,fun i hi hn=>h.block i hi (fun e=>hn (hv i (by
  unfold Value.ownBlock at e;unfold blk;split at e<;>simp_all)))⟩
theorem Only.of_grown1 {g:Nat} (h:w.grownBy w' (some g)) (hg:g∈S):Only S w w':=
 ⟨h.os,h.tape,h.output,h.size,fun i hi hn=>h.block i hi (fun e=>hn (by injection e with e;subst e;exact hg))⟩
theorem jta (h:w.grownBy w' none):Below w.heap.size w w':=⟨h.os,h.tape,h.output,h.size,fun i hi=>h.block i hi (by simp)⟩
theorem kA (h:Below w.heap.size w w') (k:Below w'.heap.size w' w''):Below w.heap.size w w'':=h.trans (k.mono h.size)
variable {own:Bool} {d:D} {ds:List D} {v:Value} {vs:List Value}
theorem Rep.only (h:Rep w own d v S) (ho:Only T w w') (hd:∀s∈S,s∉T):Rep w' own d v S:=Rep.keep d h fun b hb=>ho.block b (Rep.lt d h b hb) (hd b hb)
theorem RepL.only (h:RepL w own ds vs S) (ho:Only T w w') (hd:∀s∈S,s∉T):RepL w' own ds vs S:=RepL.keep ds h fun b hb=>ho.block b (RepL.lt ds h b hb) (hd b hb)
theorem Fresh.nil (B:Nat):Fresh B []:=⟨List.nodup_nil,by simp⟩
theorem Fresh.mono {B B':Nat} (h:Fresh B S) (hB:B'≤B):Fresh B' S:=⟨h.1,fun b hb=>Nat.le_trans hB (h.2 b hb)⟩
theorem Fresh.left {B:Nat} (h:Fresh B (S++T)):Fresh B S:=⟨(List.nodup_append.1 h.1).1,fun b hb=>h.2 b (by simp [hb])⟩
theorem Fresh.right {B:Nat} (h:Fresh B (S++T)):Fresh B T:=⟨(List.nodup_append.1 h.1).2.1,fun b hb=>h.2 b (by simp [hb])⟩
theorem Fresh.apart {B:Nat} (h:Fresh B (S++T)):∀s∈S,s∉T:=fun s hs ht=>(List.nodup_append.1 h.1).2.2 s hs s ht rfl
theorem Fresh.join {B B':Nat} (h:Fresh B S) (k:Fresh B' T) (hB:B≤B') (hlt:∀s∈S,s<B'):Fresh B (S++T):=
 ⟨List.nodup_append.2 ⟨h.1,k.1,fun a ha b hb e=>by have h1:=hlt a ha;have h2:=k.2 b hb;omega⟩,
  fun b hb=>by rcases List.mem_append.1 hb with hb|hb;exact h.2 b hb;exact Nat.le_trans hB (k.2 b hb)⟩
theorem Fresh.one (B g:Nat) (h:B≤g):Fresh B [g]:=⟨by simp,by simpa using h⟩
end
def D.one:D→Prop
 |.val v=>v.oneCell'=true
 |.sl ..=>True
theorem Rep.one {w:World} {own:Bool} {d:D} {v:Value} {S:List Nat} (h:Rep w own d v S) (h1:d.one):v.oneCell'=true:=by
 cases d with
 |val u=>obtain ⟨rfl,_⟩:=h;exact h1
 |sl size ty cs=>
  obtain ⟨vs,T,S',hr,_,_⟩:=h;obtain ⟨_,A,n,c,rfl,_⟩:=hr.ro;rfl
theorem RepL.one {w:World} {own:Bool}:∀(ds:List D) {vs:List Value} {S:List Nat},RepL w own ds vs S→(∀d∈ds,d.one)→∀v∈vs,v.oneCell'=true
 |[],_,_,h,_=>by obtain ⟨rfl,_⟩:=h;simp
 |d::ds,_,_,h,hd=>by
  obtain ⟨v,vs',S1,S2,rfl,rfl,h1,h2⟩:=h;intro u hu;rcases List.mem_cons.1 hu with rfl|hu
  ·exact Rep.one h1 (hd d (by simp))
  ·exact RepL.one ds h2 (fun d' hd'=>hd d' (by simp [hd'])) u hu
theorem Rep.nil_ (w:World) (size:Nat) (ty:TypeId):Rep w true (.sl size ty []) (.slice none 0 0) []:=
 ⟨[],[],[],⟨0,World.ownsRow_nil w 0 ty size,rfl⟩,RepL.nil_,rfl⟩
section
variable {α:Type} {enc:α→List D} {size:Nat} {w w':World} {ty:TypeId} {xs:List α} {v:Value} {S:List Nat}
theorem Rep.own (hl:∀x,(enc x).length=size) (hs:0<size) (h:Rep w true (.sl size ty (xs.flatMap enc)) v S):
 ∃vs S1,w.ownsRow 0 ty size v xs.length vs∧RepL w true (xs.flatMap enc) vs S1∧S=blk v++S1:=by
 obtain ⟨vs,T,S',⟨n,h1,rfl⟩,h2,rfl⟩:=h;have hlen:vs.length=xs.length*size:=by rw [RepL.length _ h2,jG hl]
 have hn:n=xs.length:=Nat.eq_of_mul_eq_mul_right hs (h1.1.symm.trans hlen);subst hn;exact ⟨vs,S',h1,h2,rfl⟩
theorem Rep.of_own {vs:List Value} {S1:List Nat} {n:Nat} (h:w.ownsRow 0 ty size v n vs) (h2:RepL w true (xs.flatMap enc) vs S1):Rep w true (.sl size ty (xs.flatMap enc)) v (blk v++S1):=
 ⟨vs,blk v,S1,⟨n,h,rfl⟩,h2,rfl⟩
def jiU:List Value→Nat→List Value→List Value
 |xs,_,[]=>xs
 |xs,o,v::r=>jiU (xs.set o v) (o+1) r
theorem jiT:∀(new:List Value) (v1 vk v2:List Value),vk.length=new.length→jiU (v1++vk++v2) v1.length new=v1++new++v2
 |[],v1,vk,v2,h=>by
  obtain rfl:vk=[]:=List.eq_nil_of_length_eq_zero h;rfl
 |u::r,v1,vk,v2,h=>by
  match vk,h with
  |x::vk,h=>
   have e:(v1++x::vk++v2).set v1.length u=(v1++[u])++vk++v2:=by simp
   have:=jiT r (v1++[u]) vk v2 (by simpa using h)
   rw [jiU,e];rw [List.length_append,List.length_singleton] at this;rw [this];simp
theorem jbp {g n cap:Nat} {e:TypeId}:∀(cs:List Value) (o:Nat) {w:World} {vs:List Value},w.ownsRow 0 e size (.slice (some ⟨g,0,none⟩) n cap) n vs→
 (w.setCells g o cs).ownsRow 0 e size (.slice (some ⟨g,0,none⟩) n cap) n (jiU vs o cs)∧w.grownBy (w.setCells g o cs) (some g)
 |[],_,w,_,h=>⟨h,⟨rfl,rfl,rfl,Nat.le_refl _,fun _ _ _=>rfl⟩⟩
 |u::r,o,w,vs,h=>by
  obtain ⟨h1,h2⟩:=h.stored o u;obtain ⟨h3,h4⟩:=jbp r (o+1) h1;exact ⟨h3,⟨h4.os.trans h2.os,h4.tape.trans h2.tape,h4.output.trans h2.output,Nat.le_trans h2.size h4.size,fun k hk hne=>(h4.block k (Nat.lt_of_lt_of_le hk h2.size) hne).trans (h2.block k hk hne)⟩⟩
theorem jrS {g n cap:Nat} {e:TypeId} {vs:List Value} (h:w.ownsRow 0 e size (.slice (some ⟨g,0,none⟩) n cap) n vs) (o m:Nat) (hm:o+m≤n*size):w.there g o m:=fun j hj=>
 ⟨by rw [h.cellAt (o+j) (by omega),List.getElem?_eq_getElem (by rw [h.1];omega)];rfl,h.frozenAt _⟩
theorem Rep.setElem (hl:∀x,(enc x).length=size) (hs:0<size) {g n cap k:Nat} {B:Nat} (h:Rep w true (.sl size ty (xs.flatMap enc)) (.slice (some ⟨g,0,none⟩) n cap) S) (hk:k<xs.length)
 {y:α} {vy:List Value} {Sy:List Nat} (hy:RepL w true (enc y) vy Sy) (hF:Fresh B (S++Sy)):
 ∃S',Rep (w.setCells g (k*size) vy) true (.sl size ty ((xs.set k y).flatMap enc)) (.slice (some ⟨g,0,none⟩) n cap) S'∧Fresh B S'∧Only [g] w (w.setCells g (k*size) vy)∧g∈S∧(∀s∈S',s∈S∨s∈Sy):=by
 obtain ⟨vs,S1,h1,h2,rfl⟩:=Rep.own hl hs h;obtain ⟨x,hx⟩:∃x,xs[k]?=some x:=⟨xs[k],List.getElem?_eq_getElem hk⟩;obtain ⟨v1,vk,v2,Sa,Sk,Sb,rfl,hv1,hvk,rfl,hr,hra,hrb⟩:=RepL.get hl xs h2 k x hx
 have hn:n=xs.length:=by
  rcases h1.2 with ⟨e,_⟩|⟨g',cap',cur,e,_⟩
  ·cases e
  ·simp only [Value.slice.injEq] at e;exact e.2.1
 subst hn;obtain ⟨h3,h4⟩:=jbp vy (k*size) h1;have hvy:vy.length=size:=by rw [RepL.length _ hy,hl]
 rw [←hv1,jiT vy v1 vk v2 (by omega)] at h3
 rw [hv1] at h3;have ho:Only [g] w (w.setCells g (k*size) vy):=Only.of_grown1 h4 (by simp)
 have hF':Fresh B ((blk (.slice (some ⟨g,0,none⟩) xs.length cap)++(Sa++Sy++Sb))++Sk):=by
  refine ⟨?_,fun b hb=>hF.2 b (by simp only [List.mem_append] at hb⊢;grind)⟩
  refine (List.Perm.nodup_iff ?_).1 hF.1;simp only [List.append_assoc];refine List.Perm.append_left _ (List.Perm.append_left _ ?_)
  exact (List.perm_append_comm (l₁:=Sk) (l₂:=Sb++Sy)).trans (by
   rw [←List.append_assoc];exact List.Perm.append_right _ List.perm_append_comm)
 have hg:∀s,s∈Sa++Sy++Sb→s∉ [g]:=fun s hs hsg=>by
  have:=hF'.left.apart g (by simp [blk])
  simp only [List.mem_singleton] at hsg;subst hsg;exact this hs
 refine ⟨_,Rep.of_own h3 (RepL.put xs hk (hra.only ho fun s hs=>hg s (by simp [hs])) (hy.only ho fun s hs=>hg s (by simp [hs])) (hrb.only ho fun s hs=>hg s (by simp [hs]))),hF'.left,ho,by simp [blk],fun s hs=>?_⟩
 simp only [List.mem_append] at hs⊢
 grind
end
def jwb (w:World) (ds:List D) (e:Ending) (w':World):Prop:=∃v S,e=.returned v∧AggRep w' true ds v S∧Fresh w.heap.size S∧Below w.heap.size w w'
structure SlT (P:Program) (t e:TypeId) (size bytes:Nat) (z:List Value):Prop where
 und:P.underlying t=some (.slice e)
 info:∃i zv,P.info? e=some i∧i.zero=some zv∧zv.cells=z.toArray∧i.size=size∧i.bytes=bytes
 zlen:z.length=size
 pos:0<size
section
variable {P:Program} {α:Type} {enc:α→List D} {size bytes:Nat} {w:World} {t e:TypeId} {z:List Value} {xs ys:List α} {v:Value} {S Sy:List Nat}
theorem jjp {ty:TypeId} {i:TypeInfo} {zv:Value} (ht:P.underlying t=some (.slice e)) (hi:P.info? e=some i) (hz:i.zero=some zv) {n:Nat} {vs:List Value} (hown:w.ownsRow 0 e i.size v n vs)
 {ad:Addr} {m c:Nat} {news:List Value} (hl:news.length=m*i.size) (hnews:∀j u,news[j]?=some u→w.cell? (ad.add j)=some u) (h1:∀u∈news,u.oneCell'=true)
 (h63:n+m≤maxLen) (hbytes:(n+m)*i.bytes≤140737488355328) {v':Value} {w':World}
 (hr:(Builtin.append_ #[t,t] ty #[v,.slice (some ad) m c]).run P w=.ok v' w'):∀b∈blk v',b∈blk v∨b=w.heap.size:=by
 unfold maxLen at h63;intro b hb;rcases hown.2 with ⟨rfl,rfl⟩|⟨g,cap,cur,rfl,_,hg,hnc,hcm,hcs,htake⟩
 ·by_cases hm:m=0
  ·subst hm
   simp [Builtin.append_,run_underlying ht,sizeOf,typeInfo,hi,Builtin.lenOf,Builtin.firstCells,loadCells,loadCellsFrom] at hr;rw [←hr.1] at hb;exact .inl hb
  ·rw [run_append_nil (P:=P) w t ty e i zv ht hi hz ad m c news hl hnews (by omega) (by omega) (by simp only [Nat.zero_add] at hbytes;omega)] at hr
   injection hr with e1 _;subst e1;simp only [blk,List.mem_singleton] at hb;exact .inr hb
 ·by_cases hroom:n+m≤cap
  ·rw [run_append_room (P:=P) w t ty e i ht hi g n cap cur hg ad m c news hl hnews h1 hroom (by rw [hl,hcs,←Nat.add_mul];exact Nat.mul_le_mul_right _ hroom)] at hr
   injection hr with e1 _;subst e1;exact .inl hb
  ·rw [run_append_grow (P:=P) w t ty e i zv ht hi hz ⟨g,0,none⟩ n cap vs hown.1 (hown.cells (g:=g) rfl) ad m c news hl hnews (by omega) (by omega) (growslice_fits (by omega) hbytes)] at hr
   injection hr with e1 _;subst e1;simp only [blk,List.mem_singleton] at hb;exact .inr hb
theorem jeI {ops:Array Oper} {rest:List Oper} {o:Oper} {a:Act} {Q:Exit→Act→World→Prop} (hgd:o.guard=none) (s x:Operand)
 (ho:o.op=.call {callee:=.builtin .append,args:=#[s,x],argTypes:=#[t,t]}) (T:SlT P t e size bytes z) (hl:∀x,(enc x).length=size)
 (hs:a.eval s=v) (hrep:Rep w true (.sl size e (xs.flatMap enc)) v S)
 (A:Option Addr) (m c:Nat) (news:List Value) (hx:a.eval x=.slice A m c) (hy:RepL w true (ys.flatMap enc) news Sy) (hm:m=ys.length)
 (hA:A=none→m=0∧c=0) (hnews:∀ad,A=some ad→∀j u,news[j]?=some u→w.cell? (ad.add j)=some u) (h1:∀y,∀d∈enc y,d.one)
 (B:Nat) (hB:B≤w.heap.size) (hF:Fresh B (S++Sy)) (h63:xs.length+ys.length≤maxLen) (hbytes:(xs.length+ys.length)*bytes≤140737488355328)
 (h:∀v' w' S',Rep w' true (.sl size e ((xs++ys).flatMap enc)) v' S'→Fresh B S'→Only S w w'→(∀s∈S',s∈S∨s∈Sy∨w.heap.size≤s)→wpList P ops Q rest (a.put o.dst v') w'):
 wpList P ops Q (o::rest) a w:=by
 obtain ⟨i,zv,hi,hz,hzc,hsz,hby⟩:=T.info;obtain ⟨vs,S1,hown,hrl,rfl⟩:=Rep.own hl T.pos hrep;have hnl:news.length=ys.length*size:=by rw [RepL.length _ hy,jG hl]
 have hone:∀u∈news,u.oneCell'=true:=RepL.one _ hy (fun d hd=>by
  obtain ⟨y,_,hd⟩:=List.mem_flatMap.1 hd;exact h1 y d hd)
 subst hm;refine wpList_plain hgd fun K hK=>?_
 cases A with
 |none=>
  obtain ⟨h0,rfl⟩:=hA rfl;have hy0:ys=[]:=List.eq_nil_of_length_eq_zero h0;subst hy0;have hr:=run_append_owned_none (P:=P) w 0 t o.type e i size T.und hi v xs.length vs hown;unfold Oper.wp execOp;simp only [ho,resolve,invoke,builtin,Sem.run_bind,Sem.run_pure,Result.andThen_ok,List.map_toArray,List.map_cons,List.map_nil,hs,hx,List.length_nil,hr];refine hK _ _ (h v w (blk v++S1) (by simpa using Rep.of_own hown hrl) hF.left (Only.refl _ _) fun s hs=>.inl hs)
 |some ad=>
  obtain ⟨v',w',hr,h2,h3,_⟩:=run_append_own (P:=P) w 0 t o.type e i zv size bytes T.und hi hz hsz hby (by rw [hzc];simpa using T.zlen) T.pos v xs.length vs hown ad ys.length c news hnl (hnews ad rfl) hone h63 hbytes (Nat.zero_le _)
  unfold Oper.wp execOp;simp only [ho,resolve,invoke,builtin,Sem.run_bind,Sem.run_pure,Result.andThen_ok,List.map_toArray,List.map_cons,List.map_nil,hs,hx,hr];have honly:Only (blk v++S1) w w':=Only.of_grown h3 (fun b hb=>by simp [hb])
  have honly1:Only (blk v) w w':=Only.of_grown h3 (fun b hb=>hb)
  have hF1:∀s∈S1++Sy,s∉blk v:=fun s hs hb=>by
   have:=hF.1;rw [List.append_assoc] at this;exact (List.nodup_append.1 this).2.2 s hb s hs rfl
  have hnew:∀b∈blk v',b∈blk v∨b=w.heap.size:=jjp T.und hi hz (by rw [hsz];exact hown) (by rw [hsz];exact hnl) (hnews ad rfl) hone h63 (by rw [hby];exact hbytes) hr
  have hrep':Rep w' true (.sl size e ((xs++ys).flatMap enc)) v' (blk v'++(S1++Sy)):=by
   refine Rep.of_own h2 ?_;rw [List.flatMap_append];exact RepL.append_ _ (hrl.only honly1 fun s hs=>hF1 s (by simp [hs])) (hy.only honly1 fun s hs=>hF1 s (by simp [hs]))
  have hlt:∀s∈S1++Sy,s<w.heap.size:=fun s hs=>by
   rcases List.mem_append.1 hs with hs|hs
   ·exact RepL.lt _ hrl s hs
   ·exact RepL.lt _ hy s hs
  refine hK _ _ (h v' w' _ hrep' ?_ honly fun s hs=>?_)
  ·rw [List.append_assoc] at hF
   refine ⟨List.nodup_append.2 ⟨?_,(List.nodup_append.1 hF.1).2.1,fun a ha b hb e=>?_⟩,fun b hb=>?_⟩
   ·rcases h2.2 with ⟨rfl,_⟩|⟨g,cap,cur,rfl,_⟩<;>simp [blk]
   ·subst e
    rcases hnew a ha with h4|h4
    ·exact hF1 a hb h4
    ·have:=hlt a hb;omega
   ·rcases List.mem_append.1 hb with hb|hb
    ·rcases hnew b hb with h4|h4
     ·exact hF.2 b (by simp [h4])
     ·omega
    ·exact hF.2 b (by rw [List.mem_append];exact .inr hb)
  ·rcases List.mem_append.1 hs with hs|hs
   ·rcases hnew s hs with h4|h4
    ·exact .inl (by simp [h4])
    ·right;right;omega
   ·rcases List.mem_append.1 hs with hs|hs
    ·exact .inl (by simp [hs])
    ·exact .inr (.inl hs)
theorem zD {z:List Value} {size:Nat} (hz:z.length=size) (hpos:0<size):∀(n j:Nat),j<n*size→((List.replicate n z).flatten)[j]?=z[j%size]?
 |0,j,h=>by omega
 |n+1,j,h=>by
  rw [List.replicate_succ,List.flatten_cons];by_cases hjs:j<size
  ·rw [Nat.mod_eq_of_lt hjs,List.getElem?_append_left (by omega)]
  ·rw [List.getElem?_append_right (by omega),hz,zD hz hpos n (j-size) (by rw [Nat.succ_mul] at h;omega)]
   rw [Nat.mod_eq_sub_mod (a:=j) (by omega)]
theorem jtt {ops:Array Oper} {rest:List Oper} {a:Act} {Q:Exit→Act→World→Prop} (x y:Operand) {d:Option Tmp} {ts:Array TypeId} {t:TypeId} {pos:String} {aft:Array Edge} {g:Option (Nat×Bool)}
 (h:wpList P ops Q (⟨d,.call {callee:=.builtin .append,args:=#[x,y],argTypes:=ts},t,pos,aft,g⟩::rest) a w):wpList P ops Q (⟨d,.call {callee:=.builtin .append,args:=#[x,y],argTypes:=ts},t,pos,aft,g⟩::rest) a w:=h
end
end Go.Proofs.Ytmnpailnelmpiaa
