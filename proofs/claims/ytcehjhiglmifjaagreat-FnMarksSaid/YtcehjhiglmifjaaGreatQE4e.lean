/- Parts. -/
import Derived.Test.YtcehjhiglmifjaaGreatQE4
import Derived.Lib.AppendStr
set_option linter.all false
namespace Go.Proofs.YtcehjhiglmifjaaGreat
open Go.RowKit Go.Sort
def OpOk (P:Program) (o:Oper) (a:Act) (w:World) (R:Act->World->Prop):Prop:=
 ∀(next:Act->World->Prop) (Q:Exit->Act->World->Prop),(∀a' w',R a' w'->next a' w')->o.wp P a w next Q
section
variable {P:Program} {β B N:Nat} {w w0:World} {s:St} {a:Act} {F:Nat->List Nat} {o:Oper} {K:St->Prop}
theorem OpOk.of_run {w':World} {R:Act->World->Prop} {v:Value} (h:(execOp a.eval o).run P w=.ok (.value v) w') (hr:R (a.put o.dst v) w'):OpOk P o a w R:=
 λ_ _ hk=>by unfold Oper.wp;rw [h];exact hk _ w' hr
theorem OpOk.of_skip {w':World} {R:Act->World->Prop} (h:(execOp a.eval o).run P w=.ok .skip w') (hr:R (a.put o.dst undef) w'):OpOk P o a w R:=
 λ_ _ hk=>by unfold Oper.wp;rw [h];exact hk _ w' hr
theorem jb8:∀{l:List A0} {us:List Value} {s:St} {F:Nat->List Nat} {K:List Cell->St->Prop},RelF B w0 N s a w F->A0RelL B w l us->qz s l K->
 ∃cs s' S F',K cs s'/\CRel B w cs us S/\RelF B w0 N s' a w F'/\Fresh B S/\(∀g,∀b∈S,b∉F' g)/\(∀g b,b∈F' g->b∈F g)/\(∀b∈S,∃g,b∈F g)/\(∀u∈us,u.oneCell'=true)
 |[],us,s,F,K,h,hr,hk=>⟨[],s,[],F,hk,⟨hr,rfl⟩,h,Fresh.nil _,by simp,λ_ _ h=>h,by simp,by rw [show us=[] from hr];simp⟩
 |x::l,us,s,F,K,h,⟨u,us',h1,h2,h3⟩,hk=>by
  subst h1
  have plain:∀(x:A0),A0Rel B w x u->x.one=true->qz s l (λcs s'=>K (.a x::cs) s')->∃cs s' S F',K cs s'/\CRel B w cs (u::us') S/\RelF B w0 N s' a w F'/\Fresh B S/\(∀g,∀b∈S,b∉F' g)/\(∀g b,b∈F' g->b∈F g)/\(∀b∈S,∃g,b∈F g)/\(∀u'∈u::us',u'.oneCell'=true):=by
   intro x h2 eX hk;obtain ⟨cs,s',S,F',k1,k2,k3,k4,k5,k6,k7,k8⟩:=jb8 h h3 hk;refine ⟨_,s',S,F',k1,⟨u,us',rfl,h2,k2⟩,k3,k4,k5,k6,k7,λu' hu=>?_⟩
   rcases aOK.1 hu with rfl|hu
   ·exact h2.one eX
   ·exact k8 u' hu
  cases x with
  |h g c p x=>
   obtain ⟨rfl,d,η,ho,hx,hk⟩:=hk;obtain ⟨u',S1,F1,j1,j2,j3,j4,j5,j6,j7,j8⟩:=h.rm ho;obtain ⟨cs,s',S2,F',k1,k2,k3,k4,k5,k6,k7,k8⟩:=jb8 j5 h3 hk
   have hu:u=u':=by
    rw [h2.1,<-hx,j3,zt j1]
   subst hu
   have fO:∀b∈S1,b∉S2:=λb hb aZ=>by
    obtain ⟨g',cU⟩:=k7 b aZ;exact j6 g' b hb cU
   refine ⟨_,s',S1++S2,F',k1,⟨u,us',S1,S2,rfl,rfl,j1,j2,j3,k2⟩,k3,⟨aNY.2 ⟨j4.1,k4.1,λx hx y hy e=>fO x hx (e▸hy)⟩,λb hb=>?_⟩,λg' b hb=>?_,λg' b hb=>j8 g' b (k6 g' b hb),λb hb=>?_,λu' hu=>?_⟩
   ·rcases aNT.1 hb with hb|hb
    ·exact j4.2 b hb
    ·exact k4.2 b hb
   ·rcases aNT.1 hb with hb|hb
    ·exact λaZ=>j6 g' b hb (k6 g' b aZ)
    ·exact k5 g' b hb
   ·rcases aNT.1 hb with hb|hb
    ·exact ⟨g,j7 b hb⟩
    ·obtain ⟨g',cU⟩:=k7 b hb;exact ⟨g',j8 g' b cU⟩
   ·rcases aOK.1 hu with rfl|hu
    ·cases d with
     |val _=>cases j1
     |sl _ _ _=>obtain ⟨_,_,_,rfl⟩:=vR j2;rfl
    ·exact k8 u' hu
  |v x=>exact plain _ h2 hk.1 hk.2
  |ro x=>exact plain _ h2 hk.1 hk.2
  |rp x=>exact plain _ h2 hk.1 hk.2
  |bp x y z=>exact plain _ h2 hk.1 hk.2
  |ep x y z i j=>exact plain _ h2 hk.1 hk.2
  |un=>exact plain _ h2 hk.1 hk.2
  |hs=>exact plain _ h2 hk.1 hk.2
theorem jtn (h:RelF B w0 N s a w F) {f:Nat} {args:List AV} {xs:List Value} (aV:(execOp a.eval o).run P w=.ok (.enter f xs.toArray) w) (hv:jlZ B w args xs) (hd:∀k,o.dst=some k->k<N)
 (ht:Turns P f args s.o λrt o'=>∀η:Nat->jf,K (((⟨s.t,o'⟩:St).addO (jl3 (100*(β+o.dst.getD 0)) η 0 rt.flat)).put o.dst (rt.av (100*(β+o.dst.getD 0)) η))):
 OpOk P o a w (λa' w'=>∃s' F',RelF B w0 N s' a' w' F'/\K s'):=by
 intro next Q hk;unfold Oper.wp;rw [aV];refine (ht.2 B w F xs h.bare hv).mono λe w' ⟨v,rt,o',S,F',he,hr,v8,hf,n4,hR⟩=>?_
 subst he;have hb:Below B w w':=hr.below;obtain ⟨η,h1,h2⟩:=jxf (B:=B) (100*(β+o.dst.getD 0)) v8;have h3:RelF B w0 N ⟨s.t,o'⟩ a w' F':=⟨h.below.trans hb,h.hB,h.df,h.sz,λn=>(h.sl n).mono hb,hr.ob,hr.fr,hr.dj⟩
 obtain ⟨F2,h4⟩:=h3.addO h2 hf n4;exact hk _ _ ⟨_,F2,h4.put h1 hd,hR η⟩
theorem jGc (h:RelF B w0 N s a w F) {f:Nat} {args:List AV} {xs:List Value} (aV:(execOp a.eval o).run P w=.ok (.enter f xs.toArray) w) (hv:jlZ B w args xs) (hd:∀k,o.dst=some k->k<N)
 (ht:Inl P f args s.o λav o'=>K (St.put ⟨s.t,o'⟩ o.dst av)):
 OpOk P o a w (λa' w'=>∃s' F',RelF B w0 N s' a' w' F'/\K s'):=by
 intro next Q hk;unfold Oper.wp;rw [aV];refine (ht.2 B w F xs h.bare hv).mono λe w' ⟨v,av,o',F',he,hr,hva,hR⟩=>?_
 subst he;have hb:Below B w w':=hr.below;have h3:RelF B w0 N ⟨s.t,o'⟩ a w' F':=⟨h.below.trans hb,h.hB,h.df,h.sz,λn=>(h.sl n).mono hb,hr.ob,hr.fr,hr.dj⟩
 exact hk _ _ ⟨_,F',h3.put hva hd,hR⟩
theorem jyJ (w:World):Below w.heap.size w w.drew:=⟨rfl,rfl,rfl,aOC _,λ_ _=>rfl⟩
theorem jGf (h:RelF B w0 N s a w F) {e:TypeId} {x:Operand} {x':X} {n:Nat} {g:Option (Nat×Bool)} (ho:o.op=.box e x) (hx:jQ x=some x') (hd:∀k,o.dst=some k->k<N) (hr:vp P β ⟨o.dst,g,.box e n x'⟩ s K):
 OpOk P o a w (λa' w'=>∃s' F',RelF B w0 N s' a' w' F'/\K s'):=by
 obtain ⟨l,h1,_,h2⟩:=hr;obtain ⟨us,h3,h4⟩:=VRel.cells (qP h hx) h1;obtain ⟨cs,s',S,F',k1,k2,k3,k4,k5,k6,k7,_⟩:=jb8 h h4 h2
 have aV:(execOp a.eval o).run P w=.ok (.value (.pointer (some ⟨w.heap.size,0,none⟩))) (w.alloc (.cells us.toArray e)):=by
  simp [execOp,ho,Instr.box,newVar,newRow,h3]
 have hb:Below w.heap.size w (w.alloc (.cells us.toArray e)):=(Below.refl _ _).alloc (aOC _) _;have hB:B<=w.heap.size:=aPC h.hB h.below.size;have o6:∀b∈S,b<w.heap.size:=λb aZ=>k2.lt b aZ
 have bS:ORel B (w.alloc (.cells us.toArray e)) (.box w.heap.size e cs) (w.heap.size::S):=
  ⟨us,S,jtK _ _,k2.keep (hb.mono hB) λb aZ=>hb.block b (o6 b aZ),rfl⟩
 have o9:∀g,∀b∈F' g,b<w.heap.size:=λg b aZ=>(k3.ob g).lt b aZ
 have h5:=(k3.world hb).setO (g:=100*(β+o.dst.getD 0)) bS ⟨aPX.2 ⟨λhh=>by have:=o6 _ hh;omega,k4.1⟩,λb aZ=>by rcases aOK.1 aZ with rfl|aZ;exact hB;exact k4.2 b aZ⟩ (λg' _ b aZ=>by
  rcases aOK.1 aZ with rfl|aZ
  ·exact λhh=>by have:=o9 g' _ hh;omega
  ·exact k5 g' b aZ)
 exact OpOk.of_run aV ⟨_,_,h5.put (v:=.c (.bp (100*(β+o.dst.getD 0)) 0 w.heap.size)) rfl hd,k1 w.heap.size⟩
theorem RelF.world' (h:RelF B w0 N s a w F) {w':World} (hb:Below B w w') (hk:∀g,∀b∈F g,w'.heap[b]?=w.heap[b]?):RelF B w0 N s a w' F:=
 ⟨h.below.trans hb,h.hB,h.df,h.sz,λn=>(h.sl n).mono hb,λg=>(h.ob g).keep hb (hk g),h.fr,h.dj⟩
theorem CRel.set1 {x:Cell} {u:Value} {S1:List Nat} (hx:CRel B w [x] [u] S1):∀{ds:List Cell} {us:List Value} {S0:List Nat} {c:Nat},CRel B w ds us S0->(S0++S1).Nodup->c<ds.length->
 ∃S',CRel B w (ds.set c x) (us.set c u) S'/\S'.Nodup/\∀b∈S',b∈S0\/b∈S1
 |[],_,_,_,_,_,hc=>by simp at hc
 |y::ds,us,S0,0,hr,aW,_=>by
  have lV:∀{us':List Value} {S2:List Nat},CRel B w ds us' S2->CRel B w (x::ds) (u::us') (S1++S2):=by
   intro us' S2 h2;cases x with
   |a x=>obtain ⟨u',us'',h3,h4,h5,h6⟩:=hx;cases h3;subst h6;exact ⟨u,us',rfl,h4,h2⟩
   |own d η=>
    obtain ⟨u',us'',T1,T2,h3,h4,h5,h6,h7,h8,h9⟩:=hx;cases h3;subst h9;rw [aOP] at h4;subst h4;exact ⟨u,us',S1,S2,rfl,rfl,h5,h6,h7,h2⟩
  cases y with
  |a y=>
   obtain ⟨u',us',rfl,_,h3⟩:=hr;refine ⟨_,lV h3,?_,λb hb=>?_⟩
   ·exact (aQH.nodup_iff).1 aW
   ·rcases aNT.1 hb with hb|hb
    ·exact .inr hb
    ·exact .inl hb
  |own d η=>
   obtain ⟨u',us',T1,T2,rfl,rfl,_,_,_,h3⟩:=hr;refine ⟨_,lV h3,?_,λb hb=>?_⟩
   ·rw [aOB] at aW
    exact (aQH.nodup_iff).1 (aNY.1 aW).2.1
   ·rcases aNT.1 hb with hb|hb
    ·exact .inr hb
    ·exact .inl (by simp [hb])
 |y::ds,us,S0,c+1,hr,aW,hc=>by
  cases y with
  |a y=>
   obtain ⟨u',us',rfl,h2,h3⟩:=hr;obtain ⟨S',h4,h5,h6⟩:=CRel.set1 hx h3 aW (by simpa using hc)
   exact ⟨S',⟨u',_,rfl,h2,h4⟩,h5,h6⟩
  |own d η=>
   obtain ⟨u',us',T1,T2,rfl,rfl,h1,h2,bI,h3⟩:=hr;rw [aOB] at aW;have hn:=aNY.1 aW;obtain ⟨S',h4,h5,h6⟩:=CRel.set1 hx h3 hn.2.1 (by simpa using hc)
   refine ⟨T1++S',⟨u',_,T1,S',rfl,rfl,h1,h2,bI,h4⟩,aNY.2 ⟨hn.1,h5,λa ha b hb e=>hn.2.2 a ha b (by rcases h6 b hb with h|h<;>simp [h]) e⟩,λb hb=>?_⟩
   rcases aNT.1 hb with hb|hb
   ·exact .inl (by simp [hb])
   ·rcases h6 b hb with h|h
    ·exact .inl (by simp [h])
    ·exact .inr h
theorem CRel.setAt_:∀{cs:List Cell} {us:List Value} {S:List Nat} {ds:List Cell} {vs:List Value} {S0:List Nat} {c:Nat},CRel B w cs us S->CRel B w ds vs S0->(S0++S).Nodup->c+cs.length<=ds.length->
 ∃S',CRel B w (ky ds c cs) (ky vs c us) S'/\S'.Nodup/\∀b∈S',b∈S0\/b∈S
 |[],us,S,ds,vs,S0,c,⟨h1,h2⟩,h3,aW,_=>by
  subst h1 h2;rw [aOP] at aW;exact ⟨S0,h3,aW,λb hb=>.inl hb⟩
 |x::cs,us,S,ds,vs,S0,c,hr,h3,aW,hc=>by
  obtain ⟨u,us',S1,S2,rfl,rfl,h4,h5⟩:∃u us' S1 S2,us=u::us'/\S=S1++S2/\CRel B w [x] [u] S1/\CRel B w cs us' S2:=by
   cases x with
   |a x=>obtain ⟨u,us',h1,h2,h4⟩:=hr;exact ⟨u,us',[],S,h1,rfl,⟨u,[],rfl,h2,rfl,rfl⟩,h4⟩
   |own d η=>obtain ⟨u,us',S1,S2,h1,h2,k1,k2,k3,h4⟩:=hr;exact ⟨u,us',S1,S2,h1,h2,⟨u,[],S1,[],rfl,by simp,k1,k2,k3,rfl,rfl⟩,h4⟩
  rw [<-aOB] at aW;obtain ⟨S',h6,h7,h8⟩:=CRel.set1 (c:=c) h4 h3 (aNY.1 aW).1 (by simp at hc;omega)
  have hn:=aNY.1 aW;obtain ⟨S'',h9,lA,gI⟩:=CRel.setAt_ (c:=c+1) h5 h6 (aNY.2 ⟨h7,hn.2.1,λa ha b hb e=>hn.2.2 a (by rcases h8 a ha with h|h<;>simp [h]) b hb e⟩) (by simp at hc⊢;omega)
  refine ⟨S'',h9,lA,λb hb=>?_⟩
  rcases gI b hb with h|h
  ·rcases h8 b h with h|h
   ·exact .inl h
   ·exact .inr (by simp [h])
  ·exact .inr (by simp [h])
theorem qx:∀(vs:List Value) (w:World) (b o:Nat) (us:List Value) (ty:TypeId),w.heap[b]?=some (.cells us.toArray ty (0,0))->(w.setCells b o vs).heap[b]?=some (.cells (ky us o vs).toArray ty (0,0))/\∀k,k≠b->(w.setCells b o vs).heap[k]?=w.heap[k]?
 |[],w,b,o,us,ty,h=>⟨h,λ_ _=>rfl⟩
 |v::vs,w,b,o,us,ty,h=>by
  have h1:(w.setCell ⟨b,o,none⟩ v).heap[b]?=some (.cells (us.set o v).toArray ty (0,0)):=by
   have aB:=jbN h;have:w.heap[b]=.cells us.toArray ty (0,0):=by rw [Array.getElem?_eq_getElem aB] at h;exact aOH h
   simp [World.setCell,Array.getElem?_modify,h]
  obtain ⟨h2,h3⟩:=qx vs (w.setCell ⟨b,o,none⟩ v) b (o+1) (us.set o v) ty h1;exact ⟨h2,λk hk=>(h3 k hk).trans (Below.heap_setCell w ⟨b,o,none⟩ v k hk)⟩
theorem kJ:∀(vs:List Value) (w:World) (b o:Nat),(w.setCells b o vs).os=w.os/\(w.setCells b o vs).tape=w.tape/\(w.setCells b o vs).output=w.output/\(w.setCells b o vs).heap.size=w.heap.size
 |[],_,_,_=>⟨rfl,rfl,rfl,rfl⟩
 |v::vs,w,b,o=>by
  obtain ⟨h1,h2,h3,h4⟩:=kJ vs (w.setCell ⟨b,o,none⟩ v) b (o+1);exact ⟨h1,h2,h3,h4.trans (by simp [World.setCell])⟩
theorem jpq:∀(xs:List Value) (vs:List Value) (o:Nat),jmP vs o xs=ky vs o xs
 |[],_,_=>rfl
 |x::xs,vs,o=>by rw [jmP,ky,jpq xs]
theorem jaL:∀(vs:List Value) (w:World) (b o k:Nat),k≠b->(w.setCells b o vs).heap[k]?=w.heap[k]?
 |[],_,_,_,_,_=>rfl
 |v::vs,w,b,o,k,hk=>(jaL vs _ b (o+1) k hk).trans (Below.heap_setCell w ⟨b,o,none⟩ v k hk)
theorem jde {α:Type}:∀(xs:List α) (l:List α) (k j:Nat),¬(k<=j/\j<k+xs.length)->(ky l k xs)[j]?=l[j]?
 |[],_,_,_,_=>rfl
 |x::xs,l,k,j,h=>by
  rw [ky,jde xs _ (k+1) j (by simp at h;omega),aOX (by simp at h;omega)]
theorem RepL.set1 {d:D} {u:Value} {S1:List Nat} (hx:Rep w true d u S1):∀{cs:List D} {vs:List Value} {S0:List Nat} {c:Nat},RepL w true cs vs S0->(S0++S1).Nodup->c<cs.length->
 ∃S',RepL w true (cs.set c d) (vs.set c u) S'/\S'.Nodup/\∀b∈S',b∈S0\/b∈S1
 |[],_,_,_,_,_,hc=>by simp at hc
 |y::cs,_,_,0,⟨u',us',T1,T2,rfl,rfl,_,h3⟩,aW,_=>by
  refine ⟨S1++T2,RepL.cons_ hx h3,?_,λb hb=>?_⟩
  ·rw [aOB] at aW
   exact (aQH.nodup_iff).1 (aNY.1 aW).2.1
  ·rcases aNT.1 hb with hb|hb
   ·exact .inr hb
   ·exact .inl (by simp [hb])
 |y::cs,_,_,c+1,⟨u',us',T1,T2,rfl,rfl,h2,h3⟩,aW,hc=>by
  rw [aOB] at aW;have hn:=aNY.1 aW;obtain ⟨S',h4,h5,h6⟩:=RepL.set1 hx h3 hn.2.1 (by simpa using hc)
  refine ⟨T1++S',RepL.cons_ h2 h4,aNY.2 ⟨hn.1,h5,λa ha b hb e=>hn.2.2 a ha b (by rcases h6 b hb with h|h<;>simp [h]) e⟩,λb hb=>?_⟩
  rcases aNT.1 hb with hb|hb
  ·exact .inl (by simp [hb])
  ·rcases h6 b hb with h|h
   ·exact .inl (by simp [h])
   ·exact .inr h
theorem RepL.setAt_:∀{ds:List D} {us:List Value} {S:List Nat} {cs:List D} {vs:List Value} {S0:List Nat} {c:Nat},RepL w true ds us S->RepL w true cs vs S0->(S0++S).Nodup->c+ds.length<=cs.length->
 ∃S',RepL w true (ky cs c ds) (ky vs c us) S'/\S'.Nodup/\∀b∈S',b∈S0\/b∈S
 |[],us,S,cs,vs,S0,c,⟨h1,h2⟩,h3,aW,_=>by
  subst h1 h2;rw [aOP] at aW;exact ⟨S0,h3,aW,λb hb=>.inl hb⟩
 |x::ds,_,_,cs,vs,S0,c,⟨u,us',S1,S2,rfl,rfl,h4,h5⟩,h3,aW,hc=>by
  rw [<-aOB] at aW;obtain ⟨S',h6,h7,h8⟩:=RepL.set1 (c:=c) h4 h3 (aNY.1 aW).1 (by simp at hc;omega)
  have hn:=aNY.1 aW;obtain ⟨S'',h9,lA,gI⟩:=RepL.setAt_ (c:=c+1) h5 h6 (aNY.2 ⟨h7,hn.2.1,λa ha b hb e=>hn.2.2 a (by rcases h8 a ha with h|h<;>simp [h]) b hb e⟩) (by simp at hc⊢;omega)
  refine ⟨S'',h9,lA,λb hb=>?_⟩
  rcases gI b hb with h|h
  ·rcases h8 b h with h|h
   ·exact .inl h
   ·exact .inr (by simp [h])
  ·exact .inr (by simp [h])
theorem RepL.put1:∀{cs:List D} {vs:List Value} {S:List Nat} {k:Nat} {d:D},RepL w true cs vs S->S.Nodup->cs[k]?=some d->
 ∃v S1,vs[k]?=some v/\Rep w true d v S1/\(∀b∈S1,b∈S)/\S1.Nodup/\(∀j dj,j≠k->cs[j]?=some dj->∃vj Sj,vs[j]?=some vj/\Rep w true dj vj Sj/\∀b∈Sj,b∈S/\b∉S1)/\
 ∀(w':World) (d':D) (S1':List Nat),(∀b∈S,b∉S1->w'.heap[b]?=w.heap[b]?)->Rep w' true d' v S1'->S1'.Nodup->(∀b∈S1',b∈S1\/b∉S)->
  ∃S',RepL w' true (cs.set k d') vs S'/\S'.Nodup/\∀b∈S',b∈S\/b∈S1'
 |[],_,_,_,_,_,_,h=>by simp at h
 |y::cs,_,_,0,d,⟨u',us',T1,T2,rfl,rfl,h2,h3⟩,aW,h=>by
  simp at h;subst h;have hn:=aNY.1 aW;refine ⟨u',T1,rfl,h2,λb hb=>by simp [hb],hn.1,λj dj hj hd=>?_,λw' d' S1' hk hr l5 hs=>?_⟩
  ·cases j with
   |zero=>exact absurd rfl hj
   |succ j=>
    obtain ⟨vj,Sj,k1,k2,k3⟩:=RepL.nth h3 (by simpa using hd)
    exact ⟨vj,Sj,by simpa using k1,k2,λb hb=>⟨by simp [k3 b hb],λaZ=>hn.2.2 b aZ b (k3 b hb) rfl⟩⟩
  ·refine ⟨S1'++T2,RepL.cons_ hr (RepL.keep _ h3 λb hb=>hk b (by simp [hb]) λaZ=>hn.2.2 b aZ b hb rfl),aNY.2 ⟨l5,hn.2.1,λa ha b hb e=>?_⟩,λb hb=>?_⟩
   ·subst e
    rcases hs a ha with h|h
    ·exact hn.2.2 a h a hb rfl
    ·exact h (by simp [hb])
   ·rcases aNT.1 hb with hb|hb
    ·exact .inr hb
    ·exact .inl (by simp [hb])
 |y::cs,_,_,k+1,d,⟨u',us',T1,T2,rfl,rfl,h2,h3⟩,aW,h=>by
  have hn:=aNY.1 aW;obtain ⟨v,S1,k1,k2,k3,k4,k5,k6⟩:=RepL.put1 h3 hn.2.1 (by simpa using h)
  refine ⟨v,S1,by simpa using k1,k2,λb hb=>by simp [k3 b hb],k4,λj dj hj hd=>?_,λw' d' S1' hk hr l5 hs=>?_⟩
  ·cases j with
   |zero=>
    simp at hd;subst hd;exact ⟨u',T1,rfl,h2,λb hb=>⟨by simp [hb],λaZ=>hn.2.2 b hb b (k3 b aZ) rfl⟩⟩
   |succ j=>
    obtain ⟨vj,Sj,m1,m2,m3⟩:=k5 j dj (by omega) (by simpa using hd)
    exact ⟨vj,Sj,by simpa using m1,m2,λb hb=>⟨by simp [(m3 b hb).1],(m3 b hb).2⟩⟩
  ·obtain ⟨S',m1,m2,m3⟩:=k6 w' d' S1' (λb hb aZ=>hk b (by simp [hb]) aZ) hr l5 (λb hb=>by
    rcases hs b hb with h|h
    ·exact .inl h
    ·exact .inr λaZ=>h (by simp [aZ]))
   refine ⟨T1++S',RepL.cons_ (Rep.keep _ h2 λb hb=>hk b (by simp [hb]) λaZ=>hn.2.2 b hb b (k3 b aZ) rfl) m1,aNY.2 ⟨hn.1,m2,λa ha b hb e=>?_⟩,λb hb=>?_⟩
   ·subst e
    rcases m3 a hb with h|h
    ·exact hn.2.2 a ha a h rfl
    ·rcases hs a h with h'|h'
     ·exact hn.2.2 a ha a (k3 a h') rfl
     ·exact h' (by simp [ha])
   ·rcases aNT.1 hb with hb|hb
    ·exact .inl (by simp [hb])
    ·rcases m3 b hb with h|h
     ·exact .inl (by simp [h])
     ·exact .inr h
theorem jnX {ds:List D} {us:List Value} {S1:List Nat} {k:Nat} (yF:0<ds.length) (cD:RepL w true ds us S1) (d9:S1.Nodup):∀(p:List Nat) {d0:D} {u:Value} {S:List Nat} {size:Nat} {ty:TypeId} {cs:List D},Rep w true d0 u S->S.Nodup->(∀b∈S1,b∉S)->
 D.get p d0=some (.sl size ty cs)->k+ds.length<=cs.length->
 ∃gg nn cc,hdr w p d0 u=.slice (some ⟨gg,0,none⟩) nn cc/\gg∈S/\w.there gg k ds.length/\
  ∃S',Rep (w.setCells gg k us) true (D.put p k ds d0) u S'/\S'.Nodup/\(∀b∈S',b∈S\/b∈S1)/\∀q,¬jsG p k ds.length q->hdr (w.setCells gg k us) q (D.put p k ds d0) u=hdr w q d0 u
 |[],.val _,_,_,_,_,_,_,_,_,hg,_=>by simp [D.get] at hg
 |[],.sl size0 ty0 cs0,u,_,size,ty,cs,⟨vs,T,S',bG,bR,rfl⟩,aW,fO,hg,cE=>by
  simp [D.get] at hg;obtain ⟨rfl,rfl,rfl⟩:=hg;have bQ:=RepL.length _ bR;have nW:=RepL.length _ cD;have hn:=aNY.1 aW;have sM:=bG;rcases kX bG with ⟨rfl,rfl⟩|⟨gg,nn,cc,rfl,rfl,lI,bK,s8⟩
  ·simp at bQ;omega
  ·obtain ⟨nv,cA,_⟩:=sM
   have sR:nn=nv:=by
    rcases cA.2 with ⟨h,_⟩|⟨_,_,_,h,_⟩
    ·cases h
    ·cases h;rfl
   subst sR;have aJ:∀b,b≠gg->(w.setCells gg k us).heap[b]?=w.heap[b]?:=λb hb=>jaL us w gg k b hb
   have rR:∀b∈S1,b≠gg:=λb hb e=>fO b hb (by simp [e])
   have lD:∀b∈S',b≠gg:=λb hb e=>hn.2.2 gg (by simp) b hb e.symm
   have t8:=RepL.keep (w':=w.setCells gg k us) _ bR λb hb=>aJ b (lD b hb)
   have xL:=RepL.keep (w':=w.setCells gg k us) _ cD λb hb=>aJ b (rR b hb)
   obtain ⟨S2,h1,h2,h3⟩:=RepL.setAt_ (c:=k) xL t8 (aNY.2 ⟨hn.2.1,d9,λa ha b hb e=>fO b hb (by simp [<-e,ha])⟩) cE
   have cQ:=(jds us k cA).1;rw [jpq] at cQ;refine ⟨gg,nn,cc,rfl,by simp,jxB cA k ds.length (by omega),[gg]++S2,⟨_,[gg],S2,⟨nn,cQ,rfl⟩,h1,rfl⟩,aNY.2 ⟨by simp,h2,λa ha b hb e=>?_⟩,λb hb=>?_,λq hq=>?_⟩
   ·simp at ha;subst ha;subst e
    rcases h3 a hb with h|h
    ·exact lD a h rfl
    ·exact rR a h rfl
   ·rcases aNT.1 hb with hb|hb
    ·exact .inl (by simp at hb⊢;exact .inl hb)
    ·rcases h3 b hb with h|h
     ·exact .inl (by simp [h])
     ·exact .inr h
   ·cases q with
    |nil=>rfl
    |cons j r=>
     have hj:¬(k<=j/\j<k+ds.length):=λh=>hq ⟨j,r,rfl,h.1,h.2⟩
     simp only [D.put,hdr,aPH];rw [jde ds cs0 k j hj];cases hc:cs0[j]? with
     |none=>rfl
     |some d=>
      obtain ⟨v,Sj,k1,k2,k3⟩:=RepL.nth bR hc;have aB:j<nn*size0:=by have:=(aNP.1 k1).1;omega
      have e1:w.cell? ⟨gg,j,none⟩=some v:=bK j v k1
      have e2:(w.setCells gg k us).cell? ⟨gg,j,none⟩=some v:=by
       rw [World.ownsRow.cellAt cQ j aB,jde us vs k j (by omega),k1]
      simp only [e1,e2,aNZ];exact jev r k2 λb hb=>aJ b (lD b (k3 b hb))
 |i::p,.val _,_,_,_,_,_,_,_,_,hg,_=>by simp [D.get] at hg
 |i::p,.sl size0 ty0 cs0,u,_,size,ty,cs,⟨vs,T,S',bG,bR,rfl⟩,aW,fO,hg,cE=>by
  simp only [D.get] at hg;cases hc:cs0[i]? with
  |none=>rw [hc] at hg;simp at hg
  |some d=>
   rw [hc] at hg;have hn:=aNY.1 aW;obtain ⟨v,Si,k1,k2,k3,k4,k5,k6⟩:=RepL.put1 bR hn.2.1 hc;have sM:=bG;rcases kX bG with ⟨rfl,rfl⟩|⟨g0,nn0,cc0,rfl,rfl,lI,bK,s8⟩
   ·simp at k1
   ·obtain ⟨gg,nn,cc,m1,m2,m3,Si',m4,m5,m6,m7⟩:=jnX yF cD d9 p k2 k4 (λb hb aZ=>fO b hb (by simp [k3 b aZ])) hg cE
    have aJ:∀b,b≠gg->(w.setCells gg k us).heap[b]?=w.heap[b]?:=λb hb=>jaL us w gg k b hb
    have nH:g0≠gg:=λe=>hn.2.2 g0 (by simp) gg (k3 gg m2) e
    obtain ⟨S2,q1,q2,q3⟩:=k6 (w.setCells gg k us) (D.put p k ds d) Si' (λb hb aZ=>aJ b λe=>aZ (e▸m2)) m4 m5 (λb hb=>by
     rcases m6 b hb with h|h
     ·exact .inl h
     ·exact .inr λaZ=>fO b h (by simp [aZ]))
    have o4:∀j v,vs[j]?=some v->(w.setCells gg k us).cell? ⟨g0,j,none⟩=some v:=λj v hv=>by
     rw [World.cell?_of_block (w:=w) (a:=⟨g0,j,none⟩) (aJ g0 nH)];exact bK j v hv
    have e0:hdr w (i::p) (.sl size0 ty0 cs0) (.slice (some ⟨g0,0,none⟩) nn0 cc0)=hdr w p d v:=by
     simp only [hdr,hc,aPH,bK i v k1,aNZ]
    refine ⟨gg,nn,cc,by rw [e0];exact m1,by simp [k3 gg m2],m3,[g0]++S2,⟨vs,[g0],S2,bG.keep λb hb=>aJ b (by simp at hb;subst hb;exact nH),?_,rfl⟩,aNY.2 ⟨by simp,q2,λa ha b hb e=>?_⟩,λb hb=>?_,λq hq=>?_⟩
    ·simp only [hc];exact q1
    ·simp at ha;subst ha;subst e
     rcases q3 a hb with h|h
     ·exact hn.2.2 a (by simp) a h rfl
     ·rcases m6 a h with h'|h'
      ·exact hn.2.2 a (by simp) a (k3 a h') rfl
      ·exact fO a h' (by simp)
    ·rcases aNT.1 hb with hb|hb
     ·exact .inl (by simp at hb⊢;exact .inl hb)
     ·rcases q3 b hb with h|h
      ·exact .inl (by simp [h])
      ·rcases m6 b h with h'|h'
       ·exact .inl (by simp [k3 b h'])
       ·exact .inr h'
    ·cases q with
     |nil=>rfl
     |cons j r=>
      simp only [D.put,hc,hdr,aPH];by_cases hj:j=i
      ·subst hj
       have aB:j<cs0.length:=(aNP.1 hc).1;rw [aNX aB];simp only [hc,o4 j v k1,bK j v k1,aNZ];exact m7 r λ⟨j',r',e,h1,h2⟩=>hq ⟨j',r',by rw [e];rfl,h1,h2⟩
      ·rw [aOX (Ne.symm hj)]
       cases hcj:cs0[j]? with
       |none=>rfl
       |some dj=>
        obtain ⟨vj,Sj,n1,n2,n3⟩:=k5 j dj hj hcj;simp only [o4 j vj n1,bK j vj n1,aNZ];exact jev r n2 λb hb=>aJ b λe=>(n3 b hb).2 (e▸m2)
theorem CRel.put1:∀{cs:List Cell} {us:List Value} {S:List Nat} {c:Nat} {d:D} {η:jf},CRel B w cs us S->S.Nodup->cs[c]?=some (.own d η)->
 ∃u S1,d.isSl=true/\Rep w true d u S1/\(∀p,η p=hdr w p d u)/\(∀b∈S1,b∈S)/\S1.Nodup/\
 ∀(w':World) (d':D) (aC:jf) (S1':List Nat),Below B w w'->(∀b∈S,b∉S1->w'.heap[b]?=w.heap[b]?)->d'.isSl=true->Rep w' true d' u S1'->(∀p,aC p=hdr w' p d' u)->S1'.Nodup->(∀b∈S1',b∈S1\/b∉S)->
  ∃S',CRel B w' (cs.set c (.own d' aC)) us S'/\S'.Nodup/\∀b∈S',b∈S\/b∈S1'
 |[],_,_,_,_,_,_,_,h=>by simp at h
 |.a x::cs,_,_,0,_,_,_,_,h=>by simp at h
 |.a x::cs,_,S,c+1,d,η,⟨u,us',rfl,h2,h3⟩,aW,h=>by
  obtain ⟨v,S1,k0,k1,k2,k3,k4,k5⟩:=CRel.put1 h3 aW (by simpa using h)
  refine ⟨v,S1,k0,k1,k2,k3,k4,λw' d' aC S1' hb hk hs hr hη hn bA=>?_⟩
  obtain ⟨S',m1,m2,m3⟩:=k5 w' d' aC S1' hb hk hs hr hη hn bA;exact ⟨S',⟨u,us',rfl,h2.mono hb,m1⟩,m2,m3⟩
 |.own d0 fB::cs,_,_,0,d,η,⟨u,us',T1,T2,rfl,rfl,h3,h4,h5,h6⟩,aW,h=>by
  simp at h;obtain ⟨rfl,rfl⟩:=h;have hn:=aNY.1 aW;refine ⟨u,T1,h3,h4,h5,λb hb=>by simp [hb],hn.1,λw' d' aC S1' hb hk hs hr hη l5 bA=>?_⟩
  refine ⟨S1'++T2,⟨u,us',S1',T2,rfl,rfl,hs,hr,hη,h6.keep hb λb aZ=>hk b (by simp [aZ]) λaDT=>hn.2.2 b aDT b aZ rfl⟩,aNY.2 ⟨l5,hn.2.1,λa ha b aZ e=>?_⟩,λb aZ=>?_⟩
  ·subst e
   rcases bA a ha with h|h
   ·exact hn.2.2 a h a aZ rfl
   ·exact h (by simp [aZ])
  ·rcases aNT.1 aZ with aZ|aZ
   ·exact .inr aZ
   ·exact .inl (by simp [aZ])
 |.own d0 fB::cs,_,_,c+1,d,η,⟨u,us',T1,T2,rfl,rfl,h3,h4,h5,h6⟩,aW,h=>by
  have hn:=aNY.1 aW;obtain ⟨v,S1,k0,k1,k2,k3,k4,k5⟩:=CRel.put1 h6 hn.2.1 (by simpa using h)
  refine ⟨v,S1,k0,k1,k2,λb hb=>by simp [k3 b hb],k4,λw' d' aC S1' hb hk hs hr hη l5 bA=>?_⟩
  obtain ⟨S',m1,m2,m3⟩:=k5 w' d' aC S1' hb (λb aY bM=>hk b (by simp [aY]) bM) hs hr hη l5 (λb aY=>by
   rcases bA b aY with h|h
   ·exact .inl h
   ·exact .inr λh'=>h (by simp [h']))
  have hT:∀b∈T1,w'.heap[b]?=w.heap[b]?:=λb aY=>hk b (by simp [aY]) λbM=>hn.2.2 b aY b (k3 b bM) rfl
  refine ⟨T1++S',⟨u,us',T1,S',rfl,rfl,h3,Rep.keep _ h4 hT,λp=>by rw [jev p h4 hT];exact h5 p,m1⟩,aNY.2 ⟨hn.1,m2,λa ha b aY e=>?_⟩,λb aY=>?_⟩
  ·subst e
   rcases m3 a aY with h|h
   ·exact hn.2.2 a ha a h rfl
   ·rcases bA a h with h'|h'
    ·exact hn.2.2 a ha a (k3 a h') rfl
    ·exact h' (by simp [ha])
  ·rcases aNT.1 aY with aY|aY
   ·exact .inl (by simp [aY])
   ·rcases m3 b aY with h|h
    ·exact .inl (by simp [h])
    ·exact .inr h
theorem ORel.put1 {ob:Ob} {S:List Nat} {c:Nat} {d:D} {η:jf} (ho:ORel B w ob S) (aW:S.Nodup) (h:ob.own c=some (d,η)):
 ∃u S1,d.isSl=true/\Rep w true d u S1/\(∀p,η p=hdr w p d u)/\(∀b∈S1,b∈S)/\S1.Nodup/\
 ∀(w':World) (d':D) (aC:jf) (S1':List Nat),Below B w w'->(∀b∈S,b∉S1->w'.heap[b]?=w.heap[b]?)->d'.isSl=true->Rep w' true d' u S1'->(∀p,aC p=hdr w' p d' u)->S1'.Nodup->(∀b∈S1',b∈S1\/b∉S)->
  ∃S',ORel B w' (ob.putOwn c d' aC) S'/\S'.Nodup/\∀b∈S',b∈S\/b∈S1':=by
 cases ob with
 |none=>simp [Ob.own] at h
 |loose d0 fB=>
  cases c with
  |succ c=>simp [Ob.own] at h
  |zero=>
   simp [Ob.own] at h;obtain ⟨rfl,rfl⟩:=h;obtain ⟨h0,u,h1,h2⟩:=ho;exact ⟨u,S,h0,h1,h2,λ_ h=>h,aW,λw' d' aC S1' _ _ hs hr hη hn _=>⟨S1',⟨hs,u,hr,hη⟩,hn,λb hb=>.inr hb⟩⟩
 |box b ty cs=>
  obtain ⟨us,S0,h1,h2,rfl⟩:=ho;have hn:=aPX.1 aW
  have hc:cs[c]?=some (.own d η):=by
   simp only [Ob.own] at h;split at h
   ·simp at h;obtain ⟨rfl,rfl⟩:=h;assumption
   ·simp at h
  obtain ⟨u,S1,k0,k1,k2,k3,k4,k5⟩:=h2.put1 hn.2 hc;refine ⟨u,S1,k0,k1,k2,λb hb=>by simp [k3 b hb],k4,λw' d' aC S1' hb hk hs hr hη l5 bA=>?_⟩
  obtain ⟨S',m1,m2,m3⟩:=k5 w' d' aC S1' hb (λb aY bM=>hk b (by simp [aY]) bM) hs hr hη l5 (λb aY=>by
   rcases bA b aY with h|h
   ·exact .inl h
   ·exact .inr λh'=>h (by simp [h']))
  refine ⟨b::S',⟨us,S',(hk b (by simp) λaY=>hn.1 (k3 b aY)).trans h1,m1,rfl⟩,aPX.2 ⟨λaY=>?_,m2⟩,λx hx=>?_⟩
  ·rcases m3 b aY with h|h
   ·exact hn.1 h
   ·rcases bA b h with h'|h'
    ·exact hn.1 (k3 b h')
    ·exact h' (by simp)
  ·rcases aOK.1 hx with rfl|hx
   ·exact .inl (by simp)
   ·rcases m3 x hx with h|h
    ·exact .inl (by simp [h])
    ·exact .inr h
theorem jBZ:∀(p:List Nat) (i:Nat) (ds:List D) {d:D},d.isSl=true->(D.put p i ds d).isSl=true
 |[],_,_,.sl _ _ _,_=>rfl
 |_::_,_,_,.sl _ _ _,_=>rfl
 |[],_,_,.val _,h=>by cases h
 |_::_,_,_,.val _,h=>by cases h
theorem jgN:∀{ks:List (Option (Nat×Nat))} {cs:List Cell} {us:List Value} {S:List Nat} {ds:List D},CRel B w cs us S->jas ks cs=some ds->RepL w true ds us S
 |_,[],us,S,ds,h,hd=>by simp [jas] at hd;subst hd;exact h
 |ks,.a x::cs,us,S,ds,⟨u,us',h1,h2,h3⟩,hd=>by
  cases x with
  |v x=>
   simp only [jas] at hd;split at hd
   ·simp at hd;subst hd
    subst h1;rw [show u=x from h2]
    exact ⟨x,us',[],S,rfl,rfl,jtu _ _,jgN h3 (by assumption)⟩
   ·simp at hd
  |_=>simp [jas] at hd
 |ks,.own d η::cs,us,S,ds,⟨u,us',S1,S2,h1,h2,_,h4,_,h6⟩,hd=>by
  simp only [jas] at hd;split at hd
  ·simp at hd;subst hd
   subst h1 h2;exact RepL.cons_ h4 (jgN h6 (by assumption))
  ·simp at hd
theorem jgC {j:Nat} {r:List Nat} {v:Value}:∀(p:List Nat) {d:D} {u:Value} {size:Nat} {ty:TypeId} {cs:List D},D.get p d=some (.sl size ty cs)->cs[j]?=some (.val v)->hdr w (p++j::r) d u=undef
 |[],.val _,_,_,_,_,hg,_=>by simp [D.get] at hg
 |[],.sl s t cs0,u,size,ty,cs,hg,hc=>by
  simp [D.get] at hg;obtain ⟨rfl,rfl,rfl⟩:=hg;simp only [aOQ];have hv:∀x,hdr w r (.val v) x=undef:=λx=>by cases r<;>rfl
  cases u with
  |slice A n c=>cases A with
   |some a=>simp only [hdr,hc,hv]
   |none=>rfl
  |_=>rfl
 |i::p,.val _,_,_,_,_,hg,_=>by simp [D.get] at hg
 |i::p,.sl s t cs0,u,size,ty,cs,hg,hc=>by
  simp only [D.get] at hg;cases hi:cs0[i]? with
  |none=>rw [hi] at hg;simp at hg
  |some d'=>
   rw [hi] at hg;cases u with
   |slice A n c=>cases A with
    |some a=>simp only [aOU,hdr,hi];exact jgC p hg hc
    |none=>rfl
   |_=>rfl
theorem jdx:∀(p:List Nat) {d:D} {k:Nat} {ds:List D} {size:Nat} {ty:TypeId} {cs:List D},D.get p d=some (.sl size ty cs)->D.get p (D.put p k ds d)=some (.sl size ty (ky cs k ds))
 |[],.val _,_,_,_,_,_,hg=>by simp [D.get] at hg
 |[],.sl s t cs0,k,ds,size,ty,cs,hg=>by
  simp [D.get] at hg;obtain ⟨rfl,rfl,rfl⟩:=hg;simp [D.put,D.get]
 |i::p,.val _,_,_,_,_,_,hg=>by simp [D.get] at hg
 |i::p,.sl s t cs0,k,ds,size,ty,cs,hg=>by
  simp only [D.get] at hg;cases hi:cs0[i]? with
  |none=>rw [hi] at hg;simp at hg
  |some d'=>
   rw [hi] at hg;simp only [D.put,hi,D.get];rw [aNX (aNP.1 hi).1];exact jdx p hg
theorem jdz:∀{l:List D} {j:Nat},ka l=true->j<l.length->∃v,l[j]?=some (.val v)
 |.val u::l,0,_,_=>⟨u,rfl⟩
 |.val u::l,j+1,h,hj=>by simp only [ka,aOF] at h;simpa using jdz h.2 (by simpa using hj)
 |.sl _ _ _::_,_,h,_=>by simp [ka] at h
 |[],_,_,hj=>by simp at hj
theorem jkL {α:Type}:∀(vs:List α) (cs:List α) (k j:Nat),k+vs.length<=cs.length->k<=j->j<k+vs.length->(ky cs k vs)[j]?=vs[j-k]?
 |[],cs,k,j,_,h1,h2=>by simp at h2;omega
 |v::vs,cs,k,j,hl,h1,h2=>by
  simp only [aOD] at hl h2;show (ky (cs.set k v) (k+1) vs)[j]?=_;by_cases e:j=k
  ·subst e
   have keep:∀(vs:List α) (cs:List α) (k j:Nat),j<k->(ky cs k vs)[j]?=cs[j]?:=by
    intro vs
    induction vs with
    |nil=>intros;rfl
    |cons a vs ih=>intro cs k j hj;show (ky (cs.set k a) (k+1) vs)[j]?=_;rw [ih _ _ _ (by omega),aOX (by omega)]
   rw [keep _ _ _ _ (by omega),aNX (by omega)];simp
  ·rw [jkL vs _ _ _ (by simp;omega) (by omega) (by omega),show j-k=(j-(k+1))+1 by omega];simp
theorem ok_st (h:RelF B w0 N s a w F) {t:TypeId} {x y:Operand} {x' y':X} {n:Nat} {ks:List (Option (Nat×Nat))} {g:Option (Nat×Bool)} (ho:o.op=.store t x y) (hn:qk P t=some n) (hx:jQ x=some x') (hy:jQ y=some y') (hr:vp P β ⟨o.dst,g,.st n ks x' y'⟩ s K):
 OpOk P o a w (λa' w'=>∃s' F',RelF B w0 N s' a' w' F'/\K s'):=by
 obtain ⟨o0,l,h2,h3,h4⟩:=hr;simp only at o0;obtain ⟨us,h5,h6⟩:=VRel.cells (qP h hy) h2;obtain ⟨inf,fD,cP⟩:=jkJ hn;have nW:=A0RelL.len h6;have ha:a.put o.dst undef=a:=by rw [o0];rfl
 have rJ:=qP h hx;obtain ⟨cs,s',S,F',hk,k2,k3,k4,k5,k6,k7,k8⟩:=jb8 h h6 h4;have aD:=CRel.len k2;split at hk
 ·rename_i k c b he
  obtain ⟨ty,ds,k0,kc,kk⟩:=hk;have hp:a.eval x=.pointer (some ⟨b,c,none⟩):=by rw [he] at rJ;exact rJ
  have bS:=k3.ob k;rw [k0] at bS;obtain ⟨vs,S0,j1,j2,j3⟩:=bS;have bQ:=CRel.len j2
  have aV:(execOp a.eval o).run P w=.ok .skip (w.setCells b c us):=by
   have aH:=run_storeCells_cells (P:=P) b c us 0 w (λj hj=>by
    have:c+j<vs.length:=by omega
    simp [World.cell?,j1,this]) (λj hj=>by simp [World.frozen?,j1]) k8
   simp only [aOO] at aH;simp [execOp,ho,Instr.storeAt,hp,Instr.sureAddr,storeVar,h5,sizeOf,typeInfo,fD,cP,nW,h3,aH]
  obtain ⟨j4,j5⟩:=qx us w b c vs ty j1;obtain ⟨j6,j7,j8,j9⟩:=kJ us w b c;have nJ:=k3.fr k;rw [j3] at nJ;have hBb:B<=b:=nJ.2 b (by simp)
  have hb:Below B w (w.setCells b c us):=⟨j6,j7,j8,by rw [j9];exact aOC _,λi hi=>j5 i (by omega)⟩
  have hbF:∀g',g'≠k->b∉F' g':=λg' cU hh=>k3.dj g' k cU b hh (by rw [j3];simp)
  have hbS:b∉S:=λhh=>k5 k b hh (by rw [j3];simp)
  have aDR:b∉S0:=(aPX.1 nJ.1).1;have fO:(S0++S).Nodup:=aNY.2 ⟨(aPX.1 nJ.1).2,k4.1,λx hx y hy e=>k5 k y hy (by rw [j3];simp [<-e,hx])⟩
  obtain ⟨S',m1,m2,m3⟩:=CRel.setAt_ (c:=c) k2 j2 fO (by omega)
  have rV:b∉S':=λhh=>by rcases m3 b hh with h|h;exact aDR h;exact hbS h
  have r1:=k3.setO (g:=k) (ob:=.none) (S:=[]) rfl (Fresh.nil _) (by simp)
  have r2:=r1.world' hb λg' x hx=>by
   split at hx
   ·simp at hx
   ·rename_i cU
    exact j5 x λe=>hbF g' cU (e▸hx)
  have aCH:ORel B (w.setCells b c us) (.box b ty (ky ds c cs)) (b::S'):=⟨_,S',j4,m1.keep hb λx hx=>j5 x λe=>rV (e▸hx),rfl⟩
  have r3:=r2.setO (g:=k) aCH ⟨aPX.2 ⟨rV,m2⟩,λx hx=>by
   rcases aOK.1 hx with rfl|hx
   ·exact hBb
   ·rcases m3 x hx with h|h
    ·exact nJ.2 x (by simp [h])
    ·exact k4.2 x h⟩ (λg' cU x hx=>by
   rw [if_neg cU];rcases aOK.1 hx with rfl|hx
   ·exact hbF g' cU
   ·rcases m3 x hx with h|h
    ·exact λhh=>k3.dj g' k cU x hh (by rw [j3];simp [h])
    ·exact k5 g' x h)
  have gZ:(s'.setO k .none).setO k (.box b ty (ky ds c cs))=s'.setO k (.box b ty (ky ds c cs)):=by
   simp only [St.setO,St.mk.injEq,true_and]
   funext i;split<;>rfl
  rw [gZ] at r3;exact OpOk.of_skip aV (by rw [ha];exact ⟨_,_,r3,kk⟩)
 ·rename_i k c p i mI he
  obtain ⟨iX,ds,aDJ,d0,η,dd,j1,j2,j3,j4,j5,hk⟩:=hk;have hp:a.eval x=.pointer (some (jcn mI i)):=by rw [he] at rJ;exact rJ
  have cD:=jgN k2 aDJ;have fN:=RepL.length _ cD;have uK:ds.length=n:=by omega
  have nJ:=k3.fr k;obtain ⟨u,S1,q0,q1,q2,q3,q4,q5⟩:=ORel.put1 (k3.ob k) nJ.1 j1;cases dd with
  |val _=>cases j4
  |sl size ty cs0=>
   simp only [D.cells] at j5;obtain ⟨gg,nn,cc,r1,r2,r3,S1',r4,r5,r6,r7⟩:=jnX (k:=i) (by omega) cD k4.1 p q1 q4 (λb hb aZ=>k5 k b hb (q3 b aZ)) j3 (by omega)
   have yA:mI=.slice (some ⟨gg,0,none⟩) nn cc:=by rw [<-j2,q2,r1]
   have l9:a.eval x=.pointer (some ⟨gg,i,none⟩):=by rw [hp,yA];simp [jcn]
   have aV:(execOp a.eval o).run P w=.ok .skip (w.setCells gg i us):=by
    have aH:=run_storeCells_cells (P:=P) gg i us 0 w (λj hj=>(r3 j (by omega)).1) (λj hj=>(r3 j (by omega)).2) k8
    simp only [aOO] at aH;simp [execOp,ho,Instr.storeAt,l9,Instr.sureAddr,storeVar,h5,sizeOf,typeInfo,fD,cP,nW,h3,aH]
   obtain ⟨j6,j7,j8,j9⟩:=kJ us w gg i;have oX:gg∈F' k:=q3 gg r2;have hBb:B<=gg:=nJ.2 gg oX;have aJ:∀b,b≠gg->(w.setCells gg i us).heap[b]?=w.heap[b]?:=λb hb=>jaL us w gg i b hb
   have hb:Below B w (w.setCells gg i us):=⟨j6,j7,j8,by rw [j9];exact aOC _,λj hj=>aJ j (by omega)⟩
   have fJ:(D.put p i ds d0).isSl=true:=jBZ _ _ _ q0
   obtain ⟨S',m1,m2,m3⟩:=q5 (w.setCells gg i us) (D.put p i ds d0) (λq=>hdr (w.setCells gg i us) q (D.put p i ds d0) u) S1' hb (λb _ bM=>aJ b λe=>bM (e▸r2)) fJ r4 (λ_=>rfl) r5 (λb aY=>by
    rcases r6 b aY with h|h
    ·exact .inl h
    ·exact .inr λh'=>k5 k b h h')
   have t1:=k3.setO (g:=k) (ob:=.none) (S:=[]) rfl (Fresh.nil _) (by simp)
   have t2:=t1.world' hb λg' x hx=>by
    split at hx
    ·simp at hx
    ·rename_i cU
     exact aJ x λe=>k3.dj g' k cU x hx (e▸oX)
   have o8:∀x∈S',x∈F' k\/x∈S:=λx hx=>by
    rcases m3 x hx with h|h
    ·exact .inl h
    ·rcases r6 x h with h'|h'
     ·exact .inl (q3 x h')
     ·exact .inr h'
   have t3:=t2.setO (g:=k) m1 ⟨m2,λx hx=>by
    rcases o8 x hx with h|h
    ·exact nJ.2 x h
    ·exact k4.2 x h⟩ (λg' cU x hx=>by
    rw [if_neg cU];rcases o8 x hx with h|h
    ·exact λhh=>k3.dj g' k cU x hh h
    ·exact k5 g' x h)
   have gZ:(s'.setO k .none).setO k ((s'.o k).putOwn c (D.put p i ds d0) (λq=>hdr (w.setCells gg i us) q (D.put p i ds d0) u))=s'.setO k ((s'.o k).putOwn c (D.put p i ds d0) (λq=>hdr (w.setCells gg i us) q (D.put p i ds d0) u)):=by
    simp only [St.setO,St.mk.injEq,true_and]
    funext i;split<;>rfl
   rw [gZ] at t3
   exact OpOk.of_skip aV (by
    rw [ha];have lQ:∀q,¬jsG p i n q->hdr (w.setCells gg i us) q (D.put p i ds d0) u=η q:=λq hq=>by rw [q2];exact r7 q (by rw [uK];exact hq)
    refine ⟨_,_,t3,jBK hk lQ λhf=>?_⟩
    simp only [aOF] at hf
    funext q
    by_cases hq:jsG p i n q
    ·obtain ⟨j,r,rfl,rP,nF⟩:=hq
     obtain ⟨v1,gM⟩:=jdz (j:=j-i) hf.1 (by omega)
     obtain ⟨v2,sK⟩:=jdz (j:=j-i) hf.2 (by simp only [D.cells,aNV,aOI];omega)
     rw [q2];rw [jgC (w:=w.setCells gg i us) (j:=j) (v:=v1) p (jdx p j3) (by rw [jkL _ _ _ _ (by omega) rP (by omega)];exact gM)]
     refine (jgC (v:=v2) p j3 ?_).symm;rw [<-sK];simp only [D.cells];rw [aPW,if_pos (by omega),aPR]
     congr 1;omega
    ·exact lQ q hq)
 ·exact hk.elim
end
section
variable {P:Program} {B:Nat} {w w0:World} {F:Nat->List Nat} {o:Nat->Ob}
theorem jei {own:Bool}:∀{k:Nat} {cs:List D} {vs:List Value} {S:List Nat} {d:D},RepL w own cs vs S->cs[k]?=some d->
 ∃v SA Sd SC,vs[k]?=some v/\S=SA++Sd++SC/\Rep w own d v Sd/\∀d' Sd',Rep w own d' v Sd'->RepL w own (cs.set k d') vs (SA++Sd'++SC)
 |_,[],_,_,_,_,h=>by simp at h
 |0,e::cs,_,_,d,⟨v,vs',S1,S2,rfl,rfl,h1,h2⟩,h=>by
  simp at h;subst h;exact ⟨v,[],S1,S2,rfl,by simp,h1,λd' Sd' h3=>⟨v,vs',Sd',S2,rfl,by simp,h3,h2⟩⟩
 |k+1,e::cs,_,_,d,⟨v,vs',S1,S2,rfl,rfl,h1,h2⟩,h=>by
  simp at h;obtain ⟨v2,SA,Sd,SC,a1,rfl,a3,a4⟩:=jei h2 h;exact ⟨v2,S1++SA,Sd,SC,by simpa using a1,by simp,a3,λd' Sd' h3=>⟨v,vs',S1,SA++Sd'++SC,rfl,by simp,h1,a4 d' Sd' h3⟩⟩
theorem jiX:∀{c:Nat} {l:List Cell} {us:List Value} {S:List Nat} {d:D} {η:jf},CRel B w l us S->l[c]?=some (.own d η)->
 ∃u SA Sd SC,S=SA++Sd++SC/\d.isSl=true/\Rep w true d u Sd/\(∀p,η p=hdr w p d u)/\∀d' aC Sd',d'.isSl=true->Rep w true d' u Sd'->(∀p,aC p=hdr w p d' u)->CRel B w (l.set c (.own d' aC)) us (SA++Sd'++SC)
 |_,[],_,_,_,_,_,h=>by simp at h
 |0,.a _::l,_,_,d,η,_,h=>by simp at h
 |0,.own e ε::l,_,_,d,η,⟨u,us',S1,S2,rfl,rfl,h1,h2,h3,h4⟩,h=>by
  simp at h;obtain ⟨rfl,rfl⟩:=h;exact ⟨u,[],S1,S2,by simp,h1,h2,h3,λd' aC Sd' a1 a2 a3=>⟨u,us',Sd',S2,rfl,by simp,a1,a2,a3,h4⟩⟩
 |c+1,.a x::l,_,_,d,η,⟨u,us',rfl,h1,h2⟩,h=>by
  simp at h;obtain ⟨v,SA,Sd,SC,a1,a2,a3,a4,a5⟩:=jiX h2 h;exact ⟨v,SA,Sd,SC,a1,a2,a3,a4,λd' aC Sd' b1 b2 b3=>⟨u,us',rfl,h1,a5 d' aC Sd' b1 b2 b3⟩⟩
 |c+1,.own e ε::l,_,_,d,η,⟨u,us',S1,S2,rfl,rfl,h1,h2,h3,h4⟩,h=>by
  simp at h;obtain ⟨v,SA,Sd,SC,rfl,a2,a3,a4,a5⟩:=jiX h4 h;exact ⟨v,S1++SA,Sd,SC,by simp,a2,a3,a4,λd' aC Sd' b1 b2 b3=>⟨u,us',S1,SA++Sd'++SC,rfl,by simp,h1,h2,h3,a5 d' aC Sd' b1 b2 b3⟩⟩
theorem jid {ob:Ob} {c:Nat} {S:List Nat} {d:D} {η:jf} (ho:ORel B w ob S) (h:ob.own c=some (d,η)):
 ∃u SA Sd SC,S=SA++Sd++SC/\d.isSl=true/\Rep w true d u Sd/\(∀p,η p=hdr w p d u)/\∀d' aC Sd',d'.isSl=true->Rep w true d' u Sd'->(∀p,aC p=hdr w p d' u)->ORel B w (ob.putOwn c d' aC) (SA++Sd'++SC):=by
 cases ob with
 |none=>cases h
 |loose e ε=>
  cases c with
  |succ c=>cases h
  |zero=>
   simp only [Ob.own,Option.some.injEq,Prod.mk.injEq] at h;obtain ⟨rfl,rfl⟩:=h;obtain ⟨h1,u,h2,h3⟩:=ho;exact ⟨u,[],S,[],by simp,h1,h2,h3,λd' aC Sd' a1 a2 a3=>⟨a1,u,by simpa using a2,a3⟩⟩
 |box b ty l=>
  simp only [Ob.own] at h;split at h
  ·rename_i e ε he
   simp only [Option.some.injEq,Prod.mk.injEq] at h;obtain ⟨rfl,rfl⟩:=h;obtain ⟨us,S1,h1,h2,rfl⟩:=ho;obtain ⟨u,SA,Sd,SC,rfl,a2,a3,a4,a5⟩:=jiX h2 he;exact ⟨u,b::SA,Sd,SC,by simp,a2,a3,a4,λd' aC Sd' b1 b2 b3=>⟨us,SA++Sd'++SC,h1,a5 d' aC Sd' b1 b2 b3,by simp⟩⟩
  ·cases h
theorem joO {B:Nat} {w:World} {ob:Ob} {S:List Nat} {c k sz tyo:Nat} {ds0:List D} {e:D} {η:jf} (h:ORel B w ob S) (ho:ob.own c=some (.sl sz tyo ds0,η)) (hk:ds0[k]?=some e):
 ∃v Sk,Rep w true e v Sk/\(e.isSl=true->η [k]=v)/\(∀x,e=.val x->v=x)/\(∀b∈Sk,b∈S)/\(S.Nodup->Sk.Nodup)/\∀e' Sk',Rep w true e' v Sk'->∃aC S',ORel B w (ob.putOwn c (.sl sz tyo (ds0.set k e')) aC) S'/\aC []=η []/\∃R,S.Perm (R++Sk)/\S'.Perm (R++Sk'):=by
 obtain ⟨u,SA,Sd,SC,e1,a1,a2,a3,a4⟩:=jid h ho;obtain ⟨vs,T,S',bG,bR,rfl⟩:=a2;obtain ⟨v,SA',Sk,SC',b1,rfl,b3,b4⟩:=jei bR hk
 have fV:∀X:List Nat,(SA++(T++(SA'++X++SC'))++SC).Perm ((SA++(T++(SA'++[]++SC'))++SC)++X):=λX=>by
  have e1:SA++(T++(SA'++X++SC'))++SC=(SA++(T++SA'))++(X++(SC'++SC)):=by simp
  have e2:(SA++(T++(SA'++[]++SC'))++SC)++X=(SA++(T++SA'))++((SC'++SC)++X):=by simp
  rw [e1,e2];exact aQG _ aQH
 refine ⟨v,Sk,b3,λhs=>?_,λx hx=>?_,λb hb=>by rw [e1];simp [hb],λaW=>?_,λe' Sk' hr=>?_⟩
 ·rw [a3]
  rcases kX bG with ⟨_,rfl⟩|⟨gg,nn,cc,rfl,_,_,bK,_⟩
  ·simp at b1
  ·simp only [hdr,hk,aPH,bK k v b1,aNZ]
   exact zt hs
 ·subst hx;exact b3.1
 ·rw [e1] at aW
  exact (aNY.1 ((fV Sk).nodup_iff.1 aW)).2.1
 ·have bE:Rep w true (.sl sz tyo (ds0.set k e')) u (T++(SA'++Sk'++SC')):=⟨vs,T,_,bG,b4 _ _ hr,rfl⟩
  refine ⟨λp=>hdr w p (.sl sz tyo (ds0.set k e')) u,_,a4 _ _ _ rfl bE (λ_=>rfl),by rw [a3];rfl,_,by rw [e1];exact fV Sk,fV Sk'⟩
end
section
variable {P:Program} {β B N:Nat} {w w0:World} {s:St} {a:Act} {F:Nat->List Nat} {o:Oper} {K:St->Prop}
theorem kY {α:Type}:∀(xs us:List α) (k:Nat),k+xs.length<=us.length->ky us k xs=us.take k++xs++us.drop (k+xs.length)
 |[],us,k,_=>by simp [ky]
 |x::xs,us,k,h=>by
  have hk:k<us.length:=by simp at h;omega
  rw [ky,kY xs (us.set k x) (k+1) (by simp at h⊢;omega)]
  have e1:(us.set k x).take (k+1)=us.take k++[x]:=by
   rw [aOA,List.take_set_of_le (aOC _)];simp [hk]
  have e2:(us.set k x).drop (k+1+xs.length)=us.drop (k+(x::xs).length):=by
   rw [List.drop_set_of_lt (by omega)]
   congr 1
   simp;omega
  rw [e1,e2];simp
theorem jt5 (h:RelF B w0 N s a w F) {size:Nat}:∀{parts:List (Nat×Operand)} {ps:List (Nat×Nat×X)} {l:List A0} {k:Nat} {us:List Value},jdA (λi=>some (i*size,size)) parts=some ps->jvM s ps=some l->parts.map (·.1)=List.range' k parts.length->us.length=(k+parts.length)*size->
 ∃xs:List Value,A0RelL B w l xs/\xs.length=parts.length*size/\Instr.fill (λi=>some (i*size,size)) us.toArray (parts.map λp=>(p.1,a.eval p.2))=some (us.take (k*size)++xs).toArray
 |[],ps,l,k,us,h1,h2,_,h4=>by
  simp [jdA] at h1;subst h1;simp [jvM] at h2;subst h2;refine ⟨[],rfl,by simp,?_⟩
  simp at h4;simp [Instr.fill,<-h4]
 |(i,x)::parts,ps,l,k,us,h1,h2,h3,h4=>by
  simp only [jdA] at h1;split at h1
  ·rename_i off n x' ps' k1 k2 k3
   simp at h1;subst h1;simp only [aPB,aOD,List.range'_succ,List.cons.injEq] at h3;obtain ⟨rfl,h3⟩:=h3;simp only [jvM] at h2;split at h2
   ·rename_i m r k4 k5
    split at h2
    ·rename_i k6
     simp at h2;subst h2;obtain ⟨xs,k7,k8⟩:=VRel.cells (qP h k2) k4;have f8:=A0RelL.len k8;simp only [Option.some.injEq,Prod.mk.injEq] at k1;obtain ⟨rfl,rfl⟩:=k1;have cP:i*size+size+parts.length*size=us.length:=by rw [h4,aOD,aRB,aRB,Nat.one_mul];omega
     have cE:i*size+xs.length<=us.length:=by omega
     obtain ⟨ys,k9,k10,k11⟩:=jt5 h (k:=i+1) (us:=ky us (i*size) xs) k3 k5 h3 (by rw [jpr,h4,aOD];congr 1;omega)
     have nN:∀(l m:List A0) (us vs:List Value),A0RelL B w l us->A0RelL B w m vs->A0RelL B w (l++m) (us++vs):=by
      intro l
      induction l with
      |nil=>intro m us vs h1 h2;rw [show us=[] from h1];exact h2
      |cons x l ih=>intro m us vs h1 h2;obtain ⟨u,us',rfl,h3,h4⟩:=h1;exact ⟨u,_,rfl,h3,ih m us' vs h4 h2⟩
     refine ⟨xs++ys,nN _ _ _ _ k8 k9,by rw [aNR,f8,k6,k10,aOD,aRB,Nat.one_mul];omega,?_⟩
     have e2:=jij (i*size) xs 0 us;simp only [aOO] at e2;have e1:¬(xs.length≠size\/us.length<i*size+xs.length):=by omega
     simp only [aPB,Instr.fill,k7];rw [if_neg (by simpa using e1)]
     rw [<-Array.foldl_toList,Array.toList_zipIdx];rw [show (xs.toArray.toList.zipIdx 0)=xs.zipIdx 0 from rfl,e2]
     rw [k11]
     congr 2
     have hx:xs.length=size:=by omega
     have e3:(i+1)*size=(us.take (i*size)++xs).length:=by rw [aNR,aNV,aRB,Nat.one_mul];omega
     rw [kY xs us (i*size) cE,e3,List.take_left];simp
    ·simp at h2
   ·simp at h2
  ·simp at h1
theorem jGe (h:RelF B w0 N s a w F) {t e:TypeId} {n size:Nat} {parts:Array (Nat×Operand)} {ps:List (Nat×Nat×X)} {g:Option (Nat×Bool)} {zs:List Value} {ks:List (Option (Nat×Nat))} (ho:o.op=.buildSlice t n parts) (ht:P.underlying t=some (.slice e)) (cP:qk P e=some size) (hs:0<size) (hz:vE P e=some zs)
 (x8:parts.toList.map (·.1)=List.range n) (hsm:n*size<1000) (sO:jdA (λi=>some (i*size,size)) parts.toList=some ps) (hd:∀k,o.dst=some k->k<N) (hr:vp P β ⟨o.dst,g,.bsl e size n ks ps⟩ s K):
 OpOk P o a w (λa' w'=>∃s' F',RelF B w0 N s' a' w' F'/\K s'):=by
 obtain ⟨l,h1,h2⟩:=hr;have gD:parts.toList.length=n:=by have:=congrArg List.length x8;simpa using this
 obtain ⟨inf,fD,xA⟩:=jkJ cP
 have l0:∃z,inf.zero=some z:=by
  unfold vE at hz;rw [fD] at hz;simp only at hz;split at hz
  ·exact ⟨_,by assumption⟩
  ·simp at hz
 obtain ⟨z,l0⟩:=l0
 have yC:∀us:List Value,us.length=n*size->∃xs:List Value,A0RelL B w l xs/\xs.length=n*size/\Instr.fill (λi=>some (i*size,size)) us.toArray (parts.toList.map λp=>(p.1,a.eval p.2))=some xs.toArray:=λus v7=>by
  obtain ⟨xs,k1,k2,k3⟩:=jt5 h (k:=0) (us:=us) sO h1 (by rw [x8,gD,List.range_eq_range']) (by rw [v7,gD,aPH])
  rw [gD] at k2;refine ⟨xs,k1,k2,?_⟩;rw [k3];simp
 obtain ⟨xs,h3,h4,aV⟩:∃xs:List Value,A0RelL B w l xs/\xs.length=n*size/\(execOp a.eval o).run P w=.ok (.value (.slice (some ⟨w.heap.size,0,none⟩) n n)) (w.alloc (.cells xs.toArray e)):=by
  have eK:¬(16777216<n*size):=by omega
  have xQ:(parts.map λ(p:Nat×Operand)=>(p.1,a.eval p.2)).toList=parts.toList.map λp=>(p.1,a.eval p.2):=by simp
  have hf:∀f:Nat->Value,∃xs:List Value,A0RelL B w l xs/\xs.length=n*size/\Instr.fill (λi=>some (i*size,size)) ((Array.range (n*size)).map f) (parts.toList.map λp=>(p.1,a.eval p.2))=some xs.toArray:=λf=>by
   obtain ⟨xs,k1,k2,k3⟩:=yC ((Array.range (n*size)).map f).toList (by simp)
   rw [Array.toArray_toList] at k3;exact ⟨xs,k1,k2,k3⟩
  by_cases h0:n*size=0
  ·obtain ⟨xs,k1,k2,k3⟩:=hf λi=>(#[]:Array Value)[i%0]!
   refine ⟨xs,k1,k2,?_⟩;rw [h0] at k3
   have sR:n=0:=by
    rcases Nat.mul_eq_zero.1 h0 with h|h
    ·exact h
    ·omega
   subst sR;have sP:parts.toList=[]:=aON gD;have pQ:parts=#[]:=by rw [<-Array.toArray_toList (xs:=parts),sP]
   have mI:xs=[]:=aON (by rw [k2,Nat.zero_mul])
   subst mI;simp [execOp,ho,Instr.buildSlice,run_underlying ht,sizeOf,typeInfo,fD,pQ,Instr.fill,newRow,Array.range_zero']
  ·obtain ⟨xs,k1,k2,k3⟩:=hf λi=>z.cells[i%z.cells.size]!
   refine ⟨xs,k1,k2,?_⟩;have aCK:¬(n*size>2^24):=by omega
   simp only [execOp,ho,Sem.run_bind,Instr.buildSlice,run_underlying ht,Result.andThen_ok,sizeOf,typeInfo,Sem.run_pure,zeroValue,xQ];simp [fD,xA,aCK,h0,l0,k3,newRow]
 obtain ⟨cs,s',S,F',⟨ds,kd,kk⟩,k2,k3,k4,k5,k6,k7,_⟩:=jb8 h h3 h2;have hb:Below w.heap.size w (w.alloc (.cells xs.toArray e)):=(Below.refl _ _).alloc (aOC _) _;have hB:B<=w.heap.size:=aPC h.hB h.below.size;have o6:∀b∈S,b<w.heap.size:=λb aZ=>k2.lt b aZ
 have bR:=jgN k2 kd;have t8:RepL (w.alloc (.cells xs.toArray e)) true ds xs S:=RepL.keep _ bR λb aZ=>hb.block b (o6 b aZ)
 have cA:Rep (w.alloc (.cells xs.toArray e)) true (.sl size e ds) (.slice (some ⟨w.heap.size,0,none⟩) n n) (w.heap.size::S):=
  ⟨xs,[w.heap.size],S,⟨n,World.ownsRow_lit w xs.toArray n (aOL _) (by unfold maxLen;have:n<=n*size:=Nat.le_mul_of_pos_right _ hs;omega) (by simpa using h4),rfl⟩,t8,rfl⟩
 have o9:∀g,∀b∈F' g,b<w.heap.size:=λg b aZ=>(k3.ob g).lt b aZ
 have bS:ORel B (w.alloc (.cells xs.toArray e)) (.loose (.sl size e ds) (λp=>hdr (w.alloc (.cells xs.toArray e)) p (.sl size e ds) (.slice (some ⟨w.heap.size,0,none⟩) n n))) (w.heap.size::S):=⟨rfl,_,cA,λ_=>rfl⟩
 have h5:=(k3.world hb).setO (g:=100*(β+o.dst.getD 0)) bS ⟨aPX.2 ⟨λhh=>by have:=o6 _ hh;omega,k4.1⟩,λb aZ=>by rcases aOK.1 aZ with rfl|aZ;exact hB;exact k4.2 b aZ⟩ (λg' _ b aZ=>by
  rcases aOK.1 aZ with rfl|aZ
  ·exact λhh=>by have:=o9 g' _ hh;omega
  ·exact k5 g' b aZ)
 have hv:VRel B (w.alloc (.cells xs.toArray e)) (.c (.h (100*(β+o.dst.getD 0)) 0 [] (.slice (some ⟨w.heap.size,0,none⟩) n n))) (.slice (some ⟨w.heap.size,0,none⟩) n n):=⟨rfl,rfl⟩;exact OpOk.of_run aV ⟨_,_,h5.put hv hd,kk _⟩
theorem jtX (h:RelF B w0 N s a w F) {e size:Nat} {x:AV} {u:Value} {K:List D->St->Prop} (hv:VRel B w x u) (hk:jf5 s e size x K):
 ∃xs s' S F',K xs s'/\Rep w true (.sl size e xs) u S/\RelF B w0 N s' a w F'/\Fresh B S/\(∀g,∀b∈S,b∉F' g)/\(∀g b,b∈F' g->b∈F g)/\∀b∈S,∃g,b∈F g:=by
 unfold jf5 at hk;split at hk
 ·have hu:u=.slice none 0 0:=hv
  subst hu;exact ⟨[],s,[],F,hk,Rep.nil_ w size e,h,Fresh.nil _,by simp,λ_ _ h=>h,by simp⟩
 ·rename_i g c p x'
  rcases hk with ⟨rfl,cs,η,ho,hx,hk⟩|⟨k,rfl,sz,tyo,ds0,cs,η,ho,hd,hx,hk⟩
  ·obtain ⟨u',S1,F1,j1,j2,j3,j4,j5,j6,j7,j8⟩:=h.rm ho
   have hu:u=u':=by rw [hv.1,<-hx,j3,zt j1]
   subst hu;exact ⟨cs,_,S1,F1,hk,j2,j5,j4,j6,j8,λb hb=>⟨g,j7 b hb⟩⟩
  ·obtain ⟨v,Sk,a1,a2,_,a4,a5,a6⟩:=joO (h.ob g) ho hd
   have hu:u=v:=by rw [hv.1,<-hx,a2 rfl]
   subst hu;obtain ⟨aC,S',b1,b2,R,b3,b4⟩:=a6 (.val u) [] ⟨rfl,rfl⟩;rw [aOP] at b4;have aW:=b3.nodup_iff.1 (h.fr g).1;have bA:∀b∈S',b∈F g:=λb hb=>b3.mem_iff.2 (aNT.2 (.inl (b4.mem_iff.1 hb)))
   have t1:=h.setO (g:=g) b1 ⟨b4.nodup_iff.2 (aNY.1 aW).1,λb hb=>(h.fr g).2 b (bA b hb)⟩ (λg' cU b hb hh=>h.dj g' g cU b hh (bA b hb))
   have hxu:x'=u:=by rw [<-hx,a2 rfl]
   refine ⟨cs,_,Sk,_,hk aC b2,a1,by rw [hxu];exact t1,⟨(aNY.1 aW).2.1,λb hb=>(h.fr g).2 b (a4 b hb)⟩,λg' b hb hh=>?_,λg' b hb=>?_,λb hb=>⟨g,a4 b hb⟩⟩
   ·split at hh
    ·exact (aNY.1 aW).2.2 b (b4.mem_iff.1 hh) b hb rfl
    ·rename_i uH
     exact h.dj g' g uH b hh (a4 b hb)
   ·split at hb
    ·rename_i e;rw [e];exact bA b hb
    ·exact hb
 ·exact hk.elim
theorem jtP:∀{ds:List D} {us:List Value} {S:List Nat} {own:Bool},ka ds=true->RepL w own ds us S->(∀u∈us,u.oneCell'=true)/\∀(w':World) (own':Bool),RepL w' own' ds us []
 |[],us,S,own,_,h=>by obtain ⟨rfl,_⟩:=h;exact ⟨by simp,λ_ _=>⟨rfl,rfl⟩⟩
 |.val u::ds,us,S,own,hf,h=>by
  obtain ⟨v,vs',S1,S2,rfl,rfl,h3,h4⟩:=h;simp only [ka,aOF] at hf;obtain ⟨h5,h6⟩:=jtP hf.2 h4;obtain ⟨rfl,rfl⟩:=h3;refine ⟨λu hu=>?_,λw' own'=>RepL.val_ (h6 w' own')⟩
  rcases aOK.1 hu with rfl|hu
  ·exact hf.1
  ·exact h5 u hu
 |.sl _ _ _::_,_,_,_,hf,_=>by simp [ka] at hf
theorem jxj {own:Bool}:∀{ds:List D} {us:List Value} {S:List Nat},RepL w own ds us S->(∀d∈ds,∀u,d=.val u->u.oneCell'=true)->∀u∈us,u.oneCell'=true
 |[],us,S,h,_=>by obtain ⟨rfl,_⟩:=h;simp
 |d::ds,us,S,h,hd=>by
  obtain ⟨v,vs',S1,S2,rfl,rfl,h3,h4⟩:=h;intro u hu;rcases aOK.1 hu with rfl|hu
  ·cases d with
   |val x=>obtain ⟨rfl,_⟩:=h3;exact hd _ (by simp) _ rfl
   |sl _ _ _=>obtain ⟨_,_,_,rfl⟩:=vR h3;rfl
  ·exact jxj h4 (λd' n5=>hd d' (by simp [n5])) u hu
theorem jns {t e:TypeId} {i:TypeInfo} {zs:List Value} (ht:P.underlying t=some (.slice e)) (hi:P.info? e=some i) (hz:vE P e=some zs) (hs:0<i.size) {ty:TypeId} {xs ys:List D} {v:Value} {S Sy:List Nat}
 (bE:Rep w true (.sl i.size e xs) v S) {A:Option Addr} {m c:Nat} {news:List Value} (hy:RepL w true ys news Sy) (hm:news.length=m*i.size) (hA:A=none->m=0/\c=0) (dQ:∀ad,A=some ad->∀j u,news[j]?=some u->w.cell? (ad.add j)=some u)
 (h1:∀u∈news,u.oneCell'=true) (hF:Fresh B (S++Sy)) (hB:B<=w.heap.size) (rA:xs.length/i.size+ys.length/i.size<=maxLen) (d8:(xs.length/i.size+ys.length/i.size)*i.bytes<=140737488355328):
 ∃v' w' S',(Builtin.append_ #[t,t] ty #[v,.slice A m c]).run P w=.ok v' w'/\Rep w' true (.sl i.size e (xs++ys)) v' S'/\Fresh B S'/\Only S w w'/\∀s∈S',s∈S\/s∈Sy\/w.heap.size<=s:=by
 obtain ⟨vs,T,S1,⟨n,cA,rfl⟩,bR,rfl⟩:=bE;have bQ:=RepL.length _ bR;have y3:=RepL.length _ hy;have wT:xs.length/i.size=n:=by rw [<-bQ,cA.1];exact aOS _ hs
 have hyn:ys.length/i.size=m:=by rw [<-y3,hm];exact aOS _ hs
 rw [wT,hyn] at rA d8;unfold vE at hz;rw [hi] at hz;simp only at hz;split at hz
 ·rename_i z l0
  split at hz
  ·rename_i nL
   simp only [aOF,aOJ] at nL;cases A with
   |none=>
    obtain ⟨rfl,rfl⟩:=hA rfl;have nC:news=[]:=aON (by rw [hm,Nat.zero_mul])
    subst nC;have wS:ys=[]:=aON (by rw [<-y3];rfl)
    subst wS;exact ⟨v,w,blk v++S1,run_append_owned_none (P:=P) w 0 t ty e i i.size ht hi v n vs cA,by rw [aOP];exact ⟨vs,blk v,S1,⟨n,cA,rfl⟩,bR,rfl⟩,hF.left,Only.refl _ _,λs hs=>.inl hs⟩
   |some ad=>
    have oM:=dQ ad rfl;obtain ⟨v',w',hr,h2,h3,_⟩:=run_append_own (P:=P) w 0 t ty e i z i.size i.bytes ht hi l0 rfl rfl nL.1 hs v n vs cA ad m c news hm oM h1 rA d8 (aOL _);have dJ:Only (blk v++S1) w w':=Only.of_grown h3 (λb hb=>by simp [hb])
    have eW:Only (blk v) w w':=Only.of_grown h3 (λb hb=>hb)
    have lF:∀s∈S1++Sy,s∉blk v:=λs hs hb=>by
     have:=hF.1;rw [aOB] at this;exact (aNY.1 this).2.2 s hb s hs rfl
    have cD:∀b∈blk v',b∈blk v\/b=w.heap.size:=jnt ht hi l0 cA hm oM h1 rA d8 hr
    have eP:Rep w' true (.sl i.size e (xs++ys)) v' (blk v'++(S1++Sy)):=
     ⟨vs++news,blk v',S1++Sy,⟨n+m,h2,rfl⟩,RepL.append_ _ (bR.only eW λs hs=>lF s (by simp [hs])) (hy.only eW λs hs=>lF s (by simp [hs])),rfl⟩
    have aB:∀s∈S1++Sy,s<w.heap.size:=λs hs=>by
     rcases aNT.1 hs with hs|hs
     ·exact RepL.lt _ bR s hs
     ·exact RepL.lt _ hy s hs
    refine ⟨v',w',_,hr,eP,?_,dJ,λs hs=>?_⟩
    ·rw [aOB] at hF
     refine ⟨aNY.2 ⟨?_,(aNY.1 hF.1).2.1,λa ha b hb e=>?_⟩,λb hb=>?_⟩
     ·rcases h2.2 with ⟨rfl,_⟩|⟨g,cap,cur,rfl,_⟩<;>simp [blk]
     ·subst e
      rcases cD a ha with h4|h4
      ·exact lF a hb h4
      ·have:=aB a hb;omega
     ·rcases aNT.1 hb with hb|hb
      ·rcases cD b hb with h4|h4
       ·exact hF.2 b (by simp [h4])
       ·omega
      ·exact hF.2 b (by rw [aNT];exact .inr hb)
    ·rcases aNT.1 hs with hs|hs
     ·rcases cD s hs with h4|h4
      ·exact .inl (by simp [h4])
      ·right;right;omega
     ·rcases aNT.1 hs with hs|hs
      ·exact .inl (by simp [hs])
      ·exact .inr (.inl hs)
  ·simp at hz
 ·simp at hz
theorem jCT (h:RelF B w0 N s a w F) {size:Nat} (hs:0<size) {x:AV} {u:Value} {K:List D->St->Prop} (hv:VRel B w x u) (hk:jzu s size x K):
 ∃ys s' Sy F' A m c news,K ys s'/\u=.slice A m c/\RepL w true ys news Sy/\news.length=m*size/\(A=none->m=0/\c=0)/\(∀b o,A=some ⟨b,o,none⟩->∀j u,news[j]?=some u->w.cell? ⟨b,o+j,none⟩=some u)/\(∀ad,A=some ad->ad.spot=none\/news=[])/\(∀u∈news,u.oneCell'=true)/\
  RelF B w0 N s' a w F'/\Fresh B Sy/\(∀g,∀b∈Sy,b∉F' g)/\(∀g b,b∈F' g->b∈F g)/\∀b∈Sy,∃g,b∈F g:=by
 have flat:∀(dd:D) (S:List Nat),dd.isSl=true->dd.size=size->ka dd.cells=true->Rep w false dd u S->K dd.cells s->
  ∃ys s' Sy F' A m c news,K ys s'/\u=.slice A m c/\RepL w true ys news Sy/\news.length=m*size/\(A=none->m=0/\c=0)/\(∀b o,A=some ⟨b,o,none⟩->∀j u,news[j]?=some u->w.cell? ⟨b,o+j,none⟩=some u)/\(∀ad,A=some ad->ad.spot=none\/news=[])/\(∀u∈news,u.oneCell'=true)/\
  RelF B w0 N s' a w F'/\Fresh B Sy/\(∀g,∀b∈Sy,b∉F' g)/\(∀g b,b∈F' g->b∈F g)/\∀b∈Sy,∃g,b∈F g:=by
  intro dd S k1 k2 k3 k4 k5;cases dd with
  |val _=>cases k1
  |sl size' ty cs=>
   have k2':size'=size:=k2;subst k2';obtain ⟨A,n,c,vs,S',rfl,j1,j2,_,j4,j5,j6,j7⟩:=zX k4;obtain ⟨j8,j9⟩:=jtP k3 j2;have bQ:=RepL.length _ j2;refine ⟨cs,s,[],F,A,n,c,vs,k5,rfl,j9 w true,by rw [bQ,j1],λhA=>?_,λb o' hA j u hu=>?_,λad hA=>?_,j8,h,Fresh.nil _,by simp,λ_ _ h=>h,by simp⟩
   ·have:=j6 hA;omega
   ·obtain ⟨b',o'',u5,_,j10⟩:=j7 (λe=>by subst e;simp at hu)
    rw [u5] at hA;cases hA;exact j10 j u hu
   ·by_cases aJ:vs=[]
    ·exact .inr aJ
    ·obtain ⟨b',o'',u5,_⟩:=j7 aJ
     rw [u5] at hA;cases hA;exact .inl rfl
 unfold jzu at hk;split at hk
 ·have hu:u=.slice none 0 0:=hv
  subst hu;exact ⟨[],s,[],F,none,0,0,[],hk,rfl,⟨rfl,rfl⟩,by simp,λ_=>⟨rfl,rfl⟩,by simp,by simp,by simp,h,Fresh.nil _,by simp,λ_ _ h=>h,by simp⟩
 ·rename_i dd
  obtain ⟨k1,k2,k3,k4⟩:=hk;obtain ⟨_,S,k5,_⟩:=hv;exact flat dd S k1 k2 k3 k5 k4
 ·rename_i g c p x' sz lo m
  obtain ⟨dd,k1,k2,k3,k4⟩:=hk;have sL:A0Rel B w (.hs g c p x' sz lo m) u:=hv;obtain ⟨S,k5⟩:=jle h sL k1;obtain ⟨_,_,d1,_,_,_,k6,_,_,_,rfl⟩:=k1;exact flat _ S (by cases d1 with|val _=>cases k6|sl _ _ _=>rfl) k2 k3 k5 k4
 ·rename_i g c p x'
  obtain ⟨dd,k1,k2,k3⟩:=hk;have sL:A0Rel B w (.h g c p x') u:=hv;obtain ⟨S,k4⟩:=jle h sL k1;split at k3
  ·rename_i k5
   obtain ⟨_,_,_,_,_,k7⟩:=k1;exact flat dd S k7 k2 k5 k4 k3
  ·obtain ⟨rfl,k5,k6⟩:=k3
   obtain ⟨d0,η,k7,k8,k9,k10⟩:=k1;simp [D.get] at k9;subst k9;obtain ⟨u',S1,F1,j1,j2,j3,j4,j5,j6,j7,j8⟩:=h.rm k7;have hu:u=u':=by rw [sL.1,<-k8,j3,zt j1]
   subst hu;cases d0 with
   |val _=>cases j1
   |sl size' ty cs=>
    have k2':size'=size:=k2;subst k2';obtain ⟨vs,T,S2,m1,m2,rfl⟩:=j2;have bQ:=RepL.length _ m2
    have eX:∀u∈vs,u.oneCell'=true:=jxj m2 (by
     have key:∀l:List D,jkn l=true->∀d∈l,∀u,d=.val u->u.oneCell'=true:=by
      intro l
      induction l with
      |nil=>intro _ d hd;simp at hd
      |cons x l ih=>
       intro hl d hd u hu;cases x with
       |val v=>
        simp only [jkn,aOF] at hl;rcases aOK.1 hd with rfl|hd
        ·cases hu;exact hl.1
        ·exact ih hl.2 d hd u hu
       |sl _ _ _=>
        rcases aOK.1 hd with rfl|hd
        ·cases hu
        ·exact ih hl d hd u hu
     exact key cs k5)
    have bA:∀b∈S2,b∈T++S2:=λb hb=>by simp [hb]
    rcases kX m1 with ⟨rfl,rfl⟩|⟨gg,nn,cc,rfl,rfl,m3,m4,_⟩
    ·refine ⟨cs,_,S2,F1,none,0,0,[],k6,rfl,m2,by simp,λ_=>⟨rfl,rfl⟩,by simp,by simp,by simp,j5,j4.right,λg' b hb=>j6 g' b (bA b hb),j8,λb hb=>⟨g,j7 b (bA b hb)⟩⟩
    ·refine ⟨cs,_,S2,F1,_,nn,cc,vs,k6,rfl,m2,m3,λhA=>(by cases hA),λb o' hA j u hu=>?_,λad hA=>?_,eX,j5,j4.right,λg' b hb=>j6 g' b (bA b hb),j8,λb hb=>⟨g,j7 b (bA b hb)⟩⟩
     ·cases hA
      rw [aPH];exact m4 j u hu
     ·cases hA
      exact .inl rfl
 ·exact hk.elim
theorem jGg (h:RelF B w0 N s a w F) {c:Call} {t e:TypeId} {i:TypeInfo} {zs:List Value} {x y:Operand} {x' y':X} {g:Option (Nat×Bool)} (ho:o.op=.call c) (hc:c.callee=.builtin .append) (ha:c.args.toList=[x,y]) (wZ:c.argTypes.toList=[t,t]) (ht:P.underlying t=some (.slice e)) (hi:P.info? e=some i) (hz:vE P e=some zs) (hs:0<i.size)
 (hx:jQ x=some x') (hy:jQ y=some y') (hd:∀k,o.dst=some k->k<N) (hr:vp P β ⟨o.dst,g,.app e i.size i.bytes x' y'⟩ s K):OpOk P o a w (λa' w'=>∃s' F',RelF B w0 N s' a' w' F'/\K s'):=by
 have bH:jzu s i.size (s.ev y') λys s1=>jf5 s1 e i.size (s.ev x') λxs s2=>xs.length/i.size+ys.length/i.size<=maxLen/\(xs.length/i.size+ys.length/i.size)*i.bytes<=140737488355328/\
  ∀η,K ((s2.addO [(100*(β+o.dst.getD 0),.loose (.sl i.size e (xs++ys)) η)]).put o.dst (.c (.h (100*(β+o.dst.getD 0)) 0 [] (η [])))):=hr
 obtain ⟨ys,s1,Sy,F1,A,m,cc,news,cR,e1,r1,r2,r3,r4,r5,r6,h1,r7,r8,r9,r10⟩:=jCT h hs (qP h hy) bH;obtain ⟨xs,s2,S,F2,⟨q1,q2,q3⟩,q4,h2,q5,q6,q7,q8⟩:=jtX h1 (qP h hx) cR;have cM:c.args=#[x,y]:=by rw [<-Array.toArray_toList (xs:=c.args),ha]
 have nM:c.argTypes=#[t,t]:=by rw [<-Array.toArray_toList (xs:=c.argTypes),wZ]
 have hB:B<=w.heap.size:=aPC h.hB h.below.size
 have fO:∀b∈S,b∉Sy:=λb hb aZ=>by
  obtain ⟨g',cU⟩:=q8 b hb;exact r8 g' b aZ cU
 have hF:Fresh B (S++Sy):=⟨aNY.2 ⟨q5.1,r7.1,λp hp q hq e=>fO p hp (e▸hq)⟩,λb hb=>by rcases aNT.1 hb with hb|hb;exact q5.2 b hb;exact r7.2 b hb⟩
 obtain ⟨v',w',S',aV,bE,hFr,dJ,uS⟩:=jns (B:=B) (ty:=o.type) ht hi hz hs q4 r1 r2 r3 (λad hA j u hu=>by
  rcases r5 ad hA with h5|h5
  ·obtain ⟨b,o',sp⟩:=ad
   simp only at h5;subst h5;rw [jam];exact r4 b o' hA j u hu
  ·subst h5;simp at hu) r6 hF hB q1 q2
 have oK:(execOp a.eval o).run P w=.ok (.value v') w':=by
  simp [execOp,ho,resolve,hc,cM,nM,e1,invoke,builtin,aV]
 have hb:Below B w w':=dJ.below (λb hb=>q5.2 b hb) hB
 have h3:=h2.world' hb λg b aZ=>dJ.block b ((h2.ob g).lt b aZ) λhh=>q6 g b hh aZ
 have bS:ORel B w' (.loose (.sl i.size e (xs++ys)) (λp=>hdr w' p (.sl i.size e (xs++ys)) v')) S':=⟨rfl,v',bE,λ_=>rfl⟩
 have h4:=h3.setO (g:=100*(β+o.dst.getD 0)) bS hFr (λg' _ b aZ=>by
  rcases uS b aZ with h5|h5|h5
  ·exact q6 g' b h5
  ·exact λhh=>r8 g' b h5 (q7 g' b hh)
  ·exact λhh=>by have:=(h2.ob g').lt b hh;omega)
 have hv:VRel B w' (.c (.h (100*(β+o.dst.getD 0)) 0 [] v')) v':=⟨rfl,by obtain ⟨_,_,_,rfl⟩:=vR bE;rfl⟩
 exact OpOk.of_run oK ⟨_,_,h4.put hv hd,q3 _⟩
theorem jmA {t u e:TypeId} {i:TypeInfo} (ht:P.underlying t=some (.slice e)) (hu:P.underlying u=some .string) (hi:P.info? e=some i) (hz:i.zero=some (.int .u8 0)) (hs:i.size=1) (p8:i.bytes=1) {ty:TypeId} {xs:List D} {v:Value} {S:List Nat}
 (bE:Rep w true (.sl 1 e xs) v S) (b:ByteArray) (hF:Fresh B S) (hB:B<=w.heap.size) (aD:xs.length+b.size<=140737488355328):
 ∃v' w' S',(Builtin.append_ #[t,u] ty #[v,.string b]).run P w=.ok v' w'/\Rep w' true (.sl 1 e (xs++strCells b)) v' S'/\Fresh B S'/\Only S w w'/\∀s∈S',s∈S\/w.heap.size<=s:=by
 obtain ⟨vs,T,S1,⟨n,cA,rfl⟩,bR,rfl⟩:=bE;have bQ:=RepL.length _ bR;have lI:vs.length=n:=by simpa using cA.1
 have rA:n+b.size<=maxLen:=by unfold maxLen;omega
 obtain ⟨v',w',hr,h2,h3,_⟩:=Go.Lib.run_append_own_string (P:=P) w 0 t u ty e i ht hu hi hz hs p8 v n vs cA b rA (by omega) (aOL _)
 have dJ:Only (blk v++S1) w w':=Only.of_grown h3 (λb hb=>by simp [hb])
 have eW:Only (blk v) w w':=Only.of_grown h3 (λb hb=>hb)
 have lF:∀s∈S1,s∉blk v:=λs hs hb=>(aNY.1 hF.1).2.2 s hb s hs rfl
 have cD:∀b∈blk v',b∈blk v\/b=w.heap.size:=by
  intro g hg;by_cases n7:b.size=0
  ·rcases cA.2 with ⟨rfl,rfl⟩|⟨g',cap,cur,rfl,_,cU,mR,n6,fE,gY⟩
   ·
    have gH:b=ByteArray.empty:=by
     cases b with
     |mk d=>simp [ByteArray.size] at n7;subst n7;rfl
    have:(Builtin.append_ #[t,u] ty #[.slice none 0 0,.string b]).run P w=.ok (.slice none 0 0) w:=by
     simp [Builtin.append_,run_underlying ht,run_underlying hu,sizeOf,typeInfo,hi,Builtin.lenOf,n7,Builtin.firstCells]
    rw [this] at hr;injection hr with e1 _;subst e1;simp [blk] at hg
   ·rw [Go.Lib.run_append_room_string (P:=P) w t u ty e i ht hu hi hs g' n cap cur cU b (by omega) (by omega)] at hr
    injection hr with e1 _;subst e1;exact .inl (by simpa [blk] using hg)
  ·rcases cA.2 with ⟨rfl,rfl⟩|⟨g',cap,cur,rfl,_,cU,mR,n6,fE,gY⟩
   ·rw [run_append_nil_string (P:=P) w t u ty e i _ ht hu hi hz b (by omega) (by omega) (by rw [p8];omega)] at hr
    injection hr with e1 _;subst e1;exact .inr (by simpa [blk] using hg)
   ·by_cases bY:n+b.size<=cap
    ·rw [Go.Lib.run_append_room_string (P:=P) w t u ty e i ht hu hi hs g' n cap cur cU b bY (by omega)] at hr
     injection hr with e1 _;subst e1;exact .inl (by simpa [blk] using hg)
    ·rw [Go.Lib.run_append_grow_string (P:=P) w t u ty e i _ ht hu hi hz ⟨g',0,none⟩ n cap vs (by rw [hs];exact cA.1) (cA.cells (g:=g') rfl) b (by omega) (by omega) (growslice_fits (by omega) (by rw [p8];omega))] at hr
     injection hr with e1 _;subst e1;exact .inr (by simpa [blk] using hg)
 have y3:RepL w' true (strCells b) (Go.Lib.strCells b) []:=by
  have key:∀l:List UInt8,RepL w' true (l.map qe) (l.map λb=>Value.int .u8 b.toNat) []:=by
   intro l
   induction l with
   |nil=>exact ⟨rfl,rfl⟩
   |cons x l ih=>exact ⟨_,_,[],[],rfl,rfl,⟨rfl,rfl⟩,ih⟩
  exact key _
 have yO:=RepL.append_ _ (bR.only eW λs hs=>lF s hs) y3
 rw [aOP] at yO;have eP:Rep w' true (.sl 1 e (xs++strCells b)) v' (blk v'++S1):=⟨vs++Go.Lib.strCells b,blk v',S1,⟨n+b.size,h2,rfl⟩,yO,rfl⟩;have aB:∀s∈S1,s<w.heap.size:=λs hs=>RepL.lt _ bR s hs
 refine ⟨v',w',_,hr,eP,⟨aNY.2 ⟨?_,(aNY.1 hF.1).2.1,λp hp q hq e=>?_⟩,λp hp=>?_⟩,dJ,λs hs=>?_⟩
 ·rcases h2.2 with ⟨rfl,_⟩|⟨g,cap,cur,rfl,_⟩<;>simp [blk]
 ·subst e
  rcases cD p hp with h4|h4
  ·exact lF p hq h4
  ·have:=aB p hq;omega
 ·rcases aNT.1 hp with hp|hp
  ·rcases cD p hp with h4|h4
   ·exact hF.2 p (by simp [h4])
   ·omega
  ·exact hF.2 p (by simp [hp])
 ·rcases aNT.1 hs with hs|hs
  ·rcases cD s hs with h4|h4
   ·exact .inl (by simp [h4])
   ·exact .inr (by omega)
  ·exact .inl (by simp [hs])
theorem jDG (h:RelF B w0 N s a w F) {c:Call} {t u e:TypeId} {i:TypeInfo} {x y:Operand} {x' y':X} {g:Option (Nat×Bool)} (ho:o.op=.call c) (hc:c.callee=.builtin .append) (ha:c.args.toList=[x,y]) (wZ:c.argTypes.toList=[t,u]) (ht:P.underlying t=some (.slice e)) (hu:P.underlying u=some .string) (hi:P.info? e=some i) (l0:i.zero=some (.int .u8 0)) (hs:i.size=1) (p8:i.bytes=1)
 (hx:jQ x=some x') (hy:jQ y=some y') (hd:∀k,o.dst=some k->k<N) (hr:vp P β ⟨o.dst,g,.apps e x' y'⟩ s K):OpOk P o a w (λa' w'=>∃s' F',RelF B w0 N s' a' w' F'/\K s'):=by
 obtain ⟨b,k1,k2⟩:=hr;obtain ⟨xs,s2,S,F2,⟨q1,q3⟩,q4,h2,q5,q6,q7,q8⟩:=jtX h (qP h hx) k2;have cM:c.args=#[x,y]:=by rw [<-Array.toArray_toList (xs:=c.args),ha]
 have nM:c.argTypes=#[t,u]:=by rw [<-Array.toArray_toList (xs:=c.argTypes),wZ]
 have hB:B<=w.heap.size:=aPC h.hB h.below.size;obtain ⟨v',w',S',aV,bE,hFr,dJ,uS⟩:=jmA (B:=B) (ty:=o.type) ht hu hi l0 hs p8 q4 b q5 hB q1
 have oK:(execOp a.eval o).run P w=.ok (.value v') w':=by
  simp [execOp,ho,resolve,hc,cM,nM,jjD h hy k1,invoke,builtin,aV]
 have hb:Below B w w':=dJ.below (λb hb=>q5.2 b hb) hB
 have h3:=h2.world' hb λg b aZ=>dJ.block b ((h2.ob g).lt b aZ) λhh=>q6 g b hh aZ
 have bS:ORel B w' (.loose (.sl 1 e (xs++strCells b)) (λp=>hdr w' p (.sl 1 e (xs++strCells b)) v')) S':=⟨rfl,v',bE,λ_=>rfl⟩
 have h4:=h3.setO (g:=100*(β+o.dst.getD 0)) bS hFr (λg' _ b aZ=>by
  rcases uS b aZ with h5|h5
  ·exact q6 g' b h5
  ·exact λhh=>by have:=(h2.ob g').lt b hh;omega)
 have hv:VRel B w' (.c (.h (100*(β+o.dst.getD 0)) 0 [] v')) v':=⟨rfl,by obtain ⟨_,_,_,rfl⟩:=vR bE;rfl⟩
 exact OpOk.of_run oK ⟨_,_,h4.put hv hd,q3 _⟩
theorem jul {z:Array Value} (hz:0<z.size) (n:Nat):(Builtin.zeroCells z n).toList=(List.replicate n z.toList).flatten:=by
 apply aPY
 intro j;by_cases hj:j<n*z.size
 ·rw [zW (by simp) hz n j hj]
  simp [Builtin.zeroCells,hj];rw [Array.getElem?_eq_getElem (Nat.mod_lt _ hz)];simp only [Option.some.injEq];exact getElem!_pos _ _ _
 ·rw [aPN (by simp [Builtin.zeroCells];omega),aPN (by simp;omega)]
theorem jtb {zs:List D} {us:List Value} (h:RepL w true zs us []):∀(n:Nat),RepL w true (List.replicate n zs).flatten (List.replicate n us).flatten []
 |0=>⟨rfl,rfl⟩
 |n+1=>by
  simp only [List.replicate_succ,aQY];have:=RepL.append_ zs h (jtb h n);simpa using this
theorem jAm {α:Type} {l:List α} (n:Nat):(List.replicate n l).flatten.length=n*l.length:=by simp
theorem jGd (h:RelF B w0 N s a w F) {cl:Call} {t e:TypeId} {i:TypeInfo} {zs:List Value} {x:Operand} {x':X} {ks:List (Option (Nat×Nat))} {g:Option (Nat×Bool)} (ho:o.op=.call cl) (hc:cl.callee=.builtin .clear) (ha:cl.args.toList=[x]) (wZ:cl.argTypes.toList=[t]) (ht:P.underlying t=some (.slice e)) (hi:P.info? e=some i) (hz:vE P e=some zs) (hs:0<i.size)
 (hx:jQ x=some x') (hr:vp P β ⟨o.dst,g,.clr i.size (jve ks zs) x'⟩ s K):OpOk P o a w (λa' w'=>∃s' F',RelF B w0 N s' a' w' F'/\K s'):=by
 obtain ⟨o0,hr⟩:=hr;simp only at o0;have cM:cl.args=#[x]:=by rw [<-Array.toArray_toList (xs:=cl.args),ha]
 have nM:cl.argTypes=#[t]:=by rw [<-Array.toArray_toList (xs:=cl.argTypes),wZ]
 have hpu:∀v,a.put o.dst v=a:=λv=>by rw [o0];rfl
 have rJ:=qP h hx;split at hr
 ·rename_i he
  have hp:a.eval x=.slice none 0 0:=by rw [he] at rJ;exact rJ
  have aV:(execOp a.eval o).run P w=.ok (.value (.tuple #[])) w:=by
   simp [execOp,ho,resolve,hc,cM,nM,hp,invoke,builtin,Builtin.clear_,run_underlying ht]
  exact OpOk.of_run aV (by rw [hpu];exact ⟨s,F,h,hr⟩)
 ·rename_i k c p mI sz lo n he
  obtain ⟨rfl,hn,d0,η,dd,j1,j2,j3,j4,j5,j6,hk⟩:=hr;rw [he] at rJ;obtain ⟨hp,_⟩:=rJ;unfold vE at hz;rw [hi] at hz;simp only at hz;split at hz;rotate_left
  ·simp at hz
  rename_i z l0;split at hz;rotate_left
  ·simp at hz
  rename_i nL;simp only [aOF,aOJ] at nL;simp at hz;subst hz;have n9:z.cells.toList.length=i.size:=by rw [aQB];simpa using nL.1
  have fQ:0<z.cells.size:=by have:=nL.1;omega
  generalize yF:(List.replicate n (jve ks z.cells.toList)).flatten=ds at*;generalize v7:(List.replicate n z.cells.toList).flatten=us;have cD:RepL w true ds us []:=by rw [<-yF,<-v7];exact jtb (jr3 _ _) n
  have nW:us.length=n*i.size:=by rw [<-v7,jAm,n9]
  have fN:ds.length=n*i.size:=by rw [<-RepL.length _ cD,nW]
  have iX:0<n*i.size:=Nat.mul_pos hn hs
  have k8:∀u∈us,u.oneCell'=true:=λu hu=>by
   rw [<-v7] at hu;obtain ⟨l,hl,nW⟩:=aQS.1 hu;rw [List.eq_of_mem_replicate hl] at nW;exact List.all_eq_true.1 nL.2 u (by simpa using nW)
  have nJ:=h.fr k;obtain ⟨u,S1,q0,q1,q2,q3,q4,q5⟩:=ORel.put1 (h.ob k) nJ.1 j1;obtain ⟨Sx,hrx,_⟩:=zq h j1 j2 j3 j4;cases dd with
  |val _=>cases j4
  |sl size ty cs0=>
   simp only [D.size] at j5;subst j5;simp only [D.len,D.cells,D.size] at j6;have cV:(lo+n)*i.size<=cs0.length:=aPC (aQW _ j6) (Nat.div_mul_le_self _ _);rw [aRB] at cV;obtain ⟨gg,nn,cc,r1,r2,r3,S1',r4,r5,r6,r7⟩:=jnX (k:=lo*i.size) (by omega) cD List.nodup_nil p q1 q4 (λb hb=>by simp at hb) j3 (by omega)
   have yA:mI=.slice (some ⟨gg,0,none⟩) nn cc:=by rw [<-j2,q2,r1]
   obtain ⟨vs,T,S',bG,bR,_⟩:=hrx;have bQ:=RepL.length _ bR
   have aDO:lo<cc:=by
    obtain ⟨nv,cA,_⟩:=bG;have h1:=cA.1;rcases cA.2 with ⟨e1,e2⟩|⟨g',cap,cur,e1,_,_,e2,_⟩
    ·rw [yA] at e1;cases e1
    ·rw [yA] at e1
     injection e1 with e3 e4 e5;subst e5;have:cs0.length/i.size=nv:=by rw [<-bQ,h1];exact aOS _ hs
     omega
   have l9:a.eval x=.slice (some ⟨gg,lo*i.size,none⟩) n (cc-lo):=by
    rw [hp.resolve_right λ⟨_,nC,_⟩=>by omega,yA]
    simp only [jki];rw [if_neg (by omega)]
    simp [Addr.add_lit]
   have aV:(execOp a.eval o).run P w=.ok (.value (.tuple #[])) (w.setCells gg (lo*i.size) us):=by
    have aH:=run_storeCells_cells (P:=P) gg (lo*i.size) us 0 w (λj hj=>(r3 j (by omega)).1) (λj hj=>(r3 j (by omega)).2) k8
    simp only [aOO] at aH;obtain ⟨m,rfl⟩:∃m,n=m+1:=⟨n-1,by omega⟩
    simp [execOp,ho,resolve,hc,cM,nM,l9,invoke,builtin,Builtin.clear_,run_underlying ht,zeroValue,typeInfo,hi,l0,jul fQ,v7,aH]
   obtain ⟨j6,j7,j8,j9⟩:=kJ us w gg (lo*i.size);have oX:gg∈F k:=q3 gg r2;have hBb:B<=gg:=nJ.2 gg oX;have aJ:∀b,b≠gg->(w.setCells gg (lo*i.size) us).heap[b]?=w.heap[b]?:=λb hb=>jaL us w gg (lo*i.size) b hb
   have hb:Below B w (w.setCells gg (lo*i.size) us):=⟨j6,j7,j8,by rw [j9];exact aOC _,λj hj=>aJ j (by omega)⟩
   have fJ:(D.put p (lo*i.size) ds d0).isSl=true:=jBZ _ _ _ q0
   obtain ⟨S',m1,m2,m3⟩:=q5 (w.setCells gg (lo*i.size) us) (D.put p (lo*i.size) ds d0) (λq=>hdr (w.setCells gg (lo*i.size) us) q (D.put p (lo*i.size) ds d0) u) S1' hb (λb _ bM=>aJ b λe=>bM (e▸r2)) fJ r4 (λ_=>rfl) r5 (λb aY=>by
    rcases r6 b aY with h|h
    ·exact .inl h
    ·simp at h)
   have t1:=h.setO (g:=k) (ob:=.none) (S:=[]) rfl (Fresh.nil _) (by simp)
   have t2:=t1.world' hb λg' x hx=>by
    split at hx
    ·simp at hx
    ·rename_i cU
     exact aJ x λe=>h.dj g' k cU x hx (e▸oX)
   have o8:∀x∈S',x∈F k:=λx hx=>by
    rcases m3 x hx with h|h
    ·exact h
    ·rcases r6 x h with h'|h'
     ·exact q3 x h'
     ·simp at h'
   have t3:=t2.setO (g:=k) m1 ⟨m2,λx hx=>nJ.2 x (o8 x hx)⟩ (λg' cU x hx=>by
    rw [if_neg cU];exact λhh=>h.dj g' k cU x hh (o8 x hx))
   have gZ:(s.setO k .none).setO k ((s.o k).putOwn c (D.put p (lo*i.size) ds d0) (λq=>hdr (w.setCells gg (lo*i.size) us) q (D.put p (lo*i.size) ds d0) u))=s.setO k ((s.o k).putOwn c (D.put p (lo*i.size) ds d0) (λq=>hdr (w.setCells gg (lo*i.size) us) q (D.put p (lo*i.size) ds d0) u)):=by
    simp only [St.setO,St.mk.injEq,true_and]
    funext i;split<;>rfl
   rw [gZ] at t3
   exact OpOk.of_run aV (by
    rw [hpu];have lQ:∀q,¬jsG p (lo*i.size) (n*i.size) q->hdr (w.setCells gg (lo*i.size) us) q (D.put p (lo*i.size) ds d0) u=η q:=λq hq=>by rw [q2];exact r7 q (by rw [fN];exact hq)
    refine ⟨_,_,t3,jBK hk lQ λhf=>?_⟩
    simp only [aOF] at hf
    funext q
    by_cases hq:jsG p (lo*i.size) (n*i.size) q
    ·obtain ⟨j,r,rfl,rP,nF⟩:=hq
     obtain ⟨v1,gM⟩:=jdz (j:=j-lo*i.size) hf.1 (by omega)
     obtain ⟨v2,sK⟩:=jdz (j:=j-lo*i.size) hf.2 (by simp only [D.cells,aNV,aOI];omega)
     rw [q2];rw [jgC (w:=w.setCells gg (lo*i.size) us) (j:=j) (v:=v1) p (jdx p j3) (by rw [jkL _ _ _ _ (by omega) rP (by omega)];exact gM)]
     refine (jgC (v:=v2) p j3 ?_).symm;rw [<-sK];simp only [D.cells];rw [aPW,if_pos (by omega),aPR]
     congr 1;omega
    ·exact lQ q hq)
 ·exact hr.elim
end
