/- Parts. -/
import Derived.Test.YtekegiiikglhbaaGreatQE4bd
import Derived.Lib.AppendStr
set_option linter.all false
namespace Go.Proofs.YtekegiiikglhbaaGreat
open Go.RowKit Go.Sort
def OpOk (P:Program) (o:Oper) (a:Act) (w:World) (R:Act->World->Prop):Prop:=
 ∀(next:Act->World->Prop) (Q:Exit->Act->World->Prop),(∀a' w',R a' w'->next a' w')->o.wp P a w next Q
section
variable {P:Program} {β B N:Nat} {w w0:World} {s:St} {a:Act} {F:Nat->List Nat} {o:Oper} {K:St->Prop}
theorem OpOk.of_run {w':World} {R:Act->World->Prop} {v:Value} (h:(execOp a.eval o).run P w=.ok (.value v) w') (hr:R (a.put o.dst v) w'):OpOk P o a w R:=
 λ_ _ hk=>by unfold Oper.wp;rw [h];exact hk _ w' hr
theorem OpOk.of_skip {w':World} {R:Act->World->Prop} (h:(execOp a.eval o).run P w=.ok .skip w') (hr:R (a.put o.dst undef) w'):OpOk P o a w R:=
 λ_ _ hk=>by unfold Oper.wp;rw [h];exact hk _ w' hr
theorem vM:∀{l:List A0} {us:List Value} {s:St} {F:Nat->List Nat} {K:List Cell->St->Prop},RelF B w0 N s a w F->A0RelL B w l us->jY s l K->
 ∃cs s' S F',K cs s'/\CRel B w cs us S/\RelF B w0 N s' a w F'/\Fresh B S/\(∀g,∀b∈S,b∉F' g)/\(∀g b,b∈F' g->b∈F g)/\(∀b∈S,∃g,b∈F g)/\(∀u∈us,u.oneCell'=true)
 |[],us,s,F,K,h,hr,hk=>⟨[],s,[],F,hk,⟨hr,rfl⟩,h,Fresh.nil _,by simp,λ_ _ h=>h,by simp,by rw [show us=[] from hr];simp⟩
 |x::l,us,s,F,K,h,⟨u,us',V,Y,h3⟩,hk=>by
  subst V
  have plain:∀(x:A0),A0Rel B w x u->x.one=true->jY s l (λcs s'=>K (.a x::cs) s')->∃cs s' S F',K cs s'/\CRel B w cs (u::us') S/\RelF B w0 N s' a w F'/\Fresh B S/\(∀g,∀b∈S,b∉F' g)/\(∀g b,b∈F' g->b∈F g)/\(∀b∈S,∃g,b∈F g)/\(∀u'∈u::us',u'.oneCell'=true):=by
   intro x Y eK hk;obtain ⟨cs,s',S,F',k1,k2,k3,k4,k5,k6,k7,k8⟩:=vM h h3 hk;refine ⟨_,s',S,F',k1,⟨u,us',rfl,Y,k2⟩,k3,k4,k5,k6,k7,λu' hu=>?_⟩
   rcases aBB.1 hu with rfl|hu
   ·exact Y.one eK
   ·exact k8 u' hu
  cases x with
  |h g c p x=>
   obtain ⟨rfl,d,η,ho,hx,hk⟩:=hk;obtain ⟨u',S1,F1,j1,j2,j3,j4,j5,j6,j7,j8⟩:=h.rm ho;obtain ⟨cs,s',S2,F',k1,k2,k3,k4,k5,k6,k7,k8⟩:=vM j5 h3 hk
   have hu:u=u':=by
    rw [Y.1,<-hx,j3,qZ j1]
   subst hu
   have dK:∀b∈S1,b∉S2:=λb Z aS=>by
    obtain ⟨g',cR⟩:=k7 b aS;exact j6 g' b Z cR
   refine ⟨_,s',S1++S2,F',k1,⟨u,us',S1,S2,rfl,rfl,j1,j2,j3,k2⟩,k3,⟨aAU.2 ⟨j4.1,k4.1,λx hx y hy e=>dK x hx (e▸hy)⟩,λb Z=>?_⟩,λg' b Z=>?_,λg' b Z=>j8 g' b (k6 g' b Z),λb Z=>?_,λu' hu=>?_⟩
   ·rcases aAS.1 Z with Z|Z
    ·exact j4.2 b Z
    ·exact k4.2 b Z
   ·rcases aAS.1 Z with Z|Z
    ·exact λaS=>j6 g' b Z (k6 g' b aS)
    ·exact k5 g' b Z
   ·rcases aAS.1 Z with Z|Z
    ·exact ⟨g,j7 b Z⟩
    ·obtain ⟨g',cR⟩:=k7 b Z;exact ⟨g',j8 g' b cR⟩
   ·rcases aBB.1 hu with rfl|hu
    ·cases d with
     |val _=>cases j1
     |sl _ _ _=>obtain ⟨_,_,_,rfl⟩:=qL j2;rfl
    ·exact k8 u' hu
  |v x=>exact plain _ Y hk.1 hk.2
  |ro x=>exact plain _ Y hk.1 hk.2
  |rp x=>exact plain _ Y hk.1 hk.2
  |bp x y z=>exact plain _ Y hk.1 hk.2
  |ep x y z i j=>exact plain _ Y hk.1 hk.2
  |un=>exact plain _ Y hk.1 hk.2
  |hs=>exact plain _ Y hk.1 hk.2
theorem jiA (h:RelF B w0 N s a w F) {f:Nat} {args:List AV} {xs:List Value} (a8:(execOp a.eval o).run P w=.ok (.enter f xs.toArray) w) (hv:jgc B w args xs) (hd:∀k,o.dst=some k->k<N)
 (ht:Turns P f args s.o λrt o'=>∀η:Nat->jl,K (((⟨s.t,o'⟩:St).addO (je0 (100*(β+o.dst.getD 0)) η 0 rt.flat)).put o.dst (rt.av (100*(β+o.dst.getD 0)) η))):
 OpOk P o a w (λa' w'=>∃s' F',RelF B w0 N s' a' w' F'/\K s'):=by
 intro next Q hk;unfold Oper.wp;rw [a8];refine (ht.2 B w F xs h.bare hv).mono λe w' ⟨v,rt,o',S,F',he,hr,wY,hf,lJ,hR⟩=>?_
 subst he;have Z:Below B w w':=hr.below;obtain ⟨η,V,Y⟩:=jli (B:=B) (100*(β+o.dst.getD 0)) wY;have h3:RelF B w0 N ⟨s.t,o'⟩ a w' F':=⟨h.below.trans Z,h.hB,h.df,h.sz,λn=>(h.sl n).mono Z,hr.ob,hr.fr,hr.dj⟩
 obtain ⟨F2,h4⟩:=h3.addO Y hf lJ;exact hk _ _ ⟨_,F2,h4.put V hd,hR η⟩
theorem jrX (h:RelF B w0 N s a w F) {f:Nat} {args:List AV} {xs:List Value} (a8:(execOp a.eval o).run P w=.ok (.enter f xs.toArray) w) (hv:jgc B w args xs) (hd:∀k,o.dst=some k->k<N)
 (ht:Inl P f args s.o λav o'=>K (St.put ⟨s.t,o'⟩ o.dst av)):
 OpOk P o a w (λa' w'=>∃s' F',RelF B w0 N s' a' w' F'/\K s'):=by
 intro next Q hk;unfold Oper.wp;rw [a8];refine (ht.2 B w F xs h.bare hv).mono λe w' ⟨v,av,o',F',he,hr,wP,hR⟩=>?_
 subst he;have Z:Below B w w':=hr.below;have h3:RelF B w0 N ⟨s.t,o'⟩ a w' F':=⟨h.below.trans Z,h.hB,h.df,h.sz,λn=>(h.sl n).mono Z,hr.ob,hr.fr,hr.dj⟩
 exact hk _ _ ⟨_,F',h3.put wP hd,hR⟩
theorem jme (w:World):Below w.heap.size w w.drew:=⟨rfl,rfl,rfl,aAV _,λ_ _=>rfl⟩
theorem jr0 (h:RelF B w0 N s a w F) {e:TypeId} {x:Operand} {x':X} {n:Nat} {g:Option (Nat×Bool)} (ho:o.op=.box e x) (hx:jr x=some x') (hd:∀k,o.dst=some k->k<N) (hr:kK P β ⟨o.dst,g,.box e n x'⟩ s K):
 OpOk P o a w (λa' w'=>∃s' F',RelF B w0 N s' a' w' F'/\K s'):=by
 obtain ⟨l,V,_,Y⟩:=hr;obtain ⟨us,h3,h4⟩:=VRel.cells (kn h hx) V;obtain ⟨cs,s',S,F',k1,k2,k3,k4,k5,k6,k7,_⟩:=vM h h4 Y
 have a8:(execOp a.eval o).run P w=.ok (.value (.pointer (some ⟨w.heap.size,0,none⟩))) (w.alloc (.cells us.toArray e)):=by
  simp [execOp,ho,Instr.box,newVar,newRow,h3]
 have Z:Below w.heap.size w (w.alloc (.cells us.toArray e)):=(Below.refl _ _).alloc (aAV _) _;have hB:B<=w.heap.size:=aBU h.hB h.below.size;have gN:∀b∈S,b<w.heap.size:=λb aS=>k2.lt b aS
 have bL:ORel B (w.alloc (.cells us.toArray e)) (.box w.heap.size e cs) (w.heap.size::S):=
  ⟨us,S,jiJ _ _,k2.keep (Z.mono hB) λb aS=>Z.block b (gN b aS),rfl⟩
 have gP:∀g,∀b∈F' g,b<w.heap.size:=λg b aS=>(k3.ob g).lt b aS
 have h5:=(k3.world Z).setO (g:=100*(β+o.dst.getD 0)) bL ⟨aBN.2 ⟨λhh=>by have:=gN _ hh;omega,k4.1⟩,λb aS=>by rcases aBB.1 aS with rfl|aS;exact hB;exact k4.2 b aS⟩ (λg' _ b aS=>by
  rcases aBB.1 aS with rfl|aS
  ·exact λhh=>by have:=gP g' _ hh;omega
  ·exact k5 g' b aS)
 exact OpOk.of_run a8 ⟨_,_,h5.put (v:=.c (.bp (100*(β+o.dst.getD 0)) 0 w.heap.size)) rfl hd,k1 w.heap.size⟩
theorem RelF.world' (h:RelF B w0 N s a w F) {w':World} (Z:Below B w w') (hk:∀g,∀b∈F g,w'.heap[b]?=w.heap[b]?):RelF B w0 N s a w' F:=
 ⟨h.below.trans Z,h.hB,h.df,h.sz,λn=>(h.sl n).mono Z,λg=>(h.ob g).keep Z (hk g),h.fr,h.dj⟩
theorem CRel.set1 {x:Cell} {u:Value} {S1:List Nat} (hx:CRel B w [x] [u] S1):∀{ds:List Cell} {us:List Value} {S0:List Nat} {c:Nat},CRel B w ds us S0->(S0++S1).Nodup->c<ds.length->
 ∃S',CRel B w (ds.set c x) (us.set c u) S'/\S'.Nodup/\∀b∈S',b∈S0\/b∈S1
 |[],_,_,_,_,_,hc=>by simp at hc
 |y::ds,us,S0,0,hr,aY,_=>by
  have lM:∀{us':List Value} {S2:List Nat},CRel B w ds us' S2->CRel B w (x::ds) (u::us') (S1++S2):=by
   intro us' S2 Y;cases x with
   |a x=>obtain ⟨u',us'',h3,h4,h5,h6⟩:=hx;cases h3;subst h6;exact ⟨u,us',rfl,h4,Y⟩
   |own d η=>
    obtain ⟨u',us'',T1,T2,h3,h4,h5,h6,h7,h8,h9⟩:=hx;cases h3;subst h9;rw [aBO] at h4;subst h4;exact ⟨u,us',S1,S2,rfl,rfl,h5,h6,h7,Y⟩
  cases y with
  |a y=>
   obtain ⟨u',us',rfl,_,h3⟩:=hr;refine ⟨_,lM h3,?_,λb Z=>?_⟩
   ·exact (aCC.nodup_iff).1 aY
   ·rcases aAS.1 Z with Z|Z
    ·exact .inr Z
    ·exact .inl Z
  |own d η=>
   obtain ⟨u',us',T1,T2,rfl,rfl,_,_,_,h3⟩:=hr;refine ⟨_,lM h3,?_,λb Z=>?_⟩
   ·rw [aAZ] at aY
    exact (aCC.nodup_iff).1 (aAU.1 aY).2.1
   ·rcases aAS.1 Z with Z|Z
    ·exact .inr Z
    ·exact .inl (by simp [Z])
 |y::ds,us,S0,c+1,hr,aY,hc=>by
  cases y with
  |a y=>
   obtain ⟨u',us',rfl,Y,h3⟩:=hr;obtain ⟨S',h4,h5,h6⟩:=CRel.set1 hx h3 aY (by simpa using hc)
   exact ⟨S',⟨u',_,rfl,Y,h4⟩,h5,h6⟩
  |own d η=>
   obtain ⟨u',us',T1,T2,rfl,rfl,V,Y,bP,h3⟩:=hr;rw [aAZ] at aY;have hn:=aAU.1 aY;obtain ⟨S',h4,h5,h6⟩:=CRel.set1 hx h3 hn.2.1 (by simpa using hc)
   refine ⟨T1++S',⟨u',_,T1,S',rfl,rfl,V,Y,bP,h4⟩,aAU.2 ⟨hn.1,h5,λa ha b Z e=>hn.2.2 a ha b (by rcases h6 b Z with h|h<;>simp [h]) e⟩,λb Z=>?_⟩
   rcases aAS.1 Z with Z|Z
   ·exact .inl (by simp [Z])
   ·rcases h6 b Z with h|h
    ·exact .inl (by simp [h])
    ·exact .inr h
theorem CRel.setAt_:∀{cs:List Cell} {us:List Value} {S:List Nat} {ds:List Cell} {vs:List Value} {S0:List Nat} {c:Nat},CRel B w cs us S->CRel B w ds vs S0->(S0++S).Nodup->c+cs.length<=ds.length->
 ∃S',CRel B w (kg ds c cs) (kg vs c us) S'/\S'.Nodup/\∀b∈S',b∈S0\/b∈S
 |[],us,S,ds,vs,S0,c,⟨V,Y⟩,h3,aY,_=>by
  subst V Y;rw [aBO] at aY;exact ⟨S0,h3,aY,λb Z=>.inl Z⟩
 |x::cs,us,S,ds,vs,S0,c,hr,h3,aY,hc=>by
  obtain ⟨u,us',S1,S2,rfl,rfl,h4,h5⟩:∃u us' S1 S2,us=u::us'/\S=S1++S2/\CRel B w [x] [u] S1/\CRel B w cs us' S2:=by
   cases x with
   |a x=>obtain ⟨u,us',V,Y,h4⟩:=hr;exact ⟨u,us',[],S,V,rfl,⟨u,[],rfl,Y,rfl,rfl⟩,h4⟩
   |own d η=>obtain ⟨u,us',S1,S2,V,Y,k1,k2,k3,h4⟩:=hr;exact ⟨u,us',S1,S2,V,Y,⟨u,[],S1,[],rfl,by simp,k1,k2,k3,rfl,rfl⟩,h4⟩
  rw [<-aAZ] at aY;obtain ⟨S',h6,h7,h8⟩:=CRel.set1 (c:=c) h4 h3 (aAU.1 aY).1 (by simp at hc;omega)
  have hn:=aAU.1 aY;obtain ⟨S'',h9,eD,fB⟩:=CRel.setAt_ (c:=c+1) h5 h6 (aAU.2 ⟨h7,hn.2.1,λa ha b Z e=>hn.2.2 a (by rcases h8 a ha with h|h<;>simp [h]) b Z e⟩) (by simp at hc⊢;omega)
  refine ⟨S'',h9,eD,λb Z=>?_⟩
  rcases fB b Z with h|h
  ·rcases h8 b h with h|h
   ·exact .inl h
   ·exact .inr (by simp [h])
  ·exact .inr (by simp [h])
theorem jbm:∀(vs:List Value) (w:World) (b o:Nat) (us:List Value) (ty:TypeId),w.heap[b]?=some (.cells us.toArray ty (0,0))->(w.setCells b o vs).heap[b]?=some (.cells (kg us o vs).toArray ty (0,0))/\∀k,k≠b->(w.setCells b o vs).heap[k]?=w.heap[k]?
 |[],w,b,o,us,ty,h=>⟨h,λ_ _=>rfl⟩
 |v::vs,w,b,o,us,ty,h=>by
  have V:(w.setCell ⟨b,o,none⟩ v).heap[b]?=some (.cells (us.set o v).toArray ty (0,0)):=by
   have aC:=qR h;have:w.heap[b]=.cells us.toArray ty (0,0):=by rw [Array.getElem?_eq_getElem aC] at h;exact aCV h
   simp [World.setCell,Array.getElem?_modify,h]
  obtain ⟨Y,h3⟩:=jbm vs (w.setCell ⟨b,o,none⟩ v) b (o+1) (us.set o v) ty V;exact ⟨Y,λk hk=>(h3 k hk).trans (Below.heap_setCell w ⟨b,o,none⟩ v k hk)⟩
theorem qK:∀(vs:List Value) (w:World) (b o:Nat),(w.setCells b o vs).os=w.os/\(w.setCells b o vs).tape=w.tape/\(w.setCells b o vs).output=w.output/\(w.setCells b o vs).heap.size=w.heap.size
 |[],_,_,_=>⟨rfl,rfl,rfl,rfl⟩
 |v::vs,w,b,o=>by
  obtain ⟨V,Y,h3,h4⟩:=qK vs (w.setCell ⟨b,o,none⟩ v) b (o+1);exact ⟨V,Y,h3,h4.trans (by simp [World.setCell])⟩
theorem jgq:∀(xs:List Value) (vs:List Value) (o:Nat),jff vs o xs=kg vs o xs
 |[],_,_=>rfl
 |x::xs,vs,o=>by rw [jff,kg,jgq xs]
theorem qX:∀(vs:List Value) (w:World) (b o k:Nat),k≠b->(w.setCells b o vs).heap[k]?=w.heap[k]?
 |[],_,_,_,_,_=>rfl
 |v::vs,w,b,o,k,hk=>(qX vs _ b (o+1) k hk).trans (Below.heap_setCell w ⟨b,o,none⟩ v k hk)
theorem zm {α:Type}:∀(xs:List α) (l:List α) (k j:Nat),¬(k<=j/\j<k+xs.length)->(kg l k xs)[j]?=l[j]?
 |[],_,_,_,_=>rfl
 |x::xs,l,k,j,h=>by
  rw [kg,zm xs _ (k+1) j (by simp at h;omega),aCQ (by simp at h;omega)]
theorem RepL.set1 {d:D} {u:Value} {S1:List Nat} (hx:Rep w true d u S1):∀{cs:List D} {vs:List Value} {S0:List Nat} {c:Nat},RepL w true cs vs S0->(S0++S1).Nodup->c<cs.length->
 ∃S',RepL w true (cs.set c d) (vs.set c u) S'/\S'.Nodup/\∀b∈S',b∈S0\/b∈S1
 |[],_,_,_,_,_,hc=>by simp at hc
 |y::cs,_,_,0,⟨u',us',T1,T2,rfl,rfl,_,h3⟩,aY,_=>by
  refine ⟨S1++T2,RepL.cons_ hx h3,?_,λb Z=>?_⟩
  ·rw [aAZ] at aY
   exact (aCC.nodup_iff).1 (aAU.1 aY).2.1
  ·rcases aAS.1 Z with Z|Z
   ·exact .inr Z
   ·exact .inl (by simp [Z])
 |y::cs,_,_,c+1,⟨u',us',T1,T2,rfl,rfl,Y,h3⟩,aY,hc=>by
  rw [aAZ] at aY;have hn:=aAU.1 aY;obtain ⟨S',h4,h5,h6⟩:=RepL.set1 hx h3 hn.2.1 (by simpa using hc)
  refine ⟨T1++S',RepL.cons_ Y h4,aAU.2 ⟨hn.1,h5,λa ha b Z e=>hn.2.2 a ha b (by rcases h6 b Z with h|h<;>simp [h]) e⟩,λb Z=>?_⟩
  rcases aAS.1 Z with Z|Z
  ·exact .inl (by simp [Z])
  ·rcases h6 b Z with h|h
   ·exact .inl (by simp [h])
   ·exact .inr h
theorem RepL.setAt_:∀{ds:List D} {us:List Value} {S:List Nat} {cs:List D} {vs:List Value} {S0:List Nat} {c:Nat},RepL w true ds us S->RepL w true cs vs S0->(S0++S).Nodup->c+ds.length<=cs.length->
 ∃S',RepL w true (kg cs c ds) (kg vs c us) S'/\S'.Nodup/\∀b∈S',b∈S0\/b∈S
 |[],us,S,cs,vs,S0,c,⟨V,Y⟩,h3,aY,_=>by
  subst V Y;rw [aBO] at aY;exact ⟨S0,h3,aY,λb Z=>.inl Z⟩
 |x::ds,_,_,cs,vs,S0,c,⟨u,us',S1,S2,rfl,rfl,h4,h5⟩,h3,aY,hc=>by
  rw [<-aAZ] at aY;obtain ⟨S',h6,h7,h8⟩:=RepL.set1 (c:=c) h4 h3 (aAU.1 aY).1 (by simp at hc;omega)
  have hn:=aAU.1 aY;obtain ⟨S'',h9,eD,fB⟩:=RepL.setAt_ (c:=c+1) h5 h6 (aAU.2 ⟨h7,hn.2.1,λa ha b Z e=>hn.2.2 a (by rcases h8 a ha with h|h<;>simp [h]) b Z e⟩) (by simp at hc⊢;omega)
  refine ⟨S'',h9,eD,λb Z=>?_⟩
  rcases fB b Z with h|h
  ·rcases h8 b h with h|h
   ·exact .inl h
   ·exact .inr (by simp [h])
  ·exact .inr (by simp [h])
theorem RepL.put1:∀{cs:List D} {vs:List Value} {S:List Nat} {k:Nat} {d:D},RepL w true cs vs S->S.Nodup->cs[k]?=some d->
 ∃v S1,vs[k]?=some v/\Rep w true d v S1/\(∀b∈S1,b∈S)/\S1.Nodup/\(∀j dj,j≠k->cs[j]?=some dj->∃vj Sj,vs[j]?=some vj/\Rep w true dj vj Sj/\∀b∈Sj,b∈S/\b∉S1)/\
 ∀(w':World) (d':D) (S1':List Nat),(∀b∈S,b∉S1->w'.heap[b]?=w.heap[b]?)->Rep w' true d' v S1'->S1'.Nodup->(∀b∈S1',b∈S1\/b∉S)->
  ∃S',RepL w' true (cs.set k d') vs S'/\S'.Nodup/\∀b∈S',b∈S\/b∈S1'
 |[],_,_,_,_,_,_,h=>by simp at h
 |y::cs,_,_,0,d,⟨u',us',T1,T2,rfl,rfl,Y,h3⟩,aY,h=>by
  simp at h;subst h;have hn:=aAU.1 aY;refine ⟨u',T1,rfl,Y,λb Z=>by simp [Z],hn.1,λj dj hj hd=>?_,λw' d' S1' hk hr gB hs=>?_⟩
  ·cases j with
   |zero=>exact absurd rfl hj
   |succ j=>
    obtain ⟨vj,Sj,k1,k2,k3⟩:=RepL.nth h3 (by simpa using hd)
    exact ⟨vj,Sj,by simpa using k1,k2,λb Z=>⟨by simp [k3 b Z],λaS=>hn.2.2 b aS b (k3 b Z) rfl⟩⟩
  ·refine ⟨S1'++T2,RepL.cons_ hr (RepL.keep _ h3 λb Z=>hk b (by simp [Z]) λaS=>hn.2.2 b aS b Z rfl),aAU.2 ⟨gB,hn.2.1,λa ha b Z e=>?_⟩,λb Z=>?_⟩
   ·subst e
    rcases hs a ha with h|h
    ·exact hn.2.2 a h a Z rfl
    ·exact h (by simp [Z])
   ·rcases aAS.1 Z with Z|Z
    ·exact .inr Z
    ·exact .inl (by simp [Z])
 |y::cs,_,_,k+1,d,⟨u',us',T1,T2,rfl,rfl,Y,h3⟩,aY,h=>by
  have hn:=aAU.1 aY;obtain ⟨v,S1,k1,k2,k3,k4,k5,k6⟩:=RepL.put1 h3 hn.2.1 (by simpa using h)
  refine ⟨v,S1,by simpa using k1,k2,λb Z=>by simp [k3 b Z],k4,λj dj hj hd=>?_,λw' d' S1' hk hr gB hs=>?_⟩
  ·cases j with
   |zero=>
    simp at hd;subst hd;exact ⟨u',T1,rfl,Y,λb Z=>⟨by simp [Z],λaS=>hn.2.2 b Z b (k3 b aS) rfl⟩⟩
   |succ j=>
    obtain ⟨vj,Sj,m1,m2,m3⟩:=k5 j dj (by omega) (by simpa using hd)
    exact ⟨vj,Sj,by simpa using m1,m2,λb Z=>⟨by simp [(m3 b Z).1],(m3 b Z).2⟩⟩
  ·obtain ⟨S',m1,m2,m3⟩:=k6 w' d' S1' (λb Z aS=>hk b (by simp [Z]) aS) hr gB (λb Z=>by
    rcases hs b Z with h|h
    ·exact .inl h
    ·exact .inr λaS=>h (by simp [aS]))
   refine ⟨T1++S',RepL.cons_ (Rep.keep _ Y λb Z=>hk b (by simp [Z]) λaS=>hn.2.2 b Z b (k3 b aS) rfl) m1,aAU.2 ⟨hn.1,m2,λa ha b Z e=>?_⟩,λb Z=>?_⟩
   ·subst e
    rcases m3 a Z with h|h
    ·exact hn.2.2 a ha a h rfl
    ·rcases hs a h with h'|h'
     ·exact hn.2.2 a ha a (k3 a h') rfl
     ·exact h' (by simp [ha])
   ·rcases aAS.1 Z with Z|Z
    ·exact .inl (by simp [Z])
    ·rcases m3 b Z with h|h
     ·exact .inl (by simp [h])
     ·exact .inr h
theorem jfz {ds:List D} {us:List Value} {S1:List Nat} {k:Nat} (s0:0<ds.length) (bR:RepL w true ds us S1) (dB:S1.Nodup):∀(p:List Nat) {d0:D} {u:Value} {S:List Nat} {size:Nat} {ty:TypeId} {cs:List D},Rep w true d0 u S->S.Nodup->(∀b∈S1,b∉S)->
 D.get p d0=some (.sl size ty cs)->k+ds.length<=cs.length->
 ∃gg nn cc,hdr w p d0 u=.slice (some ⟨gg,0,none⟩) nn cc/\gg∈S/\w.there gg k ds.length/\
  ∃S',Rep (w.setCells gg k us) true (D.put p k ds d0) u S'/\S'.Nodup/\(∀b∈S',b∈S\/b∈S1)/\∀q,¬jik p k ds.length q->hdr (w.setCells gg k us) q (D.put p k ds d0) u=hdr w q d0 u
 |[],.val _,_,_,_,_,_,_,_,_,hg,_=>by simp [D.get] at hg
 |[],.sl size0 ty0 cs0,u,_,size,ty,cs,⟨vs,T,S',dF,cU,rfl⟩,aY,dK,hg,d2=>by
  simp [D.get] at hg;obtain ⟨rfl,rfl,rfl⟩:=hg;have cQ:=RepL.length _ cU;have gS:=RepL.length _ bR;have hn:=aAU.1 aY;have lB:=dF;rcases kO dF with ⟨rfl,rfl⟩|⟨gg,nn,cc,rfl,rfl,fR,aZ,uS⟩
  ·simp at cQ;omega
  ·obtain ⟨nv,bB,_⟩:=lB
   have oL:nn=nv:=by
    rcases bB.2 with ⟨h,_⟩|⟨_,_,_,h,_⟩
    ·cases h
    ·cases h;rfl
   subst oL;have a7:∀b,b≠gg->(w.setCells gg k us).heap[b]?=w.heap[b]?:=λb Z=>qX us w gg k b Z
   have c8:∀b∈S1,b≠gg:=λb Z e=>dK b Z (by simp [e])
   have o9:∀b∈S',b≠gg:=λb Z e=>hn.2.2 gg (by simp) b Z e.symm
   have l6:=RepL.keep (w':=w.setCells gg k us) _ cU λb Z=>a7 b (o9 b Z)
   have oN:=RepL.keep (w':=w.setCells gg k us) _ bR λb Z=>a7 b (c8 b Z)
   obtain ⟨S2,V,Y,h3⟩:=RepL.setAt_ (c:=k) oN l6 (aAU.2 ⟨hn.2.1,dB,λa ha b Z e=>dK b Z (by simp [<-e,ha])⟩) d2
   have d3:=(zp us k bB).1;rw [jgq] at d3;refine ⟨gg,nn,cc,rfl,by simp,jbg bB k ds.length (by omega),[gg]++S2,⟨_,[gg],S2,⟨nn,d3,rfl⟩,V,rfl⟩,aAU.2 ⟨by simp,Y,λa ha b Z e=>?_⟩,λb Z=>?_,λq hq=>?_⟩
   ·simp at ha;subst ha;subst e
    rcases h3 a Z with h|h
    ·exact o9 a h rfl
    ·exact c8 a h rfl
   ·rcases aAS.1 Z with Z|Z
    ·exact .inl (by simp at Z⊢;exact .inl Z)
    ·rcases h3 b Z with h|h
     ·exact .inl (by simp [h])
     ·exact .inr h
   ·cases q with
    |nil=>rfl
    |cons j r=>
     have hj:¬(k<=j/\j<k+ds.length):=λh=>hq ⟨j,r,rfl,h.1,h.2⟩
     simp only [D.put,hdr,aBK];rw [zm ds cs0 k j hj];cases hc:cs0[j]? with
     |none=>rfl
     |some d=>
      obtain ⟨v,Sj,k1,k2,k3⟩:=RepL.nth cU hc;have aC:j<nn*size0:=by have:=(aAR.1 k1).1;omega
      have e1:w.cell? ⟨gg,j,none⟩=some v:=aZ j v k1
      have e2:(w.setCells gg k us).cell? ⟨gg,j,none⟩=some v:=by
       rw [World.ownsRow.cellAt d3 j aC,zm us vs k j (by omega),k1]
      simp only [e1,e2,aCF];exact jab r k2 λb Z=>a7 b (o9 b (k3 b Z))
 |i::p,.val _,_,_,_,_,_,_,_,_,hg,_=>by simp [D.get] at hg
 |i::p,.sl size0 ty0 cs0,u,_,size,ty,cs,⟨vs,T,S',dF,cU,rfl⟩,aY,dK,hg,d2=>by
  simp only [D.get] at hg;cases hc:cs0[i]? with
  |none=>rw [hc] at hg;simp at hg
  |some d=>
   rw [hc] at hg;have hn:=aAU.1 aY;obtain ⟨v,Si,k1,k2,k3,k4,k5,k6⟩:=RepL.put1 cU hn.2.1 hc;have lB:=dF;rcases kO dF with ⟨rfl,rfl⟩|⟨g0,nn0,cc0,rfl,rfl,fR,aZ,uS⟩
   ·simp at k1
   ·obtain ⟨gg,nn,cc,m1,m2,m3,Si',m4,m5,m6,m7⟩:=jfz s0 bR dB p k2 k4 (λb Z aS=>dK b Z (by simp [k3 b aS])) hg d2
    have a7:∀b,b≠gg->(w.setCells gg k us).heap[b]?=w.heap[b]?:=λb Z=>qX us w gg k b Z
    have pA:g0≠gg:=λe=>hn.2.2 g0 (by simp) gg (k3 gg m2) e
    obtain ⟨S2,q1,q2,q3⟩:=k6 (w.setCells gg k us) (D.put p k ds d) Si' (λb Z aS=>a7 b λe=>aS (e▸m2)) m4 m5 (λb Z=>by
     rcases m6 b Z with h|h
     ·exact .inl h
     ·exact .inr λaS=>dK b h (by simp [aS]))
    have gM:∀j v,vs[j]?=some v->(w.setCells gg k us).cell? ⟨g0,j,none⟩=some v:=λj v hv=>by
     rw [World.cell?_of_block (w:=w) (a:=⟨g0,j,none⟩) (a7 g0 pA)];exact aZ j v hv
    have e0:hdr w (i::p) (.sl size0 ty0 cs0) (.slice (some ⟨g0,0,none⟩) nn0 cc0)=hdr w p d v:=by
     simp only [hdr,hc,aBK,aZ i v k1,aCF]
    refine ⟨gg,nn,cc,by rw [e0];exact m1,by simp [k3 gg m2],m3,[g0]++S2,⟨vs,[g0],S2,dF.keep λb Z=>a7 b (by simp at Z;subst Z;exact pA),?_,rfl⟩,aAU.2 ⟨by simp,q2,λa ha b Z e=>?_⟩,λb Z=>?_,λq hq=>?_⟩
    ·simp only [D.put,hc];exact q1
    ·simp at ha;subst ha;subst e
     rcases q3 a Z with h|h
     ·exact hn.2.2 a (by simp) a h rfl
     ·rcases m6 a h with h'|h'
      ·exact hn.2.2 a (by simp) a (k3 a h') rfl
      ·exact dK a h' (by simp)
    ·rcases aAS.1 Z with Z|Z
     ·exact .inl (by simp at Z⊢;exact .inl Z)
     ·rcases q3 b Z with h|h
      ·exact .inl (by simp [h])
      ·rcases m6 b h with h'|h'
       ·exact .inl (by simp [k3 b h'])
       ·exact .inr h'
    ·cases q with
     |nil=>rfl
     |cons j r=>
      simp only [D.put,hc,hdr,aBK];by_cases hj:j=i
      ·subst hj
       have aC:j<cs0.length:=(aAR.1 hc).1;rw [aBJ aC];simp only [hc,gM j v k1,aZ j v k1,aCF];exact m7 r λ⟨j',r',e,V,Y⟩=>hq ⟨j',r',by rw [e];rfl,V,Y⟩
      ·rw [aCQ (Ne.symm hj)]
       cases yA:cs0[j]? with
       |none=>rfl
       |some dj=>
        obtain ⟨vj,Sj,n1,n2,n3⟩:=k5 j dj hj yA;simp only [gM j vj n1,aZ j vj n1,aCF];exact jab r n2 λb Z=>a7 b λe=>(n3 b Z).2 (e▸m2)
theorem CRel.put1:∀{cs:List Cell} {us:List Value} {S:List Nat} {c:Nat} {d:D} {η:jl},CRel B w cs us S->S.Nodup->cs[c]?=some (.own d η)->
 ∃u S1,d.isSl=true/\Rep w true d u S1/\(∀p,η p=hdr w p d u)/\(∀b∈S1,b∈S)/\S1.Nodup/\
 ∀(w':World) (d':D) (aW:jl) (S1':List Nat),Below B w w'->(∀b∈S,b∉S1->w'.heap[b]?=w.heap[b]?)->d'.isSl=true->Rep w' true d' u S1'->(∀p,aW p=hdr w' p d' u)->S1'.Nodup->(∀b∈S1',b∈S1\/b∉S)->
  ∃S',CRel B w' (cs.set c (.own d' aW)) us S'/\S'.Nodup/\∀b∈S',b∈S\/b∈S1'
 |[],_,_,_,_,_,_,_,h=>by simp at h
 |.a x::cs,_,_,0,_,_,_,_,h=>by simp at h
 |.a x::cs,_,S,c+1,d,η,⟨u,us',rfl,Y,h3⟩,aY,h=>by
  obtain ⟨v,S1,k0,k1,k2,k3,k4,k5⟩:=CRel.put1 h3 aY (by simpa using h)
  refine ⟨v,S1,k0,k1,k2,k3,k4,λw' d' aW S1' Z hk hs hr hη hn b9=>?_⟩
  obtain ⟨S',m1,m2,m3⟩:=k5 w' d' aW S1' Z hk hs hr hη hn b9;exact ⟨S',⟨u,us',rfl,Y.mono Z,m1⟩,m2,m3⟩
 |.own d0 eJ::cs,_,_,0,d,η,⟨u,us',T1,T2,rfl,rfl,h3,h4,h5,h6⟩,aY,h=>by
  simp at h;obtain ⟨rfl,rfl⟩:=h;have hn:=aAU.1 aY;refine ⟨u,T1,h3,h4,h5,λb Z=>by simp [Z],hn.1,λw' d' aW S1' Z hk hs hr hη gB b9=>?_⟩
  refine ⟨S1'++T2,⟨u,us',S1',T2,rfl,rfl,hs,hr,hη,h6.keep Z λb aS=>hk b (by simp [aS]) λtJ=>hn.2.2 b tJ b aS rfl⟩,aAU.2 ⟨gB,hn.2.1,λa ha b aS e=>?_⟩,λb aS=>?_⟩
  ·subst e
   rcases b9 a ha with h|h
   ·exact hn.2.2 a h a aS rfl
   ·exact h (by simp [aS])
  ·rcases aAS.1 aS with aS|aS
   ·exact .inr aS
   ·exact .inl (by simp [aS])
 |.own d0 eJ::cs,_,_,c+1,d,η,⟨u,us',T1,T2,rfl,rfl,h3,h4,h5,h6⟩,aY,h=>by
  have hn:=aAU.1 aY;obtain ⟨v,S1,k0,k1,k2,k3,k4,k5⟩:=CRel.put1 h6 hn.2.1 (by simpa using h)
  refine ⟨v,S1,k0,k1,k2,λb Z=>by simp [k3 b Z],k4,λw' d' aW S1' Z hk hs hr hη gB b9=>?_⟩
  obtain ⟨S',m1,m2,m3⟩:=k5 w' d' aW S1' Z (λb aH bA=>hk b (by simp [aH]) bA) hs hr hη gB (λb aH=>by
   rcases b9 b aH with h|h
   ·exact .inl h
   ·exact .inr λh'=>h (by simp [h']))
  have hT:∀b∈T1,w'.heap[b]?=w.heap[b]?:=λb aH=>hk b (by simp [aH]) λbA=>hn.2.2 b aH b (k3 b bA) rfl
  refine ⟨T1++S',⟨u,us',T1,S',rfl,rfl,h3,Rep.keep _ h4 hT,λp=>by rw [jab p h4 hT];exact h5 p,m1⟩,aAU.2 ⟨hn.1,m2,λa ha b aH e=>?_⟩,λb aH=>?_⟩
  ·subst e
   rcases m3 a aH with h|h
   ·exact hn.2.2 a ha a h rfl
   ·rcases b9 a h with h'|h'
    ·exact hn.2.2 a ha a (k3 a h') rfl
    ·exact h' (by simp [ha])
  ·rcases aAS.1 aH with aH|aH
   ·exact .inl (by simp [aH])
   ·rcases m3 b aH with h|h
    ·exact .inl (by simp [h])
    ·exact .inr h
theorem ORel.put1 {ob:Ob} {S:List Nat} {c:Nat} {d:D} {η:jl} (ho:ORel B w ob S) (aY:S.Nodup) (h:ob.own c=some (d,η)):
 ∃u S1,d.isSl=true/\Rep w true d u S1/\(∀p,η p=hdr w p d u)/\(∀b∈S1,b∈S)/\S1.Nodup/\
 ∀(w':World) (d':D) (aW:jl) (S1':List Nat),Below B w w'->(∀b∈S,b∉S1->w'.heap[b]?=w.heap[b]?)->d'.isSl=true->Rep w' true d' u S1'->(∀p,aW p=hdr w' p d' u)->S1'.Nodup->(∀b∈S1',b∈S1\/b∉S)->
  ∃S',ORel B w' (ob.putOwn c d' aW) S'/\S'.Nodup/\∀b∈S',b∈S\/b∈S1':=by
 cases ob with
 |none=>simp [Ob.own] at h
 |loose d0 eJ=>
  cases c with
  |succ c=>simp [Ob.own] at h
  |zero=>
   simp [Ob.own] at h;obtain ⟨rfl,rfl⟩:=h;obtain ⟨h0,u,V,Y⟩:=ho;exact ⟨u,S,h0,V,Y,λ_ h=>h,aY,λw' d' aW S1' _ _ hs hr hη hn _=>⟨S1',⟨hs,u,hr,hη⟩,hn,λb Z=>.inr Z⟩⟩
 |box b ty cs=>
  obtain ⟨us,S0,V,Y,rfl⟩:=ho;have hn:=aBN.1 aY
  have hc:cs[c]?=some (.own d η):=by
   simp only [Ob.own] at h;split at h
   ·simp at h;obtain ⟨rfl,rfl⟩:=h;assumption
   ·simp at h
  obtain ⟨u,S1,k0,k1,k2,k3,k4,k5⟩:=Y.put1 hn.2 hc;refine ⟨u,S1,k0,k1,k2,λb Z=>by simp [k3 b Z],k4,λw' d' aW S1' Z hk hs hr hη gB b9=>?_⟩
  obtain ⟨S',m1,m2,m3⟩:=k5 w' d' aW S1' Z (λb aH bA=>hk b (by simp [aH]) bA) hs hr hη gB (λb aH=>by
   rcases b9 b aH with h|h
   ·exact .inl h
   ·exact .inr λh'=>h (by simp [h']))
  refine ⟨b::S',⟨us,S',(hk b (by simp) λaH=>hn.1 (k3 b aH)).trans V,m1,rfl⟩,aBN.2 ⟨λaH=>?_,m2⟩,λx hx=>?_⟩
  ·rcases m3 b aH with h|h
   ·exact hn.1 h
   ·rcases b9 b h with h'|h'
    ·exact hn.1 (k3 b h')
    ·exact h' (by simp)
  ·rcases aBB.1 hx with rfl|hx
   ·exact .inl (by simp)
   ·rcases m3 x hx with h|h
    ·exact .inl (by simp [h])
    ·exact .inr h
theorem joG:∀(p:List Nat) (i:Nat) (ds:List D) {d:D},d.isSl=true->(D.put p i ds d).isSl=true
 |[],_,_,.sl _ _ _,_=>rfl
 |_::_,_,_,.sl _ _ _,_=>rfl
 |[],_,_,.val _,h=>by cases h
 |_::_,_,_,.val _,h=>by cases h
theorem jbt:∀{ks:List (Option (Nat×Nat))} {cs:List Cell} {us:List Value} {S:List Nat} {ds:List D},CRel B w cs us S->qG ks cs=some ds->RepL w true ds us S
 |_,[],us,S,ds,h,hd=>by simp [qG] at hd;subst hd;exact h
 |ks,.a x::cs,us,S,ds,⟨u,us',V,Y,h3⟩,hd=>by
  cases x with
  |v x=>
   simp only [qG] at hd;split at hd
   ·simp at hd;subst hd
    subst V;rw [show u=x from Y]
    exact ⟨x,us',[],S,rfl,rfl,jiB _ _,jbt h3 (by assumption)⟩
   ·simp at hd
  |_=>simp [qG] at hd
 |ks,.own d η::cs,us,S,ds,⟨u,us',S1,S2,V,Y,_,h4,_,h6⟩,hd=>by
  simp only [qG] at hd;split at hd
  ·simp at hd;subst hd
   subst V Y;exact RepL.cons_ h4 (jbt h6 (by assumption))
  ·simp at hd
theorem jbn {j:Nat} {r:List Nat} {v:Value}:∀(p:List Nat) {d:D} {u:Value} {size:Nat} {ty:TypeId} {cs:List D},D.get p d=some (.sl size ty cs)->cs[j]?=some (.val v)->hdr w (p++j::r) d u=undef
 |[],.val _,_,_,_,_,hg,_=>by simp [D.get] at hg
 |[],.sl s t cs0,u,size,ty,cs,hg,hc=>by
  simp [D.get] at hg;obtain ⟨rfl,rfl,rfl⟩:=hg;simp only [aCA];have hv:∀x,hdr w r (.val v) x=undef:=λx=>by cases r<;>rfl
  cases u with
  |slice A n c=>cases A with
   |some a=>simp only [hdr,hc,hv]
   |none=>rfl
  |_=>rfl
 |i::p,.val _,_,_,_,_,hg,_=>by simp [D.get] at hg
 |i::p,.sl s t cs0,u,size,ty,cs,hg,hc=>by
  simp only [D.get] at hg;cases hi:cs0[i]? with
  |none=>rw [hi] at hg;simp at hg
  |some d'=>
   rw [hi] at hg;cases u with
   |slice A n c=>cases A with
    |some a=>simp only [aDD,hdr,hi];exact jbn p hg hc
    |none=>rfl
   |_=>rfl
theorem zr:∀(p:List Nat) {d:D} {k:Nat} {ds:List D} {size:Nat} {ty:TypeId} {cs:List D},D.get p d=some (.sl size ty cs)->D.get p (D.put p k ds d)=some (.sl size ty (kg cs k ds))
 |[],.val _,_,_,_,_,_,hg=>by simp [D.get] at hg
 |[],.sl s t cs0,k,ds,size,ty,cs,hg=>by
  simp [D.get] at hg;obtain ⟨rfl,rfl,rfl⟩:=hg;simp [D.put,D.get]
 |i::p,.val _,_,_,_,_,_,hg=>by simp [D.get] at hg
 |i::p,.sl s t cs0,k,ds,size,ty,cs,hg=>by
  simp only [D.get] at hg;cases hi:cs0[i]? with
  |none=>rw [hi] at hg;simp at hg
  |some d'=>
   rw [hi] at hg;simp only [D.put,hi,D.get];rw [aBJ (aAR.1 hi).1];exact zr p hg
theorem zw:∀{l:List D} {j:Nat},jT l=true->j<l.length->∃v,l[j]?=some (.val v)
 |.val u::l,0,_,_=>⟨u,rfl⟩
 |.val u::l,j+1,h,hj=>by simp only [jT,aBH] at h;simpa using zw h.2 (by simpa using hj)
 |.sl _ _ _::_,_,h,_=>by simp [jT] at h
 |[],_,_,hj=>by simp at hj
theorem jd0 {α:Type}:∀(vs:List α) (cs:List α) (k j:Nat),k+vs.length<=cs.length->k<=j->j<k+vs.length->(kg cs k vs)[j]?=vs[j-k]?
 |[],cs,k,j,_,V,Y=>by simp at Y;omega
 |v::vs,cs,k,j,hl,V,Y=>by
  simp only [aCG] at hl Y;show (kg (cs.set k v) (k+1) vs)[j]?=_;by_cases e:j=k
  ·subst e
   have keep:∀(vs:List α) (cs:List α) (k j:Nat),j<k->(kg cs k vs)[j]?=cs[j]?:=by
    intro vs
    induction vs with
    |nil=>intros;rfl
    |cons a vs ih=>intro cs k j hj;show (kg (cs.set k a) (k+1) vs)[j]?=_;rw [ih _ _ _ (by omega),aCQ (by omega)]
   rw [keep _ _ _ _ (by omega),aBJ (by omega)];simp
  ·rw [jd0 vs _ _ _ (by simp;omega) (by omega) (by omega),show j-k=(j-(k+1))+1 by omega];simp
theorem ok_st (h:RelF B w0 N s a w F) {t:TypeId} {x y:Operand} {x' y':X} {n:Nat} {ks:List (Option (Nat×Nat))} {g:Option (Nat×Bool)} (ho:o.op=.store t x y) (hn:jZ P t=some n) (hx:jr x=some x') (hy:jr y=some y') (hr:kK P β ⟨o.dst,g,.st n ks x' y'⟩ s K):
 OpOk P o a w (λa' w'=>∃s' F',RelF B w0 N s' a' w' F'/\K s'):=by
 obtain ⟨gG,l,Y,h3,h4⟩:=hr;simp only at gG;obtain ⟨us,h5,h6⟩:=VRel.cells (kn h hy) Y;obtain ⟨inf,c7,bT⟩:=jdY hn;have gS:=A0RelL.len h6;have ha:a.put o.dst undef=a:=by rw [gG];rfl
 have hI:=kn h hx;obtain ⟨cs,s',S,F',hk,k2,k3,k4,k5,k6,k7,k8⟩:=vM h h6 h4;have aJ:=CRel.len k2;split at hk
 ·rename_i k c b he
  obtain ⟨ty,ds,k0,kc,kk⟩:=hk;have hp:a.eval x=.pointer (some ⟨b,c,none⟩):=by rw [he] at hI;exact hI
  have bL:=k3.ob k;rw [k0] at bL;obtain ⟨vs,S0,j1,j2,j3⟩:=bL;have cQ:=CRel.len j2
  have a8:(execOp a.eval o).run P w=.ok .skip (w.setCells b c us):=by
   have bG:=run_storeCells_cells (P:=P) b c us 0 w (λj hj=>by
    have:c+j<vs.length:=by omega
    simp [World.cell?,j1,this]) (λj hj=>by simp [World.frozen?,j1]) k8
   simp only [aAQ] at bG;simp [execOp,ho,Instr.storeAt,hp,Instr.sureAddr,storeVar,h5,sizeOf,typeInfo,c7,bT,gS,h3,bG]
  obtain ⟨j4,j5⟩:=jbm us w b c vs ty j1;obtain ⟨j6,j7,j8,j9⟩:=qK us w b c;have fG:=k3.fr k;rw [j3] at fG;have tW:B<=b:=fG.2 b (by simp)
  have Z:Below B w (w.setCells b c us):=⟨j6,j7,j8,by rw [j9];exact aAV _,λi hi=>j5 i (by omega)⟩
  have uX:∀g',g'≠k->b∉F' g':=λg' cR hh=>k3.dj g' k cR b hh (by rw [j3];simp)
  have yG:b∉S:=λhh=>k5 k b hh (by rw [j3];simp)
  have tH:b∉S0:=(aBN.1 fG.1).1;have dK:(S0++S).Nodup:=aAU.2 ⟨(aBN.1 fG.1).2,k4.1,λx hx y hy e=>k5 k y hy (by rw [j3];simp [<-e,hx])⟩
  obtain ⟨S',m1,m2,m3⟩:=CRel.setAt_ (c:=c) k2 j2 dK (by omega)
  have iJ:b∉S':=λhh=>by rcases m3 b hh with h|h;exact tH h;exact yG h
  have r1:=k3.setO (g:=k) (ob:=.none) (S:=[]) rfl (Fresh.nil _) (by simp)
  have r2:=r1.world' Z λg' x hx=>by
   split at hx
   ·simp at hx
   ·rename_i cR
    exact j5 x λe=>uX g' cR (e▸hx)
  have sC:ORel B (w.setCells b c us) (.box b ty (kg ds c cs)) (b::S'):=⟨_,S',j4,m1.keep Z λx hx=>j5 x λe=>iJ (e▸hx),rfl⟩
  have r3:=r2.setO (g:=k) sC ⟨aBN.2 ⟨iJ,m2⟩,λx hx=>by
   rcases aBB.1 hx with rfl|hx
   ·exact tW
   ·rcases m3 x hx with h|h
    ·exact fG.2 x (by simp [h])
    ·exact k4.2 x h⟩ (λg' cR x hx=>by
   rw [if_neg cR];rcases aBB.1 hx with rfl|hx
   ·exact uX g' cR
   ·rcases m3 x hx with h|h
    ·exact λhh=>k3.dj g' k cR x hh (by rw [j3];simp [h])
    ·exact k5 g' x h)
  have fN:(s'.setO k .none).setO k (.box b ty (kg ds c cs))=s'.setO k (.box b ty (kg ds c cs)):=by
   simp only [St.setO,St.mk.injEq,true_and]
   funext i;split<;>rfl
  rw [fN] at r3;exact OpOk.of_skip a8 (by rw [ha];exact ⟨_,_,r3,kk⟩)
 ·rename_i k c p i m9 he
  obtain ⟨l9,ds,s7,d0,η,dd,j1,j2,j3,j4,j5,hk⟩:=hk;have hp:a.eval x=.pointer (some (vT m9 i)):=by rw [he] at hI;exact hI
  have bR:=jbt k2 s7;have gH:=RepL.length _ bR;have x5:ds.length=n:=by omega
  have fG:=k3.fr k;obtain ⟨u,S1,q0,q1,q2,q3,q4,q5⟩:=ORel.put1 (k3.ob k) fG.1 j1;cases dd with
  |val _=>cases j4
  |sl size ty cs0=>
   simp only [D.cells] at j5;obtain ⟨gg,nn,cc,r1,r2,r3,S1',r4,r5,r6,r7⟩:=jfz (k:=i) (by omega) bR k4.1 p q1 q4 (λb Z aS=>k5 k b Z (q3 b aS)) j3 (by omega)
   have o8:m9=.slice (some ⟨gg,0,none⟩) nn cc:=by rw [<-j2,q2,r1]
   have fF:a.eval x=.pointer (some ⟨gg,i,none⟩):=by rw [hp,o8];simp [vT]
   have a8:(execOp a.eval o).run P w=.ok .skip (w.setCells gg i us):=by
    have bG:=run_storeCells_cells (P:=P) gg i us 0 w (λj hj=>(r3 j (by omega)).1) (λj hj=>(r3 j (by omega)).2) k8
    simp only [aAQ] at bG;simp [execOp,ho,Instr.storeAt,fF,Instr.sureAddr,storeVar,h5,sizeOf,typeInfo,c7,bT,gS,h3,bG]
   obtain ⟨j6,j7,j8,j9⟩:=qK us w gg i;have gD:gg∈F' k:=q3 gg r2;have tW:B<=gg:=fG.2 gg gD;have a7:∀b,b≠gg->(w.setCells gg i us).heap[b]?=w.heap[b]?:=λb Z=>qX us w gg i b Z
   have Z:Below B w (w.setCells gg i us):=⟨j6,j7,j8,by rw [j9];exact aAV _,λj hj=>a7 j (by omega)⟩
   have eF:(D.put p i ds d0).isSl=true:=joG _ _ _ q0
   obtain ⟨S',m1,m2,m3⟩:=q5 (w.setCells gg i us) (D.put p i ds d0) (λq=>hdr (w.setCells gg i us) q (D.put p i ds d0) u) S1' Z (λb _ bA=>a7 b λe=>bA (e▸r2)) eF r4 (λ_=>rfl) r5 (λb aH=>by
    rcases r6 b aH with h|h
    ·exact .inl h
    ·exact .inr λh'=>k5 k b h h')
   have t1:=k3.setO (g:=k) (ob:=.none) (S:=[]) rfl (Fresh.nil _) (by simp)
   have t2:=t1.world' Z λg' x hx=>by
    split at hx
    ·simp at hx
    ·rename_i cR
     exact a7 x λe=>k3.dj g' k cR x hx (e▸gD)
   have gO:∀x∈S',x∈F' k\/x∈S:=λx hx=>by
    rcases m3 x hx with h|h
    ·exact .inl h
    ·rcases r6 x h with h'|h'
     ·exact .inl (q3 x h')
     ·exact .inr h'
   have t3:=t2.setO (g:=k) m1 ⟨m2,λx hx=>by
    rcases gO x hx with h|h
    ·exact fG.2 x h
    ·exact k4.2 x h⟩ (λg' cR x hx=>by
    rw [if_neg cR];rcases gO x hx with h|h
    ·exact λhh=>k3.dj g' k cR x hh h
    ·exact k5 g' x h)
   have fN:(s'.setO k .none).setO k ((s'.o k).putOwn c (D.put p i ds d0) (λq=>hdr (w.setCells gg i us) q (D.put p i ds d0) u))=s'.setO k ((s'.o k).putOwn c (D.put p i ds d0) (λq=>hdr (w.setCells gg i us) q (D.put p i ds d0) u)):=by
    simp only [St.setO,St.mk.injEq,true_and]
    funext i;split<;>rfl
   rw [fN] at t3
   exact OpOk.of_skip a8 (by
    rw [ha];have eB:∀q,¬jik p i n q->hdr (w.setCells gg i us) q (D.put p i ds d0) u=η q:=λq hq=>by rw [q2];exact r7 q (by rw [x5];exact hq)
    refine ⟨_,_,t3,joB hk eB λhf=>?_⟩
    simp only [aBH] at hf
    funext q
    by_cases hq:jik p i n q
    ·obtain ⟨j,r,rfl,hZ,mI⟩:=hq
     obtain ⟨v1,d7⟩:=zw (j:=j-i) hf.1 (by omega)
     obtain ⟨v2,lA⟩:=zw (j:=j-i) hf.2 (by simp only [D.cells,aBA,List.length_drop];omega)
     rw [q2];rw [jbn (w:=w.setCells gg i us) (j:=j) (v:=v1) p (zr p j3) (by rw [jd0 _ _ _ _ (by omega) hZ (by omega)];exact d7)]
     refine (jbn (v:=v2) p j3 ?_).symm;rw [<-lA];simp only [D.cells];rw [aBV,if_pos (by omega),aBQ]
     congr 1;omega
    ·exact eB q hq)
 ·exact hk.elim
end
