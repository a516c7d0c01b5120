/- Parts. -/
import Derived.Test.YtmnpailnelmpiaaQE4bd
import Derived.Lib.AppendStr
set_option linter.unusedSimpArgs false
set_option linter.unusedVariables false
namespace Go.Proofs.Ytmnpailnelmpiaa
open Go.RowKit Go.Sort
def OpOk (P:Program) (o:Oper) (a:Act) (w:World) (R:Act→World→Prop):Prop:=
 ∀(next:Act→World→Prop) (Q:Exit→Act→World→Prop),(∀a' w',R a' w'→next a' w')→o.wp P a w next Q
section
variable {P:Program} {β B N:Nat} {w w0:World} {s:St} {a:Act} {F:Nat→List Nat} {o:Oper} {K:St→Prop}
theorem OpOk.of_run {w':World} {R:Act→World→Prop} {v:Value} (h:(execOp a.eval o).run P w=.ok (.value v) w') (hr:R (a.put o.dst v) w'):OpOk P o a w R:=
 fun _ _ hk=>by unfold Oper.wp;rw [h];exact hk _ w' hr
theorem OpOk.of_skip {w':World} {R:Act→World→Prop} (h:(execOp a.eval o).run P w=.ok .skip w') (hr:R (a.put o.dst undef) w'):OpOk P o a w R:=
 fun _ _ hk=>by unfold Oper.wp;rw [h];exact hk _ w' hr
theorem jbX:∀{l:List A0} {us:List Value} {s:St} {F:Nat→List Nat} {K:List Cell→St→Prop},RelF B w0 N s a w F→A0RelL B w l us→kM s l K→
 ∃cs s' S F',K cs s'∧CRel B w cs us S∧RelF B w0 N s' a w F'∧Fresh B S∧(∀g,∀b∈S,b∉F' g)∧(∀g b,b∈F' g→b∈F g)∧(∀b∈S,∃g,b∈F g)∧(∀u∈us,u.oneCell'=true)
 |[],us,s,F,K,h,hr,hk=>⟨[],s,[],F,hk,⟨hr,rfl⟩,h,Fresh.nil _,by simp,fun _ _ h=>h,by simp,by rw [show us=[] from hr];simp⟩
 |x::l,us,s,F,K,h,⟨u,us',h1,h2,h3⟩,hk=>by
  subst h1
  have plain:∀(x:A0),A0Rel B w x u→x.one=true→kM s l (fun cs s'=>K (.a x::cs) s')→∃cs s' S F',K cs s'∧CRel B w cs (u::us') S∧RelF B w0 N s' a w F'∧Fresh B S∧(∀g,∀b∈S,b∉F' g)∧(∀g b,b∈F' g→b∈F g)∧(∀b∈S,∃g,b∈F g)∧(∀u'∈u::us',u'.oneCell'=true):=by
   intro x h2 hone hk;obtain ⟨cs,s',S,F',k1,k2,k3,k4,k5,k6,k7,k8⟩:=jbX h h3 hk;refine ⟨_,s',S,F',k1,⟨u,us',rfl,h2,k2⟩,k3,k4,k5,k6,k7,fun u' hu=>?_⟩
   rcases List.mem_cons.1 hu with rfl|hu
   ·exact h2.one hone
   ·exact k8 u' hu
  cases x with
  |h g c p x=>
   obtain ⟨rfl,d,η,ho,hx,hk⟩:=hk;obtain ⟨u',S1,F1,j1,j2,j3,j4,j5,j6,j7,j8⟩:=h.rm ho;obtain ⟨cs,s',S2,F',k1,k2,k3,k4,k5,k6,k7,k8⟩:=jbX j5 h3 hk
   have hu:u=u':=by
    rw [h2.1,←hx,j3,vL j1]
   subst hu
   have hdis:∀b∈S1,b∉S2:=fun b hb hb'=>by
    obtain ⟨g',hg'⟩:=k7 b hb';exact j6 g' b hb hg'
   refine ⟨_,s',S1++S2,F',k1,⟨u,us',S1,S2,rfl,rfl,j1,j2,j3,k2⟩,k3,⟨List.nodup_append.2 ⟨j4.1,k4.1,fun x hx y hy e=>hdis x hx (e▸hy)⟩,fun b hb=>?_⟩,fun g' b hb=>?_,fun g' b hb=>j8 g' b (k6 g' b hb),fun b hb=>?_,fun u' hu=>?_⟩
   ·rcases List.mem_append.1 hb with hb|hb
    ·exact j4.2 b hb
    ·exact k4.2 b hb
   ·rcases List.mem_append.1 hb with hb|hb
    ·exact fun hb'=>j6 g' b hb (k6 g' b hb')
    ·exact k5 g' b hb
   ·rcases List.mem_append.1 hb with hb|hb
    ·exact ⟨g,j7 b hb⟩
    ·obtain ⟨g',hg'⟩:=k7 b hb;exact ⟨g',j8 g' b hg'⟩
   ·rcases List.mem_cons.1 hu with rfl|hu
    ·cases d with
     |val _=>cases j1
     |sl _ _ _=>obtain ⟨_,_,_,rfl⟩:=qW j2;rfl
    ·exact k8 u' hu
  |v x=>exact plain _ h2 hk.1 hk.2
  |ro x=>exact plain _ h2 hk.1 hk.2
  |rp x=>exact plain _ h2 hk.1 hk.2
  |bp x y z=>exact plain _ h2 hk.1 hk.2
  |ep x y z i j=>exact plain _ h2 hk.1 hk.2
  |un=>exact plain _ h2 hk.1 hk.2
  |hs=>exact plain _ h2 hk.1 hk.2
theorem jn1 (h:RelF B w0 N s a w F) {f:Nat} {args:List AV} {xs:List Value} (hrun:(execOp a.eval o).run P w=.ok (.enter f xs.toArray) w) (hv:jib B w args xs) (hd:∀k,o.dst=some k→k<N)
 (ht:Turns P f args s.o fun rt o'=>∀η:Nat→jm,K (((⟨s.t,o'⟩:St).addO (jkI (100*(β+o.dst.getD 0)) η 0 rt.flat)).put o.dst (rt.av (100*(β+o.dst.getD 0)) η))):
 OpOk P o a w (fun a' w'=>∃s' F',RelF B w0 N s' a' w' F'∧K s'):=by
 intro next Q hk;unfold Oper.wp;rw [hrun];refine (ht.2 B w F xs h.bare hv).mono fun e w' ⟨v,rt,o',S,F',he,hr,hrt,hf,hdj,hR⟩=>?_
 subst he;have hb:Below B w w':=hr.below;obtain ⟨η,h1,h2⟩:=jrt (B:=B) (100*(β+o.dst.getD 0)) hrt;have h3:RelF B w0 N ⟨s.t,o'⟩ a w' F':=⟨h.below.trans hb,h.hB,h.df,h.sz,fun n=>(h.sl n).mono hb,hr.ob,hr.fr,hr.dj⟩
 obtain ⟨F2,h4⟩:=h3.addO h2 hf hdj;exact hk _ _ ⟨_,F2,h4.put h1 hd,hR η⟩
theorem jzi (h:RelF B w0 N s a w F) {f:Nat} {args:List AV} {xs:List Value} (hrun:(execOp a.eval o).run P w=.ok (.enter f xs.toArray) w) (hv:jib B w args xs) (hd:∀k,o.dst=some k→k<N)
 (ht:Inl P f args s.o fun av o'=>K (St.put ⟨s.t,o'⟩ o.dst av)):
 OpOk P o a w (fun a' w'=>∃s' F',RelF B w0 N s' a' w' F'∧K s'):=by
 intro next Q hk;unfold Oper.wp;rw [hrun];refine (ht.2 B w F xs h.bare hv).mono fun e w' ⟨v,av,o',F',he,hr,hva,hR⟩=>?_
 subst he;have hb:Below B w w':=hr.below;have h3:RelF B w0 N ⟨s.t,o'⟩ a w' F':=⟨h.below.trans hb,h.hB,h.df,h.sz,fun n=>(h.sl n).mono hb,hr.ob,hr.fr,hr.dj⟩
 exact hk _ _ ⟨_,F',h3.put hva hd,hR⟩
theorem jsU (w:World):Below w.heap.size w w.drew:=⟨rfl,rfl,rfl,Nat.le_refl _,fun _ _=>rfl⟩
theorem jzl (h:RelF B w0 N s a w F) {e:TypeId} {x:Operand} {x':X} {n:Nat} {g:Option (Nat×Bool)} (ho:o.op=.box e x) (hx:jC x=some x') (hd:∀k,o.dst=some k→k<N) (hr:qC P β ⟨o.dst,g,.box e n x'⟩ s K):
 OpOk P o a w (fun a' w'=>∃s' F',RelF B w0 N s' a' w' F'∧K s'):=by
 obtain ⟨l,h1,_,h2⟩:=hr;obtain ⟨us,h3,h4⟩:=VRel.cells (qb h hx) h1;obtain ⟨cs,s',S,F',k1,k2,k3,k4,k5,k6,k7,_⟩:=jbX h h4 h2
 have hrun:(execOp a.eval o).run P w=.ok (.value (.pointer (some ⟨w.heap.size,0,none⟩))) (w.alloc (.cells us.toArray e)):=by
  simp [execOp,ho,Instr.box,newVar,newRow,h3]
 have hb:Below w.heap.size w (w.alloc (.cells us.toArray e)):=(Below.refl _ _).alloc (Nat.le_refl _) _;have hB:B≤w.heap.size:=Nat.le_trans h.hB h.below.size;have hSlt:∀b∈S,b<w.heap.size:=fun b hb'=>k2.lt b hb'
 have hob:ORel B (w.alloc (.cells us.toArray e)) (.box w.heap.size e cs) (w.heap.size::S):=
  ⟨us,S,jok _ _,k2.keep (hb.mono hB) fun b hb'=>hb.block b (hSlt b hb'),rfl⟩
 have hF'lt:∀g,∀b∈F' g,b<w.heap.size:=fun g b hb'=>(k3.ob g).lt b hb'
 have h5:=(k3.world hb).setO (g:=100*(β+o.dst.getD 0)) hob ⟨List.nodup_cons.2 ⟨fun hh=>by have:=hSlt _ hh;omega,k4.1⟩,fun b hb'=>by rcases List.mem_cons.1 hb' with rfl|hb';exact hB;exact k4.2 b hb'⟩ (fun g' _ b hb'=>by
  rcases List.mem_cons.1 hb' with rfl|hb'
  ·exact fun hh=>by have:=hF'lt g' _ hh;omega
  ·exact k5 g' b hb')
 exact OpOk.of_run hrun ⟨_,_,h5.put (v:=.c (.bp (100*(β+o.dst.getD 0)) 0 w.heap.size)) rfl hd,k1 w.heap.size⟩
theorem RelF.world' (h:RelF B w0 N s a w F) {w':World} (hb:Below B w w') (hk:∀g,∀b∈F g,w'.heap[b]?=w.heap[b]?):RelF B w0 N s a w' F:=
 ⟨h.below.trans hb,h.hB,h.df,h.sz,fun n=>(h.sl n).mono hb,fun g=>(h.ob g).keep hb (hk g),h.fr,h.dj⟩
theorem CRel.set1 {x:Cell} {u:Value} {S1:List Nat} (hx:CRel B w [x] [u] S1):∀{ds:List Cell} {us:List Value} {S0:List Nat} {c:Nat},CRel B w ds us S0→(S0++S1).Nodup→c<ds.length→
 ∃S',CRel B w (ds.set c x) (us.set c u) S'∧S'.Nodup∧∀b∈S',b∈S0∨b∈S1
 |[],_,_,_,_,_,hc=>by simp at hc
 |y::ds,us,S0,0,hr,hnd,_=>by
  have hcons:∀{us':List Value} {S2:List Nat},CRel B w ds us' S2→CRel B w (x::ds) (u::us') (S1++S2):=by
   intro us' S2 h2;cases x with
   |a x=>obtain ⟨u',us'',h3,h4,h5,h6⟩:=hx;cases h3;subst h6;exact ⟨u,us',rfl,h4,h2⟩
   |own d η=>
    obtain ⟨u',us'',T1,T2,h3,h4,h5,h6,h7,h8,h9⟩:=hx;cases h3;subst h9;rw [List.append_nil] at h4;subst h4;exact ⟨u,us',S1,S2,rfl,rfl,h5,h6,h7,h2⟩
  cases y with
  |a y=>
   obtain ⟨u',us',rfl,_,h3⟩:=hr;refine ⟨_,hcons h3,?_,fun b hb=>?_⟩
   ·exact (List.perm_append_comm.nodup_iff).1 hnd
   ·rcases List.mem_append.1 hb with hb|hb
    ·exact .inr hb
    ·exact .inl hb
  |own d η=>
   obtain ⟨u',us',T1,T2,rfl,rfl,_,_,_,h3⟩:=hr;refine ⟨_,hcons h3,?_,fun b hb=>?_⟩
   ·rw [List.append_assoc] at hnd
    exact (List.perm_append_comm.nodup_iff).1 (List.nodup_append.1 hnd).2.1
   ·rcases List.mem_append.1 hb with hb|hb
    ·exact .inr hb
    ·exact .inl (by simp [hb])
 |y::ds,us,S0,c+1,hr,hnd,hc=>by
  cases y with
  |a y=>
   obtain ⟨u',us',rfl,h2,h3⟩:=hr;obtain ⟨S',h4,h5,h6⟩:=CRel.set1 hx h3 hnd (by simpa using hc)
   exact ⟨S',⟨u',_,rfl,h2,h4⟩,h5,h6⟩
  |own d η=>
   obtain ⟨u',us',T1,T2,rfl,rfl,h1,h2,h2',h3⟩:=hr;rw [List.append_assoc] at hnd;have hn:=List.nodup_append.1 hnd;obtain ⟨S',h4,h5,h6⟩:=CRel.set1 hx h3 hn.2.1 (by simpa using hc)
   refine ⟨T1++S',⟨u',_,T1,S',rfl,rfl,h1,h2,h2',h4⟩,List.nodup_append.2 ⟨hn.1,h5,fun a ha b hb e=>hn.2.2 a ha b (by rcases h6 b hb with h|h<;>simp [h]) e⟩,fun b hb=>?_⟩
   rcases List.mem_append.1 hb with hb|hb
   ·exact .inl (by simp [hb])
   ·rcases h6 b hb with h|h
    ·exact .inl (by simp [h])
    ·exact .inr h
theorem CRel.setAt_:∀{cs:List Cell} {us:List Value} {S:List Nat} {ds:List Cell} {vs:List Value} {S0:List Nat} {c:Nat},CRel B w cs us S→CRel B w ds vs S0→(S0++S).Nodup→c+cs.length≤ds.length→
 ∃S',CRel B w (kC ds c cs) (kC vs c us) S'∧S'.Nodup∧∀b∈S',b∈S0∨b∈S
 |[],us,S,ds,vs,S0,c,⟨h1,h2⟩,h3,hnd,_=>by
  subst h1 h2;rw [List.append_nil] at hnd;exact ⟨S0,h3,hnd,fun b hb=>.inl hb⟩
 |x::cs,us,S,ds,vs,S0,c,hr,h3,hnd,hc=>by
  obtain ⟨u,us',S1,S2,rfl,rfl,h4,h5⟩:∃u us' S1 S2,us=u::us'∧S=S1++S2∧CRel B w [x] [u] S1∧CRel B w cs us' S2:=by
   cases x with
   |a x=>obtain ⟨u,us',h1,h2,h4⟩:=hr;exact ⟨u,us',[],S,h1,rfl,⟨u,[],rfl,h2,rfl,rfl⟩,h4⟩
   |own d η=>obtain ⟨u,us',S1,S2,h1,h2,k1,k2,k3,h4⟩:=hr;exact ⟨u,us',S1,S2,h1,h2,⟨u,[],S1,[],rfl,by simp,k1,k2,k3,rfl,rfl⟩,h4⟩
  rw [←List.append_assoc] at hnd;obtain ⟨S',h6,h7,h8⟩:=CRel.set1 (c:=c) h4 h3 (List.nodup_append.1 hnd).1 (by simp at hc;omega)
  have hn:=List.nodup_append.1 hnd;obtain ⟨S'',h9,h10,h11⟩:=CRel.setAt_ (c:=c+1) h5 h6 (List.nodup_append.2 ⟨h7,hn.2.1,fun a ha b hb e=>hn.2.2 a (by rcases h8 a ha with h|h<;>simp [h]) b hb e⟩) (by simp at hc⊢;omega)
  refine ⟨S'',h9,h10,fun b hb=>?_⟩
  rcases h11 b hb with h|h
  ·rcases h8 b h with h|h
   ·exact .inl h
   ·exact .inr (by simp [h])
  ·exact .inr (by simp [h])
theorem jdW:∀(vs:List Value) (w:World) (b o:Nat) (us:List Value) (ty:TypeId),w.heap[b]?=some (.cells us.toArray ty (0,0))→(w.setCells b o vs).heap[b]?=some (.cells (kC us o vs).toArray ty (0,0))∧∀k,k≠b→(w.setCells b o vs).heap[k]?=w.heap[k]?
 |[],w,b,o,us,ty,h=>⟨h,fun _ _=>rfl⟩
 |v::vs,w,b,o,us,ty,h=>by
  have h1:(w.setCell ⟨b,o,none⟩ v).heap[b]?=some (.cells (us.set o v).toArray ty (0,0)):=by
   have hlt:=zX h;have:w.heap[b]=.cells us.toArray ty (0,0):=by rw [Array.getElem?_eq_getElem hlt] at h;exact Option.some.inj h
   simp [World.setCell,Array.getElem?_modify,h]
  obtain ⟨h2,h3⟩:=jdW vs (w.setCell ⟨b,o,none⟩ v) b (o+1) (us.set o v) ty h1;exact ⟨h2,fun k hk=>(h3 k hk).trans (Below.heap_setCell w ⟨b,o,none⟩ v k hk)⟩
theorem vR:∀(vs:List Value) (w:World) (b o:Nat),(w.setCells b o vs).os=w.os∧(w.setCells b o vs).tape=w.tape∧(w.setCells b o vs).output=w.output∧(w.setCells b o vs).heap.size=w.heap.size
 |[],_,_,_=>⟨rfl,rfl,rfl,rfl⟩
 |v::vs,w,b,o=>by
  obtain ⟨h1,h2,h3,h4⟩:=vR vs (w.setCell ⟨b,o,none⟩ v) b (o+1);exact ⟨h1,h2,h3,h4.trans (by simp [World.setCell])⟩
theorem jk1:∀(xs:List Value) (vs:List Value) (o:Nat),jiU vs o xs=kC vs o xs
 |[],_,_=>rfl
 |x::xs,vs,o=>by rw [jiU,kC,jk1 xs]
theorem zb:∀(vs:List Value) (w:World) (b o k:Nat),k≠b→(w.setCells b o vs).heap[k]?=w.heap[k]?
 |[],_,_,_,_,_=>rfl
 |v::vs,w,b,o,k,hk=>(zb vs _ b (o+1) k hk).trans (Below.heap_setCell w ⟨b,o,none⟩ v k hk)
theorem jbg {α:Type}:∀(xs:List α) (l:List α) (k j:Nat),¬(k≤j∧j<k+xs.length)→(kC l k xs)[j]?=l[j]?
 |[],_,_,_,_=>rfl
 |x::xs,l,k,j,h=>by
  rw [kC,jbg xs _ (k+1) j (by simp at h;omega),List.getElem?_set_ne (by simp at h;omega)]
theorem RepL.set1 {d:D} {u:Value} {S1:List Nat} (hx:Rep w true d u S1):∀{cs:List D} {vs:List Value} {S0:List Nat} {c:Nat},RepL w true cs vs S0→(S0++S1).Nodup→c<cs.length→
 ∃S',RepL w true (cs.set c d) (vs.set c u) S'∧S'.Nodup∧∀b∈S',b∈S0∨b∈S1
 |[],_,_,_,_,_,hc=>by simp at hc
 |y::cs,_,_,0,⟨u',us',T1,T2,rfl,rfl,_,h3⟩,hnd,_=>by
  refine ⟨S1++T2,RepL.cons_ hx h3,?_,fun b hb=>?_⟩
  ·rw [List.append_assoc] at hnd
   exact (List.perm_append_comm.nodup_iff).1 (List.nodup_append.1 hnd).2.1
  ·rcases List.mem_append.1 hb with hb|hb
   ·exact .inr hb
   ·exact .inl (by simp [hb])
 |y::cs,_,_,c+1,⟨u',us',T1,T2,rfl,rfl,h2,h3⟩,hnd,hc=>by
  rw [List.append_assoc] at hnd;have hn:=List.nodup_append.1 hnd;obtain ⟨S',h4,h5,h6⟩:=RepL.set1 hx h3 hn.2.1 (by simpa using hc)
  refine ⟨T1++S',RepL.cons_ h2 h4,List.nodup_append.2 ⟨hn.1,h5,fun a ha b hb e=>hn.2.2 a ha b (by rcases h6 b hb with h|h<;>simp [h]) e⟩,fun b hb=>?_⟩
  rcases List.mem_append.1 hb with hb|hb
  ·exact .inl (by simp [hb])
  ·rcases h6 b hb with h|h
   ·exact .inl (by simp [h])
   ·exact .inr h
theorem RepL.setAt_:∀{ds:List D} {us:List Value} {S:List Nat} {cs:List D} {vs:List Value} {S0:List Nat} {c:Nat},RepL w true ds us S→RepL w true cs vs S0→(S0++S).Nodup→c+ds.length≤cs.length→
 ∃S',RepL w true (kC cs c ds) (kC vs c us) S'∧S'.Nodup∧∀b∈S',b∈S0∨b∈S
 |[],us,S,cs,vs,S0,c,⟨h1,h2⟩,h3,hnd,_=>by
  subst h1 h2;rw [List.append_nil] at hnd;exact ⟨S0,h3,hnd,fun b hb=>.inl hb⟩
 |x::ds,_,_,cs,vs,S0,c,⟨u,us',S1,S2,rfl,rfl,h4,h5⟩,h3,hnd,hc=>by
  rw [←List.append_assoc] at hnd;obtain ⟨S',h6,h7,h8⟩:=RepL.set1 (c:=c) h4 h3 (List.nodup_append.1 hnd).1 (by simp at hc;omega)
  have hn:=List.nodup_append.1 hnd;obtain ⟨S'',h9,h10,h11⟩:=RepL.setAt_ (c:=c+1) h5 h6 (List.nodup_append.2 ⟨h7,hn.2.1,fun a ha b hb e=>hn.2.2 a (by rcases h8 a ha with h|h<;>simp [h]) b hb e⟩) (by simp at hc⊢;omega)
  refine ⟨S'',h9,h10,fun b hb=>?_⟩
  rcases h11 b hb with h|h
  ·rcases h8 b h with h|h
   ·exact .inl h
   ·exact .inr (by simp [h])
  ·exact .inr (by simp [h])
theorem RepL.put1:∀{cs:List D} {vs:List Value} {S:List Nat} {k:Nat} {d:D},RepL w true cs vs S→S.Nodup→cs[k]?=some d→
 ∃v S1,vs[k]?=some v∧Rep w true d v S1∧(∀b∈S1,b∈S)∧S1.Nodup∧(∀j dj,j≠k→cs[j]?=some dj→∃vj Sj,vs[j]?=some vj∧Rep w true dj vj Sj∧∀b∈Sj,b∈S∧b∉S1)∧
 ∀(w':World) (d':D) (S1':List Nat),(∀b∈S,b∉S1→w'.heap[b]?=w.heap[b]?)→Rep w' true d' v S1'→S1'.Nodup→(∀b∈S1',b∈S1∨b∉S)→
  ∃S',RepL w' true (cs.set k d') vs S'∧S'.Nodup∧∀b∈S',b∈S∨b∈S1'
 |[],_,_,_,_,_,_,h=>by simp at h
 |y::cs,_,_,0,d,⟨u',us',T1,T2,rfl,rfl,h2,h3⟩,hnd,h=>by
  simp at h;subst h;have hn:=List.nodup_append.1 hnd;refine ⟨u',T1,rfl,h2,fun b hb=>by simp [hb],hn.1,fun j dj hj hd=>?_,fun w' d' S1' hk hr hn' hs=>?_⟩
  ·cases j with
   |zero=>exact absurd rfl hj
   |succ j=>
    obtain ⟨vj,Sj,k1,k2,k3⟩:=RepL.nth h3 (by simpa using hd)
    exact ⟨vj,Sj,by simpa using k1,k2,fun b hb=>⟨by simp [k3 b hb],fun hb'=>hn.2.2 b hb' b (k3 b hb) rfl⟩⟩
  ·refine ⟨S1'++T2,RepL.cons_ hr (RepL.keep _ h3 fun b hb=>hk b (by simp [hb]) fun hb'=>hn.2.2 b hb' b hb rfl),List.nodup_append.2 ⟨hn',hn.2.1,fun a ha b hb e=>?_⟩,fun b hb=>?_⟩
   ·subst e
    rcases hs a ha with h|h
    ·exact hn.2.2 a h a hb rfl
    ·exact h (by simp [hb])
   ·rcases List.mem_append.1 hb with hb|hb
    ·exact .inr hb
    ·exact .inl (by simp [hb])
 |y::cs,_,_,k+1,d,⟨u',us',T1,T2,rfl,rfl,h2,h3⟩,hnd,h=>by
  have hn:=List.nodup_append.1 hnd;obtain ⟨v,S1,k1,k2,k3,k4,k5,k6⟩:=RepL.put1 h3 hn.2.1 (by simpa using h)
  refine ⟨v,S1,by simpa using k1,k2,fun b hb=>by simp [k3 b hb],k4,fun j dj hj hd=>?_,fun w' d' S1' hk hr hn' hs=>?_⟩
  ·cases j with
   |zero=>
    simp at hd;subst hd;exact ⟨u',T1,rfl,h2,fun b hb=>⟨by simp [hb],fun hb'=>hn.2.2 b hb b (k3 b hb') rfl⟩⟩
   |succ j=>
    obtain ⟨vj,Sj,m1,m2,m3⟩:=k5 j dj (by omega) (by simpa using hd)
    exact ⟨vj,Sj,by simpa using m1,m2,fun b hb=>⟨by simp [(m3 b hb).1],(m3 b hb).2⟩⟩
  ·obtain ⟨S',m1,m2,m3⟩:=k6 w' d' S1' (fun b hb hb'=>hk b (by simp [hb]) hb') hr hn' (fun b hb=>by
    rcases hs b hb with h|h
    ·exact .inl h
    ·exact .inr fun hb'=>h (by simp [hb']))
   refine ⟨T1++S',RepL.cons_ (Rep.keep _ h2 fun b hb=>hk b (by simp [hb]) fun hb'=>hn.2.2 b hb b (k3 b hb') rfl) m1,List.nodup_append.2 ⟨hn.1,m2,fun a ha b hb e=>?_⟩,fun b hb=>?_⟩
   ·subst e
    rcases m3 a hb with h|h
    ·exact hn.2.2 a ha a h rfl
    ·rcases hs a h with h'|h'
     ·exact hn.2.2 a ha a (k3 a h') rfl
     ·exact h' (by simp [ha])
   ·rcases List.mem_append.1 hb with hb|hb
    ·exact .inl (by simp [hb])
    ·rcases m3 b hb with h|h
     ·exact .inl (by simp [h])
     ·exact .inr h
theorem jjO {ds:List D} {us:List Value} {S1:List Nat} {k:Nat} (hds:0<ds.length) (hnew:RepL w true ds us S1) (hn1:S1.Nodup):∀(p:List Nat) {d0:D} {u:Value} {S:List Nat} {size:Nat} {ty:TypeId} {cs:List D},Rep w true d0 u S→S.Nodup→(∀b∈S1,b∉S)→
 D.get p d0=some (.sl size ty cs)→k+ds.length≤cs.length→
 ∃gg nn cc,hdr w p d0 u=.slice (some ⟨gg,0,none⟩) nn cc∧gg∈S∧w.there gg k ds.length∧
  ∃S',Rep (w.setCells gg k us) true (D.put p k ds d0) u S'∧S'.Nodup∧(∀b∈S',b∈S∨b∈S1)∧∀q,¬jnr p k ds.length q→hdr (w.setCells gg k us) q (D.put p k ds d0) u=hdr w q d0 u
 |[],.val _,_,_,_,_,_,_,_,_,hg,_=>by simp [D.get] at hg
 |[],.sl size0 ty0 cs0,u,_,size,ty,cs,⟨vs,T,S',hrow,hrl,rfl⟩,hnd,hdis,hg,hle=>by
  simp [D.get] at hg;obtain ⟨rfl,rfl,rfl⟩:=hg;have hvl:=RepL.length _ hrl;have hul:=RepL.length _ hnew;have hn:=List.nodup_append.1 hnd;have hrow0:=hrow;rcases kY hrow with ⟨rfl,rfl⟩|⟨gg,nn,cc,rfl,rfl,hvn,hcell,hfz⟩
  ·simp at hvl;omega
  ·obtain ⟨nv,hown,_⟩:=hrow0
   have hnn:nn=nv:=by
    rcases hown.2 with ⟨h,_⟩|⟨_,_,_,h,_⟩
    ·cases h
    ·cases h;rfl
   subst hnn;have hne:∀b,b≠gg→(w.setCells gg k us).heap[b]?=w.heap[b]?:=fun b hb=>zb us w gg k b hb
   have hg1:∀b∈S1,b≠gg:=fun b hb e=>hdis b hb (by simp [e])
   have hg2:∀b∈S',b≠gg:=fun b hb e=>hn.2.2 gg (by simp) b hb e.symm
   have hrl':=RepL.keep (w':=w.setCells gg k us) _ hrl fun b hb=>hne b (hg2 b hb)
   have hnew':=RepL.keep (w':=w.setCells gg k us) _ hnew fun b hb=>hne b (hg1 b hb)
   obtain ⟨S2,h1,h2,h3⟩:=RepL.setAt_ (c:=k) hnew' hrl' (List.nodup_append.2 ⟨hn.2.1,hn1,fun a ha b hb e=>hdis b hb (by simp [←e,ha])⟩) hle
   have hset:=(jbp us k hown).1;rw [jk1] at hset;refine ⟨gg,nn,cc,rfl,by simp,jrS hown k ds.length (by omega),[gg]++S2,⟨_,[gg],S2,⟨nn,hset,rfl⟩,h1,rfl⟩,List.nodup_append.2 ⟨by simp,h2,fun a ha b hb e=>?_⟩,fun b hb=>?_,fun q hq=>?_⟩
   ·simp at ha;subst ha;subst e
    rcases h3 a hb with h|h
    ·exact hg2 a h rfl
    ·exact hg1 a h rfl
   ·rcases List.mem_append.1 hb with hb|hb
    ·exact .inl (by simp at hb⊢;exact .inl hb)
    ·rcases h3 b hb with h|h
     ·exact .inl (by simp [h])
     ·exact .inr h
   ·cases q with
    |nil=>rfl
    |cons j r=>
     have hj:¬(k≤j∧j<k+ds.length):=fun h=>hq ⟨j,r,rfl,h.1,h.2⟩
     simp only [D.put,hdr,Nat.zero_add];rw [jbg ds cs0 k j hj];cases hc:cs0[j]? with
     |none=>rfl
     |some d=>
      obtain ⟨v,Sj,k1,k2,k3⟩:=RepL.nth hrl hc;have hlt:j<nn*size0:=by have:=(List.getElem?_eq_some_iff.1 k1).1;omega
      have e1:w.cell? ⟨gg,j,none⟩=some v:=hcell j v k1
      have e2:(w.setCells gg k us).cell? ⟨gg,j,none⟩=some v:=by
       rw [World.ownsRow.cellAt hset j hlt,jbg us vs k j (by omega),k1]
      simp only [e1,e2,Option.getD_some];exact jb7 r k2 fun b hb=>hne b (hg2 b (k3 b hb))
 |i::p,.val _,_,_,_,_,_,_,_,_,hg,_=>by simp [D.get] at hg
 |i::p,.sl size0 ty0 cs0,u,_,size,ty,cs,⟨vs,T,S',hrow,hrl,rfl⟩,hnd,hdis,hg,hle=>by
  simp only [D.get] at hg;cases hc:cs0[i]? with
  |none=>rw [hc] at hg;simp at hg
  |some d=>
   rw [hc] at hg;have hn:=List.nodup_append.1 hnd;obtain ⟨v,Si,k1,k2,k3,k4,k5,k6⟩:=RepL.put1 hrl hn.2.1 hc;have hrow0:=hrow;rcases kY hrow with ⟨rfl,rfl⟩|⟨g0,nn0,cc0,rfl,rfl,hvn,hcell,hfz⟩
   ·simp at k1
   ·obtain ⟨gg,nn,cc,m1,m2,m3,Si',m4,m5,m6,m7⟩:=jjO hds hnew hn1 p k2 k4 (fun b hb hb'=>hdis b hb (by simp [k3 b hb'])) hg hle
    have hne:∀b,b≠gg→(w.setCells gg k us).heap[b]?=w.heap[b]?:=fun b hb=>zb us w gg k b hb
    have hg0:g0≠gg:=fun e=>hn.2.2 g0 (by simp) gg (k3 gg m2) e
    obtain ⟨S2,q1,q2,q3⟩:=k6 (w.setCells gg k us) (D.put p k ds d) Si' (fun b hb hb'=>hne b fun e=>hb' (e▸m2)) m4 m5 (fun b hb=>by
     rcases m6 b hb with h|h
     ·exact .inl h
     ·exact .inr fun hb'=>hdis b h (by simp [hb']))
    have hcell0:∀j v,vs[j]?=some v→(w.setCells gg k us).cell? ⟨g0,j,none⟩=some v:=fun j v hv=>by
     rw [World.cell?_of_block (w:=w) (a:=⟨g0,j,none⟩) (hne g0 hg0)];exact hcell j v hv
    have e0:hdr w (i::p) (.sl size0 ty0 cs0) (.slice (some ⟨g0,0,none⟩) nn0 cc0)=hdr w p d v:=by
     simp only [hdr,hc,Nat.zero_add,hcell i v k1,Option.getD_some]
    refine ⟨gg,nn,cc,by rw [e0];exact m1,by simp [k3 gg m2],m3,[g0]++S2,⟨vs,[g0],S2,hrow.keep fun b hb=>hne b (by simp at hb;subst hb;exact hg0),?_,rfl⟩,List.nodup_append.2 ⟨by simp,q2,fun a ha b hb e=>?_⟩,fun b hb=>?_,fun q hq=>?_⟩
    ·simp only [D.put,hc];exact q1
    ·simp at ha;subst ha;subst e
     rcases q3 a hb with h|h
     ·exact hn.2.2 a (by simp) a h rfl
     ·rcases m6 a h with h'|h'
      ·exact hn.2.2 a (by simp) a (k3 a h') rfl
      ·exact hdis a h' (by simp)
    ·rcases List.mem_append.1 hb with hb|hb
     ·exact .inl (by simp at hb⊢;exact .inl hb)
     ·rcases q3 b hb with h|h
      ·exact .inl (by simp [h])
      ·rcases m6 b h with h'|h'
       ·exact .inl (by simp [k3 b h'])
       ·exact .inr h'
    ·cases q with
     |nil=>rfl
     |cons j r=>
      simp only [D.put,hc,hdr,Nat.zero_add];by_cases hj:j=i
      ·subst hj
       have hlt:j<cs0.length:=(List.getElem?_eq_some_iff.1 hc).1;rw [List.getElem?_set_self hlt];simp only [hc,hcell0 j v k1,hcell j v k1,Option.getD_some];exact m7 r fun ⟨j',r',e,h1,h2⟩=>hq ⟨j',r',by rw [e];rfl,h1,h2⟩
      ·rw [List.getElem?_set_ne (Ne.symm hj)]
       cases hcj:cs0[j]? with
       |none=>rfl
       |some dj=>
        obtain ⟨vj,Sj,n1,n2,n3⟩:=k5 j dj hj hcj;simp only [hcell0 j vj n1,hcell j vj n1,Option.getD_some];exact jb7 r n2 fun b hb=>hne b fun e=>(n3 b hb).2 (e▸m2)
theorem CRel.put1:∀{cs:List Cell} {us:List Value} {S:List Nat} {c:Nat} {d:D} {η:jm},CRel B w cs us S→S.Nodup→cs[c]?=some (.own d η)→
 ∃u S1,d.isSl=true∧Rep w true d u S1∧(∀p,η p=hdr w p d u)∧(∀b∈S1,b∈S)∧S1.Nodup∧
 ∀(w':World) (d':D) (η':jm) (S1':List Nat),Below B w w'→(∀b∈S,b∉S1→w'.heap[b]?=w.heap[b]?)→d'.isSl=true→Rep w' true d' u S1'→(∀p,η' p=hdr w' p d' u)→S1'.Nodup→(∀b∈S1',b∈S1∨b∉S)→
  ∃S',CRel B w' (cs.set c (.own d' η')) us S'∧S'.Nodup∧∀b∈S',b∈S∨b∈S1'
 |[],_,_,_,_,_,_,_,h=>by simp at h
 |.a x::cs,_,_,0,_,_,_,_,h=>by simp at h
 |.a x::cs,_,S,c+1,d,η,⟨u,us',rfl,h2,h3⟩,hnd,h=>by
  obtain ⟨v,S1,k0,k1,k2,k3,k4,k5⟩:=CRel.put1 h3 hnd (by simpa using h)
  refine ⟨v,S1,k0,k1,k2,k3,k4,fun w' d' η' S1' hb hk hs hr hη hn hsub=>?_⟩
  obtain ⟨S',m1,m2,m3⟩:=k5 w' d' η' S1' hb hk hs hr hη hn hsub;exact ⟨S',⟨u,us',rfl,h2.mono hb,m1⟩,m2,m3⟩
 |.own d0 η0::cs,_,_,0,d,η,⟨u,us',T1,T2,rfl,rfl,h3,h4,h5,h6⟩,hnd,h=>by
  simp at h;obtain ⟨rfl,rfl⟩:=h;have hn:=List.nodup_append.1 hnd;refine ⟨u,T1,h3,h4,h5,fun b hb=>by simp [hb],hn.1,fun w' d' η' S1' hb hk hs hr hη hn' hsub=>?_⟩
  refine ⟨S1'++T2,⟨u,us',S1',T2,rfl,rfl,hs,hr,hη,h6.keep hb fun b hb'=>hk b (by simp [hb']) fun hb''=>hn.2.2 b hb'' b hb' rfl⟩,List.nodup_append.2 ⟨hn',hn.2.1,fun a ha b hb' e=>?_⟩,fun b hb'=>?_⟩
  ·subst e
   rcases hsub a ha with h|h
   ·exact hn.2.2 a h a hb' rfl
   ·exact h (by simp [hb'])
  ·rcases List.mem_append.1 hb' with hb'|hb'
   ·exact .inr hb'
   ·exact .inl (by simp [hb'])
 |.own d0 η0::cs,_,_,c+1,d,η,⟨u,us',T1,T2,rfl,rfl,h3,h4,h5,h6⟩,hnd,h=>by
  have hn:=List.nodup_append.1 hnd;obtain ⟨v,S1,k0,k1,k2,k3,k4,k5⟩:=CRel.put1 h6 hn.2.1 (by simpa using h)
  refine ⟨v,S1,k0,k1,k2,fun b hb=>by simp [k3 b hb],k4,fun w' d' η' S1' hb hk hs hr hη hn' hsub=>?_⟩
  obtain ⟨S',m1,m2,m3⟩:=k5 w' d' η' S1' hb (fun b hb1 hb2=>hk b (by simp [hb1]) hb2) hs hr hη hn' (fun b hb1=>by
   rcases hsub b hb1 with h|h
   ·exact .inl h
   ·exact .inr fun h'=>h (by simp [h']))
  have hT:∀b∈T1,w'.heap[b]?=w.heap[b]?:=fun b hb1=>hk b (by simp [hb1]) fun hb2=>hn.2.2 b hb1 b (k3 b hb2) rfl
  refine ⟨T1++S',⟨u,us',T1,S',rfl,rfl,h3,Rep.keep _ h4 hT,fun p=>by rw [jb7 p h4 hT];exact h5 p,m1⟩,List.nodup_append.2 ⟨hn.1,m2,fun a ha b hb1 e=>?_⟩,fun b hb1=>?_⟩
  ·subst e
   rcases m3 a hb1 with h|h
   ·exact hn.2.2 a ha a h rfl
   ·rcases hsub a h with h'|h'
    ·exact hn.2.2 a ha a (k3 a h') rfl
    ·exact h' (by simp [ha])
  ·rcases List.mem_append.1 hb1 with hb1|hb1
   ·exact .inl (by simp [hb1])
   ·rcases m3 b hb1 with h|h
    ·exact .inl (by simp [h])
    ·exact .inr h
theorem ORel.put1 {ob:Ob} {S:List Nat} {c:Nat} {d:D} {η:jm} (ho:ORel B w ob S) (hnd:S.Nodup) (h:ob.own c=some (d,η)):
 ∃u S1,d.isSl=true∧Rep w true d u S1∧(∀p,η p=hdr w p d u)∧(∀b∈S1,b∈S)∧S1.Nodup∧
 ∀(w':World) (d':D) (η':jm) (S1':List Nat),Below B w w'→(∀b∈S,b∉S1→w'.heap[b]?=w.heap[b]?)→d'.isSl=true→Rep w' true d' u S1'→(∀p,η' p=hdr w' p d' u)→S1'.Nodup→(∀b∈S1',b∈S1∨b∉S)→
  ∃S',ORel B w' (ob.putOwn c d' η') S'∧S'.Nodup∧∀b∈S',b∈S∨b∈S1':=by
 cases ob with
 |none=>simp [Ob.own] at h
 |loose d0 η0=>
  cases c with
  |succ c=>simp [Ob.own] at h
  |zero=>
   simp [Ob.own] at h;obtain ⟨rfl,rfl⟩:=h;obtain ⟨h0,u,h1,h2⟩:=ho;exact ⟨u,S,h0,h1,h2,fun _ h=>h,hnd,fun w' d' η' S1' _ _ hs hr hη hn _=>⟨S1',⟨hs,u,hr,hη⟩,hn,fun b hb=>.inr hb⟩⟩
 |box b ty cs=>
  obtain ⟨us,S0,h1,h2,rfl⟩:=ho;have hn:=List.nodup_cons.1 hnd
  have hc:cs[c]?=some (.own d η):=by
   simp only [Ob.own] at h;split at h
   ·simp at h;obtain ⟨rfl,rfl⟩:=h;assumption
   ·simp at h
  obtain ⟨u,S1,k0,k1,k2,k3,k4,k5⟩:=h2.put1 hn.2 hc;refine ⟨u,S1,k0,k1,k2,fun b hb=>by simp [k3 b hb],k4,fun w' d' η' S1' hb hk hs hr hη hn' hsub=>?_⟩
  obtain ⟨S',m1,m2,m3⟩:=k5 w' d' η' S1' hb (fun b hb1 hb2=>hk b (by simp [hb1]) hb2) hs hr hη hn' (fun b hb1=>by
   rcases hsub b hb1 with h|h
   ·exact .inl h
   ·exact .inr fun h'=>h (by simp [h']))
  refine ⟨b::S',⟨us,S',(hk b (by simp) fun hb1=>hn.1 (k3 b hb1)).trans h1,m1,rfl⟩,List.nodup_cons.2 ⟨fun hb1=>?_,m2⟩,fun x hx=>?_⟩
  ·rcases m3 b hb1 with h|h
   ·exact hn.1 h
   ·rcases hsub b h with h'|h'
    ·exact hn.1 (k3 b h')
    ·exact h' (by simp)
  ·rcases List.mem_cons.1 hx with rfl|hx
   ·exact .inl (by simp)
   ·rcases m3 x hx with h|h
    ·exact .inl (by simp [h])
    ·exact .inr h
theorem jvM:∀(p:List Nat) (i:Nat) (ds:List D) {d:D},d.isSl=true→(D.put p i ds d).isSl=true
 |[],_,_,.sl _ _ _,_=>rfl
 |_::_,_,_,.sl _ _ _,_=>rfl
 |[],_,_,.val _,h=>by cases h
 |_::_,_,_,.val _,h=>by cases h
theorem jd1:∀{ks:List (Option (Nat×Nat))} {cs:List Cell} {us:List Value} {S:List Nat} {ds:List D},CRel B w cs us S→vN ks cs=some ds→RepL w true ds us S
 |_,[],us,S,ds,h,hd=>by simp [vN] at hd;subst hd;exact h
 |ks,.a x::cs,us,S,ds,⟨u,us',h1,h2,h3⟩,hd=>by
  cases x with
  |v x=>
   simp only [vN] at hd;split at hd
   ·simp at hd;subst hd
    subst h1;rw [show u=x from h2]
    exact ⟨x,us',[],S,rfl,rfl,jn7 _ _,jd1 h3 (by assumption)⟩
   ·simp at hd
  |_=>simp [vN] at hd
 |ks,.own d η::cs,us,S,ds,⟨u,us',S1,S2,h1,h2,_,h4,_,h6⟩,hd=>by
  simp only [vN] at hd;split at hd
  ·simp at hd;subst hd
   subst h1 h2;exact RepL.cons_ h4 (jd1 h6 (by assumption))
  ·simp at hd
theorem jdX {j:Nat} {r:List Nat} {v:Value}:∀(p:List Nat) {d:D} {u:Value} {size:Nat} {ty:TypeId} {cs:List D},D.get p d=some (.sl size ty cs)→cs[j]?=some (.val v)→hdr w (p++j::r) d u=undef
 |[],.val _,_,_,_,_,hg,_=>by simp [D.get] at hg
 |[],.sl s t cs0,u,size,ty,cs,hg,hc=>by
  simp [D.get] at hg;obtain ⟨rfl,rfl,rfl⟩:=hg;simp only [List.nil_append];have hv:∀x,hdr w r (.val v) x=undef:=fun x=>by cases r<;>rfl
  cases u with
  |slice A n c=>cases A with
   |some a=>simp only [hdr,hc,hv]
   |none=>rfl
  |_=>rfl
 |i::p,.val _,_,_,_,_,hg,_=>by simp [D.get] at hg
 |i::p,.sl s t cs0,u,size,ty,cs,hg,hc=>by
  simp only [D.get] at hg;cases hi:cs0[i]? with
  |none=>rw [hi] at hg;simp at hg
  |some d'=>
   rw [hi] at hg;cases u with
   |slice A n c=>cases A with
    |some a=>simp only [List.cons_append,hdr,hi];exact jdX p hg hc
    |none=>rfl
   |_=>rfl
theorem jbu:∀(p:List Nat) {d:D} {k:Nat} {ds:List D} {size:Nat} {ty:TypeId} {cs:List D},D.get p d=some (.sl size ty cs)→D.get p (D.put p k ds d)=some (.sl size ty (kC cs k ds))
 |[],.val _,_,_,_,_,_,hg=>by simp [D.get] at hg
 |[],.sl s t cs0,k,ds,size,ty,cs,hg=>by
  simp [D.get] at hg;obtain ⟨rfl,rfl,rfl⟩:=hg;simp [D.put,D.get]
 |i::p,.val _,_,_,_,_,_,hg=>by simp [D.get] at hg
 |i::p,.sl s t cs0,k,ds,size,ty,cs,hg=>by
  simp only [D.get] at hg;cases hi:cs0[i]? with
  |none=>rw [hi] at hg;simp at hg
  |some d'=>
   rw [hi] at hg;simp only [D.put,hi,D.get];rw [List.getElem?_set_self (List.getElem?_eq_some_iff.1 hi).1];exact jbu p hg
theorem jbx:∀{l:List D} {j:Nat},kf l=true→j<l.length→∃v,l[j]?=some (.val v)
 |.val u::l,0,_,_=>⟨u,rfl⟩
 |.val u::l,j+1,h,hj=>by simp only [kf,Bool.and_eq_true] at h;simpa using jbx h.2 (by simpa using hj)
 |.sl _ _ _::_,_,h,_=>by simp [kf] at h
 |[],_,_,hj=>by simp at hj
theorem jg4 {α:Type}:∀(vs:List α) (cs:List α) (k j:Nat),k+vs.length≤cs.length→k≤j→j<k+vs.length→(kC cs k vs)[j]?=vs[j-k]?
 |[],cs,k,j,_,h1,h2=>by simp at h2;omega
 |v::vs,cs,k,j,hl,h1,h2=>by
  simp only [List.length_cons] at hl h2;show (kC (cs.set k v) (k+1) vs)[j]?=_;by_cases e:j=k
  ·subst e
   have keep:∀(vs:List α) (cs:List α) (k j:Nat),j<k→(kC cs k vs)[j]?=cs[j]?:=by
    intro vs
    induction vs with
    |nil=>intros;rfl
    |cons a vs ih=>intro cs k j hj;show (kC (cs.set k a) (k+1) vs)[j]?=_;rw [ih _ _ _ (by omega),List.getElem?_set_ne (by omega)]
   rw [keep _ _ _ _ (by omega),List.getElem?_set_self (by omega)];simp
  ·rw [jg4 vs _ _ _ (by simp;omega) (by omega) (by omega),show j-k=(j-(k+1))+1 by omega];simp
theorem ok_st (h:RelF B w0 N s a w F) {t:TypeId} {x y:Operand} {x' y':X} {n:Nat} {ks:List (Option (Nat×Nat))} {g:Option (Nat×Bool)} (ho:o.op=.store t x y) (hn:kD P t=some n) (hx:jC x=some x') (hy:jC y=some y') (hr:qC P β ⟨o.dst,g,.st n ks x' y'⟩ s K):
 OpOk P o a w (fun a' w'=>∃s' F',RelF B w0 N s' a' w' F'∧K s'):=by
 obtain ⟨hdst,l,h2,h3,h4⟩:=hr;simp only at hdst;obtain ⟨us,h5,h6⟩:=VRel.cells (qb h hy) h2;obtain ⟨inf,hinf,hsz⟩:=jjE hn;have hul:=A0RelL.len h6;have ha:a.put o.dst undef=a:=by rw [hdst];rfl
 have hpv:=qb h hx;obtain ⟨cs,s',S,F',hk,k2,k3,k4,k5,k6,k7,k8⟩:=jbX h h6 h4;have hlen:=CRel.len k2;split at hk
 ·rename_i k c b he
  obtain ⟨ty,ds,k0,kc,kk⟩:=hk;have hp:a.eval x=.pointer (some ⟨b,c,none⟩):=by rw [he] at hpv;exact hpv
  have hob:=k3.ob k;rw [k0] at hob;obtain ⟨vs,S0,j1,j2,j3⟩:=hob;have hvl:=CRel.len j2
  have hrun:(execOp a.eval o).run P w=.ok .skip (w.setCells b c us):=by
   have hst:=run_storeCells_cells (P:=P) b c us 0 w (fun j hj=>by
    have:c+j<vs.length:=by omega
    simp [World.cell?,j1,this]) (fun j hj=>by simp [World.frozen?,j1]) k8
   simp only [Nat.add_zero] at hst;simp [execOp,ho,Instr.storeAt,hp,Instr.sureAddr,storeVar,h5,sizeOf,typeInfo,hinf,hsz,hul,h3,hst]
  obtain ⟨j4,j5⟩:=jdW us w b c vs ty j1;obtain ⟨j6,j7,j8,j9⟩:=vR us w b c;have hfk:=k3.fr k;rw [j3] at hfk;have hBb:B≤b:=hfk.2 b (by simp)
  have hb:Below B w (w.setCells b c us):=⟨j6,j7,j8,by rw [j9];exact Nat.le_refl _,fun i hi=>j5 i (by omega)⟩
  have hbF:∀g',g'≠k→b∉F' g':=fun g' hg' hh=>k3.dj g' k hg' b hh (by rw [j3];simp)
  have hbS:b∉S:=fun hh=>k5 k b hh (by rw [j3];simp)
  have hbS0:b∉S0:=(List.nodup_cons.1 hfk.1).1;have hdis:(S0++S).Nodup:=List.nodup_append.2 ⟨(List.nodup_cons.1 hfk.1).2,k4.1,fun x hx y hy e=>k5 k y hy (by rw [j3];simp [←e,hx])⟩
  obtain ⟨S',m1,m2,m3⟩:=CRel.setAt_ (c:=c) k2 j2 hdis (by omega)
  have hbS':b∉S':=fun hh=>by rcases m3 b hh with h|h;exact hbS0 h;exact hbS h
  have r1:=k3.setO (g:=k) (ob:=.none) (S:=[]) rfl (Fresh.nil _) (by simp)
  have r2:=r1.world' hb fun g' x hx=>by
   split at hx
   ·simp at hx
   ·rename_i hg'
    exact j5 x fun e=>hbF g' hg' (e▸hx)
  have hob':ORel B (w.setCells b c us) (.box b ty (kC ds c cs)) (b::S'):=⟨_,S',j4,m1.keep hb fun x hx=>j5 x fun e=>hbS' (e▸hx),rfl⟩
  have r3:=r2.setO (g:=k) hob' ⟨List.nodup_cons.2 ⟨hbS',m2⟩,fun x hx=>by
   rcases List.mem_cons.1 hx with rfl|hx
   ·exact hBb
   ·rcases m3 x hx with h|h
    ·exact hfk.2 x (by simp [h])
    ·exact k4.2 x h⟩ (fun g' hg' x hx=>by
   rw [if_neg hg'];rcases List.mem_cons.1 hx with rfl|hx
   ·exact hbF g' hg'
   ·rcases m3 x hx with h|h
    ·exact fun hh=>k3.dj g' k hg' x hh (by rw [j3];simp [h])
    ·exact k5 g' x h)
  have hss:(s'.setO k .none).setO k (.box b ty (kC ds c cs))=s'.setO k (.box b ty (kC ds c cs)):=by
   simp only [St.setO,St.mk.injEq,true_and]
   funext i;split<;>rfl
  rw [hss] at r3;exact OpOk.of_skip hrun (by rw [ha];exact ⟨_,_,r3,kk⟩)
 ·rename_i k c p i hx0 he
  obtain ⟨hpos,ds,hdat,d0,η,dd,j1,j2,j3,j4,j5,hk⟩:=hk;have hp:a.eval x=.pointer (some (jaz hx0 i)):=by rw [he] at hpv;exact hpv
  have hnew:=jd1 k2 hdat;have hdl:=RepL.length _ hnew;have hdn:ds.length=n:=by omega
  have hfk:=k3.fr k;obtain ⟨u,S1,q0,q1,q2,q3,q4,q5⟩:=ORel.put1 (k3.ob k) hfk.1 j1;cases dd with
  |val _=>cases j4
  |sl size ty cs0=>
   simp only [D.cells] at j5;obtain ⟨gg,nn,cc,r1,r2,r3,S1',r4,r5,r6,r7⟩:=jjO (k:=i) (by omega) hnew k4.1 p q1 q4 (fun b hb hb'=>k5 k b hb (q3 b hb')) j3 (by omega)
   have hhx:hx0=.slice (some ⟨gg,0,none⟩) nn cc:=by rw [←j2,q2,r1]
   have hp':a.eval x=.pointer (some ⟨gg,i,none⟩):=by rw [hp,hhx];simp [jaz]
   have hrun:(execOp a.eval o).run P w=.ok .skip (w.setCells gg i us):=by
    have hst:=run_storeCells_cells (P:=P) gg i us 0 w (fun j hj=>(r3 j (by omega)).1) (fun j hj=>(r3 j (by omega)).2) k8
    simp only [Nat.add_zero] at hst;simp [execOp,ho,Instr.storeAt,hp',Instr.sureAddr,storeVar,h5,sizeOf,typeInfo,hinf,hsz,hul,h3,hst]
   obtain ⟨j6,j7,j8,j9⟩:=vR us w gg i;have hggF:gg∈F' k:=q3 gg r2;have hBb:B≤gg:=hfk.2 gg hggF;have hne:∀b,b≠gg→(w.setCells gg i us).heap[b]?=w.heap[b]?:=fun b hb=>zb us w gg i b hb
   have hb:Below B w (w.setCells gg i us):=⟨j6,j7,j8,by rw [j9];exact Nat.le_refl _,fun j hj=>hne j (by omega)⟩
   have hsl:(D.put p i ds d0).isSl=true:=jvM _ _ _ q0
   obtain ⟨S',m1,m2,m3⟩:=q5 (w.setCells gg i us) (D.put p i ds d0) (fun q=>hdr (w.setCells gg i us) q (D.put p i ds d0) u) S1' hb (fun b _ hb2=>hne b fun e=>hb2 (e▸r2)) hsl r4 (fun _=>rfl) r5 (fun b hb1=>by
    rcases r6 b hb1 with h|h
    ·exact .inl h
    ·exact .inr fun h'=>k5 k b h h')
   have t1:=k3.setO (g:=k) (ob:=.none) (S:=[]) rfl (Fresh.nil _) (by simp)
   have t2:=t1.world' hb fun g' x hx=>by
    split at hx
    ·simp at hx
    ·rename_i hg'
     exact hne x fun e=>k3.dj g' k hg' x hx (e▸hggF)
   have hS'F:∀x∈S',x∈F' k∨x∈S:=fun x hx=>by
    rcases m3 x hx with h|h
    ·exact .inl h
    ·rcases r6 x h with h'|h'
     ·exact .inl (q3 x h')
     ·exact .inr h'
   have t3:=t2.setO (g:=k) m1 ⟨m2,fun x hx=>by
    rcases hS'F x hx with h|h
    ·exact hfk.2 x h
    ·exact k4.2 x h⟩ (fun g' hg' x hx=>by
    rw [if_neg hg'];rcases hS'F x hx with h|h
    ·exact fun hh=>k3.dj g' k hg' x hh h
    ·exact k5 g' x h)
   have hss:(s'.setO k .none).setO k ((s'.o k).putOwn c (D.put p i ds d0) (fun q=>hdr (w.setCells gg i us) q (D.put p i ds d0) u))=s'.setO k ((s'.o k).putOwn c (D.put p i ds d0) (fun q=>hdr (w.setCells gg i us) q (D.put p i ds d0) u)):=by
    simp only [St.setO,St.mk.injEq,true_and]
    funext i;split<;>rfl
   rw [hss] at t3
   exact OpOk.of_skip hrun (by
    rw [ha];have hlike:∀q,¬jnr p i n q→hdr (w.setCells gg i us) q (D.put p i ds d0) u=η q:=fun q hq=>by rw [q2];exact r7 q (by rw [hdn];exact hq)
    refine ⟨_,_,t3,jvD hk hlike fun hf=>?_⟩
    simp only [Bool.and_eq_true] at hf
    funext q
    by_cases hq:jnr p i n q
    ·obtain ⟨j,r,rfl,hj1,hj2⟩:=hq
     obtain ⟨v1,hv1⟩:=jbx (j:=j-i) hf.1 (by omega)
     obtain ⟨v2,hv2⟩:=jbx (j:=j-i) hf.2 (by simp only [D.cells,List.length_take,List.length_drop];omega)
     rw [q2];rw [jdX (w:=w.setCells gg i us) (j:=j) (v:=v1) p (jbu p j3) (by rw [jg4 _ _ _ _ (by omega) hj1 (by omega)];exact hv1)]
     refine (jdX (v:=v2) p j3 ?_).symm;rw [←hv2];simp only [D.cells];rw [List.getElem?_take,if_pos (by omega),List.getElem?_drop]
     congr 1;omega
    ·exact hlike q hq)
 ·exact hk.elim
end
end Go.Proofs.Ytmnpailnelmpiaa
