/- Parts. -/
import Derived.Test.YtmnpailnelmpiaaGreatQE4
import Derived.Lib.AppendStr
set_option linter.unusedSimpArgs false
set_option linter.unusedVariables false
namespace Go.Proofs.YtmnpailnelmpiaaGreat
open Go.RowKit Go.Sort
def OpOk (P:Program) (o:Oper) (a:Act) (w:World) (R:Act→World→Prop):Prop:=
 ∀(next:Act→World→Prop) (Q:Exit→Act→World→Prop),(∀a' w',R a' w'→next a' w')→o.wp P a w next Q
section
variable {P:Program} {β B N:Nat} {w w0:World} {s:St} {a:Act} {F:Nat→List Nat} {o:Oper} {K:St→Prop}
theorem OpOk.of_run {w':World} {R:Act→World→Prop} {v:Value} (h:(execOp a.eval o).run P w=.ok (.value v) w') (hr:R (a.put o.dst v) w'):OpOk P o a w R:=
 fun _ _ hk=>by unfold Oper.wp;rw [h];exact hk _ w' hr
theorem OpOk.of_skip {w':World} {R:Act→World→Prop} (h:(execOp a.eval o).run P w=.ok .skip w') (hr:R (a.put o.dst undef) w'):OpOk P o a w R:=
 fun _ _ hk=>by unfold Oper.wp;rw [h];exact hk _ w' hr
theorem jbf:∀{l:List A0} {us:List Value} {s:St} {F:Nat→List Nat} {K:List Cell→St→Prop},RelF B w0 N s a w F→A0RelL B w l us→kL s l K→
 ∃cs s' S F',K cs s'∧CRel B w cs us S∧RelF B w0 N s' a w F'∧Fresh B S∧(∀g,∀b∈S,b∉F' g)∧(∀g b,b∈F' g→b∈F g)∧(∀b∈S,∃g,b∈F g)∧(∀u∈us,u.oneCell'=true)
 |[],us,s,F,K,h,hr,hk=>⟨[],s,[],F,hk,⟨hr,rfl⟩,h,Fresh.nil _,by simp,fun _ _ h=>h,by simp,by rw [show us=[] from hr];simp⟩
 |x::l,us,s,F,K,h,⟨u,us',h1,h2,h3⟩,hk=>by
  subst h1
  have plain:∀(x:A0),A0Rel B w x u→x.one=true→kL s l (fun cs s'=>K (.a x::cs) s')→∃cs s' S F',K cs s'∧CRel B w cs (u::us') S∧RelF B w0 N s' a w F'∧Fresh B S∧(∀g,∀b∈S,b∉F' g)∧(∀g b,b∈F' g→b∈F g)∧(∀b∈S,∃g,b∈F g)∧(∀u'∈u::us',u'.oneCell'=true):=by
   intro x h2 hone hk;obtain ⟨cs,s',S,F',k1,k2,k3,k4,k5,k6,k7,k8⟩:=jbf h h3 hk;refine ⟨_,s',S,F',k1,⟨u,us',rfl,h2,k2⟩,k3,k4,k5,k6,k7,fun u' hu=>?_⟩
   rcases List.mem_cons.1 hu with rfl|hu
   ·exact h2.one hone
   ·exact k8 u' hu
  cases x with
  |h g c p x=>
   obtain ⟨rfl,d,η,ho,hx,hk⟩:=hk;obtain ⟨u',S1,F1,j1,j2,j3,j4,j5,j6,j7,j8⟩:=h.rm ho;obtain ⟨cs,s',S2,F',k1,k2,k3,k4,k5,k6,k7,k8⟩:=jbf j5 h3 hk
   have hu:u=u':=by
    rw [h2.1,←hx,j3,zT j1]
   subst hu
   have hdis:∀b∈S1,b∉S2:=fun b hb hb'=>by
    obtain ⟨g',hg'⟩:=k7 b hb';exact j6 g' b hb hg'
   refine ⟨_,s',S1++S2,F',k1,⟨u,us',S1,S2,rfl,rfl,j1,j2,j3,k2⟩,k3,⟨List.nodup_append.2 ⟨j4.1,k4.1,fun x hx y hy e=>hdis x hx (e▸hy)⟩,fun b hb=>?_⟩,fun g' b hb=>?_,fun g' b hb=>j8 g' b (k6 g' b hb),fun b hb=>?_,fun u' hu=>?_⟩
   ·rcases List.mem_append.1 hb with hb|hb
    ·exact j4.2 b hb
    ·exact k4.2 b hb
   ·rcases List.mem_append.1 hb with hb|hb
    ·exact fun hb'=>j6 g' b hb (k6 g' b hb')
    ·exact k5 g' b hb
   ·rcases List.mem_append.1 hb with hb|hb
    ·exact ⟨g,j7 b hb⟩
    ·obtain ⟨g',hg'⟩:=k7 b hb;exact ⟨g',j8 g' b hg'⟩
   ·rcases List.mem_cons.1 hu with rfl|hu
    ·cases d with
     |val _=>cases j1
     |sl _ _ _=>obtain ⟨_,_,_,rfl⟩:=zz j2;rfl
    ·exact k8 u' hu
  |v x=>exact plain _ h2 hk.1 hk.2
  |ro x=>exact plain _ h2 hk.1 hk.2
  |rp x=>exact plain _ h2 hk.1 hk.2
  |bp x y z=>exact plain _ h2 hk.1 hk.2
  |ep x y z i j=>exact plain _ h2 hk.1 hk.2
  |un=>exact plain _ h2 hk.1 hk.2
  |hs=>exact plain _ h2 hk.1 hk.2
theorem jr6 (h:RelF B w0 N s a w F) {f:Nat} {args:List AV} {xs:List Value} (hrun:(execOp a.eval o).run P w=.ok (.enter f xs.toArray) w) (hv:jll B w args xs) (hd:∀k,o.dst=some k→k<N)
 (ht:Turns P f args s.o fun rt o'=>∀η:Nat→jq,K (((⟨s.t,o'⟩:St).addO (jlH (100*(β+o.dst.getD 0)) η 0 rt.flat)).put o.dst (rt.av (100*(β+o.dst.getD 0)) η))):
 OpOk P o a w (fun a' w'=>∃s' F',RelF B w0 N s' a' w' F'∧K s'):=by
 intro next Q hk;unfold Oper.wp;rw [hrun];refine (ht.2 B w F xs h.bare hv).mono fun e w' ⟨v,rt,o',S,F',he,hr,hrt,hf,hdj,hR⟩=>?_
 subst he;have hb:Below B w w':=hr.below;obtain ⟨η,h1,h2⟩:=jvU (B:=B) (100*(β+o.dst.getD 0)) hrt;have h3:RelF B w0 N ⟨s.t,o'⟩ a w' F':=⟨h.below.trans hb,h.hB,h.df,h.sz,fun n=>(h.sl n).mono hb,hr.ob,hr.fr,hr.dj⟩
 obtain ⟨F2,h4⟩:=h3.addO h2 hf hdj;exact hk _ _ ⟨_,F2,h4.put h1 hd,hR η⟩
theorem jE1 (h:RelF B w0 N s a w F) {f:Nat} {args:List AV} {xs:List Value} (hrun:(execOp a.eval o).run P w=.ok (.enter f xs.toArray) w) (hv:jll B w args xs) (hd:∀k,o.dst=some k→k<N)
 (ht:Inl P f args s.o fun av o'=>K (St.put ⟨s.t,o'⟩ o.dst av)):
 OpOk P o a w (fun a' w'=>∃s' F',RelF B w0 N s' a' w' F'∧K s'):=by
 intro next Q hk;unfold Oper.wp;rw [hrun];refine (ht.2 B w F xs h.bare hv).mono fun e w' ⟨v,av,o',F',he,hr,hva,hR⟩=>?_
 subst he;have hb:Below B w w':=hr.below;have h3:RelF B w0 N ⟨s.t,o'⟩ a w' F':=⟨h.below.trans hb,h.hB,h.df,h.sz,fun n=>(h.sl n).mono hb,hr.ob,hr.fr,hr.dj⟩
 exact hk _ _ ⟨_,F',h3.put hva hd,hR⟩
theorem jxn (w:World):Below w.heap.size w w.drew:=⟨rfl,rfl,rfl,Nat.le_refl _,fun _ _=>rfl⟩
theorem jE4 (h:RelF B w0 N s a w F) {e:TypeId} {x:Operand} {x':X} {n:Nat} {g:Option (Nat×Bool)} (ho:o.op=.box e x) (hx:jR x=some x') (hd:∀k,o.dst=some k→k<N) (hr:vp P β ⟨o.dst,g,.box e n x'⟩ s K):
 OpOk P o a w (fun a' w'=>∃s' F',RelF B w0 N s' a' w' F'∧K s'):=by
 obtain ⟨l,h1,_,h2⟩:=hr;obtain ⟨us,h3,h4⟩:=VRel.cells (vo h hx) h1;obtain ⟨cs,s',S,F',k1,k2,k3,k4,k5,k6,k7,_⟩:=jbf h h4 h2
 have hrun:(execOp a.eval o).run P w=.ok (.value (.pointer (some ⟨w.heap.size,0,none⟩))) (w.alloc (.cells us.toArray e)):=by
  simp [execOp,ho,Instr.box,newVar,newRow,h3]
 have hb:Below w.heap.size w (w.alloc (.cells us.toArray e)):=(Below.refl _ _).alloc (Nat.le_refl _) _;have hB:B≤w.heap.size:=Nat.le_trans h.hB h.below.size;have hSlt:∀b∈S,b<w.heap.size:=fun b hb'=>k2.lt b hb'
 have hob:ORel B (w.alloc (.cells us.toArray e)) (.box w.heap.size e cs) (w.heap.size::S):=
  ⟨us,S,jsk _ _,k2.keep (hb.mono hB) fun b hb'=>hb.block b (hSlt b hb'),rfl⟩
 have hF'lt:∀g,∀b∈F' g,b<w.heap.size:=fun g b hb'=>(k3.ob g).lt b hb'
 have h5:=(k3.world hb).setO (g:=100*(β+o.dst.getD 0)) hob ⟨List.nodup_cons.2 ⟨fun hh=>by have:=hSlt _ hh;omega,k4.1⟩,fun b hb'=>by rcases List.mem_cons.1 hb' with rfl|hb';exact hB;exact k4.2 b hb'⟩ (fun g' _ b hb'=>by
  rcases List.mem_cons.1 hb' with rfl|hb'
  ·exact fun hh=>by have:=hF'lt g' _ hh;omega
  ·exact k5 g' b hb')
 exact OpOk.of_run hrun ⟨_,_,h5.put (v:=.c (.bp (100*(β+o.dst.getD 0)) 0 w.heap.size)) rfl hd,k1 w.heap.size⟩
theorem RelF.world' (h:RelF B w0 N s a w F) {w':World} (hb:Below B w w') (hk:∀g,∀b∈F g,w'.heap[b]?=w.heap[b]?):RelF B w0 N s a w' F:=
 ⟨h.below.trans hb,h.hB,h.df,h.sz,fun n=>(h.sl n).mono hb,fun g=>(h.ob g).keep hb (hk g),h.fr,h.dj⟩
theorem CRel.set1 {x:Cell} {u:Value} {S1:List Nat} (hx:CRel B w [x] [u] S1):∀{ds:List Cell} {us:List Value} {S0:List Nat} {c:Nat},CRel B w ds us S0→(S0++S1).Nodup→c<ds.length→
 ∃S',CRel B w (ds.set c x) (us.set c u) S'∧S'.Nodup∧∀b∈S',b∈S0∨b∈S1
 |[],_,_,_,_,_,hc=>by simp at hc
 |y::ds,us,S0,0,hr,hnd,_=>by
  have hcons:∀{us':List Value} {S2:List Nat},CRel B w ds us' S2→CRel B w (x::ds) (u::us') (S1++S2):=by
   intro us' S2 h2;cases x with
   |a x=>obtain ⟨u',us'',h3,h4,h5,h6⟩:=hx;cases h3;subst h6;exact ⟨u,us',rfl,h4,h2⟩
   |own d η=>
    obtain ⟨u',us'',T1,T2,h3,h4,h5,h6,h7,h8,h9⟩:=hx;cases h3;subst h9;rw [List.append_nil] at h4;subst h4;exact ⟨u,us',S1,S2,rfl,rfl,h5,h6,h7,h2⟩
  cases y with
  |a y=>
   obtain ⟨u',us',rfl,_,h3⟩:=hr;refine ⟨_,hcons h3,?_,fun b hb=>?_⟩
   ·exact (List.perm_append_comm.nodup_iff).1 hnd
   ·rcases List.mem_append.1 hb with hb|hb
    ·exact .inr hb
    ·exact .inl hb
  |own d η=>
   obtain ⟨u',us',T1,T2,rfl,rfl,_,_,_,h3⟩:=hr;refine ⟨_,hcons h3,?_,fun b hb=>?_⟩
   ·rw [List.append_assoc] at hnd
    exact (List.perm_append_comm.nodup_iff).1 (List.nodup_append.1 hnd).2.1
   ·rcases List.mem_append.1 hb with hb|hb
    ·exact .inr hb
    ·exact .inl (by simp [hb])
 |y::ds,us,S0,c+1,hr,hnd,hc=>by
  cases y with
  |a y=>
   obtain ⟨u',us',rfl,h2,h3⟩:=hr;obtain ⟨S',h4,h5,h6⟩:=CRel.set1 hx h3 hnd (by simpa using hc)
   exact ⟨S',⟨u',_,rfl,h2,h4⟩,h5,h6⟩
  |own d η=>
   obtain ⟨u',us',T1,T2,rfl,rfl,h1,h2,h2',h3⟩:=hr;rw [List.append_assoc] at hnd;have hn:=List.nodup_append.1 hnd;obtain ⟨S',h4,h5,h6⟩:=CRel.set1 hx h3 hn.2.1 (by simpa using hc)
   refine ⟨T1++S',⟨u',_,T1,S',rfl,rfl,h1,h2,h2',h4⟩,List.nodup_append.2 ⟨hn.1,h5,fun a ha b hb e=>hn.2.2 a ha b (by rcases h6 b hb with h|h<;>simp [h]) e⟩,fun b hb=>?_⟩
   rcases List.mem_append.1 hb with hb|hb
   ·exact .inl (by simp [hb])
   ·rcases h6 b hb with h|h
    ·exact .inl (by simp [h])
    ·exact .inr h
theorem CRel.setAt_:∀{cs:List Cell} {us:List Value} {S:List Nat} {ds:List Cell} {vs:List Value} {S0:List Nat} {c:Nat},CRel B w cs us S→CRel B w ds vs S0→(S0++S).Nodup→c+cs.length≤ds.length→
 ∃S',CRel B w (kI ds c cs) (kI vs c us) S'∧S'.Nodup∧∀b∈S',b∈S0∨b∈S
 |[],us,S,ds,vs,S0,c,⟨h1,h2⟩,h3,hnd,_=>by
  subst h1 h2;rw [List.append_nil] at hnd;exact ⟨S0,h3,hnd,fun b hb=>.inl hb⟩
 |x::cs,us,S,ds,vs,S0,c,hr,h3,hnd,hc=>by
  obtain ⟨u,us',S1,S2,rfl,rfl,h4,h5⟩:∃u us' S1 S2,us=u::us'∧S=S1++S2∧CRel B w [x] [u] S1∧CRel B w cs us' S2:=by
   cases x with
   |a x=>obtain ⟨u,us',h1,h2,h4⟩:=hr;exact ⟨u,us',[],S,h1,rfl,⟨u,[],rfl,h2,rfl,rfl⟩,h4⟩
   |own d η=>obtain ⟨u,us',S1,S2,h1,h2,k1,k2,k3,h4⟩:=hr;exact ⟨u,us',S1,S2,h1,h2,⟨u,[],S1,[],rfl,by simp,k1,k2,k3,rfl,rfl⟩,h4⟩
  rw [←List.append_assoc] at hnd;obtain ⟨S',h6,h7,h8⟩:=CRel.set1 (c:=c) h4 h3 (List.nodup_append.1 hnd).1 (by simp at hc;omega)
  have hn:=List.nodup_append.1 hnd;obtain ⟨S'',h9,h10,h11⟩:=CRel.setAt_ (c:=c+1) h5 h6 (List.nodup_append.2 ⟨h7,hn.2.1,fun a ha b hb e=>hn.2.2 a (by rcases h8 a ha with h|h<;>simp [h]) b hb e⟩) (by simp at hc⊢;omega)
  refine ⟨S'',h9,h10,fun b hb=>?_⟩
  rcases h11 b hb with h|h
  ·rcases h8 b h with h|h
   ·exact .inl h
   ·exact .inr (by simp [h])
  ·exact .inr (by simp [h])
theorem qD:∀(vs:List Value) (w:World) (b o:Nat) (us:List Value) (ty:TypeId),w.heap[b]?=some (.cells us.toArray ty (0,0))→(w.setCells b o vs).heap[b]?=some (.cells (kI us o vs).toArray ty (0,0))∧∀k,k≠b→(w.setCells b o vs).heap[k]?=w.heap[k]?
 |[],w,b,o,us,ty,h=>⟨h,fun _ _=>rfl⟩
 |v::vs,w,b,o,us,ty,h=>by
  have h1:(w.setCell ⟨b,o,none⟩ v).heap[b]?=some (.cells (us.set o v).toArray ty (0,0)):=by
   have hlt:=jaN h;have:w.heap[b]=.cells us.toArray ty (0,0):=by rw [Array.getElem?_eq_getElem hlt] at h;exact Option.some.inj h
   simp [World.setCell,Array.getElem?_modify,h]
  obtain ⟨h2,h3⟩:=qD vs (w.setCell ⟨b,o,none⟩ v) b (o+1) (us.set o v) ty h1;exact ⟨h2,fun k hk=>(h3 k hk).trans (Below.heap_setCell w ⟨b,o,none⟩ v k hk)⟩
theorem kT:∀(vs:List Value) (w:World) (b o:Nat),(w.setCells b o vs).os=w.os∧(w.setCells b o vs).tape=w.tape∧(w.setCells b o vs).output=w.output∧(w.setCells b o vs).heap.size=w.heap.size
 |[],_,_,_=>⟨rfl,rfl,rfl,rfl⟩
 |v::vs,w,b,o=>by
  obtain ⟨h1,h2,h3,h4⟩:=kT vs (w.setCell ⟨b,o,none⟩ v) b (o+1);exact ⟨h1,h2,h3,h4.trans (by simp [World.setCell])⟩
theorem jou:∀(xs:List Value) (vs:List Value) (o:Nat),jma vs o xs=kI vs o xs
 |[],_,_=>rfl
 |x::xs,vs,o=>by rw [jma,kI,jou xs]
theorem jaR:∀(vs:List Value) (w:World) (b o k:Nat),k≠b→(w.setCells b o vs).heap[k]?=w.heap[k]?
 |[],_,_,_,_,_=>rfl
 |v::vs,w,b,o,k,hk=>(jaR vs _ b (o+1) k hk).trans (Below.heap_setCell w ⟨b,o,none⟩ v k hk)
theorem jcU {α:Type}:∀(xs:List α) (l:List α) (k j:Nat),¬(k≤j∧j<k+xs.length)→(kI l k xs)[j]?=l[j]?
 |[],_,_,_,_=>rfl
 |x::xs,l,k,j,h=>by
  rw [kI,jcU xs _ (k+1) j (by simp at h;omega),List.getElem?_set_ne (by simp at h;omega)]
theorem RepL.set1 {d:D} {u:Value} {S1:List Nat} (hx:Rep w true d u S1):∀{cs:List D} {vs:List Value} {S0:List Nat} {c:Nat},RepL w true cs vs S0→(S0++S1).Nodup→c<cs.length→
 ∃S',RepL w true (cs.set c d) (vs.set c u) S'∧S'.Nodup∧∀b∈S',b∈S0∨b∈S1
 |[],_,_,_,_,_,hc=>by simp at hc
 |y::cs,_,_,0,⟨u',us',T1,T2,rfl,rfl,_,h3⟩,hnd,_=>by
  refine ⟨S1++T2,RepL.cons_ hx h3,?_,fun b hb=>?_⟩
  ·rw [List.append_assoc] at hnd
   exact (List.perm_append_comm.nodup_iff).1 (List.nodup_append.1 hnd).2.1
  ·rcases List.mem_append.1 hb with hb|hb
   ·exact .inr hb
   ·exact .inl (by simp [hb])
 |y::cs,_,_,c+1,⟨u',us',T1,T2,rfl,rfl,h2,h3⟩,hnd,hc=>by
  rw [List.append_assoc] at hnd;have hn:=List.nodup_append.1 hnd;obtain ⟨S',h4,h5,h6⟩:=RepL.set1 hx h3 hn.2.1 (by simpa using hc)
  refine ⟨T1++S',RepL.cons_ h2 h4,List.nodup_append.2 ⟨hn.1,h5,fun a ha b hb e=>hn.2.2 a ha b (by rcases h6 b hb with h|h<;>simp [h]) e⟩,fun b hb=>?_⟩
  rcases List.mem_append.1 hb with hb|hb
  ·exact .inl (by simp [hb])
  ·rcases h6 b hb with h|h
   ·exact .inl (by simp [h])
   ·exact .inr h
theorem RepL.setAt_:∀{ds:List D} {us:List Value} {S:List Nat} {cs:List D} {vs:List Value} {S0:List Nat} {c:Nat},RepL w true ds us S→RepL w true cs vs S0→(S0++S).Nodup→c+ds.length≤cs.length→
 ∃S',RepL w true (kI cs c ds) (kI vs c us) S'∧S'.Nodup∧∀b∈S',b∈S0∨b∈S
 |[],us,S,cs,vs,S0,c,⟨h1,h2⟩,h3,hnd,_=>by
  subst h1 h2;rw [List.append_nil] at hnd;exact ⟨S0,h3,hnd,fun b hb=>.inl hb⟩
 |x::ds,_,_,cs,vs,S0,c,⟨u,us',S1,S2,rfl,rfl,h4,h5⟩,h3,hnd,hc=>by
  rw [←List.append_assoc] at hnd;obtain ⟨S',h6,h7,h8⟩:=RepL.set1 (c:=c) h4 h3 (List.nodup_append.1 hnd).1 (by simp at hc;omega)
  have hn:=List.nodup_append.1 hnd;obtain ⟨S'',h9,h10,h11⟩:=RepL.setAt_ (c:=c+1) h5 h6 (List.nodup_append.2 ⟨h7,hn.2.1,fun a ha b hb e=>hn.2.2 a (by rcases h8 a ha with h|h<;>simp [h]) b hb e⟩) (by simp at hc⊢;omega)
  refine ⟨S'',h9,h10,fun b hb=>?_⟩
  rcases h11 b hb with h|h
  ·rcases h8 b h with h|h
   ·exact .inl h
   ·exact .inr (by simp [h])
  ·exact .inr (by simp [h])
theorem RepL.put1:∀{cs:List D} {vs:List Value} {S:List Nat} {k:Nat} {d:D},RepL w true cs vs S→S.Nodup→cs[k]?=some d→
 ∃v S1,vs[k]?=some v∧Rep w true d v S1∧(∀b∈S1,b∈S)∧S1.Nodup∧(∀j dj,j≠k→cs[j]?=some dj→∃vj Sj,vs[j]?=some vj∧Rep w true dj vj Sj∧∀b∈Sj,b∈S∧b∉S1)∧
 ∀(w':World) (d':D) (S1':List Nat),(∀b∈S,b∉S1→w'.heap[b]?=w.heap[b]?)→Rep w' true d' v S1'→S1'.Nodup→(∀b∈S1',b∈S1∨b∉S)→
  ∃S',RepL w' true (cs.set k d') vs S'∧S'.Nodup∧∀b∈S',b∈S∨b∈S1'
 |[],_,_,_,_,_,_,h=>by simp at h
 |y::cs,_,_,0,d,⟨u',us',T1,T2,rfl,rfl,h2,h3⟩,hnd,h=>by
  simp at h;subst h;have hn:=List.nodup_append.1 hnd;refine ⟨u',T1,rfl,h2,fun b hb=>by simp [hb],hn.1,fun j dj hj hd=>?_,fun w' d' S1' hk hr hn' hs=>?_⟩
  ·cases j with
   |zero=>exact absurd rfl hj
   |succ j=>
    obtain ⟨vj,Sj,k1,k2,k3⟩:=RepL.nth h3 (by simpa using hd)
    exact ⟨vj,Sj,by simpa using k1,k2,fun b hb=>⟨by simp [k3 b hb],fun hb'=>hn.2.2 b hb' b (k3 b hb) rfl⟩⟩
  ·refine ⟨S1'++T2,RepL.cons_ hr (RepL.keep _ h3 fun b hb=>hk b (by simp [hb]) fun hb'=>hn.2.2 b hb' b hb rfl),List.nodup_append.2 ⟨hn',hn.2.1,fun a ha b hb e=>?_⟩,fun b hb=>?_⟩
   ·subst e
    rcases hs a ha with h|h
    ·exact hn.2.2 a h a hb rfl
    ·exact h (by simp [hb])
   ·rcases List.mem_append.1 hb with hb|hb
    ·exact .inr hb
    ·exact .inl (by simp [hb])
 |y::cs,_,_,k+1,d,⟨u',us',T1,T2,rfl,rfl,h2,h3⟩,hnd,h=>by
  have hn:=List.nodup_append.1 hnd;obtain ⟨v,S1,k1,k2,k3,k4,k5,k6⟩:=RepL.put1 h3 hn.2.1 (by simpa using h)
  refine ⟨v,S1,by simpa using k1,k2,fun b hb=>by simp [k3 b hb],k4,fun j dj hj hd=>?_,fun w' d' S1' hk hr hn' hs=>?_⟩
  ·cases j with
   |zero=>
    simp at hd;subst hd;exact ⟨u',T1,rfl,h2,fun b hb=>⟨by simp [hb],fun hb'=>hn.2.2 b hb b (k3 b hb') rfl⟩⟩
   |succ j=>
    obtain ⟨vj,Sj,m1,m2,m3⟩:=k5 j dj (by omega) (by simpa using hd)
    exact ⟨vj,Sj,by simpa using m1,m2,fun b hb=>⟨by simp [(m3 b hb).1],(m3 b hb).2⟩⟩
  ·obtain ⟨S',m1,m2,m3⟩:=k6 w' d' S1' (fun b hb hb'=>hk b (by simp [hb]) hb') hr hn' (fun b hb=>by
    rcases hs b hb with h|h
    ·exact .inl h
    ·exact .inr fun hb'=>h (by simp [hb']))
   refine ⟨T1++S',RepL.cons_ (Rep.keep _ h2 fun b hb=>hk b (by simp [hb]) fun hb'=>hn.2.2 b hb b (k3 b hb') rfl) m1,List.nodup_append.2 ⟨hn.1,m2,fun a ha b hb e=>?_⟩,fun b hb=>?_⟩
   ·subst e
    rcases m3 a hb with h|h
    ·exact hn.2.2 a ha a h rfl
    ·rcases hs a h with h'|h'
     ·exact hn.2.2 a ha a (k3 a h') rfl
     ·exact h' (by simp [ha])
   ·rcases List.mem_append.1 hb with hb|hb
    ·exact .inl (by simp [hb])
    ·rcases m3 b hb with h|h
     ·exact .inl (by simp [h])
     ·exact .inr h
theorem jm2 {ds:List D} {us:List Value} {S1:List Nat} {k:Nat} (hds:0<ds.length) (hnew:RepL w true ds us S1) (hn1:S1.Nodup):∀(p:List Nat) {d0:D} {u:Value} {S:List Nat} {size:Nat} {ty:TypeId} {cs:List D},Rep w true d0 u S→S.Nodup→(∀b∈S1,b∉S)→
 D.get p d0=some (.sl size ty cs)→k+ds.length≤cs.length→
 ∃gg nn cc,hdr w p d0 u=.slice (some ⟨gg,0,none⟩) nn cc∧gg∈S∧w.there gg k ds.length∧
  ∃S',Rep (w.setCells gg k us) true (D.put p k ds d0) u S'∧S'.Nodup∧(∀b∈S',b∈S∨b∈S1)∧∀q,¬jro p k ds.length q→hdr (w.setCells gg k us) q (D.put p k ds d0) u=hdr w q d0 u
 |[],.val _,_,_,_,_,_,_,_,_,hg,_=>by simp [D.get] at hg
 |[],.sl size0 ty0 cs0,u,_,size,ty,cs,⟨vs,T,S',hrow,hrl,rfl⟩,hnd,hdis,hg,hle=>by
  simp [D.get] at hg;obtain ⟨rfl,rfl,rfl⟩:=hg;have hvl:=RepL.length _ hrl;have hul:=RepL.length _ hnew;have hn:=List.nodup_append.1 hnd;have hrow0:=hrow;rcases qP hrow with ⟨rfl,rfl⟩|⟨gg,nn,cc,rfl,rfl,hvn,hcell,hfz⟩
  ·simp at hvl;omega
  ·obtain ⟨nv,hown,_⟩:=hrow0
   have hnn:nn=nv:=by
    rcases hown.2 with ⟨h,_⟩|⟨_,_,_,h,_⟩
    ·cases h
    ·cases h;rfl
   subst hnn;have hne:∀b,b≠gg→(w.setCells gg k us).heap[b]?=w.heap[b]?:=fun b hb=>jaR us w gg k b hb
   have hg1:∀b∈S1,b≠gg:=fun b hb e=>hdis b hb (by simp [e])
   have hg2:∀b∈S',b≠gg:=fun b hb e=>hn.2.2 gg (by simp) b hb e.symm
   have hrl':=RepL.keep (w':=w.setCells gg k us) _ hrl fun b hb=>hne b (hg2 b hb)
   have hnew':=RepL.keep (w':=w.setCells gg k us) _ hnew fun b hb=>hne b (hg1 b hb)
   obtain ⟨S2,h1,h2,h3⟩:=RepL.setAt_ (c:=k) hnew' hrl' (List.nodup_append.2 ⟨hn.2.1,hn1,fun a ha b hb e=>hdis b hb (by simp [←e,ha])⟩) hle
   have hset:=(jc4 us k hown).1;rw [jou] at hset;refine ⟨gg,nn,cc,rfl,by simp,jf1 hown k ds.length (by omega),[gg]++S2,⟨_,[gg],S2,⟨nn,hset,rfl⟩,h1,rfl⟩,List.nodup_append.2 ⟨by simp,h2,fun a ha b hb e=>?_⟩,fun b hb=>?_,fun q hq=>?_⟩
   ·simp at ha;subst ha;subst e
    rcases h3 a hb with h|h
    ·exact hg2 a h rfl
    ·exact hg1 a h rfl
   ·rcases List.mem_append.1 hb with hb|hb
    ·exact .inl (by simp at hb⊢;exact .inl hb)
    ·rcases h3 b hb with h|h
     ·exact .inl (by simp [h])
     ·exact .inr h
   ·cases q with
    |nil=>rfl
    |cons j r=>
     have hj:¬(k≤j∧j<k+ds.length):=fun h=>hq ⟨j,r,rfl,h.1,h.2⟩
     simp only [D.put,hdr,Nat.zero_add];rw [jcU ds cs0 k j hj];cases hc:cs0[j]? with
     |none=>rfl
     |some d=>
      obtain ⟨v,Sj,k1,k2,k3⟩:=RepL.nth hrl hc;have hlt:j<nn*size0:=by have:=(List.getElem?_eq_some_iff.1 k1).1;omega
      have e1:w.cell? ⟨gg,j,none⟩=some v:=hcell j v k1
      have e2:(w.setCells gg k us).cell? ⟨gg,j,none⟩=some v:=by
       rw [World.ownsRow.cellAt hset j hlt,jcU us vs k j (by omega),k1]
      simp only [e1,e2,Option.getD_some];exact jd5 r k2 fun b hb=>hne b (hg2 b (k3 b hb))
 |i::p,.val _,_,_,_,_,_,_,_,_,hg,_=>by simp [D.get] at hg
 |i::p,.sl size0 ty0 cs0,u,_,size,ty,cs,⟨vs,T,S',hrow,hrl,rfl⟩,hnd,hdis,hg,hle=>by
  simp only [D.get] at hg;cases hc:cs0[i]? with
  |none=>rw [hc] at hg;simp at hg
  |some d=>
   rw [hc] at hg;have hn:=List.nodup_append.1 hnd;obtain ⟨v,Si,k1,k2,k3,k4,k5,k6⟩:=RepL.put1 hrl hn.2.1 hc;have hrow0:=hrow;rcases qP hrow with ⟨rfl,rfl⟩|⟨g0,nn0,cc0,rfl,rfl,hvn,hcell,hfz⟩
   ·simp at k1
   ·obtain ⟨gg,nn,cc,m1,m2,m3,Si',m4,m5,m6,m7⟩:=jm2 hds hnew hn1 p k2 k4 (fun b hb hb'=>hdis b hb (by simp [k3 b hb'])) hg hle
    have hne:∀b,b≠gg→(w.setCells gg k us).heap[b]?=w.heap[b]?:=fun b hb=>jaR us w gg k b hb
    have hg0:g0≠gg:=fun e=>hn.2.2 g0 (by simp) gg (k3 gg m2) e
    obtain ⟨S2,q1,q2,q3⟩:=k6 (w.setCells gg k us) (D.put p k ds d) Si' (fun b hb hb'=>hne b fun e=>hb' (e▸m2)) m4 m5 (fun b hb=>by
     rcases m6 b hb with h|h
     ·exact .inl h
     ·exact .inr fun hb'=>hdis b h (by simp [hb']))
    have hcell0:∀j v,vs[j]?=some v→(w.setCells gg k us).cell? ⟨g0,j,none⟩=some v:=fun j v hv=>by
     rw [World.cell?_of_block (w:=w) (a:=⟨g0,j,none⟩) (hne g0 hg0)];exact hcell j v hv
    have e0:hdr w (i::p) (.sl size0 ty0 cs0) (.slice (some ⟨g0,0,none⟩) nn0 cc0)=hdr w p d v:=by
     simp only [hdr,hc,Nat.zero_add,hcell i v k1,Option.getD_some]
    refine ⟨gg,nn,cc,by rw [e0];exact m1,by simp [k3 gg m2],m3,[g0]++S2,⟨vs,[g0],S2,hrow.keep fun b hb=>hne b (by simp at hb;subst hb;exact hg0),?_,rfl⟩,List.nodup_append.2 ⟨by simp,q2,fun a ha b hb e=>?_⟩,fun b hb=>?_,fun q hq=>?_⟩
    ·simp only [D.put,hc];exact q1
    ·simp at ha;subst ha;subst e
     rcases q3 a hb with h|h
     ·exact hn.2.2 a (by simp) a h rfl
     ·rcases m6 a h with h'|h'
      ·exact hn.2.2 a (by simp) a (k3 a h') rfl
      ·exact hdis a h' (by simp)
    ·rcases List.mem_append.1 hb with hb|hb
     ·exact .inl (by simp at hb⊢;exact .inl hb)
     ·rcases q3 b hb with h|h
      ·exact .inl (by simp [h])
      ·rcases m6 b h with h'|h'
       ·exact .inl (by simp [k3 b h'])
       ·exact .inr h'
    ·cases q with
     |nil=>rfl
     |cons j r=>
      simp only [D.put,hc,hdr,Nat.zero_add];by_cases hj:j=i
      ·subst hj
       have hlt:j<cs0.length:=(List.getElem?_eq_some_iff.1 hc).1;rw [List.getElem?_set_self hlt];simp only [hc,hcell0 j v k1,hcell j v k1,Option.getD_some];exact m7 r fun ⟨j',r',e,h1,h2⟩=>hq ⟨j',r',by rw [e];rfl,h1,h2⟩
      ·rw [List.getElem?_set_ne (Ne.symm hj)]
       cases hcj:cs0[j]? with
       |none=>rfl
       |some dj=>
        obtain ⟨vj,Sj,n1,n2,n3⟩:=k5 j dj hj hcj;simp only [hcell0 j vj n1,hcell j vj n1,Option.getD_some];exact jd5 r n2 fun b hb=>hne b fun e=>(n3 b hb).2 (e▸m2)
theorem CRel.put1:∀{cs:List Cell} {us:List Value} {S:List Nat} {c:Nat} {d:D} {η:jq},CRel B w cs us S→S.Nodup→cs[c]?=some (.own d η)→
 ∃u S1,d.isSl=true∧Rep w true d u S1∧(∀p,η p=hdr w p d u)∧(∀b∈S1,b∈S)∧S1.Nodup∧
 ∀(w':World) (d':D) (η':jq) (S1':List Nat),Below B w w'→(∀b∈S,b∉S1→w'.heap[b]?=w.heap[b]?)→d'.isSl=true→Rep w' true d' u S1'→(∀p,η' p=hdr w' p d' u)→S1'.Nodup→(∀b∈S1',b∈S1∨b∉S)→
  ∃S',CRel B w' (cs.set c (.own d' η')) us S'∧S'.Nodup∧∀b∈S',b∈S∨b∈S1'
 |[],_,_,_,_,_,_,_,h=>by simp at h
 |.a x::cs,_,_,0,_,_,_,_,h=>by simp at h
 |.a x::cs,_,S,c+1,d,η,⟨u,us',rfl,h2,h3⟩,hnd,h=>by
  obtain ⟨v,S1,k0,k1,k2,k3,k4,k5⟩:=CRel.put1 h3 hnd (by simpa using h)
  refine ⟨v,S1,k0,k1,k2,k3,k4,fun w' d' η' S1' hb hk hs hr hη hn hsub=>?_⟩
  obtain ⟨S',m1,m2,m3⟩:=k5 w' d' η' S1' hb hk hs hr hη hn hsub;exact ⟨S',⟨u,us',rfl,h2.mono hb,m1⟩,m2,m3⟩
 |.own d0 η0::cs,_,_,0,d,η,⟨u,us',T1,T2,rfl,rfl,h3,h4,h5,h6⟩,hnd,h=>by
  simp at h;obtain ⟨rfl,rfl⟩:=h;have hn:=List.nodup_append.1 hnd;refine ⟨u,T1,h3,h4,h5,fun b hb=>by simp [hb],hn.1,fun w' d' η' S1' hb hk hs hr hη hn' hsub=>?_⟩
  refine ⟨S1'++T2,⟨u,us',S1',T2,rfl,rfl,hs,hr,hη,h6.keep hb fun b hb'=>hk b (by simp [hb']) fun hb''=>hn.2.2 b hb'' b hb' rfl⟩,List.nodup_append.2 ⟨hn',hn.2.1,fun a ha b hb' e=>?_⟩,fun b hb'=>?_⟩
  ·subst e
   rcases hsub a ha with h|h
   ·exact hn.2.2 a h a hb' rfl
   ·exact h (by simp [hb'])
  ·rcases List.mem_append.1 hb' with hb'|hb'
   ·exact .inr hb'
   ·exact .inl (by simp [hb'])
 |.own d0 η0::cs,_,_,c+1,d,η,⟨u,us',T1,T2,rfl,rfl,h3,h4,h5,h6⟩,hnd,h=>by
  have hn:=List.nodup_append.1 hnd;obtain ⟨v,S1,k0,k1,k2,k3,k4,k5⟩:=CRel.put1 h6 hn.2.1 (by simpa using h)
  refine ⟨v,S1,k0,k1,k2,fun b hb=>by simp [k3 b hb],k4,fun w' d' η' S1' hb hk hs hr hη hn' hsub=>?_⟩
  obtain ⟨S',m1,m2,m3⟩:=k5 w' d' η' S1' hb (fun b hb1 hb2=>hk b (by simp [hb1]) hb2) hs hr hη hn' (fun b hb1=>by
   rcases hsub b hb1 with h|h
   ·exact .inl h
   ·exact .inr fun h'=>h (by simp [h']))
  have hT:∀b∈T1,w'.heap[b]?=w.heap[b]?:=fun b hb1=>hk b (by simp [hb1]) fun hb2=>hn.2.2 b hb1 b (k3 b hb2) rfl
  refine ⟨T1++S',⟨u,us',T1,S',rfl,rfl,h3,Rep.keep _ h4 hT,fun p=>by rw [jd5 p h4 hT];exact h5 p,m1⟩,List.nodup_append.2 ⟨hn.1,m2,fun a ha b hb1 e=>?_⟩,fun b hb1=>?_⟩
  ·subst e
   rcases m3 a hb1 with h|h
   ·exact hn.2.2 a ha a h rfl
   ·rcases hsub a h with h'|h'
    ·exact hn.2.2 a ha a (k3 a h') rfl
    ·exact h' (by simp [ha])
  ·rcases List.mem_append.1 hb1 with hb1|hb1
   ·exact .inl (by simp [hb1])
   ·rcases m3 b hb1 with h|h
    ·exact .inl (by simp [h])
    ·exact .inr h
theorem ORel.put1 {ob:Ob} {S:List Nat} {c:Nat} {d:D} {η:jq} (ho:ORel B w ob S) (hnd:S.Nodup) (h:ob.own c=some (d,η)):
 ∃u S1,d.isSl=true∧Rep w true d u S1∧(∀p,η p=hdr w p d u)∧(∀b∈S1,b∈S)∧S1.Nodup∧
 ∀(w':World) (d':D) (η':jq) (S1':List Nat),Below B w w'→(∀b∈S,b∉S1→w'.heap[b]?=w.heap[b]?)→d'.isSl=true→Rep w' true d' u S1'→(∀p,η' p=hdr w' p d' u)→S1'.Nodup→(∀b∈S1',b∈S1∨b∉S)→
  ∃S',ORel B w' (ob.putOwn c d' η') S'∧S'.Nodup∧∀b∈S',b∈S∨b∈S1':=by
 cases ob with
 |none=>simp [Ob.own] at h
 |loose d0 η0=>
  cases c with
  |succ c=>simp [Ob.own] at h
  |zero=>
   simp [Ob.own] at h;obtain ⟨rfl,rfl⟩:=h;obtain ⟨h0,u,h1,h2⟩:=ho;exact ⟨u,S,h0,h1,h2,fun _ h=>h,hnd,fun w' d' η' S1' _ _ hs hr hη hn _=>⟨S1',⟨hs,u,hr,hη⟩,hn,fun b hb=>.inr hb⟩⟩
 |box b ty cs=>
  obtain ⟨us,S0,h1,h2,rfl⟩:=ho;have hn:=List.nodup_cons.1 hnd
  have hc:cs[c]?=some (.own d η):=by
   simp only [Ob.own] at h;split at h
   ·simp at h;obtain ⟨rfl,rfl⟩:=h;assumption
   ·simp at h
  obtain ⟨u,S1,k0,k1,k2,k3,k4,k5⟩:=h2.put1 hn.2 hc;refine ⟨u,S1,k0,k1,k2,fun b hb=>by simp [k3 b hb],k4,fun w' d' η' S1' hb hk hs hr hη hn' hsub=>?_⟩
  obtain ⟨S',m1,m2,m3⟩:=k5 w' d' η' S1' hb (fun b hb1 hb2=>hk b (by simp [hb1]) hb2) hs hr hη hn' (fun b hb1=>by
   rcases hsub b hb1 with h|h
   ·exact .inl h
   ·exact .inr fun h'=>h (by simp [h']))
  refine ⟨b::S',⟨us,S',(hk b (by simp) fun hb1=>hn.1 (k3 b hb1)).trans h1,m1,rfl⟩,List.nodup_cons.2 ⟨fun hb1=>?_,m2⟩,fun x hx=>?_⟩
  ·rcases m3 b hb1 with h|h
   ·exact hn.1 h
   ·rcases hsub b h with h'|h'
    ·exact hn.1 (k3 b h')
    ·exact h' (by simp)
  ·rcases List.mem_cons.1 hx with rfl|hx
   ·exact .inl (by simp)
   ·rcases m3 x hx with h|h
    ·exact .inl (by simp [h])
    ·exact .inr h
theorem jAG:∀(p:List Nat) (i:Nat) (ds:List D) {d:D},d.isSl=true→(D.put p i ds d).isSl=true
 |[],_,_,.sl _ _ _,_=>rfl
 |_::_,_,_,.sl _ _ _,_=>rfl
 |[],_,_,.val _,h=>by cases h
 |_::_,_,_,.val _,h=>by cases h
theorem jgl:∀{ks:List (Option (Nat×Nat))} {cs:List Cell} {us:List Value} {S:List Nat} {ds:List D},CRel B w cs us S→jaw ks cs=some ds→RepL w true ds us S
 |_,[],us,S,ds,h,hd=>by simp [jaw] at hd;subst hd;exact h
 |ks,.a x::cs,us,S,ds,⟨u,us',h1,h2,h3⟩,hd=>by
  cases x with
  |v x=>
   simp only [jaw] at hd;split at hd
   ·simp at hd;subst hd
    subst h1;rw [show u=x from h2]
    exact ⟨x,us',[],S,rfl,rfl,jr9 _ _,jgl h3 (by assumption)⟩
   ·simp at hd
  |_=>simp [jaw] at hd
 |ks,.own d η::cs,us,S,ds,⟨u,us',S1,S2,h1,h2,_,h4,_,h6⟩,hd=>by
  simp only [jaw] at hd;split at hd
  ·simp at hd;subst hd
   subst h1 h2;exact RepL.cons_ h4 (jgl h6 (by assumption))
  ·simp at hd
theorem jgd {j:Nat} {r:List Nat} {v:Value}:∀(p:List Nat) {d:D} {u:Value} {size:Nat} {ty:TypeId} {cs:List D},D.get p d=some (.sl size ty cs)→cs[j]?=some (.val v)→hdr w (p++j::r) d u=undef
 |[],.val _,_,_,_,_,hg,_=>by simp [D.get] at hg
 |[],.sl s t cs0,u,size,ty,cs,hg,hc=>by
  simp [D.get] at hg;obtain ⟨rfl,rfl,rfl⟩:=hg;simp only [List.nil_append];have hv:∀x,hdr w r (.val v) x=undef:=fun x=>by cases r<;>rfl
  cases u with
  |slice A n c=>cases A with
   |some a=>simp only [hdr,hc,hv]
   |none=>rfl
  |_=>rfl
 |i::p,.val _,_,_,_,_,hg,_=>by simp [D.get] at hg
 |i::p,.sl s t cs0,u,size,ty,cs,hg,hc=>by
  simp only [D.get] at hg;cases hi:cs0[i]? with
  |none=>rw [hi] at hg;simp at hg
  |some d'=>
   rw [hi] at hg;cases u with
   |slice A n c=>cases A with
    |some a=>simp only [List.cons_append,hdr,hi];exact jgd p hg hc
    |none=>rfl
   |_=>rfl
theorem jdd:∀(p:List Nat) {d:D} {k:Nat} {ds:List D} {size:Nat} {ty:TypeId} {cs:List D},D.get p d=some (.sl size ty cs)→D.get p (D.put p k ds d)=some (.sl size ty (kI cs k ds))
 |[],.val _,_,_,_,_,_,hg=>by simp [D.get] at hg
 |[],.sl s t cs0,k,ds,size,ty,cs,hg=>by
  simp [D.get] at hg;obtain ⟨rfl,rfl,rfl⟩:=hg;simp [D.put,D.get]
 |i::p,.val _,_,_,_,_,_,hg=>by simp [D.get] at hg
 |i::p,.sl s t cs0,k,ds,size,ty,cs,hg=>by
  simp only [D.get] at hg;cases hi:cs0[i]? with
  |none=>rw [hi] at hg;simp at hg
  |some d'=>
   rw [hi] at hg;simp only [D.put,hi,D.get];rw [List.getElem?_set_self (List.getElem?_eq_some_iff.1 hi).1];exact jdd p hg
theorem jdh:∀{l:List D} {j:Nat},jY l=true→j<l.length→∃v,l[j]?=some (.val v)
 |.val u::l,0,_,_=>⟨u,rfl⟩
 |.val u::l,j+1,h,hj=>by simp only [jY,Bool.and_eq_true] at h;simpa using jdh h.2 (by simpa using hj)
 |.sl _ _ _::_,_,h,_=>by simp [jY] at h
 |[],_,_,hj=>by simp at hj
theorem jj5 {α:Type}:∀(vs:List α) (cs:List α) (k j:Nat),k+vs.length≤cs.length→k≤j→j<k+vs.length→(kI cs k vs)[j]?=vs[j-k]?
 |[],cs,k,j,_,h1,h2=>by simp at h2;omega
 |v::vs,cs,k,j,hl,h1,h2=>by
  simp only [List.length_cons] at hl h2;show (kI (cs.set k v) (k+1) vs)[j]?=_;by_cases e:j=k
  ·subst e
   have keep:∀(vs:List α) (cs:List α) (k j:Nat),j<k→(kI cs k vs)[j]?=cs[j]?:=by
    intro vs
    induction vs with
    |nil=>intros;rfl
    |cons a vs ih=>intro cs k j hj;show (kI (cs.set k a) (k+1) vs)[j]?=_;rw [ih _ _ _ (by omega),List.getElem?_set_ne (by omega)]
   rw [keep _ _ _ _ (by omega),List.getElem?_set_self (by omega)];simp
  ·rw [jj5 vs _ _ _ (by simp;omega) (by omega) (by omega),show j-k=(j-(k+1))+1 by omega];simp
theorem ok_st (h:RelF B w0 N s a w F) {t:TypeId} {x y:Operand} {x' y':X} {n:Nat} {ks:List (Option (Nat×Nat))} {g:Option (Nat×Bool)} (ho:o.op=.store t x y) (hn:qy P t=some n) (hx:jR x=some x') (hy:jR y=some y') (hr:vp P β ⟨o.dst,g,.st n ks x' y'⟩ s K):
 OpOk P o a w (fun a' w'=>∃s' F',RelF B w0 N s' a' w' F'∧K s'):=by
 obtain ⟨hdst,l,h2,h3,h4⟩:=hr;simp only at hdst;obtain ⟨us,h5,h6⟩:=VRel.cells (vo h hy) h2;obtain ⟨inf,hinf,hsz⟩:=jmS hn;have hul:=A0RelL.len h6;have ha:a.put o.dst undef=a:=by rw [hdst];rfl
 have hpv:=vo h hx;obtain ⟨cs,s',S,F',hk,k2,k3,k4,k5,k6,k7,k8⟩:=jbf h h6 h4;have hlen:=CRel.len k2;split at hk
 ·rename_i k c b he
  obtain ⟨ty,ds,k0,kc,kk⟩:=hk;have hp:a.eval x=.pointer (some ⟨b,c,none⟩):=by rw [he] at hpv;exact hpv
  have hob:=k3.ob k;rw [k0] at hob;obtain ⟨vs,S0,j1,j2,j3⟩:=hob;have hvl:=CRel.len j2
  have hrun:(execOp a.eval o).run P w=.ok .skip (w.setCells b c us):=by
   have hst:=run_storeCells_cells (P:=P) b c us 0 w (fun j hj=>by
    have:c+j<vs.length:=by omega
    simp [World.cell?,j1,this]) (fun j hj=>by simp [World.frozen?,j1]) k8
   simp only [Nat.add_zero] at hst;simp [execOp,ho,Instr.storeAt,hp,Instr.sureAddr,storeVar,h5,sizeOf,typeInfo,hinf,hsz,hul,h3,hst]
  obtain ⟨j4,j5⟩:=qD us w b c vs ty j1;obtain ⟨j6,j7,j8,j9⟩:=kT us w b c;have hfk:=k3.fr k;rw [j3] at hfk;have hBb:B≤b:=hfk.2 b (by simp)
  have hb:Below B w (w.setCells b c us):=⟨j6,j7,j8,by rw [j9];exact Nat.le_refl _,fun i hi=>j5 i (by omega)⟩
  have hbF:∀g',g'≠k→b∉F' g':=fun g' hg' hh=>k3.dj g' k hg' b hh (by rw [j3];simp)
  have hbS:b∉S:=fun hh=>k5 k b hh (by rw [j3];simp)
  have hbS0:b∉S0:=(List.nodup_cons.1 hfk.1).1;have hdis:(S0++S).Nodup:=List.nodup_append.2 ⟨(List.nodup_cons.1 hfk.1).2,k4.1,fun x hx y hy e=>k5 k y hy (by rw [j3];simp [←e,hx])⟩
  obtain ⟨S',m1,m2,m3⟩:=CRel.setAt_ (c:=c) k2 j2 hdis (by omega)
  have hbS':b∉S':=fun hh=>by rcases m3 b hh with h|h;exact hbS0 h;exact hbS h
  have r1:=k3.setO (g:=k) (ob:=.none) (S:=[]) rfl (Fresh.nil _) (by simp)
  have r2:=r1.world' hb fun g' x hx=>by
   split at hx
   ·simp at hx
   ·rename_i hg'
    exact j5 x fun e=>hbF g' hg' (e▸hx)
  have hob':ORel B (w.setCells b c us) (.box b ty (kI ds c cs)) (b::S'):=⟨_,S',j4,m1.keep hb fun x hx=>j5 x fun e=>hbS' (e▸hx),rfl⟩
  have r3:=r2.setO (g:=k) hob' ⟨List.nodup_cons.2 ⟨hbS',m2⟩,fun x hx=>by
   rcases List.mem_cons.1 hx with rfl|hx
   ·exact hBb
   ·rcases m3 x hx with h|h
    ·exact hfk.2 x (by simp [h])
    ·exact k4.2 x h⟩ (fun g' hg' x hx=>by
   rw [if_neg hg'];rcases List.mem_cons.1 hx with rfl|hx
   ·exact hbF g' hg'
   ·rcases m3 x hx with h|h
    ·exact fun hh=>k3.dj g' k hg' x hh (by rw [j3];simp [h])
    ·exact k5 g' x h)
  have hss:(s'.setO k .none).setO k (.box b ty (kI ds c cs))=s'.setO k (.box b ty (kI ds c cs)):=by
   simp only [St.setO,St.mk.injEq,true_and]
   funext i;split<;>rfl
  rw [hss] at r3;exact OpOk.of_skip hrun (by rw [ha];exact ⟨_,_,r3,kk⟩)
 ·rename_i k c p i hx0 he
  obtain ⟨hpos,ds,hdat,d0,η,dd,j1,j2,j3,j4,j5,hk⟩:=hk;have hp:a.eval x=.pointer (some (jcg hx0 i)):=by rw [he] at hpv;exact hpv
  have hnew:=jgl k2 hdat;have hdl:=RepL.length _ hnew;have hdn:ds.length=n:=by omega
  have hfk:=k3.fr k;obtain ⟨u,S1,q0,q1,q2,q3,q4,q5⟩:=ORel.put1 (k3.ob k) hfk.1 j1;cases dd with
  |val _=>cases j4
  |sl size ty cs0=>
   simp only [D.cells] at j5;obtain ⟨gg,nn,cc,r1,r2,r3,S1',r4,r5,r6,r7⟩:=jm2 (k:=i) (by omega) hnew k4.1 p q1 q4 (fun b hb hb'=>k5 k b hb (q3 b hb')) j3 (by omega)
   have hhx:hx0=.slice (some ⟨gg,0,none⟩) nn cc:=by rw [←j2,q2,r1]
   have hp':a.eval x=.pointer (some ⟨gg,i,none⟩):=by rw [hp,hhx];simp [jcg]
   have hrun:(execOp a.eval o).run P w=.ok .skip (w.setCells gg i us):=by
    have hst:=run_storeCells_cells (P:=P) gg i us 0 w (fun j hj=>(r3 j (by omega)).1) (fun j hj=>(r3 j (by omega)).2) k8
    simp only [Nat.add_zero] at hst;simp [execOp,ho,Instr.storeAt,hp',Instr.sureAddr,storeVar,h5,sizeOf,typeInfo,hinf,hsz,hul,h3,hst]
   obtain ⟨j6,j7,j8,j9⟩:=kT us w gg i;have hggF:gg∈F' k:=q3 gg r2;have hBb:B≤gg:=hfk.2 gg hggF;have hne:∀b,b≠gg→(w.setCells gg i us).heap[b]?=w.heap[b]?:=fun b hb=>jaR us w gg i b hb
   have hb:Below B w (w.setCells gg i us):=⟨j6,j7,j8,by rw [j9];exact Nat.le_refl _,fun j hj=>hne j (by omega)⟩
   have hsl:(D.put p i ds d0).isSl=true:=jAG _ _ _ q0
   obtain ⟨S',m1,m2,m3⟩:=q5 (w.setCells gg i us) (D.put p i ds d0) (fun q=>hdr (w.setCells gg i us) q (D.put p i ds d0) u) S1' hb (fun b _ hb2=>hne b fun e=>hb2 (e▸r2)) hsl r4 (fun _=>rfl) r5 (fun b hb1=>by
    rcases r6 b hb1 with h|h
    ·exact .inl h
    ·exact .inr fun h'=>k5 k b h h')
   have t1:=k3.setO (g:=k) (ob:=.none) (S:=[]) rfl (Fresh.nil _) (by simp)
   have t2:=t1.world' hb fun g' x hx=>by
    split at hx
    ·simp at hx
    ·rename_i hg'
     exact hne x fun e=>k3.dj g' k hg' x hx (e▸hggF)
   have hS'F:∀x∈S',x∈F' k∨x∈S:=fun x hx=>by
    rcases m3 x hx with h|h
    ·exact .inl h
    ·rcases r6 x h with h'|h'
     ·exact .inl (q3 x h')
     ·exact .inr h'
   have t3:=t2.setO (g:=k) m1 ⟨m2,fun x hx=>by
    rcases hS'F x hx with h|h
    ·exact hfk.2 x h
    ·exact k4.2 x h⟩ (fun g' hg' x hx=>by
    rw [if_neg hg'];rcases hS'F x hx with h|h
    ·exact fun hh=>k3.dj g' k hg' x hh h
    ·exact k5 g' x h)
   have hss:(s'.setO k .none).setO k ((s'.o k).putOwn c (D.put p i ds d0) (fun q=>hdr (w.setCells gg i us) q (D.put p i ds d0) u))=s'.setO k ((s'.o k).putOwn c (D.put p i ds d0) (fun q=>hdr (w.setCells gg i us) q (D.put p i ds d0) u)):=by
    simp only [St.setO,St.mk.injEq,true_and]
    funext i;split<;>rfl
   rw [hss] at t3
   exact OpOk.of_skip hrun (by
    rw [ha];have hlike:∀q,¬jro p i n q→hdr (w.setCells gg i us) q (D.put p i ds d0) u=η q:=fun q hq=>by rw [q2];exact r7 q (by rw [hdn];exact hq)
    refine ⟨_,_,t3,jAt hk hlike fun hf=>?_⟩
    simp only [Bool.and_eq_true] at hf
    funext q
    by_cases hq:jro p i n q
    ·obtain ⟨j,r,rfl,hj1,hj2⟩:=hq
     obtain ⟨v1,hv1⟩:=jdh (j:=j-i) hf.1 (by omega)
     obtain ⟨v2,hv2⟩:=jdh (j:=j-i) hf.2 (by simp only [D.cells,List.length_take,List.length_drop];omega)
     rw [q2];rw [jgd (w:=w.setCells gg i us) (j:=j) (v:=v1) p (jdd p j3) (by rw [jj5 _ _ _ _ (by omega) hj1 (by omega)];exact hv1)]
     refine (jgd (v:=v2) p j3 ?_).symm;rw [←hv2];simp only [D.cells];rw [List.getElem?_take,if_pos (by omega),List.getElem?_drop]
     congr 1;omega
    ·exact hlike q hq)
 ·exact hk.elim
end
section
variable {P:Program} {B:Nat} {w w0:World} {F:Nat→List Nat} {o:Nat→Ob}
theorem jhv {own:Bool}:∀{k:Nat} {cs:List D} {vs:List Value} {S:List Nat} {d:D},RepL w own cs vs S→cs[k]?=some d→
 ∃v SA Sd SC,vs[k]?=some v∧S=SA++Sd++SC∧Rep w own d v Sd∧∀d' Sd',Rep w own d' v Sd'→RepL w own (cs.set k d') vs (SA++Sd'++SC)
 |_,[],_,_,_,_,h=>by simp at h
 |0,e::cs,_,_,d,⟨v,vs',S1,S2,rfl,rfl,h1,h2⟩,h=>by
  simp at h;subst h;exact ⟨v,[],S1,S2,rfl,by simp,h1,fun d' Sd' h3=>⟨v,vs',Sd',S2,rfl,by simp,h3,h2⟩⟩
 |k+1,e::cs,_,_,d,⟨v,vs',S1,S2,rfl,rfl,h1,h2⟩,h=>by
  simp at h;obtain ⟨v2,SA,Sd,SC,a1,rfl,a3,a4⟩:=jhv h2 h;exact ⟨v2,S1++SA,Sd,SC,by simpa using a1,by simp,a3,fun d' Sd' h3=>⟨v,vs',S1,SA++Sd'++SC,rfl,by simp,h1,a4 d' Sd' h3⟩⟩
theorem jie:∀{c:Nat} {l:List Cell} {us:List Value} {S:List Nat} {d:D} {η:jq},CRel B w l us S→l[c]?=some (.own d η)→
 ∃u SA Sd SC,S=SA++Sd++SC∧d.isSl=true∧Rep w true d u Sd∧(∀p,η p=hdr w p d u)∧∀d' η' Sd',d'.isSl=true→Rep w true d' u Sd'→(∀p,η' p=hdr w p d' u)→CRel B w (l.set c (.own d' η')) us (SA++Sd'++SC)
 |_,[],_,_,_,_,_,h=>by simp at h
 |0,.a _::l,_,_,d,η,_,h=>by simp at h
 |0,.own e ε::l,_,_,d,η,⟨u,us',S1,S2,rfl,rfl,h1,h2,h3,h4⟩,h=>by
  simp at h;obtain ⟨rfl,rfl⟩:=h;exact ⟨u,[],S1,S2,by simp,h1,h2,h3,fun d' η' Sd' a1 a2 a3=>⟨u,us',Sd',S2,rfl,by simp,a1,a2,a3,h4⟩⟩
 |c+1,.a x::l,_,_,d,η,⟨u,us',rfl,h1,h2⟩,h=>by
  simp at h;obtain ⟨v,SA,Sd,SC,a1,a2,a3,a4,a5⟩:=jie h2 h;exact ⟨v,SA,Sd,SC,a1,a2,a3,a4,fun d' η' Sd' b1 b2 b3=>⟨u,us',rfl,h1,a5 d' η' Sd' b1 b2 b3⟩⟩
 |c+1,.own e ε::l,_,_,d,η,⟨u,us',S1,S2,rfl,rfl,h1,h2,h3,h4⟩,h=>by
  simp at h;obtain ⟨v,SA,Sd,SC,rfl,a2,a3,a4,a5⟩:=jie h4 h;exact ⟨v,S1++SA,Sd,SC,by simp,a2,a3,a4,fun d' η' Sd' b1 b2 b3=>⟨u,us',S1,SA++Sd'++SC,rfl,by simp,h1,h2,h3,a5 d' η' Sd' b1 b2 b3⟩⟩
theorem jmi {ob:Ob} {c:Nat} {S:List Nat} {d:D} {η:jq} (ho:ORel B w ob S) (h:ob.own c=some (d,η)):
 ∃u SA Sd SC,S=SA++Sd++SC∧d.isSl=true∧Rep w true d u Sd∧(∀p,η p=hdr w p d u)∧∀d' η' Sd',d'.isSl=true→Rep w true d' u Sd'→(∀p,η' p=hdr w p d' u)→ORel B w (ob.putOwn c d' η') (SA++Sd'++SC):=by
 cases ob with
 |none=>cases h
 |loose e ε=>
  cases c with
  |succ c=>cases h
  |zero=>
   simp only [Ob.own,Option.some.injEq,Prod.mk.injEq] at h;obtain ⟨rfl,rfl⟩:=h;obtain ⟨h1,u,h2,h3⟩:=ho;exact ⟨u,[],S,[],by simp,h1,h2,h3,fun d' η' Sd' a1 a2 a3=>⟨a1,u,by simpa using a2,a3⟩⟩
 |box b ty l=>
  simp only [Ob.own] at h;split at h
  ·rename_i e ε he
   simp only [Option.some.injEq,Prod.mk.injEq] at h;obtain ⟨rfl,rfl⟩:=h;obtain ⟨us,S1,h1,h2,rfl⟩:=ho;obtain ⟨u,SA,Sd,SC,rfl,a2,a3,a4,a5⟩:=jie h2 he;exact ⟨u,b::SA,Sd,SC,by simp,a2,a3,a4,fun d' η' Sd' b1 b2 b3=>⟨us,SA++Sd'++SC,h1,a5 d' η' Sd' b1 b2 b3,by simp⟩⟩
  ·cases h
theorem jnR {B:Nat} {w:World} {ob:Ob} {S:List Nat} {c k sz tyo:Nat} {ds0:List D} {e:D} {η:jq} (h:ORel B w ob S) (ho:ob.own c=some (.sl sz tyo ds0,η)) (hk:ds0[k]?=some e):
 ∃v Sk,Rep w true e v Sk∧(e.isSl=true→η [k]=v)∧(∀x,e=.val x→v=x)∧(∀b∈Sk,b∈S)∧(S.Nodup→Sk.Nodup)∧∀e' Sk',Rep w true e' v Sk'→∃η' S',ORel B w (ob.putOwn c (.sl sz tyo (ds0.set k e')) η') S'∧η' []=η []∧∃R,S.Perm (R++Sk)∧S'.Perm (R++Sk'):=by
 obtain ⟨u,SA,Sd,SC,e1,a1,a2,a3,a4⟩:=jmi h ho;obtain ⟨vs,T,S',hrow,hrl,rfl⟩:=a2;obtain ⟨v,SA',Sk,SC',b1,rfl,b3,b4⟩:=jhv hrl hk
 have hperm:∀X:List Nat,(SA++(T++(SA'++X++SC'))++SC).Perm ((SA++(T++(SA'++[]++SC'))++SC)++X):=fun X=>by
  have e1:SA++(T++(SA'++X++SC'))++SC=(SA++(T++SA'))++(X++(SC'++SC)):=by simp
  have e2:(SA++(T++(SA'++[]++SC'))++SC)++X=(SA++(T++SA'))++((SC'++SC)++X):=by simp
  rw [e1,e2];exact List.Perm.append_left _ List.perm_append_comm
 refine ⟨v,Sk,b3,fun hs=>?_,fun x hx=>?_,fun b hb=>by rw [e1];simp [hb],fun hnd=>?_,fun e' Sk' hr=>?_⟩
 ·rw [a3]
  rcases qP hrow with ⟨_,rfl⟩|⟨gg,nn,cc,rfl,_,_,hcell,_⟩
  ·simp at b1
  ·simp only [hdr,hk,Nat.zero_add,hcell k v b1,Option.getD_some]
   exact zT hs
 ·subst hx;exact b3.1
 ·rw [e1] at hnd
  exact (List.nodup_append.1 ((hperm Sk).nodup_iff.1 hnd)).2.1
 ·have hrep:Rep w true (.sl sz tyo (ds0.set k e')) u (T++(SA'++Sk'++SC')):=⟨vs,T,_,hrow,b4 _ _ hr,rfl⟩
  refine ⟨fun p=>hdr w p (.sl sz tyo (ds0.set k e')) u,_,a4 _ _ _ rfl hrep (fun _=>rfl),by rw [a3];rfl,_,by rw [e1];exact hperm Sk,hperm Sk'⟩
end
section
variable {P:Program} {β B N:Nat} {w w0:World} {s:St} {a:Act} {F:Nat→List Nat} {o:Oper} {K:St→Prop}
theorem qc {α:Type}:∀(xs us:List α) (k:Nat),k+xs.length≤us.length→kI us k xs=us.take k++xs++us.drop (k+xs.length)
 |[],us,k,_=>by simp [kI]
 |x::xs,us,k,h=>by
  have hk:k<us.length:=by simp at h;omega
  rw [kI,qc xs (us.set k x) (k+1) (by simp at h⊢;omega)]
  have e1:(us.set k x).take (k+1)=us.take k++[x]:=by
   rw [List.take_add_one,List.take_set_of_le (Nat.le_refl _)];simp [hk]
  have e2:(us.set k x).drop (k+1+xs.length)=us.drop (k+(x::xs).length):=by
   rw [List.drop_set_of_lt (by omega)]
   congr 1
   simp;omega
  rw [e1,e2];simp
theorem jsD (h:RelF B w0 N s a w F) {size:Nat}:∀{parts:List (Nat×Operand)} {ps:List (Nat×Nat×X)} {l:List A0} {k:Nat} {us:List Value},jdk (fun i=>some (i*size,size)) parts=some ps→jun s ps=some l→parts.map (·.1)=List.range' k parts.length→us.length=(k+parts.length)*size→
 ∃xs:List Value,A0RelL B w l xs∧xs.length=parts.length*size∧Instr.fill (fun i=>some (i*size,size)) us.toArray (parts.map fun p=>(p.1,a.eval p.2))=some (us.take (k*size)++xs).toArray
 |[],ps,l,k,us,h1,h2,_,h4=>by
  simp [jdk] at h1;subst h1;simp [jun] at h2;subst h2;refine ⟨[],rfl,by simp,?_⟩
  simp at h4;simp [Instr.fill,←h4]
 |(i,x)::parts,ps,l,k,us,h1,h2,h3,h4=>by
  simp only [jdk] at h1;split at h1
  ·rename_i off n x' ps' k1 k2 k3
   simp at h1;subst h1;simp only [List.map_cons,List.length_cons,List.range'_succ,List.cons.injEq] at h3;obtain ⟨rfl,h3⟩:=h3;simp only [jun] at h2;split at h2
   ·rename_i m r k4 k5
    split at h2
    ·rename_i k6
     simp at h2;subst h2;obtain ⟨xs,k7,k8⟩:=VRel.cells (vo h k2) k4;have hxl:=A0RelL.len k8;simp only [Option.some.injEq,Prod.mk.injEq] at k1;obtain ⟨rfl,rfl⟩:=k1;have hsz:i*size+size+parts.length*size=us.length:=by rw [h4,List.length_cons,Nat.add_mul,Nat.add_mul,Nat.one_mul];omega
     have hle:i*size+xs.length≤us.length:=by omega
     obtain ⟨ys,k9,k10,k11⟩:=jsD h (k:=i+1) (us:=kI us (i*size) xs) k3 k5 h3 (by rw [jov,h4,List.length_cons];congr 1;omega)
     have happ:∀(l m:List A0) (us vs:List Value),A0RelL B w l us→A0RelL B w m vs→A0RelL B w (l++m) (us++vs):=by
      intro l
      induction l with
      |nil=>intro m us vs h1 h2;rw [show us=[] from h1];exact h2
      |cons x l ih=>intro m us vs h1 h2;obtain ⟨u,us',rfl,h3,h4⟩:=h1;exact ⟨u,_,rfl,h3,ih m us' vs h4 h2⟩
     refine ⟨xs++ys,happ _ _ _ _ k8 k9,by rw [List.length_append,hxl,k6,k10,List.length_cons,Nat.add_mul,Nat.one_mul];omega,?_⟩
     have e2:=jhK (i*size) xs 0 us;simp only [Nat.add_zero] at e2;have e1:¬(xs.length≠size∨us.length<i*size+xs.length):=by omega
     simp only [List.map_cons,Instr.fill,k7];rw [if_neg (by simpa using e1)]
     rw [←Array.foldl_toList,Array.toList_zipIdx];rw [show (xs.toArray.toList.zipIdx 0)=xs.zipIdx 0 from rfl,e2]
     rw [k11]
     congr 2
     have hx:xs.length=size:=by omega
     have e3:(i+1)*size=(us.take (i*size)++xs).length:=by rw [List.length_append,List.length_take,Nat.add_mul,Nat.one_mul];omega
     rw [qc xs us (i*size) hle,e3,List.take_left];simp
    ·simp at h2
   ·simp at h2
  ·simp at h1
theorem jE3 (h:RelF B w0 N s a w F) {t e:TypeId} {n size:Nat} {parts:Array (Nat×Operand)} {ps:List (Nat×Nat×X)} {g:Option (Nat×Bool)} {zs:List Value} {ks:List (Option (Nat×Nat))} (ho:o.op=.buildSlice t n parts) (ht:P.underlying t=some (.slice e)) (hsz:qy P e=some size) (hs:0<size) (hz:vS P e=some zs)
 (hidx:parts.toList.map (·.1)=List.range n) (hsm:n*size<1000) (hps:jdk (fun i=>some (i*size,size)) parts.toList=some ps) (hd:∀k,o.dst=some k→k<N) (hr:vp P β ⟨o.dst,g,.bsl e size n ks ps⟩ s K):
 OpOk P o a w (fun a' w'=>∃s' F',RelF B w0 N s' a' w' F'∧K s'):=by
 obtain ⟨l,h1,h2⟩:=hr;have hpl:parts.toList.length=n:=by have:=congrArg List.length hidx;simpa using this
 obtain ⟨inf,hinf,hsize⟩:=jmS hsz
 have hzz:∃z,inf.zero=some z:=by
  unfold vS at hz;rw [hinf] at hz;simp only at hz;split at hz
  ·exact ⟨_,by assumption⟩
  ·simp at hz
 obtain ⟨z,hzz⟩:=hzz
 have hfill:∀us:List Value,us.length=n*size→∃xs:List Value,A0RelL B w l xs∧xs.length=n*size∧Instr.fill (fun i=>some (i*size,size)) us.toArray (parts.toList.map fun p=>(p.1,a.eval p.2))=some xs.toArray:=fun us hus=>by
  obtain ⟨xs,k1,k2,k3⟩:=jsD h (k:=0) (us:=us) hps h1 (by rw [hidx,hpl,List.range_eq_range']) (by rw [hus,hpl,Nat.zero_add])
  rw [hpl] at k2;refine ⟨xs,k1,k2,?_⟩;rw [k3];simp
 obtain ⟨xs,h3,h4,hrun⟩:∃xs:List Value,A0RelL B w l xs∧xs.length=n*size∧(execOp a.eval o).run P w=.ok (.value (.slice (some ⟨w.heap.size,0,none⟩) n n)) (w.alloc (.cells xs.toArray e)):=by
  have hno:¬(16777216<n*size):=by omega
  have hmapl:(parts.map fun (p:Nat×Operand)=>(p.1,a.eval p.2)).toList=parts.toList.map fun p=>(p.1,a.eval p.2):=by simp
  have hf:∀f:Nat→Value,∃xs:List Value,A0RelL B w l xs∧xs.length=n*size∧Instr.fill (fun i=>some (i*size,size)) ((Array.range (n*size)).map f) (parts.toList.map fun p=>(p.1,a.eval p.2))=some xs.toArray:=fun f=>by
   obtain ⟨xs,k1,k2,k3⟩:=hfill ((Array.range (n*size)).map f).toList (by simp)
   rw [Array.toArray_toList] at k3;exact ⟨xs,k1,k2,k3⟩
  by_cases h0:n*size=0
  ·obtain ⟨xs,k1,k2,k3⟩:=hf fun i=>(#[]:Array Value)[i%0]!
   refine ⟨xs,k1,k2,?_⟩;rw [h0] at k3
   have hnn:n=0:=by
    rcases Nat.mul_eq_zero.1 h0 with h|h
    ·exact h
    ·omega
   subst hnn;have hp0:parts.toList=[]:=List.eq_nil_of_length_eq_zero hpl;have hp1:parts=#[]:=by rw [←Array.toArray_toList (xs:=parts),hp0]
   have hx0:xs=[]:=List.eq_nil_of_length_eq_zero (by rw [k2,Nat.zero_mul])
   subst hx0;simp [execOp,ho,Instr.buildSlice,run_underlying ht,sizeOf,typeInfo,hinf,hsize,hp1,Instr.fill,newRow,Array.range_zero']
  ·obtain ⟨xs,k1,k2,k3⟩:=hf fun i=>z.cells[i%z.cells.size]!
   refine ⟨xs,k1,k2,?_⟩;have hno2:¬(n*size>2^24):=by omega
   simp only [execOp,ho,Sem.run_bind,Instr.buildSlice,run_underlying ht,Result.andThen_ok,sizeOf,typeInfo,hinf,hsize,Sem.run_pure,if_neg hno2,if_neg h0,zeroValue,hzz,hmapl,k3];simp [hinf,hsize,hno2,h0,hzz,hmapl,k3,newRow]
 obtain ⟨cs,s',S,F',⟨ds,kd,kk⟩,k2,k3,k4,k5,k6,k7,_⟩:=jbf h h3 h2;have hb:Below w.heap.size w (w.alloc (.cells xs.toArray e)):=(Below.refl _ _).alloc (Nat.le_refl _) _;have hB:B≤w.heap.size:=Nat.le_trans h.hB h.below.size;have hSlt:∀b∈S,b<w.heap.size:=fun b hb'=>k2.lt b hb'
 have hrl:=jgl k2 kd;have hrl':RepL (w.alloc (.cells xs.toArray e)) true ds xs S:=RepL.keep _ hrl fun b hb'=>hb.block b (hSlt b hb')
 have hown:Rep (w.alloc (.cells xs.toArray e)) true (.sl size e ds) (.slice (some ⟨w.heap.size,0,none⟩) n n) (w.heap.size::S):=
  ⟨xs,[w.heap.size],S,⟨n,World.ownsRow_lit w xs.toArray n (Nat.zero_le _) (by unfold maxLen;have:n≤n*size:=Nat.le_mul_of_pos_right _ hs;omega) (by simpa using h4),rfl⟩,hrl',rfl⟩
 have hF'lt:∀g,∀b∈F' g,b<w.heap.size:=fun g b hb'=>(k3.ob g).lt b hb'
 have hob:ORel B (w.alloc (.cells xs.toArray e)) (.loose (.sl size e ds) (fun p=>hdr (w.alloc (.cells xs.toArray e)) p (.sl size e ds) (.slice (some ⟨w.heap.size,0,none⟩) n n))) (w.heap.size::S):=⟨rfl,_,hown,fun _=>rfl⟩
 have h5:=(k3.world hb).setO (g:=100*(β+o.dst.getD 0)) hob ⟨List.nodup_cons.2 ⟨fun hh=>by have:=hSlt _ hh;omega,k4.1⟩,fun b hb'=>by rcases List.mem_cons.1 hb' with rfl|hb';exact hB;exact k4.2 b hb'⟩ (fun g' _ b hb'=>by
  rcases List.mem_cons.1 hb' with rfl|hb'
  ·exact fun hh=>by have:=hF'lt g' _ hh;omega
  ·exact k5 g' b hb')
 have hv:VRel B (w.alloc (.cells xs.toArray e)) (.c (.h (100*(β+o.dst.getD 0)) 0 [] (.slice (some ⟨w.heap.size,0,none⟩) n n))) (.slice (some ⟨w.heap.size,0,none⟩) n n):=⟨rfl,rfl⟩;exact OpOk.of_run hrun ⟨_,_,h5.put hv hd,kk _⟩
theorem jsx (h:RelF B w0 N s a w F) {e size:Nat} {x:AV} {u:Value} {K:List D→St→Prop} (hv:VRel B w x u) (hk:jfD s e size x K):
 ∃xs s' S F',K xs s'∧Rep w true (.sl size e xs) u S∧RelF B w0 N s' a w F'∧Fresh B S∧(∀g,∀b∈S,b∉F' g)∧(∀g b,b∈F' g→b∈F g)∧∀b∈S,∃g,b∈F g:=by
 unfold jfD at hk;split at hk
 ·have hu:u=.slice none 0 0:=hv
  subst hu;exact ⟨[],s,[],F,hk,Rep.nil_ w size e,h,Fresh.nil _,by simp,fun _ _ h=>h,by simp⟩
 ·rename_i g c p x'
  rcases hk with ⟨rfl,cs,η,ho,hx,hk⟩|⟨k,rfl,sz,tyo,ds0,cs,η,ho,hd,hx,hk⟩
  ·obtain ⟨u',S1,F1,j1,j2,j3,j4,j5,j6,j7,j8⟩:=h.rm ho
   have hu:u=u':=by rw [hv.1,←hx,j3,zT j1]
   subst hu;exact ⟨cs,_,S1,F1,hk,j2,j5,j4,j6,j8,fun b hb=>⟨g,j7 b hb⟩⟩
  ·obtain ⟨v,Sk,a1,a2,_,a4,a5,a6⟩:=jnR (h.ob g) ho hd
   have hu:u=v:=by rw [hv.1,←hx,a2 rfl]
   subst hu;obtain ⟨η',S',b1,b2,R,b3,b4⟩:=a6 (.val u) [] ⟨rfl,rfl⟩;rw [List.append_nil] at b4;have hnd:=b3.nodup_iff.1 (h.fr g).1;have hsub:∀b∈S',b∈F g:=fun b hb=>b3.mem_iff.2 (List.mem_append.2 (.inl (b4.mem_iff.1 hb)))
   have t1:=h.setO (g:=g) b1 ⟨b4.nodup_iff.2 (List.nodup_append.1 hnd).1,fun b hb=>(h.fr g).2 b (hsub b hb)⟩ (fun g' hg' b hb hh=>h.dj g' g hg' b hh (hsub b hb))
   have hxu:x'=u:=by rw [←hx,a2 rfl]
   refine ⟨cs,_,Sk,_,hk η' b2,a1,by rw [hxu];exact t1,⟨(List.nodup_append.1 hnd).2.1,fun b hb=>(h.fr g).2 b (a4 b hb)⟩,fun g' b hb hh=>?_,fun g' b hb=>?_,fun b hb=>⟨g,a4 b hb⟩⟩
   ·split at hh
    ·exact (List.nodup_append.1 hnd).2.2 b (b4.mem_iff.1 hh) b hb rfl
    ·rename_i hgg
     exact h.dj g' g hgg b hh (a4 b hb)
   ·split at hb
    ·rename_i e;rw [e];exact hsub b hb
    ·exact hb
 ·exact hk.elim
theorem jso:∀{ds:List D} {us:List Value} {S:List Nat} {own:Bool},jY ds=true→RepL w own ds us S→(∀u∈us,u.oneCell'=true)∧∀(w':World) (own':Bool),RepL w' own' ds us []
 |[],us,S,own,_,h=>by obtain ⟨rfl,_⟩:=h;exact ⟨by simp,fun _ _=>⟨rfl,rfl⟩⟩
 |.val u::ds,us,S,own,hf,h=>by
  obtain ⟨v,vs',S1,S2,rfl,rfl,h3,h4⟩:=h;simp only [jY,Bool.and_eq_true] at hf;obtain ⟨h5,h6⟩:=jso hf.2 h4;obtain ⟨rfl,rfl⟩:=h3;refine ⟨fun u hu=>?_,fun w' own'=>RepL.val_ (h6 w' own')⟩
  rcases List.mem_cons.1 hu with rfl|hu
  ·exact hf.1
  ·exact h5 u hu
 |.sl _ _ _::_,_,_,_,hf,_=>by simp [jY] at hf
theorem jvX {own:Bool}:∀{ds:List D} {us:List Value} {S:List Nat},RepL w own ds us S→(∀d∈ds,∀u,d=.val u→u.oneCell'=true)→∀u∈us,u.oneCell'=true
 |[],us,S,h,_=>by obtain ⟨rfl,_⟩:=h;simp
 |d::ds,us,S,h,hd=>by
  obtain ⟨v,vs',S1,S2,rfl,rfl,h3,h4⟩:=h;intro u hu;rcases List.mem_cons.1 hu with rfl|hu
  ·cases d with
   |val x=>obtain ⟨rfl,_⟩:=h3;exact hd _ (by simp) _ rfl
   |sl _ _ _=>obtain ⟨_,_,_,rfl⟩:=zz h3;rfl
  ·exact jvX h4 (fun d' hd'=>hd d' (by simp [hd'])) u hu
theorem jmz {t e:TypeId} {i:TypeInfo} {zs:List Value} (ht:P.underlying t=some (.slice e)) (hi:P.info? e=some i) (hz:vS P e=some zs) (hs:0<i.size) {ty:TypeId} {xs ys:List D} {v:Value} {S Sy:List Nat}
 (hrep:Rep w true (.sl i.size e xs) v S) {A:Option Addr} {m c:Nat} {news:List Value} (hy:RepL w true ys news Sy) (hm:news.length=m*i.size) (hA:A=none→m=0∧c=0) (hnews:∀ad,A=some ad→∀j u,news[j]?=some u→w.cell? (ad.add j)=some u)
 (h1:∀u∈news,u.oneCell'=true) (hF:Fresh B (S++Sy)) (hB:B≤w.heap.size) (h63:xs.length/i.size+ys.length/i.size≤maxLen) (hbytes:(xs.length/i.size+ys.length/i.size)*i.bytes≤140737488355328):
 ∃v' w' S',(Builtin.append_ #[t,t] ty #[v,.slice A m c]).run P w=.ok v' w'∧Rep w' true (.sl i.size e (xs++ys)) v' S'∧Fresh B S'∧Only S w w'∧∀s∈S',s∈S∨s∈Sy∨w.heap.size≤s:=by
 obtain ⟨vs,T,S1,⟨n,hown,rfl⟩,hrl,rfl⟩:=hrep;have hvl:=RepL.length _ hrl;have hyl:=RepL.length _ hy;have hxn:xs.length/i.size=n:=by rw [←hvl,hown.1];exact Nat.mul_div_cancel _ hs
 have hyn:ys.length/i.size=m:=by rw [←hyl,hm];exact Nat.mul_div_cancel _ hs
 rw [hxn,hyn] at h63 hbytes;unfold vS at hz;rw [hi] at hz;simp only at hz;split at hz
 ·rename_i z hzz
  split at hz
  ·rename_i hcc
   simp only [Bool.and_eq_true,decide_eq_true_eq] at hcc;cases A with
   |none=>
    obtain ⟨rfl,rfl⟩:=hA rfl;have hn0:news=[]:=List.eq_nil_of_length_eq_zero (by rw [hm,Nat.zero_mul])
    subst hn0;have hy0:ys=[]:=List.eq_nil_of_length_eq_zero (by rw [←hyl];rfl)
    subst hy0;exact ⟨v,w,blk v++S1,run_append_owned_none (P:=P) w 0 t ty e i i.size ht hi v n vs hown,by rw [List.append_nil];exact ⟨vs,blk v,S1,⟨n,hown,rfl⟩,hrl,rfl⟩,hF.left,Only.refl _ _,fun s hs=>.inl hs⟩
   |some ad=>
    have hnews':=hnews ad rfl;obtain ⟨v',w',hr,h2,h3,_⟩:=run_append_own (P:=P) w 0 t ty e i z i.size i.bytes ht hi hzz rfl rfl hcc.1 hs v n vs hown ad m c news hm hnews' h1 h63 hbytes (Nat.zero_le _);have honly:Only (blk v++S1) w w':=Only.of_grown h3 (fun b hb=>by simp [hb])
    have honly1:Only (blk v) w w':=Only.of_grown h3 (fun b hb=>hb)
    have hF1:∀s∈S1++Sy,s∉blk v:=fun s hs hb=>by
     have:=hF.1;rw [List.append_assoc] at this;exact (List.nodup_append.1 this).2.2 s hb s hs rfl
    have hnew:∀b∈blk v',b∈blk v∨b=w.heap.size:=jmA ht hi hzz hown hm hnews' h1 h63 hbytes hr
    have hrep':Rep w' true (.sl i.size e (xs++ys)) v' (blk v'++(S1++Sy)):=
     ⟨vs++news,blk v',S1++Sy,⟨n+m,h2,rfl⟩,RepL.append_ _ (hrl.only honly1 fun s hs=>hF1 s (by simp [hs])) (hy.only honly1 fun s hs=>hF1 s (by simp [hs])),rfl⟩
    have hlt:∀s∈S1++Sy,s<w.heap.size:=fun s hs=>by
     rcases List.mem_append.1 hs with hs|hs
     ·exact RepL.lt _ hrl s hs
     ·exact RepL.lt _ hy s hs
    refine ⟨v',w',_,hr,hrep',?_,honly,fun s hs=>?_⟩
    ·rw [List.append_assoc] at hF
     refine ⟨List.nodup_append.2 ⟨?_,(List.nodup_append.1 hF.1).2.1,fun a ha b hb e=>?_⟩,fun b hb=>?_⟩
     ·rcases h2.2 with ⟨rfl,_⟩|⟨g,cap,cur,rfl,_⟩<;>simp [blk]
     ·subst e
      rcases hnew a ha with h4|h4
      ·exact hF1 a hb h4
      ·have:=hlt a hb;omega
     ·rcases List.mem_append.1 hb with hb|hb
      ·rcases hnew b hb with h4|h4
       ·exact hF.2 b (by simp [h4])
       ·omega
      ·exact hF.2 b (by rw [List.mem_append];exact .inr hb)
    ·rcases List.mem_append.1 hs with hs|hs
     ·rcases hnew s hs with h4|h4
      ·exact .inl (by simp [h4])
      ·right;right;omega
     ·rcases List.mem_append.1 hs with hs|hs
      ·exact .inl (by simp [hs])
      ·exact .inr (.inl hs)
  ·simp at hz
 ·simp at hz
theorem jBz (h:RelF B w0 N s a w F) {size:Nat} (hs:0<size) {x:AV} {u:Value} {K:List D→St→Prop} (hv:VRel B w x u) (hk:jx2 s size x K):
 ∃ys s' Sy F' A m c news,K ys s'∧u=.slice A m c∧RepL w true ys news Sy∧news.length=m*size∧(A=none→m=0∧c=0)∧(∀b o,A=some ⟨b,o,none⟩→∀j u,news[j]?=some u→w.cell? ⟨b,o+j,none⟩=some u)∧(∀ad,A=some ad→ad.spot=none∨news=[])∧(∀u∈news,u.oneCell'=true)∧
  RelF B w0 N s' a w F'∧Fresh B Sy∧(∀g,∀b∈Sy,b∉F' g)∧(∀g b,b∈F' g→b∈F g)∧∀b∈Sy,∃g,b∈F g:=by
 have flat:∀(dd:D) (S:List Nat),dd.isSl=true→dd.size=size→jY dd.cells=true→Rep w false dd u S→K dd.cells s→
  ∃ys s' Sy F' A m c news,K ys s'∧u=.slice A m c∧RepL w true ys news Sy∧news.length=m*size∧(A=none→m=0∧c=0)∧(∀b o,A=some ⟨b,o,none⟩→∀j u,news[j]?=some u→w.cell? ⟨b,o+j,none⟩=some u)∧(∀ad,A=some ad→ad.spot=none∨news=[])∧(∀u∈news,u.oneCell'=true)∧
  RelF B w0 N s' a w F'∧Fresh B Sy∧(∀g,∀b∈Sy,b∉F' g)∧(∀g b,b∈F' g→b∈F g)∧∀b∈Sy,∃g,b∈F g:=by
  intro dd S k1 k2 k3 k4 k5;cases dd with
  |val _=>cases k1
  |sl size' ty cs=>
   have k2':size'=size:=k2;subst k2';obtain ⟨A,n,c,vs,S',rfl,j1,j2,_,j4,j5,j6,j7⟩:=jab k4;obtain ⟨j8,j9⟩:=jso k3 j2;have hvl:=RepL.length _ j2;refine ⟨cs,s,[],F,A,n,c,vs,k5,rfl,j9 w true,by rw [hvl,j1],fun hA=>?_,fun b o' hA j u hu=>?_,fun ad hA=>?_,j8,h,Fresh.nil _,by simp,fun _ _ h=>h,by simp⟩
   ·have:=j6 hA;omega
   ·obtain ⟨b',o'',hA',_,j10⟩:=j7 (fun e=>by subst e;simp at hu)
    rw [hA'] at hA;cases hA;exact j10 j u hu
   ·by_cases hne:vs=[]
    ·exact .inr hne
    ·obtain ⟨b',o'',hA',_⟩:=j7 hne
     rw [hA'] at hA;cases hA;exact .inl rfl
 unfold jx2 at hk;split at hk
 ·have hu:u=.slice none 0 0:=hv
  subst hu;exact ⟨[],s,[],F,none,0,0,[],hk,rfl,⟨rfl,rfl⟩,by simp,fun _=>⟨rfl,rfl⟩,by simp,by simp,by simp,h,Fresh.nil _,by simp,fun _ _ h=>h,by simp⟩
 ·rename_i dd
  obtain ⟨k1,k2,k3,k4⟩:=hk;obtain ⟨_,S,k5,_⟩:=hv;exact flat dd S k1 k2 k3 k5 k4
 ·rename_i g c p x' sz lo m
  obtain ⟨dd,k1,k2,k3,k4⟩:=hk;have hv':A0Rel B w (.hs g c p x' sz lo m) u:=hv;obtain ⟨S,k5⟩:=jkA h hv' k1;obtain ⟨_,_,d1,_,_,_,k6,_,_,_,rfl⟩:=k1;exact flat _ S (by cases d1 with|val _=>cases k6|sl _ _ _=>rfl) k2 k3 k5 k4
 ·rename_i g c p x'
  obtain ⟨dd,k1,k2,k3⟩:=hk;have hv':A0Rel B w (.h g c p x') u:=hv;obtain ⟨S,k4⟩:=jkA h hv' k1;split at k3
  ·rename_i k5
   obtain ⟨_,_,_,_,_,k7⟩:=k1;exact flat dd S k7 k2 k5 k4 k3
  ·obtain ⟨rfl,k5,k6⟩:=k3
   obtain ⟨d0,η,k7,k8,k9,k10⟩:=k1;simp [D.get] at k9;subst k9;obtain ⟨u',S1,F1,j1,j2,j3,j4,j5,j6,j7,j8⟩:=h.rm k7;have hu:u=u':=by rw [hv'.1,←k8,j3,zT j1]
   subst hu;cases d0 with
   |val _=>cases j1
   |sl size' ty cs=>
    have k2':size'=size:=k2;subst k2';obtain ⟨vs,T,S2,m1,m2,rfl⟩:=j2;have hvl:=RepL.length _ m2
    have hone:∀u∈vs,u.oneCell'=true:=jvX m2 (by
     have key:∀l:List D,jlo l=true→∀d∈l,∀u,d=.val u→u.oneCell'=true:=by
      intro l
      induction l with
      |nil=>intro _ d hd;simp at hd
      |cons x l ih=>
       intro hl d hd u hu;cases x with
       |val v=>
        simp only [jlo,Bool.and_eq_true] at hl;rcases List.mem_cons.1 hd with rfl|hd
        ·cases hu;exact hl.1
        ·exact ih hl.2 d hd u hu
       |sl _ _ _=>
        rcases List.mem_cons.1 hd with rfl|hd
        ·cases hu
        ·exact ih hl d hd u hu
     exact key cs k5)
    have hsub:∀b∈S2,b∈T++S2:=fun b hb=>by simp [hb]
    rcases qP m1 with ⟨rfl,rfl⟩|⟨gg,nn,cc,rfl,rfl,m3,m4,_⟩
    ·refine ⟨cs,_,S2,F1,none,0,0,[],k6,rfl,m2,by simp,fun _=>⟨rfl,rfl⟩,by simp,by simp,by simp,j5,j4.right,fun g' b hb=>j6 g' b (hsub b hb),j8,fun b hb=>⟨g,j7 b (hsub b hb)⟩⟩
    ·refine ⟨cs,_,S2,F1,_,nn,cc,vs,k6,rfl,m2,m3,fun hA=>(by cases hA),fun b o' hA j u hu=>?_,fun ad hA=>?_,hone,j5,j4.right,fun g' b hb=>j6 g' b (hsub b hb),j8,fun b hb=>⟨g,j7 b (hsub b hb)⟩⟩
     ·cases hA
      rw [Nat.zero_add];exact m4 j u hu
     ·cases hA
      exact .inl rfl
 ·exact hk.elim
theorem jE5 (h:RelF B w0 N s a w F) {c:Call} {t e:TypeId} {i:TypeInfo} {zs:List Value} {x y:Operand} {x' y':X} {g:Option (Nat×Bool)} (ho:o.op=.call c) (hc:c.callee=.builtin .append) (ha:c.args.toList=[x,y]) (hta:c.argTypes.toList=[t,t]) (ht:P.underlying t=some (.slice e)) (hi:P.info? e=some i) (hz:vS P e=some zs) (hs:0<i.size)
 (hx:jR x=some x') (hy:jR y=some y') (hd:∀k,o.dst=some k→k<N) (hr:vp P β ⟨o.dst,g,.app e i.size i.bytes x' y'⟩ s K):OpOk P o a w (fun a' w'=>∃s' F',RelF B w0 N s' a' w' F'∧K s'):=by
 have hr':jx2 s i.size (s.ev y') fun ys s1=>jfD s1 e i.size (s.ev x') fun xs s2=>xs.length/i.size+ys.length/i.size≤maxLen∧(xs.length/i.size+ys.length/i.size)*i.bytes≤140737488355328∧
  ∀η,K ((s2.addO [(100*(β+o.dst.getD 0),.loose (.sl i.size e (xs++ys)) η)]).put o.dst (.c (.h (100*(β+o.dst.getD 0)) 0 [] (η [])))):=hr
 obtain ⟨ys,s1,Sy,F1,A,m,cc,news,hr2,e1,r1,r2,r3,r4,r5,r6,h1,r7,r8,r9,r10⟩:=jBz h hs (vo h hy) hr';obtain ⟨xs,s2,S,F2,⟨q1,q2,q3⟩,q4,h2,q5,q6,q7,q8⟩:=jsx h1 (vo h hx) hr2;have hargs:c.args=#[x,y]:=by rw [←Array.toArray_toList (xs:=c.args),ha]
 have hats:c.argTypes=#[t,t]:=by rw [←Array.toArray_toList (xs:=c.argTypes),hta]
 have hB:B≤w.heap.size:=Nat.le_trans h.hB h.below.size
 have hdis:∀b∈S,b∉Sy:=fun b hb hb'=>by
  obtain ⟨g',hg'⟩:=q8 b hb;exact r8 g' b hb' hg'
 have hF:Fresh B (S++Sy):=⟨List.nodup_append.2 ⟨q5.1,r7.1,fun p hp q hq e=>hdis p hp (e▸hq)⟩,fun b hb=>by rcases List.mem_append.1 hb with hb|hb;exact q5.2 b hb;exact r7.2 b hb⟩
 obtain ⟨v',w',S',hrun,hrep,hFr,honly,hS'⟩:=jmz (B:=B) (ty:=o.type) ht hi hz hs q4 r1 r2 r3 (fun ad hA j u hu=>by
  rcases r5 ad hA with h5|h5
  ·obtain ⟨b,o',sp⟩:=ad
   simp only at h5;subst h5;rw [jap];exact r4 b o' hA j u hu
  ·subst h5;simp at hu) r6 hF hB q1 q2
 have hrun2:(execOp a.eval o).run P w=.ok (.value v') w':=by
  simp [execOp,ho,resolve,hc,hargs,hats,e1,invoke,builtin,hrun]
 have hb:Below B w w':=honly.below (fun b hb=>q5.2 b hb) hB
 have h3:=h2.world' hb fun g b hb'=>honly.block b ((h2.ob g).lt b hb') fun hh=>q6 g b hh hb'
 have hob:ORel B w' (.loose (.sl i.size e (xs++ys)) (fun p=>hdr w' p (.sl i.size e (xs++ys)) v')) S':=⟨rfl,v',hrep,fun _=>rfl⟩
 have h4:=h3.setO (g:=100*(β+o.dst.getD 0)) hob hFr (fun g' _ b hb'=>by
  rcases hS' b hb' with h5|h5|h5
  ·exact q6 g' b h5
  ·exact fun hh=>r8 g' b h5 (q7 g' b hh)
  ·exact fun hh=>by have:=(h2.ob g').lt b hh;omega)
 have hv:VRel B w' (.c (.h (100*(β+o.dst.getD 0)) 0 [] v')) v':=⟨rfl,by obtain ⟨_,_,_,rfl⟩:=zz hrep;rfl⟩
 exact OpOk.of_run hrun2 ⟨_,_,h4.put hv hd,q3 _⟩
theorem jlX {t u e:TypeId} {i:TypeInfo} (ht:P.underlying t=some (.slice e)) (hu:P.underlying u=some .string) (hi:P.info? e=some i) (hz:i.zero=some (.int .u8 0)) (hs:i.size=1) (hby:i.bytes=1) {ty:TypeId} {xs:List D} {v:Value} {S:List Nat}
 (hrep:Rep w true (.sl 1 e xs) v S) (b:ByteArray) (hF:Fresh B S) (hB:B≤w.heap.size) (hlen:xs.length+b.size≤140737488355328):
 ∃v' w' S',(Builtin.append_ #[t,u] ty #[v,.string b]).run P w=.ok v' w'∧Rep w' true (.sl 1 e (xs++strCells b)) v' S'∧Fresh B S'∧Only S w w'∧∀s∈S',s∈S∨w.heap.size≤s:=by
 obtain ⟨vs,T,S1,⟨n,hown,rfl⟩,hrl,rfl⟩:=hrep;have hvl:=RepL.length _ hrl;have hvn:vs.length=n:=by simpa using hown.1
 have h63:n+b.size≤maxLen:=by unfold maxLen;omega
 obtain ⟨v',w',hr,h2,h3,_⟩:=Go.Lib.run_append_own_string (P:=P) w 0 t u ty e i ht hu hi hz hs hby v n vs hown b h63 (by omega) (Nat.zero_le _)
 have honly:Only (blk v++S1) w w':=Only.of_grown h3 (fun b hb=>by simp [hb])
 have honly1:Only (blk v) w w':=Only.of_grown h3 (fun b hb=>hb)
 have hF1:∀s∈S1,s∉blk v:=fun s hs hb=>(List.nodup_append.1 hF.1).2.2 s hb s hs rfl
 have hnew:∀b∈blk v',b∈blk v∨b=w.heap.size:=by
  intro g hg;by_cases hb0:b.size=0
  ·rcases hown.2 with ⟨rfl,rfl⟩|⟨g',cap,cur,rfl,_,hg',hnc,hcm,hcs,htake⟩
   ·
    have hbe:b=ByteArray.empty:=by
     cases b with
     |mk d=>simp [ByteArray.size] at hb0;subst hb0;rfl
    have:(Builtin.append_ #[t,u] ty #[.slice none 0 0,.string b]).run P w=.ok (.slice none 0 0) w:=by
     simp [Builtin.append_,run_underlying ht,run_underlying hu,sizeOf,typeInfo,hi,Builtin.lenOf,hb0,Builtin.firstCells]
    rw [this] at hr;injection hr with e1 _;subst e1;simp [blk] at hg
   ·rw [Go.Lib.run_append_room_string (P:=P) w t u ty e i ht hu hi hs g' n cap cur hg' b (by omega) (by omega)] at hr
    injection hr with e1 _;subst e1;exact .inl (by simpa [blk] using hg)
  ·rcases hown.2 with ⟨rfl,rfl⟩|⟨g',cap,cur,rfl,_,hg',hnc,hcm,hcs,htake⟩
   ·rw [run_append_nil_string (P:=P) w t u ty e i _ ht hu hi hz b (by omega) (by omega) (by rw [hby];omega)] at hr
    injection hr with e1 _;subst e1;exact .inr (by simpa [blk] using hg)
   ·by_cases hroom:n+b.size≤cap
    ·rw [Go.Lib.run_append_room_string (P:=P) w t u ty e i ht hu hi hs g' n cap cur hg' b hroom (by omega)] at hr
     injection hr with e1 _;subst e1;exact .inl (by simpa [blk] using hg)
    ·rw [Go.Lib.run_append_grow_string (P:=P) w t u ty e i _ ht hu hi hz ⟨g',0,none⟩ n cap vs (by rw [hs];exact hown.1) (hown.cells (g:=g') rfl) b (by omega) (by omega) (growslice_fits (by omega) (by rw [hby];omega))] at hr
     injection hr with e1 _;subst e1;exact .inr (by simpa [blk] using hg)
 have hyl:RepL w' true (strCells b) (Go.Lib.strCells b) []:=by
  have key:∀l:List UInt8,RepL w' true (l.map vu) (l.map fun b=>Value.int .u8 b.toNat) []:=by
   intro l
   induction l with
   |nil=>exact ⟨rfl,rfl⟩
   |cons x l ih=>exact ⟨_,_,[],[],rfl,rfl,⟨rfl,rfl⟩,ih⟩
  exact key _
 have hapl:=RepL.append_ _ (hrl.only honly1 fun s hs=>hF1 s hs) hyl
 rw [List.append_nil] at hapl;have hrep':Rep w' true (.sl 1 e (xs++strCells b)) v' (blk v'++S1):=⟨vs++Go.Lib.strCells b,blk v',S1,⟨n+b.size,h2,rfl⟩,hapl,rfl⟩;have hlt:∀s∈S1,s<w.heap.size:=fun s hs=>RepL.lt _ hrl s hs
 refine ⟨v',w',_,hr,hrep',⟨List.nodup_append.2 ⟨?_,(List.nodup_append.1 hF.1).2.1,fun p hp q hq e=>?_⟩,fun p hp=>?_⟩,honly,fun s hs=>?_⟩
 ·rcases h2.2 with ⟨rfl,_⟩|⟨g,cap,cur,rfl,_⟩<;>simp [blk]
 ·subst e
  rcases hnew p hp with h4|h4
  ·exact hF1 p hq h4
  ·have:=hlt p hq;omega
 ·rcases List.mem_append.1 hp with hp|hp
  ·rcases hnew p hp with h4|h4
   ·exact hF.2 p (by simp [h4])
   ·omega
  ·exact hF.2 p (by simp [hp])
 ·rcases List.mem_append.1 hs with hs|hs
  ·rcases hnew s hs with h4|h4
   ·exact .inl (by simp [h4])
   ·exact .inr (by omega)
  ·exact .inl (by simp [hs])
theorem jCj (h:RelF B w0 N s a w F) {c:Call} {t u e:TypeId} {i:TypeInfo} {x y:Operand} {x' y':X} {g:Option (Nat×Bool)} (ho:o.op=.call c) (hc:c.callee=.builtin .append) (ha:c.args.toList=[x,y]) (hta:c.argTypes.toList=[t,u]) (ht:P.underlying t=some (.slice e)) (hu:P.underlying u=some .string) (hi:P.info? e=some i) (hzz:i.zero=some (.int .u8 0)) (hs:i.size=1) (hby:i.bytes=1)
 (hx:jR x=some x') (hy:jR y=some y') (hd:∀k,o.dst=some k→k<N) (hr:vp P β ⟨o.dst,g,.apps e x' y'⟩ s K):OpOk P o a w (fun a' w'=>∃s' F',RelF B w0 N s' a' w' F'∧K s'):=by
 obtain ⟨b,k1,k2⟩:=hr;obtain ⟨xs,s2,S,F2,⟨q1,q3⟩,q4,h2,q5,q6,q7,q8⟩:=jsx h (vo h hx) k2;have hargs:c.args=#[x,y]:=by rw [←Array.toArray_toList (xs:=c.args),ha]
 have hats:c.argTypes=#[t,u]:=by rw [←Array.toArray_toList (xs:=c.argTypes),hta]
 have hB:B≤w.heap.size:=Nat.le_trans h.hB h.below.size;obtain ⟨v',w',S',hrun,hrep,hFr,honly,hS'⟩:=jlX (B:=B) (ty:=o.type) ht hu hi hzz hs hby q4 b q5 hB q1
 have hrun2:(execOp a.eval o).run P w=.ok (.value v') w':=by
  simp [execOp,ho,resolve,hc,hargs,hats,jiY h hy k1,invoke,builtin,hrun]
 have hb:Below B w w':=honly.below (fun b hb=>q5.2 b hb) hB
 have h3:=h2.world' hb fun g b hb'=>honly.block b ((h2.ob g).lt b hb') fun hh=>q6 g b hh hb'
 have hob:ORel B w' (.loose (.sl 1 e (xs++strCells b)) (fun p=>hdr w' p (.sl 1 e (xs++strCells b)) v')) S':=⟨rfl,v',hrep,fun _=>rfl⟩
 have h4:=h3.setO (g:=100*(β+o.dst.getD 0)) hob hFr (fun g' _ b hb'=>by
  rcases hS' b hb' with h5|h5
  ·exact q6 g' b h5
  ·exact fun hh=>by have:=(h2.ob g').lt b hh;omega)
 have hv:VRel B w' (.c (.h (100*(β+o.dst.getD 0)) 0 [] v')) v':=⟨rfl,by obtain ⟨_,_,_,rfl⟩:=zz hrep;rfl⟩
 exact OpOk.of_run hrun2 ⟨_,_,h4.put hv hd,q3 _⟩
theorem jsQ {z:Array Value} (hz:0<z.size) (n:Nat):(Builtin.zeroCells z n).toList=(List.replicate n z.toList).flatten:=by
 apply List.ext_getElem?
 intro j;by_cases hj:j<n*z.size
 ·rw [jaa (by simp) hz n j hj]
  simp [Builtin.zeroCells,hj];rw [Array.getElem?_eq_getElem (Nat.mod_lt _ hz)];simp only [Option.some.injEq];exact getElem!_pos _ _ _
 ·rw [List.getElem?_eq_none (by simp [Builtin.zeroCells];omega),List.getElem?_eq_none (by simp;omega)]
theorem jrW {zs:List D} {us:List Value} (h:RepL w true zs us []):∀(n:Nat),RepL w true (List.replicate n zs).flatten (List.replicate n us).flatten []
 |0=>⟨rfl,rfl⟩
 |n+1=>by
  simp only [List.replicate_succ,List.flatten_cons];have:=RepL.append_ zs h (jrW h n);simpa using this
theorem jy0 {α:Type} {l:List α} (n:Nat):(List.replicate n l).flatten.length=n*l.length:=by simp
theorem jE2 (h:RelF B w0 N s a w F) {cl:Call} {t e:TypeId} {i:TypeInfo} {zs:List Value} {x:Operand} {x':X} {ks:List (Option (Nat×Nat))} {g:Option (Nat×Bool)} (ho:o.op=.call cl) (hc:cl.callee=.builtin .clear) (ha:cl.args.toList=[x]) (hta:cl.argTypes.toList=[t]) (ht:P.underlying t=some (.slice e)) (hi:P.info? e=some i) (hz:vS P e=some zs) (hs:0<i.size)
 (hx:jR x=some x') (hr:vp P β ⟨o.dst,g,.clr i.size (jtJ ks zs) x'⟩ s K):OpOk P o a w (fun a' w'=>∃s' F',RelF B w0 N s' a' w' F'∧K s'):=by
 obtain ⟨hdst,hr⟩:=hr;simp only at hdst;have hargs:cl.args=#[x]:=by rw [←Array.toArray_toList (xs:=cl.args),ha]
 have hats:cl.argTypes=#[t]:=by rw [←Array.toArray_toList (xs:=cl.argTypes),hta]
 have hpu:∀v,a.put o.dst v=a:=fun v=>by rw [hdst];rfl
 have hpv:=vo h hx;split at hr
 ·rename_i he
  have hp:a.eval x=.slice none 0 0:=by rw [he] at hpv;exact hpv
  have hrun:(execOp a.eval o).run P w=.ok (.value (.tuple #[])) w:=by
   simp [execOp,ho,resolve,hc,hargs,hats,hp,invoke,builtin,Builtin.clear_,run_underlying ht]
  exact OpOk.of_run hrun (by rw [hpu];exact ⟨s,F,h,hr⟩)
 ·rename_i k c p hx0 sz lo n he
  obtain ⟨rfl,hn,d0,η,dd,j1,j2,j3,j4,j5,j6,hk⟩:=hr;rw [he] at hpv;obtain ⟨hp,_⟩:=hpv;unfold vS at hz;rw [hi] at hz;simp only at hz;split at hz;rotate_left
  ·simp at hz
  rename_i z hzz;split at hz;rotate_left
  ·simp at hz
  rename_i hcc;simp only [Bool.and_eq_true,decide_eq_true_eq] at hcc;simp at hz;subst hz;have hzl:z.cells.toList.length=i.size:=by rw [Array.length_toList];simpa using hcc.1
  have hz0:0<z.cells.size:=by have:=hcc.1;omega
  generalize hds:(List.replicate n (jtJ ks z.cells.toList)).flatten=ds at*;generalize hus:(List.replicate n z.cells.toList).flatten=us;have hnew:RepL w true ds us []:=by rw [←hds,←hus];exact jrW (jqL _ _) n
  have hul:us.length=n*i.size:=by rw [←hus,jy0,hzl]
  have hdl:ds.length=n*i.size:=by rw [←RepL.length _ hnew,hul]
  have hpos:0<n*i.size:=Nat.mul_pos hn hs
  have k8:∀u∈us,u.oneCell'=true:=fun u hu=>by
   rw [←hus] at hu;obtain ⟨l,hl,hul⟩:=List.mem_flatten.1 hu;rw [List.eq_of_mem_replicate hl] at hul;exact List.all_eq_true.1 hcc.2 u (by simpa using hul)
  have hfk:=h.fr k;obtain ⟨u,S1,q0,q1,q2,q3,q4,q5⟩:=ORel.put1 (h.ob k) hfk.1 j1;obtain ⟨Sx,hrx,_⟩:=zA h j1 j2 j3 j4;cases dd with
  |val _=>cases j4
  |sl size ty cs0=>
   simp only [D.size] at j5;subst j5;simp only [D.len,D.cells,D.size] at j6;have hcl:(lo+n)*i.size≤cs0.length:=Nat.le_trans (Nat.mul_le_mul_right _ j6) (Nat.div_mul_le_self _ _);rw [Nat.add_mul] at hcl;obtain ⟨gg,nn,cc,r1,r2,r3,S1',r4,r5,r6,r7⟩:=jm2 (k:=lo*i.size) (by omega) hnew List.nodup_nil p q1 q4 (fun b hb=>by simp at hb) j3 (by omega)
   have hhx:hx0=.slice (some ⟨gg,0,none⟩) nn cc:=by rw [←j2,q2,r1]
   obtain ⟨vs,T,S',hrow,hrl,_⟩:=hrx;have hvl:=RepL.length _ hrl
   have hcap:lo<cc:=by
    obtain ⟨nv,hown,_⟩:=hrow;have h1:=hown.1;rcases hown.2 with ⟨e1,e2⟩|⟨g',cap,cur,e1,_,_,e2,_⟩
    ·rw [hhx] at e1;cases e1
    ·rw [hhx] at e1
     injection e1 with e3 e4 e5;subst e5;have:cs0.length/i.size=nv:=by rw [←hvl,h1];exact Nat.mul_div_cancel _ hs
     omega
   have hp':a.eval x=.slice (some ⟨gg,lo*i.size,none⟩) n (cc-lo):=by
    rw [hp.resolve_right fun ⟨_,hn0,_⟩=>by omega,hhx]
    simp only [jjC];rw [if_neg (by omega)]
    simp [Addr.add_lit]
   have hrun:(execOp a.eval o).run P w=.ok (.value (.tuple #[])) (w.setCells gg (lo*i.size) us):=by
    have hst:=run_storeCells_cells (P:=P) gg (lo*i.size) us 0 w (fun j hj=>(r3 j (by omega)).1) (fun j hj=>(r3 j (by omega)).2) k8
    simp only [Nat.add_zero] at hst;obtain ⟨m,rfl⟩:∃m,n=m+1:=⟨n-1,by omega⟩
    simp [execOp,ho,resolve,hc,hargs,hats,hp',invoke,builtin,Builtin.clear_,run_underlying ht,zeroValue,typeInfo,hi,hzz,jsQ hz0,hus,hst]
   obtain ⟨j6,j7,j8,j9⟩:=kT us w gg (lo*i.size);have hggF:gg∈F k:=q3 gg r2;have hBb:B≤gg:=hfk.2 gg hggF;have hne:∀b,b≠gg→(w.setCells gg (lo*i.size) us).heap[b]?=w.heap[b]?:=fun b hb=>jaR us w gg (lo*i.size) b hb
   have hb:Below B w (w.setCells gg (lo*i.size) us):=⟨j6,j7,j8,by rw [j9];exact Nat.le_refl _,fun j hj=>hne j (by omega)⟩
   have hsl:(D.put p (lo*i.size) ds d0).isSl=true:=jAG _ _ _ q0
   obtain ⟨S',m1,m2,m3⟩:=q5 (w.setCells gg (lo*i.size) us) (D.put p (lo*i.size) ds d0) (fun q=>hdr (w.setCells gg (lo*i.size) us) q (D.put p (lo*i.size) ds d0) u) S1' hb (fun b _ hb2=>hne b fun e=>hb2 (e▸r2)) hsl r4 (fun _=>rfl) r5 (fun b hb1=>by
    rcases r6 b hb1 with h|h
    ·exact .inl h
    ·simp at h)
   have t1:=h.setO (g:=k) (ob:=.none) (S:=[]) rfl (Fresh.nil _) (by simp)
   have t2:=t1.world' hb fun g' x hx=>by
    split at hx
    ·simp at hx
    ·rename_i hg'
     exact hne x fun e=>h.dj g' k hg' x hx (e▸hggF)
   have hS'F:∀x∈S',x∈F k:=fun x hx=>by
    rcases m3 x hx with h|h
    ·exact h
    ·rcases r6 x h with h'|h'
     ·exact q3 x h'
     ·simp at h'
   have t3:=t2.setO (g:=k) m1 ⟨m2,fun x hx=>hfk.2 x (hS'F x hx)⟩ (fun g' hg' x hx=>by
    rw [if_neg hg'];exact fun hh=>h.dj g' k hg' x hh (hS'F x hx))
   have hss:(s.setO k .none).setO k ((s.o k).putOwn c (D.put p (lo*i.size) ds d0) (fun q=>hdr (w.setCells gg (lo*i.size) us) q (D.put p (lo*i.size) ds d0) u))=s.setO k ((s.o k).putOwn c (D.put p (lo*i.size) ds d0) (fun q=>hdr (w.setCells gg (lo*i.size) us) q (D.put p (lo*i.size) ds d0) u)):=by
    simp only [St.setO,St.mk.injEq,true_and]
    funext i;split<;>rfl
   rw [hss] at t3
   exact OpOk.of_run hrun (by
    rw [hpu];have hlike:∀q,¬jro p (lo*i.size) (n*i.size) q→hdr (w.setCells gg (lo*i.size) us) q (D.put p (lo*i.size) ds d0) u=η q:=fun q hq=>by rw [q2];exact r7 q (by rw [hdl];exact hq)
    refine ⟨_,_,t3,jAt hk hlike fun hf=>?_⟩
    simp only [Bool.and_eq_true] at hf
    funext q
    by_cases hq:jro p (lo*i.size) (n*i.size) q
    ·obtain ⟨j,r,rfl,hj1,hj2⟩:=hq
     obtain ⟨v1,hv1⟩:=jdh (j:=j-lo*i.size) hf.1 (by omega)
     obtain ⟨v2,hv2⟩:=jdh (j:=j-lo*i.size) hf.2 (by simp only [D.cells,List.length_take,List.length_drop];omega)
     rw [q2];rw [jgd (w:=w.setCells gg (lo*i.size) us) (j:=j) (v:=v1) p (jdd p j3) (by rw [jj5 _ _ _ _ (by omega) hj1 (by omega)];exact hv1)]
     refine (jgd (v:=v2) p j3 ?_).symm;rw [←hv2];simp only [D.cells];rw [List.getElem?_take,if_pos (by omega),List.getElem?_drop]
     congr 1;omega
    ·exact hlike q hq)
 ·exact hr.elim
end
end Go.Proofs.YtmnpailnelmpiaaGreat
