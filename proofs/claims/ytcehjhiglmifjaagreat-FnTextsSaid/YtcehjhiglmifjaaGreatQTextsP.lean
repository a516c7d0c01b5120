/- Parts. -/
import Derived.Test.YtcehjhiglmifjaaGreatQReadY
set_option linter.all false
set_option maxRecDepth 100000
namespace Go.Proofs.YtcehjhiglmifjaaGreat
open Go.RowKit Go.Sort
theorem jo2 {b:UInt8}:∀(L M:List Int),(∀n∈L,jds n)->(∀n∈M,jds n)->qO L++[b]=qO M->∃x,M=L++[x]
 |L,[],_,_,h=>by
  have:=congrArg List.length h;simp [qO] at this
 |[],m::M,_,hM,h=>by
  obtain ⟨v,rfl,hv,e⟩:=jd7 (hM m (by simp))
  rw [zN,e] at h;have aC:=congrArg List.length h;have hp:=aRP.2 (jc2 v);have h0:(qO ([]:List Int))=[]:=rfl;rw [h0,aQG,List.length_singleton,aOU] at aC;cases M with
  |nil=>exact ⟨_,rfl⟩
  |cons m2 M=>
   exfalso;obtain ⟨v2,rfl,n8,e2⟩:=jd7 (hM m2 (by simp))
   rw [zN,e2,aOU] at aC;have tF:=aRP.2 (jc2 v2);omega
 |l::L,m::M,hL,hM,h=>by
  obtain ⟨v,rfl,hv,e⟩:=jd7 (hL l (by simp))
  obtain ⟨w,rfl,hw,e2⟩:=jd7 (hM m (by simp))
  rw [zN,zN,e,e2,aPH] at h;have h1:=jks hv (qO L++[b]);have h2:=jks hw (qO M);rw [h,h2] at h1;obtain ⟨h3,_⟩:=Prod.mk.inj (aPJ h1);subst h3;obtain ⟨x,hx⟩:=jo2 L M (λn hn=>hL n (by simp [hn])) (λn hn=>hM n (by simp [hn])) (List.append_cancel_left h)
  exact ⟨x,by rw [hx];rfl⟩
theorem jo6 {t1 t2:ByteArray} {y1 y2:Yd} {b:UInt8} (h1:jjq t1 y1) (h2:jjq t2 y2) (h:t1.data.toList++[b]=t2.data.toList):False:=by
 have e1:t1.data.toList=qO (zM y1):=by rw [h1.txt];rfl
 have e2:t2.data.toList=qO (zM y2):=by rw [h2.txt];rfl
 rw [e1,e2] at h;obtain ⟨x,hx⟩:=jo2 _ _ h1.nums h2.nums h;have b1:=jqX (sb:=λs:Nat×Bool=>(s.1,true)) h1.ok (jke (L:=zM y2) (zM y1) (rest:=[x]) (lo:=0) (by rw [hx];simp))
 have b2:=jqX (sb:=λs:Nat×Bool=>(s.1,true)) h2.ok (jke (L:=zM y2) (zM y2) (rest:=[]) (lo:=0) (by simp))
 rw [b1] at b2;have:=(Prod.mk.inj b2).1;subst this;have:=congrArg List.length hx;rw [aOU,List.length_singleton] at this;omega
theorem jyz {t:ByteArray} {y:Yd} (h:jjq t y):jko t=(y,true):=by rw [<-jpx];exact yd_I h
theorem jsi {t:ByteArray} (h:¬∃y,jjq t y):(jko t).2=false:=by rw [jko,dif_neg h]
def prioI (y:Yd):Prop:=∀e∈y.aOE.flatten,0<=e.aOL/\e.aOL<=9
theorem jgO {sh:List (List En)} {k:Nat} {l:List En} {e:En} (h:e∈(sh.set k l).flatten):e∈sh.flatten\/e∈l:=by
 obtain ⟨m,hm,he⟩:=aRS.1 h;rcases List.mem_or_eq_of_mem_set hm with hm|rfl
 ·exact .inl (aRS.2 ⟨m,hm,he⟩)
 ·exact .inr he
theorem jik {sh:List (List En)} {k:Nat} {e:En} (h:e∈(sh[k]?).getD []):e∈sh.flatten:=by
 cases hl:sh[k]? with
 |none=>rw [hl] at h;simp at h
 |some l=>rw [hl,aPA] at h;exact aRS.2 ⟨l,aOT hl,h⟩
theorem jw4 {y:Yd} {r:Rn} {ids:List Int} {e:En} (h:e∈(jrI y r ids).aOE.flatten):e∈y.aOE.flatten\/e.aOL=r.aOF.aOL:=by
 rcases jgO h with h|h
 ·exact .inl h
 ·have h2:=(jgy r.aOF.aOL r.id ids ((y.aOE[shN r.id]?).getD default) y.seq).mem_iff.1 h
  rcases aOX.1 h2 with h2|h2
  ·exact .inr (jcl h2).1
  ·exact .inl (jik h2)
theorem prioI.turn {y:Yd} (h:prioI y) {k:Nat} {r:Rn} (hr:0<=r.aOF.aOL/\r.aOF.aOL<=9):prioI (kP y k r):=λe he=>by
 rcases jw4 he with he|he
 ·exact h e he
 ·rw [he];exact hr
theorem jrm {y:Yd} (hI:YdI y) {k:Nat} {r:Rn} (hr:y.aOH[k]?=some r):0<=r.aOF.aOL/\r.aOF.aOL<=9:=by
 obtain ⟨n,_,_,_,_,_,_,hp,_,_⟩:=ja8 (hI.rns.right r (aOT hr)).aOF;exact hp
theorem jpo (r:Rn) (t:Int):(kZ r t).aOF=r.aOF:=by unfold kZ;split<;>rfl
theorem prioI.failK {y:Yd} (hI:YdI y) (h:prioI y) (k t:Nat):prioI (failK y k t):=by
 unfold Go.Proofs.YtcehjhiglmifjaaGreat.failK;split
 ·rename_i hs
  cases hk:y.aOH[k]? with
  |none=>rw [hk] at hs;simp [stT] at hs;cases hs
  |some r=>
   rw [aPA];exact h.turn (by rw [(zQ r t).2];exact jrm hI hk)
 ·exact h
theorem prioI.restT {z:Yd} (hI:YdI z) (h:prioI z) (k:Nat):∀t,prioI (restT z k t)
 |0=>h
 |t+1=>(prioI.restT hI h k t).failK (hI.restT k t) k t
theorem prioI.restR {y:Yd} (hI:YdI y) (h:prioI y):∀k,prioI (restR y k)
 |0=>h
 |k+1=>(prioI.restR hI h k).restT (hI.restR k) k _
theorem prioI.swept {y:Yd} (h:prioI y) (k:Int):prioI (qr y k):=by
 unfold qr;split
 ·intro e he
  rcases jgO he with he|he
  ·exact h e he
  ·exact h e (jik (aQP.1 he).1)
 ·exact h
theorem prioI.pollV {z:Yd} (h:prioI z) (hm v:Nat):prioI (pollV z hm v):=by
 have hs:=h.swept v;intro e he;rcases jgO he with he|he
 ·rcases jgO he with he|he
  ·exact hs e he
  ·exact hs e (jik (aSA he))
 ·have:e∈((qr z v).aOE[hm]?).getD []\/e∈vf (((qr z v).aOE[v]?).getD []):=by
   unfold kS at he;split at he
   ·exact .inl he
   ·exact jnU he
  rcases this with g|g
  ·exact hs e (jik g)
  ·exact hs e (jik (aRU g))
theorem prioI.pollF (hm:Nat):∀(vs:List Int) {z:Yd},prioI z->prioI (pollF hm vs z)
 |[],z,h=>h
 |v::vs,z,h=>by
  unfold Go.Proofs.YtcehjhiglmifjaaGreat.pollF;split
  ·exact prioI.pollF hm vs (h.pollV hm _)
  ·exact h
theorem prioI.poll {y:Yd} (h:prioI y) (w d:Int):prioI (qu y w d):=by
 unfold qu;split
 ·exact h
 ·have hZ:prioI (pollZ y (w.tmod 4).toNat d):=prioI.pollF _ _ (h.swept _)
  split
  ·exact hZ
  ·rename_i e l he
   intro x hx;rcases jgO hx with hx|hx
   ·exact hZ x hx
   ·refine hZ x (jik (k:=(w.tmod 4).toNat) ?_)
    rw [jbc] at he;rw [he];exact List.mem_cons_of_mem _ hx
theorem prioI.stepF {y:Yd} (hI:YdI y) (h:prioI y):∀i,i<=(kx y).length->prioI (tickI y i)
 |0,_=>h
 |i+1,hi=>by
  obtain ⟨l,hl⟩:=ja (show i<(kx y).length by omega)
  rw [jc7 hl,jl4];exact (prioI.stepF hI h i (by omega)).failK (hI.tickI i (by omega)).1 _ _
theorem prioI.do {y:Yd} (hI:YdI y) (h:prioI y) (d:Dd):prioI (doY y d):=by
 unfold doY;split
 ·exact h
 split
 ·unfold jaS
  split
  ·rename_i hc
   have hp:jm d.aOF=0:=by
    refine aQM λhp=>?_
    unfold jbu at hc
    repeat' split at hc
    all_goals first|(cases hc;done)|exact hp hc|contradiction|omega
   obtain ⟨n,_,_,_,_,_,_,xR,_,_⟩:=ja8 hp;intro e he;rcases jw4 he with he|he
   ·exact h e he
   ·rw [he];exact xR
  ·exact h
 split
 ·exact h.poll _ _
 split
 ·unfold jc0
  split
  ·rename_i hc
   obtain ⟨_,aV⟩:=jmx hc;obtain ⟨k,r,cD,hr,_,_⟩:=qk aV;rw [cD,aPB,hr,aPA];exact h.turn (by rw [jpo];exact jrm hI hr)
  ·exact h
 split
 ·unfold jcZ
  split
  ·rename_i hc
   obtain ⟨_,aV⟩:=jmx hc;obtain ⟨k,r,cD,hr,_,_⟩:=qk aV;rw [cD,aPB,hr,aPA];exact h.turn (by rw [(zQ r _).2];exact jrm hI hr)
  ·exact h
 split
 ·unfold jbH
  split
  ·exact prioI.stepF hI h _ (aPD _)
  ·exact h
 split
 ·unfold kT
  split
  ·exact h
  ·exact h
 split
 ·unfold jaL
  split
  ·intro e he
   obtain ⟨l,hl,he⟩:=aRS.1 he;obtain ⟨m,hm,rfl⟩:=aQS.1 hl;exact h e (aRS.2 ⟨m,hm,(aQP.1 he).1⟩)
  ·exact h
 ·unfold jcX
  split
  ·exact h.restR hI _
  ·exact h
theorem jlt (c:List UInt8):∀(n:Nat) {x:List Dd×Yd×Cu},YdI x.2.1->prioI x.2.1->prioI (zg c n x).2.1
 |0,x,_,h=>h
 |n+1,x,hI,h=>jlt c n (hI.do _) (h.do hI _)
theorem jBz {y:Yd} (h:YdI y) (hP:prioI y) (hq:y.seq<=1000000000):∀n∈zM y,jds n:=by
 have hR:∀r∈y.aOH,∀n∈rnI r,jds n:=λr hr n hn=>by
  have hO:=h.rns.right r hr;have hid:=aPV hO.id;obtain ⟨m,hm,dU,cC,dI,bU,_,hp,rD,hw⟩:=ja8 hO.aOF;have aJ:=hO.aOG;simp only [rnI,aOX,aPL,plI,aRR,List.not_mem_nil,or_false] at hn;rcases hn with (rfl|(rfl|rfl|rfl|rfl|rfl)|⟨e,he,hn⟩)|rfl|⟨t,ht,hn⟩
  ·exact ⟨by omega,by omega⟩
  ·exact ⟨by omega,by omega⟩
  ·exact ⟨by omega,by omega⟩
  ·exact ⟨by omega,by omega⟩
  ·exact ⟨by omega,by omega⟩
  ·exact ⟨by omega,by omega⟩
  ·have cA:=bU e he
   simp only [okE] at cA;simp only [edI,aPL,List.not_mem_nil,or_false] at hn;rcases hn with rfl|rfl
   ·exact ⟨by omega,by omega⟩
   ·exact ⟨by omega,by omega⟩
  ·rw [aJ];unfold jgd
   repeat' split
   all_goals exact ⟨by omega,by omega⟩
  ·obtain ⟨k,hk⟩:=aQC ht
   have hT:=taskB_iff.1 (hO.aOD k t hk)
   have xX:0<=t.aOO/\t.aOO<=1000000000:=by
    rw [hT.2.1,jaZ];have h1:=aPT (λb=>stT r.aOD b !=4) (zK r.aOF k)
    have h2:=joR hm cC dI (k:Int);omega
   have nP:0<=t.til/\t.til<=1000000000:=by
    have:=hT.2.2.2.1;unfold jbB at this;split at this
    ·have:=aPV this;omega
    ·simp at this;omega
   simp only [tkI,aPL,List.not_mem_nil,or_false] at hn;rcases hn with rfl|rfl|rfl|rfl
   ·exact ⟨by omega,by omega⟩
   ·exact xX
   ·exact ⟨by omega,by omega⟩
   ·exact nP
 have hE:∀e∈y.aOE.flatten,∀n∈enI e,jds n:=λe he n hn=>by
  obtain ⟨r,hr,t,x,h1,h2,h3,h4⟩:=h.ens.own e he;have hO:=h.rns.right r hr;have hid:=aPV hO.id;obtain ⟨m,hm,dU,cC,dI,bU,_,hp,rD,hw⟩:=ja8 hO.aOF;have hs:=h.ens.range e he;have hl:=(aOS.1 h3).1;have aC:=hO.len;have xR:0<=e.aOL/\e.aOL<=1000000000:=by have:=hP e he;omega
  simp only [enI,aPL,List.not_mem_nil,or_false] at hn;rcases hn with rfl|rfl|rfl|rfl
  ·exact xR
  ·exact ⟨by omega,by omega⟩
  ·exact ⟨by omega,by omega⟩
  ·exact ⟨by omega,by omega⟩
 intro n hn;have h8:=h.rns.eight;have hf:=h.flat_le;have gU:=h.now;have hs:=h.seq;simp only [zM,aOX,aPL,aRR,List.not_mem_nil,or_false] at hn;rcases hn with ((rfl|rfl)|⟨l,hl,hn⟩)|rfl|⟨r,hr,hn⟩
 ·exact ⟨by omega,by omega⟩
 ·exact ⟨by omega,by omega⟩
 ·simp only [shI,aPL,aRR] at hn
  rcases hn with rfl|⟨e,he,hn⟩
  ·have:=(List.sublist_flatten_of_mem hl).length_le
   exact ⟨by omega,by omega⟩
  ·exact hE e (aRS.2 ⟨l,hl,he⟩) n hn
 ·exact ⟨by omega,by omega⟩
 ·exact hR r hr n hn
