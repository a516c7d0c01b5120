/- Parts. -/
import Derived.Test.YtekegiiikglhbaaGreatQE4e
set_option linter.all false
namespace Go.Proofs.YtekegiiikglhbaaGreat
open Go.RowKit Go.Sort
section
variable {P:Program} {B:Nat} {w w0:World} {F:Nat->List Nat} {o:Nat->Ob}
theorem jfh {own:Bool}:∀{k:Nat} {cs:List D} {vs:List Value} {S:List Nat} {d:D},RepL w own cs vs S->cs[k]?=some d->
 ∃v SA Sd SC,vs[k]?=some v/\S=SA++Sd++SC/\Rep w own d v Sd/\∀d' Sd',Rep w own d' v Sd'->RepL w own (cs.set k d') vs (SA++Sd'++SC)
 |_,[],_,_,_,_,h=>by simp at h
 |0,e::cs,_,_,d,⟨v,vs',S1,S2,rfl,rfl,V,Y⟩,h=>by
  simp at h;subst h;exact ⟨v,[],S1,S2,rfl,by simp,V,λd' Sd' h3=>⟨v,vs',Sd',S2,rfl,by simp,h3,Y⟩⟩
 |k+1,e::cs,_,_,d,⟨v,vs',S1,S2,rfl,rfl,V,Y⟩,h=>by
  simp at h;obtain ⟨v2,SA,Sd,SC,a1,rfl,a3,a4⟩:=jfh Y h;exact ⟨v2,S1++SA,Sd,SC,by simpa using a1,by simp,a3,λd' Sd' h3=>⟨v,vs',S1,SA++Sd'++SC,rfl,by simp,V,a4 d' Sd' h3⟩⟩
theorem jcO:∀{c:Nat} {l:List Cell} {us:List Value} {S:List Nat} {d:D} {η:jl},CRel B w l us S->l[c]?=some (.own d η)->
 ∃u SA Sd SC,S=SA++Sd++SC/\d.isSl=true/\Rep w true d u Sd/\(∀p,η p=hdr w p d u)/\∀d' aW Sd',d'.isSl=true->Rep w true d' u Sd'->(∀p,aW p=hdr w p d' u)->CRel B w (l.set c (.own d' aW)) us (SA++Sd'++SC)
 |_,[],_,_,_,_,_,h=>by simp at h
 |0,.a _::l,_,_,d,η,_,h=>by simp at h
 |0,.own e ε::l,_,_,d,η,⟨u,us',S1,S2,rfl,rfl,V,Y,h3,h4⟩,h=>by
  simp at h;obtain ⟨rfl,rfl⟩:=h;exact ⟨u,[],S1,S2,by simp,V,Y,h3,λd' aW Sd' a1 a2 a3=>⟨u,us',Sd',S2,rfl,by simp,a1,a2,a3,h4⟩⟩
 |c+1,.a x::l,_,_,d,η,⟨u,us',rfl,V,Y⟩,h=>by
  simp at h;obtain ⟨v,SA,Sd,SC,a1,a2,a3,a4,a5⟩:=jcO Y h;exact ⟨v,SA,Sd,SC,a1,a2,a3,a4,λd' aW Sd' b1 b2 b3=>⟨u,us',rfl,V,a5 d' aW Sd' b1 b2 b3⟩⟩
 |c+1,.own e ε::l,_,_,d,η,⟨u,us',S1,S2,rfl,rfl,V,Y,h3,h4⟩,h=>by
  simp at h;obtain ⟨v,SA,Sd,SC,rfl,a2,a3,a4,a5⟩:=jcO h4 h;exact ⟨v,S1++SA,Sd,SC,by simp,a2,a3,a4,λd' aW Sd' b1 b2 b3=>⟨u,us',S1,SA++Sd'++SC,rfl,by simp,V,Y,h3,a5 d' aW Sd' b1 b2 b3⟩⟩
theorem jjG {ob:Ob} {c:Nat} {S:List Nat} {d:D} {η:jl} (ho:ORel B w ob S) (h:ob.own c=some (d,η)):
 ∃u SA Sd SC,S=SA++Sd++SC/\d.isSl=true/\Rep w true d u Sd/\(∀p,η p=hdr w p d u)/\∀d' aW Sd',d'.isSl=true->Rep w true d' u Sd'->(∀p,aW p=hdr w p d' u)->ORel B w (ob.putOwn c d' aW) (SA++Sd'++SC):=by
 cases ob with
 |none=>cases h
 |loose e ε=>
  cases c with
  |succ c=>cases h
  |zero=>
   simp only [Ob.own,Option.some.injEq,Prod.mk.injEq] at h;obtain ⟨rfl,rfl⟩:=h;obtain ⟨V,u,Y,h3⟩:=ho;exact ⟨u,[],S,[],by simp,V,Y,h3,λd' aW Sd' a1 a2 a3=>⟨a1,u,by simpa using a2,a3⟩⟩
 |box b ty l=>
  simp only [Ob.own] at h;split at h
  ·rename_i e ε he
   simp only [Option.some.injEq,Prod.mk.injEq] at h;obtain ⟨rfl,rfl⟩:=h;obtain ⟨us,S1,V,Y,rfl⟩:=ho;obtain ⟨u,SA,Sd,SC,rfl,a2,a3,a4,a5⟩:=jcO Y he;exact ⟨u,b::SA,Sd,SC,by simp,a2,a3,a4,λd' aW Sd' b1 b2 b3=>⟨us,SA++Sd'++SC,V,a5 d' aW Sd' b1 b2 b3,by simp⟩⟩
  ·cases h
theorem joh {B:Nat} {w:World} {ob:Ob} {S:List Nat} {c k sz tyo:Nat} {ds0:List D} {e:D} {η:jl} (h:ORel B w ob S) (ho:ob.own c=some (.sl sz tyo ds0,η)) (hk:ds0[k]?=some e):
 ∃v Sk,Rep w true e v Sk/\(e.isSl=true->η [k]=v)/\(∀x,e=.val x->v=x)/\(∀b∈Sk,b∈S)/\(S.Nodup->Sk.Nodup)/\∀e' Sk',Rep w true e' v Sk'->∃aW S',ORel B w (ob.putOwn c (.sl sz tyo (ds0.set k e')) aW) S'/\aW []=η []/\∃R,S.Perm (R++Sk)/\S'.Perm (R++Sk'):=by
 obtain ⟨u,SA,Sd,SC,e1,a1,a2,a3,a4⟩:=jjG h ho;obtain ⟨vs,T,S',dF,cU,rfl⟩:=a2;obtain ⟨v,SA',Sk,SC',b1,rfl,b3,b4⟩:=jfh cU hk
 have fZ:∀X:List Nat,(SA++(T++(SA'++X++SC'))++SC).Perm ((SA++(T++(SA'++[]++SC'))++SC)++X):=λX=>by
  have e1:SA++(T++(SA'++X++SC'))++SC=(SA++(T++SA'))++(X++(SC'++SC)):=by simp
  have e2:(SA++(T++(SA'++[]++SC'))++SC)++X=(SA++(T++SA'))++((SC'++SC)++X):=by simp
  rw [e1,e2];exact aCT _ aCC
 refine ⟨v,Sk,b3,λhs=>?_,λx hx=>?_,λb Z=>by rw [e1];simp [Z],λaY=>?_,λe' Sk' hr=>?_⟩
 ·rw [a3]
  rcases kO dF with ⟨_,rfl⟩|⟨gg,nn,cc,rfl,_,_,aZ,_⟩
  ·simp at b1
  ·simp only [hdr,hk,aBK,aZ k v b1,aCF]
   exact qZ hs
 ·subst hx;exact b3.1
 ·rw [e1] at aY
  exact (aAU.1 ((fZ Sk).nodup_iff.1 aY)).2.1
 ·have aD:Rep w true (.sl sz tyo (ds0.set k e')) u (T++(SA'++Sk'++SC')):=⟨vs,T,_,dF,b4 _ _ hr,rfl⟩
  refine ⟨λp=>hdr w p (.sl sz tyo (ds0.set k e')) u,_,a4 _ _ _ rfl aD (λ_=>rfl),by rw [a3];rfl,_,by rw [e1];exact fZ Sk,fZ Sk'⟩
end
section
variable {P:Program} {β B N:Nat} {w w0:World} {s:St} {a:Act} {F:Nat->List Nat} {o:Oper} {K:St->Prop}
theorem ja9 {α:Type}:∀(xs us:List α) (k:Nat),k+xs.length<=us.length->kg us k xs=us.take k++xs++us.drop (k+xs.length)
 |[],us,k,_=>by simp [kg]
 |x::xs,us,k,h=>by
  have hk:k<us.length:=by simp at h;omega
  rw [kg,ja9 xs (us.set k x) (k+1) (by simp at h⊢;omega)]
  have e1:(us.set k x).take (k+1)=us.take k++[x]:=by
   rw [aAX,List.take_set_of_le (aAV _)];simp [hk]
  have e2:(us.set k x).drop (k+1+xs.length)=us.drop (k+(x::xs).length):=by
   rw [List.drop_set_of_lt (by omega)]
   congr 1
   simp;omega
  rw [e1,e2];simp
theorem jiV (h:RelF B w0 N s a w F) {size:Nat}:∀{parts:List (Nat×Operand)} {ps:List (Nat×Nat×X)} {l:List A0} {k:Nat} {us:List Value},zz (λi=>some (i*size,size)) parts=some ps->jka s ps=some l->parts.map (·.1)=List.range' k parts.length->us.length=(k+parts.length)*size->
 ∃xs:List Value,A0RelL B w l xs/\xs.length=parts.length*size/\Instr.fill (λi=>some (i*size,size)) us.toArray (parts.map λp=>(p.1,a.eval p.2))=some (us.take (k*size)++xs).toArray
 |[],ps,l,k,us,V,Y,_,h4=>by
  simp [zz] at V;subst V;simp [jka] at Y;subst Y;refine ⟨[],rfl,by simp,?_⟩
  simp at h4;simp [Instr.fill,<-h4]
 |(i,x)::parts,ps,l,k,us,V,Y,h3,h4=>by
  simp only [zz] at V;split at V
  ·rename_i off n x' ps' k1 k2 k3
   simp at V;subst V;simp only [aCE,aCG,List.range'_succ,List.cons.injEq] at h3;obtain ⟨rfl,h3⟩:=h3;simp only [jka] at Y;split at Y
   ·rename_i m r k4 k5
    split at Y
    ·rename_i k6
     simp at Y;subst Y;obtain ⟨xs,k7,k8⟩:=VRel.cells (kn h k2) k4;have i7:=A0RelL.len k8;simp only [Option.some.injEq,Prod.mk.injEq] at k1;obtain ⟨rfl,rfl⟩:=k1;have bT:i*size+size+parts.length*size=us.length:=by rw [h4,aCG,aCX,aCX,Nat.one_mul];omega
     have d2:i*size+xs.length<=us.length:=by omega
     obtain ⟨ys,k9,k10,k11⟩:=jiV h (k:=i+1) (us:=kg us (i*size) xs) k3 k5 h3 (by rw [jgr,h4,aCG];congr 1;omega)
     have mR:∀(l m:List A0) (us vs:List Value),A0RelL B w l us->A0RelL B w m vs->A0RelL B w (l++m) (us++vs):=by
      intro l
      induction l with
      |nil=>intro m us vs V Y;rw [show us=[] from V];exact Y
      |cons x l ih=>intro m us vs V Y;obtain ⟨u,us',rfl,h3,h4⟩:=V;exact ⟨u,_,rfl,h3,ih m us' vs h4 Y⟩
     refine ⟨xs++ys,mR _ _ _ _ k8 k9,by rw [aBE,i7,k6,k10,aCG,aCX,Nat.one_mul];omega,?_⟩
     have e2:=jcr (i*size) xs 0 us;simp only [aAQ] at e2;have e1:¬(xs.length≠size\/us.length<i*size+xs.length):=by omega
     simp only [aCE,Instr.fill,k7];rw [if_neg (by simpa using e1)]
     rw [<-Array.foldl_toList,Array.toList_zipIdx];rw [show (xs.toArray.toList.zipIdx 0)=xs.zipIdx 0 from rfl,e2]
     rw [k11]
     congr 2
     have hx:xs.length=size:=by omega
     have e3:(i+1)*size=(us.take (i*size)++xs).length:=by rw [aBE,aBA,aCX,Nat.one_mul];omega
     rw [ja9 xs us (i*size) d2,e3,List.take_left];simp
    ·simp at Y
   ·simp at Y
  ·simp at V
theorem jrZ (h:RelF B w0 N s a w F) {t e:TypeId} {n size:Nat} {parts:Array (Nat×Operand)} {ps:List (Nat×Nat×X)} {g:Option (Nat×Bool)} {zs:List Value} {ks:List (Option (Nat×Nat))} (ho:o.op=.buildSlice t n parts) (ht:P.underlying t=some (.slice e)) (bT:jZ P e=some size) (hs:0<size) (hz:kV P e=some zs)
 (o6:parts.toList.map (·.1)=List.range n) (wV:n*size<1000) (lC:zz (λi=>some (i*size,size)) parts.toList=some ps) (hd:∀k,o.dst=some k->k<N) (hr:kK P β ⟨o.dst,g,.bsl e size n ks ps⟩ s K):
 OpOk P o a w (λa' w'=>∃s' F',RelF B w0 N s' a' w' F'/\K s'):=by
 obtain ⟨l,V,Y⟩:=hr;have mB:parts.toList.length=n:=by have:=congrArg List.length o6;simpa using this
 obtain ⟨inf,c7,fV⟩:=jdY bT
 have d6:∃z,inf.zero=some z:=by
  unfold kV at hz;rw [c7] at hz;simp only at hz;split at hz
  ·exact ⟨_,by assumption⟩
  ·simp at hz
 obtain ⟨z,d6⟩:=d6
 have pC:∀us:List Value,us.length=n*size->∃xs:List Value,A0RelL B w l xs/\xs.length=n*size/\Instr.fill (λi=>some (i*size,size)) us.toArray (parts.toList.map λp=>(p.1,a.eval p.2))=some xs.toArray:=λus fS=>by
  obtain ⟨xs,k1,k2,k3⟩:=jiV h (k:=0) (us:=us) lC V (by rw [o6,mB,List.range_eq_range']) (by rw [fS,mB,aBK])
  rw [mB] at k2;refine ⟨xs,k1,k2,?_⟩;rw [k3];simp
 obtain ⟨xs,h3,h4,a8⟩:∃xs:List Value,A0RelL B w l xs/\xs.length=n*size/\(execOp a.eval o).run P w=.ok (.value (.slice (some ⟨w.heap.size,0,none⟩) n n)) (w.alloc (.cells xs.toArray e)):=by
  have bQ:¬(16777216<n*size):=by omega
  have lE:(parts.map λ(p:Nat×Operand)=>(p.1,a.eval p.2)).toList=parts.toList.map λp=>(p.1,a.eval p.2):=by simp
  have hf:∀f:Nat->Value,∃xs:List Value,A0RelL B w l xs/\xs.length=n*size/\Instr.fill (λi=>some (i*size,size)) ((Array.range (n*size)).map f) (parts.toList.map λp=>(p.1,a.eval p.2))=some xs.toArray:=λf=>by
   obtain ⟨xs,k1,k2,k3⟩:=pC ((Array.range (n*size)).map f).toList (by simp)
   rw [Array.toArray_toList] at k3;exact ⟨xs,k1,k2,k3⟩
  by_cases h0:n*size=0
  ·obtain ⟨xs,k1,k2,k3⟩:=hf λi=>(#[]:Array Value)[i%0]!
   refine ⟨xs,k1,k2,?_⟩;rw [h0] at k3
   have oL:n=0:=by
    rcases Nat.mul_eq_zero.1 h0 with h|h
    ·exact h
    ·omega
   subst oL;have xC:parts.toList=[]:=aBC mB;have rZ:parts=#[]:=by rw [<-Array.toArray_toList (xs:=parts),xC]
   have m9:xs=[]:=aBC (by rw [k2,Nat.zero_mul])
   subst m9;simp [execOp,ho,Instr.buildSlice,run_underlying ht,sizeOf,typeInfo,c7,fV,rZ,Instr.fill,newRow,Array.range_zero']
  ·obtain ⟨xs,k1,k2,k3⟩:=hf λi=>z.cells[i%z.cells.size]!
   refine ⟨xs,k1,k2,?_⟩;have oK:¬(n*size>2^24):=by omega
   simp only [execOp,ho,Sem.run_bind,Instr.buildSlice,run_underlying ht,Result.andThen_ok,sizeOf,typeInfo,c7,fV,Sem.run_pure,if_neg oK,if_neg h0,zeroValue,d6,lE,k3];simp [c7,fV,oK,h0,d6,lE,k3,newRow]
 obtain ⟨cs,s',S,F',⟨ds,kd,kk⟩,k2,k3,k4,k5,k6,k7,_⟩:=vM h h3 Y;have Z:Below w.heap.size w (w.alloc (.cells xs.toArray e)):=(Below.refl _ _).alloc (aAV _) _;have hB:B<=w.heap.size:=aBU h.hB h.below.size;have gN:∀b∈S,b<w.heap.size:=λb aS=>k2.lt b aS
 have cU:=jbt k2 kd;have l6:RepL (w.alloc (.cells xs.toArray e)) true ds xs S:=RepL.keep _ cU λb aS=>Z.block b (gN b aS)
 have bB:Rep (w.alloc (.cells xs.toArray e)) true (.sl size e ds) (.slice (some ⟨w.heap.size,0,none⟩) n n) (w.heap.size::S):=
  ⟨xs,[w.heap.size],S,⟨n,World.ownsRow_lit w xs.toArray n (aBR _) (by unfold maxLen;have:n<=n*size:=Nat.le_mul_of_pos_right _ hs;omega) (by simpa using h4),rfl⟩,l6,rfl⟩
 have gP:∀g,∀b∈F' g,b<w.heap.size:=λg b aS=>(k3.ob g).lt b aS
 have bL:ORel B (w.alloc (.cells xs.toArray e)) (.loose (.sl size e ds) (λp=>hdr (w.alloc (.cells xs.toArray e)) p (.sl size e ds) (.slice (some ⟨w.heap.size,0,none⟩) n n))) (w.heap.size::S):=⟨rfl,_,bB,λ_=>rfl⟩
 have h5:=(k3.world Z).setO (g:=100*(β+o.dst.getD 0)) bL ⟨aBN.2 ⟨λhh=>by have:=gN _ hh;omega,k4.1⟩,λb aS=>by rcases aBB.1 aS with rfl|aS;exact hB;exact k4.2 b aS⟩ (λg' _ b aS=>by
  rcases aBB.1 aS with rfl|aS
  ·exact λhh=>by have:=gP g' _ hh;omega
  ·exact k5 g' b aS)
 have hv:VRel B (w.alloc (.cells xs.toArray e)) (.c (.h (100*(β+o.dst.getD 0)) 0 [] (.slice (some ⟨w.heap.size,0,none⟩) n n))) (.slice (some ⟨w.heap.size,0,none⟩) n n):=⟨rfl,rfl⟩;exact OpOk.of_run a8 ⟨_,_,h5.put hv hd,kk _⟩
theorem jiP (h:RelF B w0 N s a w F) {e size:Nat} {x:AV} {u:Value} {K:List D->St->Prop} (hv:VRel B w x u) (hk:jdB s e size x K):
 ∃xs s' S F',K xs s'/\Rep w true (.sl size e xs) u S/\RelF B w0 N s' a w F'/\Fresh B S/\(∀g,∀b∈S,b∉F' g)/\(∀g b,b∈F' g->b∈F g)/\∀b∈S,∃g,b∈F g:=by
 unfold jdB at hk;split at hk
 ·have hu:u=.slice none 0 0:=hv
  subst hu;exact ⟨[],s,[],F,hk,Rep.nil_ w size e,h,Fresh.nil _,by simp,λ_ _ h=>h,by simp⟩
 ·rename_i g c p x'
  rcases hk with ⟨rfl,cs,η,ho,hx,hk⟩|⟨k,rfl,sz,tyo,ds0,cs,η,ho,hd,hx,hk⟩
  ·obtain ⟨u',S1,F1,j1,j2,j3,j4,j5,j6,j7,j8⟩:=h.rm ho
   have hu:u=u':=by rw [hv.1,<-hx,j3,qZ j1]
   subst hu;exact ⟨cs,_,S1,F1,hk,j2,j5,j4,j6,j8,λb Z=>⟨g,j7 b Z⟩⟩
  ·obtain ⟨v,Sk,a1,a2,_,a4,a5,a6⟩:=joh (h.ob g) ho hd
   have hu:u=v:=by rw [hv.1,<-hx,a2 rfl]
   subst hu;obtain ⟨aW,S',b1,b2,R,b3,b4⟩:=a6 (.val u) [] ⟨rfl,rfl⟩;rw [aBO] at b4;have aY:=b3.nodup_iff.1 (h.fr g).1;have b9:∀b∈S',b∈F g:=λb Z=>b3.mem_iff.2 (aAS.2 (.inl (b4.mem_iff.1 Z)))
   have t1:=h.setO (g:=g) b1 ⟨b4.nodup_iff.2 (aAU.1 aY).1,λb Z=>(h.fr g).2 b (b9 b Z)⟩ (λg' cR b Z hh=>h.dj g' g cR b hh (b9 b Z))
   have wL:x'=u:=by rw [<-hx,a2 rfl]
   refine ⟨cs,_,Sk,_,hk aW b2,a1,by rw [wL];exact t1,⟨(aAU.1 aY).2.1,λb Z=>(h.fr g).2 b (a4 b Z)⟩,λg' b Z hh=>?_,λg' b Z=>?_,λb Z=>⟨g,a4 b Z⟩⟩
   ·split at hh
    ·exact (aAU.1 aY).2.2 b (b4.mem_iff.1 hh) b Z rfl
    ·rename_i xV
     exact h.dj g' g xV b hh (a4 b Z)
   ·split at Z
    ·rename_i e;rw [e];exact b9 b Z
    ·exact Z
 ·exact hk.elim
theorem jiL:∀{ds:List D} {us:List Value} {S:List Nat} {own:Bool},jT ds=true->RepL w own ds us S->(∀u∈us,u.oneCell'=true)/\∀(w':World) (own':Bool),RepL w' own' ds us []
 |[],us,S,own,_,h=>by obtain ⟨rfl,_⟩:=h;exact ⟨by simp,λ_ _=>⟨rfl,rfl⟩⟩
 |.val u::ds,us,S,own,hf,h=>by
  obtain ⟨v,vs',S1,S2,rfl,rfl,h3,h4⟩:=h;simp only [jT,aBH] at hf;obtain ⟨h5,h6⟩:=jiL hf.2 h4;obtain ⟨rfl,rfl⟩:=h3;refine ⟨λu hu=>?_,λw' own'=>RepL.val_ (h6 w' own')⟩
  rcases aBB.1 hu with rfl|hu
  ·exact hf.1
  ·exact h5 u hu
 |.sl _ _ _::_,_,_,_,hf,_=>by simp [jT] at hf
theorem jlm {own:Bool}:∀{ds:List D} {us:List Value} {S:List Nat},RepL w own ds us S->(∀d∈ds,∀u,d=.val u->u.oneCell'=true)->∀u∈us,u.oneCell'=true
 |[],us,S,h,_=>by obtain ⟨rfl,_⟩:=h;simp
 |d::ds,us,S,h,hd=>by
  obtain ⟨v,vs',S1,S2,rfl,rfl,h3,h4⟩:=h;intro u hu;rcases aBB.1 hu with rfl|hu
  ·cases d with
   |val x=>obtain ⟨rfl,_⟩:=h3;exact hd _ (by simp) _ rfl
   |sl _ _ _=>obtain ⟨_,_,_,rfl⟩:=qL h3;rfl
  ·exact jlm h4 (λd' mL=>hd d' (by simp [mL])) u hu
theorem jke {t e:TypeId} {i:TypeInfo} {zs:List Value} (ht:P.underlying t=some (.slice e)) (hi:P.info? e=some i) (hz:kV P e=some zs) (hs:0<i.size) {ty:TypeId} {xs ys:List D} {v:Value} {S Sy:List Nat}
 (aD:Rep w true (.sl i.size e xs) v S) {A:Option Addr} {m c:Nat} {news:List Value} (hy:RepL w true ys news Sy) (hm:news.length=m*i.size) (hA:A=none->m=0/\c=0) (dH:∀ad,A=some ad->∀j u,news[j]?=some u->w.cell? (ad.add j)=some u)
 (V:∀u∈news,u.oneCell'=true) (hF:Fresh B (S++Sy)) (hB:B<=w.heap.size) (gY:xs.length/i.size+ys.length/i.size<=maxLen) (cD:(xs.length/i.size+ys.length/i.size)*i.bytes<=140737488355328):
 ∃v' w' S',(Builtin.append_ #[t,t] ty #[v,.slice A m c]).run P w=.ok v' w'/\Rep w' true (.sl i.size e (xs++ys)) v' S'/\Fresh B S'/\Only S w w'/\∀s∈S',s∈S\/s∈Sy\/w.heap.size<=s:=by
 obtain ⟨vs,T,S1,⟨n,bB,rfl⟩,cU,rfl⟩:=aD;have cQ:=RepL.length _ cU;have pQ:=RepL.length _ hy;have nM:xs.length/i.size=n:=by rw [<-cQ,bB.1];exact aBP _ hs
 have wJ:ys.length/i.size=m:=by rw [<-pQ,hm];exact aBP _ hs
 rw [nM,wJ] at gY cD;unfold kV at hz;rw [hi] at hz;simp only at hz;split at hz
 ·rename_i z d6
  split at hz
  ·rename_i fH
   simp only [aBH,aCJ] at fH;cases A with
   |none=>
    obtain ⟨rfl,rfl⟩:=hA rfl;have hU:news=[]:=aBC (by rw [hm,Nat.zero_mul])
    subst hU;have nL:ys=[]:=aBC (by rw [<-pQ];rfl)
    subst nL;exact ⟨v,w,blk v++S1,run_append_owned_none (P:=P) w 0 t ty e i i.size ht hi v n vs bB,by rw [aBO];exact ⟨vs,blk v,S1,⟨n,bB,rfl⟩,cU,rfl⟩,hF.left,Only.refl _ _,λs hs=>.inl hs⟩
   |some ad=>
    have f1:=dH ad rfl;obtain ⟨v',w',hr,Y,h3,_⟩:=run_append_own (P:=P) w 0 t ty e i z i.size i.bytes ht hi d6 rfl rfl fH.1 hs v n vs bB ad m c news hm f1 V gY cD (aBR _);have cP:Only (blk v++S1) w w':=Only.of_grown h3 (λb Z=>by simp [Z])
    have cX:Only (blk v) w w':=Only.of_grown h3 (λb Z=>Z)
    have dU:∀s∈S1++Sy,s∉blk v:=λs hs Z=>by
     have:=hF.1;rw [aAZ] at this;exact (aAU.1 this).2.2 s Z s hs rfl
    have bR:∀b∈blk v',b∈blk v\/b=w.heap.size:=jfp ht hi d6 bB hm f1 V gY cD hr
    have cO:Rep w' true (.sl i.size e (xs++ys)) v' (blk v'++(S1++Sy)):=
     ⟨vs++news,blk v',S1++Sy,⟨n+m,Y,rfl⟩,RepL.append_ _ (cU.only cX λs hs=>dU s (by simp [hs])) (hy.only cX λs hs=>dU s (by simp [hs])),rfl⟩
    have aC:∀s∈S1++Sy,s<w.heap.size:=λs hs=>by
     rcases aAS.1 hs with hs|hs
     ·exact RepL.lt _ cU s hs
     ·exact RepL.lt _ hy s hs
    refine ⟨v',w',_,hr,cO,?_,cP,λs hs=>?_⟩
    ·rw [aAZ] at hF
     refine ⟨aAU.2 ⟨?_,(aAU.1 hF.1).2.1,λa ha b Z e=>?_⟩,λb Z=>?_⟩
     ·rcases Y.2 with ⟨rfl,_⟩|⟨g,cap,cur,rfl,_⟩<;>simp [blk]
     ·subst e
      rcases bR a ha with h4|h4
      ·exact dU a Z h4
      ·have:=aC a Z;omega
     ·rcases aAS.1 Z with Z|Z
      ·rcases bR b Z with h4|h4
       ·exact hF.2 b (by simp [h4])
       ·omega
      ·exact hF.2 b (by rw [aAS];exact .inr Z)
    ·rcases aAS.1 hs with hs|hs
     ·rcases bR s hs with h4|h4
      ·exact .inl (by simp [h4])
      ·right;right;omega
     ·rcases aAS.1 hs with hs|hs
      ·exact .inl (by simp [hs])
      ·exact .inr (.inl hs)
  ·simp at hz
 ·simp at hz
theorem jo6 (h:RelF B w0 N s a w F) {size:Nat} (hs:0<size) {x:AV} {u:Value} {K:List D->St->Prop} (hv:VRel B w x u) (hk:jmL s size x K):
 ∃ys s' Sy F' A m c news,K ys s'/\u=.slice A m c/\RepL w true ys news Sy/\news.length=m*size/\(A=none->m=0/\c=0)/\(∀b o,A=some ⟨b,o,none⟩->∀j u,news[j]?=some u->w.cell? ⟨b,o+j,none⟩=some u)/\(∀ad,A=some ad->ad.spot=none\/news=[])/\(∀u∈news,u.oneCell'=true)/\
  RelF B w0 N s' a w F'/\Fresh B Sy/\(∀g,∀b∈Sy,b∉F' g)/\(∀g b,b∈F' g->b∈F g)/\∀b∈Sy,∃g,b∈F g:=by
 have flat:∀(dd:D) (S:List Nat),dd.isSl=true->dd.size=size->jT dd.cells=true->Rep w false dd u S->K dd.cells s->
  ∃ys s' Sy F' A m c news,K ys s'/\u=.slice A m c/\RepL w true ys news Sy/\news.length=m*size/\(A=none->m=0/\c=0)/\(∀b o,A=some ⟨b,o,none⟩->∀j u,news[j]?=some u->w.cell? ⟨b,o+j,none⟩=some u)/\(∀ad,A=some ad->ad.spot=none\/news=[])/\(∀u∈news,u.oneCell'=true)/\
  RelF B w0 N s' a w F'/\Fresh B Sy/\(∀g,∀b∈Sy,b∉F' g)/\(∀g b,b∈F' g->b∈F g)/\∀b∈Sy,∃g,b∈F g:=by
  intro dd S k1 k2 k3 k4 k5;cases dd with
  |val _=>cases k1
  |sl size' ty cs=>
   have k2':size'=size:=k2;subst k2';obtain ⟨A,n,c,vs,S',rfl,j1,j2,_,j4,j5,j6,j7⟩:=qu k4;obtain ⟨j8,j9⟩:=jiL k3 j2;have cQ:=RepL.length _ j2;refine ⟨cs,s,[],F,A,n,c,vs,k5,rfl,j9 w true,by rw [cQ,j1],λhA=>?_,λb o' hA j u hu=>?_,λad hA=>?_,j8,h,Fresh.nil _,by simp,λ_ _ h=>h,by simp⟩
   ·have:=j6 hA;omega
   ·obtain ⟨b',o'',mW,_,j10⟩:=j7 (λe=>by subst e;simp at hu)
    rw [mW] at hA;cases hA;exact j10 j u hu
   ·by_cases a7:vs=[]
    ·exact .inr a7
    ·obtain ⟨b',o'',mW,_⟩:=j7 a7
     rw [mW] at hA;cases hA;exact .inl rfl
 unfold jmL at hk;split at hk
 ·have hu:u=.slice none 0 0:=hv
  subst hu;exact ⟨[],s,[],F,none,0,0,[],hk,rfl,⟨rfl,rfl⟩,by simp,λ_=>⟨rfl,rfl⟩,by simp,by simp,by simp,h,Fresh.nil _,by simp,λ_ _ h=>h,by simp⟩
 ·rename_i dd
  obtain ⟨k1,k2,k3,k4⟩:=hk;obtain ⟨_,S,k5,_⟩:=hv;exact flat dd S k1 k2 k3 k5 k4
 ·rename_i g c p x' sz lo m
  obtain ⟨dd,k1,k2,k3,k4⟩:=hk;have nA:A0Rel B w (.hs g c p x' sz lo m) u:=hv;obtain ⟨S,k5⟩:=jem h nA k1;obtain ⟨_,_,d1,_,_,_,k6,_,_,_,rfl⟩:=k1;exact flat _ S (by cases d1 with|val _=>cases k6|sl _ _ _=>rfl) k2 k3 k5 k4
 ·rename_i g c p x'
  obtain ⟨dd,k1,k2,k3⟩:=hk;have nA:A0Rel B w (.h g c p x') u:=hv;obtain ⟨S,k4⟩:=jem h nA k1;split at k3
  ·rename_i k5
   obtain ⟨_,_,_,_,_,k7⟩:=k1;exact flat dd S k7 k2 k5 k4 k3
  ·obtain ⟨rfl,k5,k6⟩:=k3
   obtain ⟨d0,η,k7,k8,k9,k10⟩:=k1;simp [D.get] at k9;subst k9;obtain ⟨u',S1,F1,j1,j2,j3,j4,j5,j6,j7,j8⟩:=h.rm k7;have hu:u=u':=by rw [nA.1,<-k8,j3,qZ j1]
   subst hu;cases d0 with
   |val _=>cases j1
   |sl size' ty cs=>
    have k2':size'=size:=k2;subst k2';obtain ⟨vs,T,S2,m1,m2,rfl⟩:=j2;have cQ:=RepL.length _ m2
    have eK:∀u∈vs,u.oneCell'=true:=jlm m2 (by
     have key:∀l:List D,jgJ l=true->∀d∈l,∀u,d=.val u->u.oneCell'=true:=by
      intro l
      induction l with
      |nil=>intro _ d hd;simp at hd
      |cons x l ih=>
       intro hl d hd u hu;cases x with
       |val v=>
        simp only [jgJ,aBH] at hl;rcases aBB.1 hd with rfl|hd
        ·cases hu;exact hl.1
        ·exact ih hl.2 d hd u hu
       |sl _ _ _=>
        rcases aBB.1 hd with rfl|hd
        ·cases hu
        ·exact ih hl d hd u hu
     exact key cs k5)
    have b9:∀b∈S2,b∈T++S2:=λb Z=>by simp [Z]
    rcases kO m1 with ⟨rfl,rfl⟩|⟨gg,nn,cc,rfl,rfl,m3,m4,_⟩
    ·refine ⟨cs,_,S2,F1,none,0,0,[],k6,rfl,m2,by simp,λ_=>⟨rfl,rfl⟩,by simp,by simp,by simp,j5,j4.right,λg' b Z=>j6 g' b (b9 b Z),j8,λb Z=>⟨g,j7 b (b9 b Z)⟩⟩
    ·refine ⟨cs,_,S2,F1,_,nn,cc,vs,k6,rfl,m2,m3,λhA=>(by cases hA),λb o' hA j u hu=>?_,λad hA=>?_,eK,j5,j4.right,λg' b Z=>j6 g' b (b9 b Z),j8,λb Z=>⟨g,j7 b (b9 b Z)⟩⟩
     ·cases hA
      rw [aBK];exact m4 j u hu
     ·cases hA
      exact .inl rfl
 ·exact hk.elim
theorem jr1 (h:RelF B w0 N s a w F) {c:Call} {t e:TypeId} {i:TypeInfo} {zs:List Value} {x y:Operand} {x' y':X} {g:Option (Nat×Bool)} (ho:o.op=.call c) (hc:c.callee=.builtin .append) (ha:c.args.toList=[x,y]) (nX:c.argTypes.toList=[t,t]) (ht:P.underlying t=some (.slice e)) (hi:P.info? e=some i) (hz:kV P e=some zs) (hs:0<i.size)
 (hx:jr x=some x') (hy:jr y=some y') (hd:∀k,o.dst=some k->k<N) (hr:kK P β ⟨o.dst,g,.app e i.size i.bytes x' y'⟩ s K):OpOk P o a w (λa' w'=>∃s' F',RelF B w0 N s' a' w' F'/\K s'):=by
 have cM:jmL s i.size (s.ev y') λys s1=>jdB s1 e i.size (s.ev x') λxs s2=>xs.length/i.size+ys.length/i.size<=maxLen/\(xs.length/i.size+ys.length/i.size)*i.bytes<=140737488355328/\
  ∀η,K ((s2.addO [(100*(β+o.dst.getD 0),.loose (.sl i.size e (xs++ys)) η)]).put o.dst (.c (.h (100*(β+o.dst.getD 0)) 0 [] (η [])))):=hr
 obtain ⟨ys,s1,Sy,F1,A,m,cc,news,bV,e1,r1,r2,r3,r4,r5,r6,V,r7,r8,r9,r10⟩:=jo6 h hs (kn h hy) cM;obtain ⟨xs,s2,S,F2,⟨q1,q2,q3⟩,q4,Y,q5,q6,q7,q8⟩:=jiP V (kn h hx) bV;have bO:c.args=#[x,y]:=by rw [<-Array.toArray_toList (xs:=c.args),ha]
 have fI:c.argTypes=#[t,t]:=by rw [<-Array.toArray_toList (xs:=c.argTypes),nX]
 have hB:B<=w.heap.size:=aBU h.hB h.below.size
 have dK:∀b∈S,b∉Sy:=λb Z aS=>by
  obtain ⟨g',cR⟩:=q8 b Z;exact r8 g' b aS cR
 have hF:Fresh B (S++Sy):=⟨aAU.2 ⟨q5.1,r7.1,λp hp q hq e=>dK p hp (e▸hq)⟩,λb Z=>by rcases aAS.1 Z with Z|Z;exact q5.2 b Z;exact r7.2 b Z⟩
 obtain ⟨v',w',S',a8,aD,tU,cP,mT⟩:=jke (B:=B) (ty:=o.type) ht hi hz hs q4 r1 r2 r3 (λad hA j u hu=>by
  rcases r5 ad hA with h5|h5
  ·obtain ⟨b,o',sp⟩:=ad
   simp only at h5;subst h5;rw [qB];exact r4 b o' hA j u hu
  ·subst h5;simp at hu) r6 hF hB q1 q2
 have fW:(execOp a.eval o).run P w=.ok (.value v') w':=by
  simp [execOp,ho,resolve,hc,bO,fI,e1,invoke,builtin,a8]
 have Z:Below B w w':=cP.below (λb Z=>q5.2 b Z) hB
 have h3:=Y.world' Z λg b aS=>cP.block b ((Y.ob g).lt b aS) λhh=>q6 g b hh aS
 have bL:ORel B w' (.loose (.sl i.size e (xs++ys)) (λp=>hdr w' p (.sl i.size e (xs++ys)) v')) S':=⟨rfl,v',aD,λ_=>rfl⟩
 have h4:=h3.setO (g:=100*(β+o.dst.getD 0)) bL tU (λg' _ b aS=>by
  rcases mT b aS with h5|h5|h5
  ·exact q6 g' b h5
  ·exact λhh=>r8 g' b h5 (q7 g' b hh)
  ·exact λhh=>by have:=(Y.ob g').lt b hh;omega)
 have hv:VRel B w' (.c (.h (100*(β+o.dst.getD 0)) 0 [] v')) v':=⟨rfl,by obtain ⟨_,_,_,rfl⟩:=qL aD;rfl⟩
 exact OpOk.of_run fW ⟨_,_,h4.put hv hd,q3 _⟩
theorem je5 {t u e:TypeId} {i:TypeInfo} (ht:P.underlying t=some (.slice e)) (hu:P.underlying u=some .string) (hi:P.info? e=some i) (hz:i.zero=some (.int .u8 0)) (hs:i.size=1) (gX:i.bytes=1) {ty:TypeId} {xs:List D} {v:Value} {S:List Nat}
 (aD:Rep w true (.sl 1 e xs) v S) (b:ByteArray) (hF:Fresh B S) (hB:B<=w.heap.size) (aJ:xs.length+b.size<=140737488355328):
 ∃v' w' S',(Builtin.append_ #[t,u] ty #[v,.string b]).run P w=.ok v' w'/\Rep w' true (.sl 1 e (xs++strCells b)) v' S'/\Fresh B S'/\Only S w w'/\∀s∈S',s∈S\/w.heap.size<=s:=by
 obtain ⟨vs,T,S1,⟨n,bB,rfl⟩,cU,rfl⟩:=aD;have cQ:=RepL.length _ cU;have fR:vs.length=n:=by simpa using bB.1
 have gY:n+b.size<=maxLen:=by unfold maxLen;omega
 obtain ⟨v',w',hr,Y,h3,_⟩:=Go.Lib.run_append_own_string (P:=P) w 0 t u ty e i ht hu hi hz hs gX v n vs bB b gY (by omega) (aBR _)
 have cP:Only (blk v++S1) w w':=Only.of_grown h3 (λb Z=>by simp [Z])
 have cX:Only (blk v) w w':=Only.of_grown h3 (λb Z=>Z)
 have dU:∀s∈S1,s∉blk v:=λs hs Z=>(aAU.1 hF.1).2.2 s Z s hs rfl
 have bR:∀b∈blk v',b∈blk v\/b=w.heap.size:=by
  intro g hg;by_cases tI:b.size=0
  ·rcases bB.2 with ⟨rfl,rfl⟩|⟨g',cap,cur,rfl,_,cR,hO,gW,lL,dZ⟩
   ·
    have dT:b=ByteArray.empty:=by
     cases b with
     |mk d=>simp [ByteArray.size] at tI;subst tI;rfl
    have:(Builtin.append_ #[t,u] ty #[.slice none 0 0,.string b]).run P w=.ok (.slice none 0 0) w:=by
     simp [Builtin.append_,run_underlying ht,run_underlying hu,sizeOf,typeInfo,hi,Builtin.lenOf,tI,Builtin.firstCells]
    rw [this] at hr;injection hr with e1 _;subst e1;simp [blk] at hg
   ·rw [Go.Lib.run_append_room_string (P:=P) w t u ty e i ht hu hi hs g' n cap cur cR b (by omega) (by omega)] at hr
    injection hr with e1 _;subst e1;exact .inl (by simpa [blk] using hg)
  ·rcases bB.2 with ⟨rfl,rfl⟩|⟨g',cap,cur,rfl,_,cR,hO,gW,lL,dZ⟩
   ·rw [run_append_nil_string (P:=P) w t u ty e i _ ht hu hi hz b (by omega) (by omega) (by rw [gX];omega)] at hr
    injection hr with e1 _;subst e1;exact .inr (by simpa [blk] using hg)
   ·by_cases eT:n+b.size<=cap
    ·rw [Go.Lib.run_append_room_string (P:=P) w t u ty e i ht hu hi hs g' n cap cur cR b eT (by omega)] at hr
     injection hr with e1 _;subst e1;exact .inl (by simpa [blk] using hg)
    ·rw [Go.Lib.run_append_grow_string (P:=P) w t u ty e i _ ht hu hi hz ⟨g',0,none⟩ n cap vs (by rw [hs];exact bB.1) (bB.cells (g:=g') rfl) b (by omega) (by omega) (growslice_fits (by omega) (by rw [gX];omega))] at hr
     injection hr with e1 _;subst e1;exact .inr (by simpa [blk] using hg)
 have pQ:RepL w' true (strCells b) (Go.Lib.strCells b) []:=by
  have key:∀l:List UInt8,RepL w' true (l.map zU) (l.map λb=>Value.int .u8 b.toNat) []:=by
   intro l
   induction l with
   |nil=>exact ⟨rfl,rfl⟩
   |cons x l ih=>exact ⟨_,_,[],[],rfl,rfl,⟨rfl,rfl⟩,ih⟩
  exact key _
 have pF:=RepL.append_ _ (cU.only cX λs hs=>dU s hs) pQ
 rw [aBO] at pF;have cO:Rep w' true (.sl 1 e (xs++strCells b)) v' (blk v'++S1):=⟨vs++Go.Lib.strCells b,blk v',S1,⟨n+b.size,Y,rfl⟩,pF,rfl⟩;have aC:∀s∈S1,s<w.heap.size:=λs hs=>RepL.lt _ cU s hs
 refine ⟨v',w',_,hr,cO,⟨aAU.2 ⟨?_,(aAU.1 hF.1).2.1,λp hp q hq e=>?_⟩,λp hp=>?_⟩,cP,λs hs=>?_⟩
 ·rcases Y.2 with ⟨rfl,_⟩|⟨g,cap,cur,rfl,_⟩<;>simp [blk]
 ·subst e
  rcases bR p hp with h4|h4
  ·exact dU p hq h4
  ·have:=aC p hq;omega
 ·rcases aAS.1 hp with hp|hp
  ·rcases bR p hp with h4|h4
   ·exact hF.2 p (by simp [h4])
   ·omega
  ·exact hF.2 p (by simp [hp])
 ·rcases aAS.1 hs with hs|hs
  ·rcases bR s hs with h4|h4
   ·exact .inl (by simp [h4])
   ·exact .inr (by omega)
  ·exact .inl (by simp [hs])
theorem jpL (h:RelF B w0 N s a w F) {c:Call} {t u e:TypeId} {i:TypeInfo} {x y:Operand} {x' y':X} {g:Option (Nat×Bool)} (ho:o.op=.call c) (hc:c.callee=.builtin .append) (ha:c.args.toList=[x,y]) (nX:c.argTypes.toList=[t,u]) (ht:P.underlying t=some (.slice e)) (hu:P.underlying u=some .string) (hi:P.info? e=some i) (d6:i.zero=some (.int .u8 0)) (hs:i.size=1) (gX:i.bytes=1)
 (hx:jr x=some x') (hy:jr y=some y') (hd:∀k,o.dst=some k->k<N) (hr:kK P β ⟨o.dst,g,.apps e x' y'⟩ s K):OpOk P o a w (λa' w'=>∃s' F',RelF B w0 N s' a' w' F'/\K s'):=by
 obtain ⟨b,k1,k2⟩:=hr;obtain ⟨xs,s2,S,F2,⟨q1,q3⟩,q4,Y,q5,q6,q7,q8⟩:=jiP h (kn h hx) k2;have bO:c.args=#[x,y]:=by rw [<-Array.toArray_toList (xs:=c.args),ha]
 have fI:c.argTypes=#[t,u]:=by rw [<-Array.toArray_toList (xs:=c.argTypes),nX]
 have hB:B<=w.heap.size:=aBU h.hB h.below.size;obtain ⟨v',w',S',a8,aD,tU,cP,mT⟩:=je5 (B:=B) (ty:=o.type) ht hu hi d6 hs gX q4 b q5 hB q1
 have fW:(execOp a.eval o).run P w=.ok (.value v') w':=by
  simp [execOp,ho,resolve,hc,bO,fI,jdc h hy k1,invoke,builtin,a8]
 have Z:Below B w w':=cP.below (λb Z=>q5.2 b Z) hB
 have h3:=Y.world' Z λg b aS=>cP.block b ((Y.ob g).lt b aS) λhh=>q6 g b hh aS
 have bL:ORel B w' (.loose (.sl 1 e (xs++strCells b)) (λp=>hdr w' p (.sl 1 e (xs++strCells b)) v')) S':=⟨rfl,v',aD,λ_=>rfl⟩
 have h4:=h3.setO (g:=100*(β+o.dst.getD 0)) bL tU (λg' _ b aS=>by
  rcases mT b aS with h5|h5
  ·exact q6 g' b h5
  ·exact λhh=>by have:=(Y.ob g').lt b hh;omega)
 have hv:VRel B w' (.c (.h (100*(β+o.dst.getD 0)) 0 [] v')) v':=⟨rfl,by obtain ⟨_,_,_,rfl⟩:=qL aD;rfl⟩
 exact OpOk.of_run fW ⟨_,_,h4.put hv hd,q3 _⟩
theorem ji2 {z:Array Value} (hz:0<z.size) (n:Nat):(Builtin.zeroCells z n).toList=(List.replicate n z.toList).flatten:=by
 apply aCH
 intro j;by_cases hj:j<n*z.size
 ·rw [qt (by simp) hz n j hj]
  simp [Builtin.zeroCells,hj];rw [Array.getElem?_eq_getElem (Nat.mod_lt _ hz)];simp only [Option.some.injEq];exact getElem!_pos _ _ _
 ·rw [aBD (by simp [Builtin.zeroCells];omega),aBD (by simp;omega)]
theorem jiy {zs:List D} {us:List Value} (h:RepL w true zs us []):∀(n:Nat),RepL w true (List.replicate n zs).flatten (List.replicate n us).flatten []
 |0=>⟨rfl,rfl⟩
 |n+1=>by
  simp only [List.replicate_succ,aDB];have:=RepL.append_ zs h (jiy h n);simpa using this
theorem jno {α:Type} {l:List α} (n:Nat):(List.replicate n l).flatten.length=n*l.length:=by simp
theorem jrY (h:RelF B w0 N s a w F) {cl:Call} {t e:TypeId} {i:TypeInfo} {zs:List Value} {x:Operand} {x':X} {ks:List (Option (Nat×Nat))} {g:Option (Nat×Bool)} (ho:o.op=.call cl) (hc:cl.callee=.builtin .clear) (ha:cl.args.toList=[x]) (nX:cl.argTypes.toList=[t]) (ht:P.underlying t=some (.slice e)) (hi:P.info? e=some i) (hz:kV P e=some zs) (hs:0<i.size)
 (hx:jr x=some x') (hr:kK P β ⟨o.dst,g,.clr i.size (jjH ks zs) x'⟩ s K):OpOk P o a w (λa' w'=>∃s' F',RelF B w0 N s' a' w' F'/\K s'):=by
 obtain ⟨gG,hr⟩:=hr;simp only at gG;have bO:cl.args=#[x]:=by rw [<-Array.toArray_toList (xs:=cl.args),ha]
 have fI:cl.argTypes=#[t]:=by rw [<-Array.toArray_toList (xs:=cl.argTypes),nX]
 have uE:∀v,a.put o.dst v=a:=λv=>by rw [gG];rfl
 have hI:=kn h hx;split at hr
 ·rename_i he
  have hp:a.eval x=.slice none 0 0:=by rw [he] at hI;exact hI
  have a8:(execOp a.eval o).run P w=.ok (.value (.tuple #[])) w:=by
   simp [execOp,ho,resolve,hc,bO,fI,hp,invoke,builtin,Builtin.clear_,run_underlying ht]
  exact OpOk.of_run a8 (by rw [uE];exact ⟨s,F,h,hr⟩)
 ·rename_i k c p m9 sz lo n he
  obtain ⟨rfl,hn,d0,η,dd,j1,j2,j3,j4,j5,j6,hk⟩:=hr;rw [he] at hI;obtain ⟨hp,_⟩:=hI;unfold kV at hz;rw [hi] at hz;simp only at hz;split at hz;rotate_left
  ·simp at hz
  rename_i z d6;split at hz;rotate_left
  ·simp at hz
  rename_i fH;simp only [aBH,aCJ] at fH;simp at hz;subst hz;have mZ:z.cells.toList.length=i.size:=by rw [Array.length_toList];simpa using fH.1
  have fD:0<z.cells.size:=by have:=fH.1;omega
  generalize s0:(List.replicate n (jjH ks z.cells.toList)).flatten=ds at*;generalize fS:(List.replicate n z.cells.toList).flatten=us;have bR:RepL w true ds us []:=by rw [<-s0,<-fS];exact jiy (jhV _ _) n
  have gS:us.length=n*i.size:=by rw [<-fS,jno,mZ]
  have gH:ds.length=n*i.size:=by rw [<-RepL.length _ bR,gS]
  have l9:0<n*i.size:=Nat.mul_pos hn hs
  have k8:∀u∈us,u.oneCell'=true:=λu hu=>by
   rw [<-fS] at hu;obtain ⟨l,hl,gS⟩:=List.mem_flatten.1 hu;rw [List.eq_of_mem_replicate hl] at gS;exact List.all_eq_true.1 fH.2 u (by simpa using gS)
  have fG:=h.fr k;obtain ⟨u,S1,q0,q1,q2,q3,q4,q5⟩:=ORel.put1 (h.ob k) fG.1 j1;obtain ⟨Sx,fO,_⟩:=qa h j1 j2 j3 j4;cases dd with
  |val _=>cases j4
  |sl size ty cs0=>
   simp only [D.size] at j5;subst j5;simp only [D.len,D.cells,D.size] at j6;have cJ:(lo+n)*i.size<=cs0.length:=aBU (aBY _ j6) (Nat.div_mul_le_self _ _);rw [aCX] at cJ;obtain ⟨gg,nn,cc,r1,r2,r3,S1',r4,r5,r6,r7⟩:=jfz (k:=lo*i.size) (by omega) bR List.nodup_nil p q1 q4 (λb Z=>by simp at Z) j3 (by omega)
   have o8:m9=.slice (some ⟨gg,0,none⟩) nn cc:=by rw [<-j2,q2,r1]
   obtain ⟨vs,T,S',dF,cU,_⟩:=fO;have cQ:=RepL.length _ cU
   have s9:lo<cc:=by
    obtain ⟨nv,bB,_⟩:=dF;have V:=bB.1;rcases bB.2 with ⟨e1,e2⟩|⟨g',cap,cur,e1,_,_,e2,_⟩
    ·rw [o8] at e1;cases e1
    ·rw [o8] at e1
     injection e1 with e3 e4 e5;subst e5;have:cs0.length/i.size=nv:=by rw [<-cQ,V];exact aBP _ hs
     omega
   have fF:a.eval x=.slice (some ⟨gg,lo*i.size,none⟩) n (cc-lo):=by
    rw [hp.resolve_right λ⟨_,hU,_⟩=>by omega,o8]
    simp only [jmF];rw [if_neg (by omega)]
    simp [Addr.add_lit]
   have a8:(execOp a.eval o).run P w=.ok (.value (.tuple #[])) (w.setCells gg (lo*i.size) us):=by
    have bG:=run_storeCells_cells (P:=P) gg (lo*i.size) us 0 w (λj hj=>(r3 j (by omega)).1) (λj hj=>(r3 j (by omega)).2) k8
    simp only [aAQ] at bG;obtain ⟨m,rfl⟩:∃m,n=m+1:=⟨n-1,by omega⟩
    simp [execOp,ho,resolve,hc,bO,fI,fF,invoke,builtin,Builtin.clear_,run_underlying ht,zeroValue,typeInfo,hi,d6,ji2 fD,fS,bG]
   obtain ⟨j6,j7,j8,j9⟩:=qK us w gg (lo*i.size);have gD:gg∈F k:=q3 gg r2;have tW:B<=gg:=fG.2 gg gD;have a7:∀b,b≠gg->(w.setCells gg (lo*i.size) us).heap[b]?=w.heap[b]?:=λb Z=>qX us w gg (lo*i.size) b Z
   have Z:Below B w (w.setCells gg (lo*i.size) us):=⟨j6,j7,j8,by rw [j9];exact aAV _,λj hj=>a7 j (by omega)⟩
   have eF:(D.put p (lo*i.size) ds d0).isSl=true:=joG _ _ _ q0
   obtain ⟨S',m1,m2,m3⟩:=q5 (w.setCells gg (lo*i.size) us) (D.put p (lo*i.size) ds d0) (λq=>hdr (w.setCells gg (lo*i.size) us) q (D.put p (lo*i.size) ds d0) u) S1' Z (λb _ bA=>a7 b λe=>bA (e▸r2)) eF r4 (λ_=>rfl) r5 (λb aH=>by
    rcases r6 b aH with h|h
    ·exact .inl h
    ·simp at h)
   have t1:=h.setO (g:=k) (ob:=.none) (S:=[]) rfl (Fresh.nil _) (by simp)
   have t2:=t1.world' Z λg' x hx=>by
    split at hx
    ·simp at hx
    ·rename_i cR
     exact a7 x λe=>h.dj g' k cR x hx (e▸gD)
   have gO:∀x∈S',x∈F k:=λx hx=>by
    rcases m3 x hx with h|h
    ·exact h
    ·rcases r6 x h with h'|h'
     ·exact q3 x h'
     ·simp at h'
   have t3:=t2.setO (g:=k) m1 ⟨m2,λx hx=>fG.2 x (gO x hx)⟩ (λg' cR x hx=>by
    rw [if_neg cR];exact λhh=>h.dj g' k cR x hh (gO x hx))
   have fN:(s.setO k .none).setO k ((s.o k).putOwn c (D.put p (lo*i.size) ds d0) (λq=>hdr (w.setCells gg (lo*i.size) us) q (D.put p (lo*i.size) ds d0) u))=s.setO k ((s.o k).putOwn c (D.put p (lo*i.size) ds d0) (λq=>hdr (w.setCells gg (lo*i.size) us) q (D.put p (lo*i.size) ds d0) u)):=by
    simp only [St.setO,St.mk.injEq,true_and]
    funext i;split<;>rfl
   rw [fN] at t3
   exact OpOk.of_run a8 (by
    rw [uE];have eB:∀q,¬jik p (lo*i.size) (n*i.size) q->hdr (w.setCells gg (lo*i.size) us) q (D.put p (lo*i.size) ds d0) u=η q:=λq hq=>by rw [q2];exact r7 q (by rw [gH];exact hq)
    refine ⟨_,_,t3,joB hk eB λhf=>?_⟩
    simp only [aBH] at hf
    funext q
    by_cases hq:jik p (lo*i.size) (n*i.size) q
    ·obtain ⟨j,r,rfl,hZ,mI⟩:=hq
     obtain ⟨v1,d7⟩:=zw (j:=j-lo*i.size) hf.1 (by omega)
     obtain ⟨v2,lA⟩:=zw (j:=j-lo*i.size) hf.2 (by simp only [D.cells,aBA,List.length_drop];omega)
     rw [q2];rw [jbn (w:=w.setCells gg (lo*i.size) us) (j:=j) (v:=v1) p (zr p j3) (by rw [jd0 _ _ _ _ (by omega) hZ (by omega)];exact d7)]
     refine (jbn (v:=v2) p j3 ?_).symm;rw [<-lA];simp only [D.cells];rw [aBV,if_pos (by omega),aBQ]
     congr 1;omega
    ·exact eB q hq)
 ·exact hr.elim
end
