/- Parts. -/
import Derived.Test.YtcehjhiglmifjaaGreatQE4bd
set_option linter.unusedSimpArgs false
set_option linter.unusedVariables false
namespace Go.Proofs.YtcehjhiglmifjaaGreat
open Go.RowKit Go.Sort
section
variable {P:Program} {B:Nat} {w w0:World} {F:Nat→List Nat} {o:Nat→Ob}
theorem jgA {own:Bool}:∀{k:Nat} {cs:List D} {vs:List Value} {S:List Nat} {d:D},RepL w own cs vs S→cs[k]?=some d→
 ∃v SA Sd SC,vs[k]?=some v∧S=SA++Sd++SC∧Rep w own d v Sd∧∀d' Sd',Rep w own d' v Sd'→RepL w own (cs.set k d') vs (SA++Sd'++SC)
 |_,[],_,_,_,_,h=>by simp at h
 |0,e::cs,_,_,d,⟨v,vs',S1,S2,rfl,rfl,h1,h2⟩,h=>by
  simp at h;subst h;exact ⟨v,[],S1,S2,rfl,by simp,h1,fun d' Sd' h3=>⟨v,vs',Sd',S2,rfl,by simp,h3,h2⟩⟩
 |k+1,e::cs,_,_,d,⟨v,vs',S1,S2,rfl,rfl,h1,h2⟩,h=>by
  simp at h;obtain ⟨v2,SA,Sd,SC,a1,rfl,a3,a4⟩:=jgA h2 h;exact ⟨v2,S1++SA,Sd,SC,by simpa using a1,by simp,a3,fun d' Sd' h3=>⟨v,vs',S1,SA++Sd'++SC,rfl,by simp,h1,a4 d' Sd' h3⟩⟩
theorem jhk:∀{c:Nat} {l:List Cell} {us:List Value} {S:List Nat} {d:D} {η:js},CRel B w l us S→l[c]?=some (.own d η)→
 ∃u SA Sd SC,S=SA++Sd++SC∧d.isSl=true∧Rep w true d u Sd∧(∀p,η p=hdr w p d u)∧∀d' η' Sd',d'.isSl=true→Rep w true d' u Sd'→(∀p,η' p=hdr w p d' u)→CRel B w (l.set c (.own d' η')) us (SA++Sd'++SC)
 |_,[],_,_,_,_,_,h=>by simp at h
 |0,.a _::l,_,_,d,η,_,h=>by simp at h
 |0,.own e ε::l,_,_,d,η,⟨u,us',S1,S2,rfl,rfl,h1,h2,h3,h4⟩,h=>by
  simp at h;obtain ⟨rfl,rfl⟩:=h;exact ⟨u,[],S1,S2,by simp,h1,h2,h3,fun d' η' Sd' a1 a2 a3=>⟨u,us',Sd',S2,rfl,by simp,a1,a2,a3,h4⟩⟩
 |c+1,.a x::l,_,_,d,η,⟨u,us',rfl,h1,h2⟩,h=>by
  simp at h;obtain ⟨v,SA,Sd,SC,a1,a2,a3,a4,a5⟩:=jhk h2 h;exact ⟨v,SA,Sd,SC,a1,a2,a3,a4,fun d' η' Sd' b1 b2 b3=>⟨u,us',rfl,h1,a5 d' η' Sd' b1 b2 b3⟩⟩
 |c+1,.own e ε::l,_,_,d,η,⟨u,us',S1,S2,rfl,rfl,h1,h2,h3,h4⟩,h=>by
  simp at h;obtain ⟨v,SA,Sd,SC,rfl,a2,a3,a4,a5⟩:=jhk h4 h;exact ⟨v,S1++SA,Sd,SC,by simp,a2,a3,a4,fun d' η' Sd' b1 b2 b3=>⟨u,us',S1,SA++Sd'++SC,rfl,by simp,h1,h2,h3,a5 d' η' Sd' b1 b2 b3⟩⟩
theorem jk0 {ob:Ob} {c:Nat} {S:List Nat} {d:D} {η:js} (ho:ORel B w ob S) (h:ob.own c=some (d,η)):
 ∃u SA Sd SC,S=SA++Sd++SC∧d.isSl=true∧Rep w true d u Sd∧(∀p,η p=hdr w p d u)∧∀d' η' Sd',d'.isSl=true→Rep w true d' u Sd'→(∀p,η' p=hdr w p d' u)→ORel B w (ob.putOwn c d' η') (SA++Sd'++SC):=by
 cases ob with
 |none=>cases h
 |loose e ε=>
  cases c with
  |succ c=>cases h
  |zero=>
   simp only [Ob.own,Option.some.injEq,Prod.mk.injEq] at h;obtain ⟨rfl,rfl⟩:=h;obtain ⟨h1,u,h2,h3⟩:=ho;exact ⟨u,[],S,[],by simp,h1,h2,h3,fun d' η' Sd' a1 a2 a3=>⟨a1,u,by simpa using a2,a3⟩⟩
 |box b ty l=>
  simp only [Ob.own] at h;split at h
  ·rename_i e ε he
   simp only [Option.some.injEq,Prod.mk.injEq] at h;obtain ⟨rfl,rfl⟩:=h;obtain ⟨us,S1,h1,h2,rfl⟩:=ho;obtain ⟨u,SA,Sd,SC,rfl,a2,a3,a4,a5⟩:=jhk h2 he;exact ⟨u,b::SA,Sd,SC,by simp,a2,a3,a4,fun d' η' Sd' b1 b2 b3=>⟨us,SA++Sd'++SC,h1,a5 d' η' Sd' b1 b2 b3,by simp⟩⟩
  ·cases h
theorem jmx {B:Nat} {w:World} {ob:Ob} {S:List Nat} {c k sz tyo:Nat} {ds0:List D} {e:D} {η:js} (h:ORel B w ob S) (ho:ob.own c=some (.sl sz tyo ds0,η)) (hk:ds0[k]?=some e):
 ∃v Sk,Rep w true e v Sk∧(e.isSl=true→η [k]=v)∧(∀x,e=.val x→v=x)∧(∀b∈Sk,b∈S)∧(S.Nodup→Sk.Nodup)∧∀e' Sk',Rep w true e' v Sk'→∃η' S',ORel B w (ob.putOwn c (.sl sz tyo (ds0.set k e')) η') S'∧η' []=η []∧∃R,S.Perm (R++Sk)∧S'.Perm (R++Sk'):=by
 obtain ⟨u,SA,Sd,SC,e1,a1,a2,a3,a4⟩:=jk0 h ho;obtain ⟨vs,T,S',hrow,hrl,rfl⟩:=a2;obtain ⟨v,SA',Sk,SC',b1,rfl,b3,b4⟩:=jgA hrl hk
 have hperm:∀X:List Nat,(SA++(T++(SA'++X++SC'))++SC).Perm ((SA++(T++(SA'++[]++SC'))++SC)++X):=fun X=>by
  have e1:SA++(T++(SA'++X++SC'))++SC=(SA++(T++SA'))++(X++(SC'++SC)):=by simp
  have e2:(SA++(T++(SA'++[]++SC'))++SC)++X=(SA++(T++SA'))++((SC'++SC)++X):=by simp
  rw [e1,e2];exact List.Perm.append_left _ List.perm_append_comm
 refine ⟨v,Sk,b3,fun hs=>?_,fun x hx=>?_,fun b hb=>by rw [e1];simp [hb],fun hnd=>?_,fun e' Sk' hr=>?_⟩
 ·rw [a3]
  rcases qy hrow with ⟨_,rfl⟩|⟨gg,nn,cc,rfl,_,_,hcell,_⟩
  ·simp at b1
  ·simp only [hdr,hk,Nat.zero_add,hcell k v b1,Option.getD_some]
   exact zS hs
 ·subst hx;exact b3.1
 ·rw [e1] at hnd
  exact (List.nodup_append.1 ((hperm Sk).nodup_iff.1 hnd)).2.1
 ·have hrep:Rep w true (.sl sz tyo (ds0.set k e')) u (T++(SA'++Sk'++SC')):=⟨vs,T,_,hrow,b4 _ _ hr,rfl⟩
  refine ⟨fun p=>hdr w p (.sl sz tyo (ds0.set k e')) u,_,a4 _ _ _ rfl hrep (fun _=>rfl),by rw [a3];rfl,_,by rw [e1];exact hperm Sk,hperm Sk'⟩
end
section
variable {P:Program} {β B N:Nat} {w w0:World} {s:St} {a:Act} {F:Nat→List Nat} {o:Oper} {K:St→Prop}
theorem kU {α:Type}:∀(xs us:List α) (k:Nat),k+xs.length≤us.length→kD us k xs=us.take k++xs++us.drop (k+xs.length)
 |[],us,k,_=>by simp [kD]
 |x::xs,us,k,h=>by
  have hk:k<us.length:=by simp at h;omega
  rw [kD,kU xs (us.set k x) (k+1) (by simp at h⊢;omega)]
  have e1:(us.set k x).take (k+1)=us.take k++[x]:=by
   rw [List.take_add_one,List.take_set_of_le (Nat.le_refl _)];simp [hk]
  have e2:(us.set k x).drop (k+1+xs.length)=us.drop (k+(x::xs).length):=by
   rw [List.drop_set_of_lt (by omega)]
   congr 1
   simp;omega
  rw [e1,e2];simp
theorem jq9 (h:RelF B w0 N s a w F) {size:Nat}:∀{parts:List (Nat×Operand)} {ps:List (Nat×Nat×X)} {l:List A0} {k:Nat} {us:List Value},jcG (fun i=>some (i*size,size)) parts=some ps→jsE s ps=some l→parts.map (·.1)=List.range' k parts.length→us.length=(k+parts.length)*size→
 ∃xs:List Value,A0RelL B w l xs∧xs.length=parts.length*size∧Instr.fill (fun i=>some (i*size,size)) us.toArray (parts.map fun p=>(p.1,a.eval p.2))=some (us.take (k*size)++xs).toArray
 |[],ps,l,k,us,h1,h2,_,h4=>by
  simp [jcG] at h1;subst h1;simp [jsE] at h2;subst h2;refine ⟨[],rfl,by simp,?_⟩
  simp at h4;simp [Instr.fill,←h4]
 |(i,x)::parts,ps,l,k,us,h1,h2,h3,h4=>by
  simp only [jcG] at h1;split at h1
  ·rename_i off n x' ps' k1 k2 k3
   simp at h1;subst h1;simp only [List.map_cons,List.length_cons,List.range'_succ,List.cons.injEq] at h3;obtain ⟨rfl,h3⟩:=h3;simp only [jsE] at h2;split at h2
   ·rename_i m r k4 k5
    split at h2
    ·rename_i k6
     simp at h2;subst h2;obtain ⟨xs,k7,k8⟩:=VRel.cells (qE h k2) k4;have hxl:=A0RelL.len k8;simp only [Option.some.injEq,Prod.mk.injEq] at k1;obtain ⟨rfl,rfl⟩:=k1;have hsz:i*size+size+parts.length*size=us.length:=by rw [h4,List.length_cons,Nat.add_mul,Nat.add_mul,Nat.one_mul];omega
     have hle:i*size+xs.length≤us.length:=by omega
     obtain ⟨ys,k9,k10,k11⟩:=jq9 h (k:=i+1) (us:=kD us (i*size) xs) k3 k5 h3 (by rw [jm5,h4,List.length_cons];congr 1;omega)
     have happ:∀(l m:List A0) (us vs:List Value),A0RelL B w l us→A0RelL B w m vs→A0RelL B w (l++m) (us++vs):=by
      intro l
      induction l with
      |nil=>intro m us vs h1 h2;rw [show us=[] from h1];exact h2
      |cons x l ih=>intro m us vs h1 h2;obtain ⟨u,us',rfl,h3,h4⟩:=h1;exact ⟨u,_,rfl,h3,ih m us' vs h4 h2⟩
     refine ⟨xs++ys,happ _ _ _ _ k8 k9,by rw [List.length_append,hxl,k6,k10,List.length_cons,Nat.add_mul,Nat.one_mul];omega,?_⟩
     have e2:=jgI (i*size) xs 0 us;simp only [Nat.add_zero] at e2;have e1:¬(xs.length≠size∨us.length<i*size+xs.length):=by omega
     simp only [List.map_cons,Instr.fill,k7];rw [if_neg (by simpa using e1)]
     rw [←Array.foldl_toList,Array.toList_zipIdx];rw [show (xs.toArray.toList.zipIdx 0)=xs.zipIdx 0 from rfl,e2]
     rw [k11]
     congr 2
     have hx:xs.length=size:=by omega
     have e3:(i+1)*size=(us.take (i*size)++xs).length:=by rw [List.length_append,List.length_take,Nat.add_mul,Nat.one_mul];omega
     rw [kU xs us (i*size) hle,e3,List.take_left];simp
    ·simp at h2
   ·simp at h2
  ·simp at h1
theorem jA6 (h:RelF B w0 N s a w F) {t e:TypeId} {n size:Nat} {parts:Array (Nat×Operand)} {ps:List (Nat×Nat×X)} {g:Option (Nat×Bool)} {zs:List Value} {ks:List (Option (Nat×Nat))} (ho:o.op=.buildSlice t n parts) (ht:P.underlying t=some (.slice e)) (hsz:qa P e=some size) (hs:0<size) (hz:vp P e=some zs)
 (hidx:parts.toList.map (·.1)=List.range n) (hsm:n*size<1000) (hps:jcG (fun i=>some (i*size,size)) parts.toList=some ps) (hd:∀k,o.dst=some k→k<N) (hr:vd P β ⟨o.dst,g,.bsl e size n ks ps⟩ s K):
 OpOk P o a w (fun a' w'=>∃s' F',RelF B w0 N s' a' w' F'∧K s'):=by
 obtain ⟨l,h1,h2⟩:=hr;have hpl:parts.toList.length=n:=by have:=congrArg List.length hidx;simpa using this
 obtain ⟨inf,hinf,hsize⟩:=ji0 hsz
 have hzz:∃z,inf.zero=some z:=by
  unfold vp at hz;rw [hinf] at hz;simp only at hz;split at hz
  ·exact ⟨_,by assumption⟩
  ·simp at hz
 obtain ⟨z,hzz⟩:=hzz
 have hfill:∀us:List Value,us.length=n*size→∃xs:List Value,A0RelL B w l xs∧xs.length=n*size∧Instr.fill (fun i=>some (i*size,size)) us.toArray (parts.toList.map fun p=>(p.1,a.eval p.2))=some xs.toArray:=fun us hus=>by
  obtain ⟨xs,k1,k2,k3⟩:=jq9 h (k:=0) (us:=us) hps h1 (by rw [hidx,hpl,List.range_eq_range']) (by rw [hus,hpl,Nat.zero_add])
  rw [hpl] at k2;refine ⟨xs,k1,k2,?_⟩;rw [k3];simp
 obtain ⟨xs,h3,h4,hrun⟩:∃xs:List Value,A0RelL B w l xs∧xs.length=n*size∧(execOp a.eval o).run P w=.ok (.value (.slice (some ⟨w.heap.size,0,none⟩) n n)) (w.alloc (.cells xs.toArray e)):=by
  have hno:¬(16777216<n*size):=by omega
  have hmapl:(parts.map fun (p:Nat×Operand)=>(p.1,a.eval p.2)).toList=parts.toList.map fun p=>(p.1,a.eval p.2):=by simp
  have hf:∀f:Nat→Value,∃xs:List Value,A0RelL B w l xs∧xs.length=n*size∧Instr.fill (fun i=>some (i*size,size)) ((Array.range (n*size)).map f) (parts.toList.map fun p=>(p.1,a.eval p.2))=some xs.toArray:=fun f=>by
   obtain ⟨xs,k1,k2,k3⟩:=hfill ((Array.range (n*size)).map f).toList (by simp)
   rw [Array.toArray_toList] at k3;exact ⟨xs,k1,k2,k3⟩
  by_cases h0:n*size=0
  ·obtain ⟨xs,k1,k2,k3⟩:=hf fun i=>(#[]:Array Value)[i%0]!
   refine ⟨xs,k1,k2,?_⟩;rw [h0] at k3
   have hnn:n=0:=by
    rcases Nat.mul_eq_zero.1 h0 with h|h
    ·exact h
    ·omega
   subst hnn;have hp0:parts.toList=[]:=List.eq_nil_of_length_eq_zero hpl;have hp1:parts=#[]:=by rw [←Array.toArray_toList (xs:=parts),hp0]
   have hx0:xs=[]:=List.eq_nil_of_length_eq_zero (by rw [k2,Nat.zero_mul])
   subst hx0;simp [execOp,ho,Instr.buildSlice,run_underlying ht,sizeOf,typeInfo,hinf,hsize,hp1,Instr.fill,newRow,Array.range_zero']
  ·obtain ⟨xs,k1,k2,k3⟩:=hf fun i=>z.cells[i%z.cells.size]!
   refine ⟨xs,k1,k2,?_⟩;have hno2:¬(n*size>2^24):=by omega
   simp only [execOp,ho,Sem.run_bind,Instr.buildSlice,run_underlying ht,Result.andThen_ok,sizeOf,typeInfo,hinf,hsize,Sem.run_pure,if_neg hno2,if_neg h0,zeroValue,hzz,hmapl,k3];simp [hinf,hsize,hno2,h0,hzz,hmapl,k3,newRow]
 obtain ⟨cs,s',S,F',⟨ds,kd,kk⟩,k2,k3,k4,k5,k6,k7,_⟩:=jbw h h3 h2;have hb:Below w.heap.size w (w.alloc (.cells xs.toArray e)):=(Below.refl _ _).alloc (Nat.le_refl _) _;have hB:B≤w.heap.size:=Nat.le_trans h.hB h.below.size;have hSlt:∀b∈S,b<w.heap.size:=fun b hb'=>k2.lt b hb'
 have hrl:=jfz k2 kd;have hrl':RepL (w.alloc (.cells xs.toArray e)) true ds xs S:=RepL.keep _ hrl fun b hb'=>hb.block b (hSlt b hb')
 have hown:Rep (w.alloc (.cells xs.toArray e)) true (.sl size e ds) (.slice (some ⟨w.heap.size,0,none⟩) n n) (w.heap.size::S):=
  ⟨xs,[w.heap.size],S,⟨n,World.ownsRow_lit w xs.toArray n (Nat.zero_le _) (by unfold maxLen;have:n≤n*size:=Nat.le_mul_of_pos_right _ hs;omega) (by simpa using h4),rfl⟩,hrl',rfl⟩
 have hF'lt:∀g,∀b∈F' g,b<w.heap.size:=fun g b hb'=>(k3.ob g).lt b hb'
 have hob:ORel B (w.alloc (.cells xs.toArray e)) (.loose (.sl size e ds) (fun p=>hdr (w.alloc (.cells xs.toArray e)) p (.sl size e ds) (.slice (some ⟨w.heap.size,0,none⟩) n n))) (w.heap.size::S):=⟨rfl,_,hown,fun _=>rfl⟩
 have h5:=(k3.world hb).setO (g:=100*(β+o.dst.getD 0)) hob ⟨List.nodup_cons.2 ⟨fun hh=>by have:=hSlt _ hh;omega,k4.1⟩,fun b hb'=>by rcases List.mem_cons.1 hb' with rfl|hb';exact hB;exact k4.2 b hb'⟩ (fun g' _ b hb'=>by
  rcases List.mem_cons.1 hb' with rfl|hb'
  ·exact fun hh=>by have:=hF'lt g' _ hh;omega
  ·exact k5 g' b hb')
 have hv:VRel B (w.alloc (.cells xs.toArray e)) (.c (.h (100*(β+o.dst.getD 0)) 0 [] (.slice (some ⟨w.heap.size,0,none⟩) n n))) (.slice (some ⟨w.heap.size,0,none⟩) n n):=⟨rfl,rfl⟩;exact OpOk.of_run hrun ⟨_,_,h5.put hv hd,kk _⟩
theorem jq1 (h:RelF B w0 N s a w F) {e size:Nat} {x:AV} {u:Value} {K:List D→St→Prop} (hv:VRel B w x u) (hk:jiq s e size x K):
 ∃xs s' S F',K xs s'∧Rep w true (.sl size e xs) u S∧RelF B w0 N s' a w F'∧Fresh B S∧(∀g,∀b∈S,b∉F' g)∧(∀g b,b∈F' g→b∈F g)∧∀b∈S,∃g,b∈F g:=by
 unfold jiq at hk;split at hk
 ·have hu:u=.slice none 0 0:=hv
  subst hu;exact ⟨[],s,[],F,hk,Rep.nil_ w size e,h,Fresh.nil _,by simp,fun _ _ h=>h,by simp⟩
 ·rename_i g c p x'
  rcases hk with ⟨rfl,cs,η,ho,hx,hk⟩|⟨k,rfl,sz,tyo,ds0,cs,η,ho,hd,hx,hk⟩
  ·obtain ⟨u',S1,F1,j1,j2,j3,j4,j5,j6,j7,j8⟩:=h.rm ho
   have hu:u=u':=by rw [hv.1,←hx,j3,zS j1]
   subst hu;exact ⟨cs,_,S1,F1,hk,j2,j5,j4,j6,j8,fun b hb=>⟨g,j7 b hb⟩⟩
  ·obtain ⟨v,Sk,a1,a2,_,a4,a5,a6⟩:=jmx (h.ob g) ho hd
   have hu:u=v:=by rw [hv.1,←hx,a2 rfl]
   subst hu;obtain ⟨η',S',b1,b2,R,b3,b4⟩:=a6 (.val u) [] ⟨rfl,rfl⟩;rw [List.append_nil] at b4;have hnd:=b3.nodup_iff.1 (h.fr g).1;have hsub:∀b∈S',b∈F g:=fun b hb=>b3.mem_iff.2 (List.mem_append.2 (.inl (b4.mem_iff.1 hb)))
   have t1:=h.setO (g:=g) b1 ⟨b4.nodup_iff.2 (List.nodup_append.1 hnd).1,fun b hb=>(h.fr g).2 b (hsub b hb)⟩ (fun g' hg' b hb hh=>h.dj g' g hg' b hh (hsub b hb))
   have hxu:x'=u:=by rw [←hx,a2 rfl]
   refine ⟨cs,_,Sk,_,hk η' b2,a1,by rw [hxu];exact t1,⟨(List.nodup_append.1 hnd).2.1,fun b hb=>(h.fr g).2 b (a4 b hb)⟩,fun g' b hb hh=>?_,fun g' b hb=>?_,fun b hb=>⟨g,a4 b hb⟩⟩
   ·split at hh
    ·exact (List.nodup_append.1 hnd).2.2 b (b4.mem_iff.1 hh) b hb rfl
    ·rename_i hgg
     exact h.dj g' g hgg b hh (a4 b hb)
   ·split at hb
    ·rename_i e;rw [e];exact hsub b hb
    ·exact hb
 ·exact hk.elim
theorem jqT:∀{ds:List D} {us:List Value} {S:List Nat} {own:Bool},kb ds=true→RepL w own ds us S→(∀u∈us,u.oneCell'=true)∧∀(w':World) (own':Bool),RepL w' own' ds us []
 |[],us,S,own,_,h=>by obtain ⟨rfl,_⟩:=h;exact ⟨by simp,fun _ _=>⟨rfl,rfl⟩⟩
 |.val u::ds,us,S,own,hf,h=>by
  obtain ⟨v,vs',S1,S2,rfl,rfl,h3,h4⟩:=h;simp only [kb,Bool.and_eq_true] at hf;obtain ⟨h5,h6⟩:=jqT hf.2 h4;obtain ⟨rfl,rfl⟩:=h3;refine ⟨fun u hu=>?_,fun w' own'=>RepL.val_ (h6 w' own')⟩
  rcases List.mem_cons.1 hu with rfl|hu
  ·exact hf.1
  ·exact h5 u hu
 |.sl _ _ _::_,_,_,_,hf,_=>by simp [kb] at hf
theorem jtM {own:Bool}:∀{ds:List D} {us:List Value} {S:List Nat},RepL w own ds us S→(∀d∈ds,∀u,d=.val u→u.oneCell'=true)→∀u∈us,u.oneCell'=true
 |[],us,S,h,_=>by obtain ⟨rfl,_⟩:=h;simp
 |d::ds,us,S,h,hd=>by
  obtain ⟨v,vs',S1,S2,rfl,rfl,h3,h4⟩:=h;intro u hu;rcases List.mem_cons.1 hu with rfl|hu
  ·cases d with
   |val x=>obtain ⟨rfl,_⟩:=h3;exact hd _ (by simp) _ rfl
   |sl _ _ _=>obtain ⟨_,_,_,rfl⟩:=vV h3;rfl
  ·exact jtM h4 (fun d' hd'=>hd d' (by simp [hd'])) u hu
theorem jlr {t e:TypeId} {i:TypeInfo} {zs:List Value} (ht:P.underlying t=some (.slice e)) (hi:P.info? e=some i) (hz:vp P e=some zs) (hs:0<i.size) {ty:TypeId} {xs ys:List D} {v:Value} {S Sy:List Nat}
 (hrep:Rep w true (.sl i.size e xs) v S) {A:Option Addr} {m c:Nat} {news:List Value} (hy:RepL w true ys news Sy) (hm:news.length=m*i.size) (hA:A=none→m=0∧c=0) (hnews:∀ad,A=some ad→∀j u,news[j]?=some u→w.cell? (ad.add j)=some u)
 (h1:∀u∈news,u.oneCell'=true) (hF:Fresh B (S++Sy)) (hB:B≤w.heap.size) (h63:xs.length/i.size+ys.length/i.size≤maxLen) (hbytes:(xs.length/i.size+ys.length/i.size)*i.bytes≤140737488355328):
 ∃v' w' S',(Builtin.append_ #[t,t] ty #[v,.slice A m c]).run P w=.ok v' w'∧Rep w' true (.sl i.size e (xs++ys)) v' S'∧Fresh B S'∧Only S w w'∧∀s∈S',s∈S∨s∈Sy∨w.heap.size≤s:=by
 obtain ⟨vs,T,S1,⟨n,hown,rfl⟩,hrl,rfl⟩:=hrep;have hvl:=RepL.length _ hrl;have hyl:=RepL.length _ hy;have hxn:xs.length/i.size=n:=by rw [←hvl,hown.1];exact Nat.mul_div_cancel _ hs
 have hyn:ys.length/i.size=m:=by rw [←hyl,hm];exact Nat.mul_div_cancel _ hs
 rw [hxn,hyn] at h63 hbytes;unfold vp at hz;rw [hi] at hz;simp only at hz;split at hz
 ·rename_i z hzz
  split at hz
  ·rename_i hcc
   simp only [Bool.and_eq_true,decide_eq_true_eq] at hcc;cases A with
   |none=>
    obtain ⟨rfl,rfl⟩:=hA rfl;have hn0:news=[]:=List.eq_nil_of_length_eq_zero (by rw [hm,Nat.zero_mul])
    subst hn0;have hy0:ys=[]:=List.eq_nil_of_length_eq_zero (by rw [←hyl];rfl)
    subst hy0;exact ⟨v,w,blk v++S1,run_append_owned_none (P:=P) w 0 t ty e i i.size ht hi v n vs hown,by rw [List.append_nil];exact ⟨vs,blk v,S1,⟨n,hown,rfl⟩,hrl,rfl⟩,hF.left,Only.refl _ _,fun s hs=>.inl hs⟩
   |some ad=>
    have hnews':=hnews ad rfl;obtain ⟨v',w',hr,h2,h3,_⟩:=run_append_own (P:=P) w 0 t ty e i z i.size i.bytes ht hi hzz rfl rfl hcc.1 hs v n vs hown ad m c news hm hnews' h1 h63 hbytes (Nat.zero_le _);have honly:Only (blk v++S1) w w':=Only.of_grown h3 (fun b hb=>by simp [hb])
    have honly1:Only (blk v) w w':=Only.of_grown h3 (fun b hb=>hb)
    have hF1:∀s∈S1++Sy,s∉blk v:=fun s hs hb=>by
     have:=hF.1;rw [List.append_assoc] at this;exact (List.nodup_append.1 this).2.2 s hb s hs rfl
    have hnew:∀b∈blk v',b∈blk v∨b=w.heap.size:=jls ht hi hzz hown hm hnews' h1 h63 hbytes hr
    have hrep':Rep w' true (.sl i.size e (xs++ys)) v' (blk v'++(S1++Sy)):=
     ⟨vs++news,blk v',S1++Sy,⟨n+m,h2,rfl⟩,RepL.append_ _ (hrl.only honly1 fun s hs=>hF1 s (by simp [hs])) (hy.only honly1 fun s hs=>hF1 s (by simp [hs])),rfl⟩
    have hlt:∀s∈S1++Sy,s<w.heap.size:=fun s hs=>by
     rcases List.mem_append.1 hs with hs|hs
     ·exact RepL.lt _ hrl s hs
     ·exact RepL.lt _ hy s hs
    refine ⟨v',w',_,hr,hrep',?_,honly,fun s hs=>?_⟩
    ·rw [List.append_assoc] at hF
     refine ⟨List.nodup_append.2 ⟨?_,(List.nodup_append.1 hF.1).2.1,fun a ha b hb e=>?_⟩,fun b hb=>?_⟩
     ·rcases h2.2 with ⟨rfl,_⟩|⟨g,cap,cur,rfl,_⟩<;>simp [blk]
     ·subst e
      rcases hnew a ha with h4|h4
      ·exact hF1 a hb h4
      ·have:=hlt a hb;omega
     ·rcases List.mem_append.1 hb with hb|hb
      ·rcases hnew b hb with h4|h4
       ·exact hF.2 b (by simp [h4])
       ·omega
      ·exact hF.2 b (by rw [List.mem_append];exact .inr hb)
    ·rcases List.mem_append.1 hs with hs|hs
     ·rcases hnew s hs with h4|h4
      ·exact .inl (by simp [h4])
      ·right;right;omega
     ·rcases List.mem_append.1 hs with hs|hs
      ·exact .inl (by simp [hs])
      ·exact .inr (.inl hs)
  ·simp at hz
 ·simp at hz
theorem jyk (h:RelF B w0 N s a w F) {size:Nat} (hs:0<size) {x:AV} {u:Value} {K:List D→St→Prop} (hv:VRel B w x u) (hk:jvx s size x K):
 ∃ys s' Sy F' A m c news,K ys s'∧u=.slice A m c∧RepL w true ys news Sy∧news.length=m*size∧(A=none→m=0∧c=0)∧(∀b o,A=some ⟨b,o,none⟩→∀j u,news[j]?=some u→w.cell? ⟨b,o+j,none⟩=some u)∧(∀ad,A=some ad→ad.spot=none∨news=[])∧(∀u∈news,u.oneCell'=true)∧
  RelF B w0 N s' a w F'∧Fresh B Sy∧(∀g,∀b∈Sy,b∉F' g)∧(∀g b,b∈F' g→b∈F g)∧∀b∈Sy,∃g,b∈F g:=by
 have flat:∀(dd:D) (S:List Nat),dd.isSl=true→dd.size=size→kb dd.cells=true→Rep w false dd u S→K dd.cells s→
  ∃ys s' Sy F' A m c news,K ys s'∧u=.slice A m c∧RepL w true ys news Sy∧news.length=m*size∧(A=none→m=0∧c=0)∧(∀b o,A=some ⟨b,o,none⟩→∀j u,news[j]?=some u→w.cell? ⟨b,o+j,none⟩=some u)∧(∀ad,A=some ad→ad.spot=none∨news=[])∧(∀u∈news,u.oneCell'=true)∧
  RelF B w0 N s' a w F'∧Fresh B Sy∧(∀g,∀b∈Sy,b∉F' g)∧(∀g b,b∈F' g→b∈F g)∧∀b∈Sy,∃g,b∈F g:=by
  intro dd S k1 k2 k3 k4 k5;cases dd with
  |val _=>cases k1
  |sl size' ty cs=>
   have k2':size'=size:=k2;subst k2';obtain ⟨A,n,c,vs,S',rfl,j1,j2,_,j4,j5,j6,j7⟩:=zz k4;obtain ⟨j8,j9⟩:=jqT k3 j2;have hvl:=RepL.length _ j2;refine ⟨cs,s,[],F,A,n,c,vs,k5,rfl,j9 w true,by rw [hvl,j1],fun hA=>?_,fun b o' hA j u hu=>?_,fun ad hA=>?_,j8,h,Fresh.nil _,by simp,fun _ _ h=>h,by simp⟩
   ·have:=j6 hA;omega
   ·obtain ⟨b',o'',hA',_,j10⟩:=j7 (fun e=>by subst e;simp at hu)
    rw [hA'] at hA;cases hA;exact j10 j u hu
   ·by_cases hne:vs=[]
    ·exact .inr hne
    ·obtain ⟨b',o'',hA',_⟩:=j7 hne
     rw [hA'] at hA;cases hA;exact .inl rfl
 unfold jvx at hk;split at hk
 ·have hu:u=.slice none 0 0:=hv
  subst hu;exact ⟨[],s,[],F,none,0,0,[],hk,rfl,⟨rfl,rfl⟩,by simp,fun _=>⟨rfl,rfl⟩,by simp,by simp,by simp,h,Fresh.nil _,by simp,fun _ _ h=>h,by simp⟩
 ·rename_i dd
  obtain ⟨k1,k2,k3,k4⟩:=hk;obtain ⟨_,S,k5,_⟩:=hv;exact flat dd S k1 k2 k3 k5 k4
 ·rename_i g c p x' sz lo m
  obtain ⟨dd,k1,k2,k3,k4⟩:=hk;have hv':A0Rel B w (.hs g c p x' sz lo m) u:=hv;obtain ⟨S,k5⟩:=jjs h hv' k1;obtain ⟨_,_,d1,_,_,_,k6,_,_,_,rfl⟩:=k1;exact flat _ S (by cases d1 with|val _=>cases k6|sl _ _ _=>rfl) k2 k3 k5 k4
 ·rename_i g c p x'
  obtain ⟨dd,k1,k2,k3⟩:=hk;have hv':A0Rel B w (.h g c p x') u:=hv;obtain ⟨S,k4⟩:=jjs h hv' k1;split at k3
  ·rename_i k5
   obtain ⟨_,_,_,_,_,k7⟩:=k1;exact flat dd S k7 k2 k5 k4 k3
  ·obtain ⟨rfl,k5,k6⟩:=k3
   obtain ⟨d0,η,k7,k8,k9,k10⟩:=k1;simp [D.get] at k9;subst k9;obtain ⟨u',S1,F1,j1,j2,j3,j4,j5,j6,j7,j8⟩:=h.rm k7;have hu:u=u':=by rw [hv'.1,←k8,j3,zS j1]
   subst hu;cases d0 with
   |val _=>cases j1
   |sl size' ty cs=>
    have k2':size'=size:=k2;subst k2';obtain ⟨vs,T,S2,m1,m2,rfl⟩:=j2;have hvl:=RepL.length _ m2
    have hone:∀u∈vs,u.oneCell'=true:=jtM m2 (by
     have key:∀l:List D,jjm l=true→∀d∈l,∀u,d=.val u→u.oneCell'=true:=by
      intro l
      induction l with
      |nil=>intro _ d hd;simp at hd
      |cons x l ih=>
       intro hl d hd u hu;cases x with
       |val v=>
        simp only [jjm,Bool.and_eq_true] at hl;rcases List.mem_cons.1 hd with rfl|hd
        ·cases hu;exact hl.1
        ·exact ih hl.2 d hd u hu
       |sl _ _ _=>
        rcases List.mem_cons.1 hd with rfl|hd
        ·cases hu
        ·exact ih hl d hd u hu
     exact key cs k5)
    have hsub:∀b∈S2,b∈T++S2:=fun b hb=>by simp [hb]
    rcases qy m1 with ⟨rfl,rfl⟩|⟨gg,nn,cc,rfl,rfl,m3,m4,_⟩
    ·refine ⟨cs,_,S2,F1,none,0,0,[],k6,rfl,m2,by simp,fun _=>⟨rfl,rfl⟩,by simp,by simp,by simp,j5,j4.right,fun g' b hb=>j6 g' b (hsub b hb),j8,fun b hb=>⟨g,j7 b (hsub b hb)⟩⟩
    ·refine ⟨cs,_,S2,F1,_,nn,cc,vs,k6,rfl,m2,m3,fun hA=>(by cases hA),fun b o' hA j u hu=>?_,fun ad hA=>?_,hone,j5,j4.right,fun g' b hb=>j6 g' b (hsub b hb),j8,fun b hb=>⟨g,j7 b (hsub b hb)⟩⟩
     ·cases hA
      rw [Nat.zero_add];exact m4 j u hu
     ·cases hA
      exact .inl rfl
 ·exact hk.elim
theorem jA8 (h:RelF B w0 N s a w F) {c:Call} {t e:TypeId} {i:TypeInfo} {zs:List Value} {x y:Operand} {x' y':X} {g:Option (Nat×Bool)} (ho:o.op=.call c) (hc:c.callee=.builtin .append) (ha:c.args.toList=[x,y]) (hta:c.argTypes.toList=[t,t]) (ht:P.underlying t=some (.slice e)) (hi:P.info? e=some i) (hz:vp P e=some zs) (hs:0<i.size)
 (hx:jP x=some x') (hy:jP y=some y') (hd:∀k,o.dst=some k→k<N) (hr:vd P β ⟨o.dst,g,.app e i.size i.bytes x' y'⟩ s K):OpOk P o a w (fun a' w'=>∃s' F',RelF B w0 N s' a' w' F'∧K s'):=by
 have hr':jvx s i.size (s.ev y') fun ys s1=>jiq s1 e i.size (s.ev x') fun xs s2=>xs.length/i.size+ys.length/i.size≤maxLen∧(xs.length/i.size+ys.length/i.size)*i.bytes≤140737488355328∧
  ∀η,K ((s2.addO [(100*(β+o.dst.getD 0),.loose (.sl i.size e (xs++ys)) η)]).put o.dst (.c (.h (100*(β+o.dst.getD 0)) 0 [] (η [])))):=hr
 obtain ⟨ys,s1,Sy,F1,A,m,cc,news,hr2,e1,r1,r2,r3,r4,r5,r6,h1,r7,r8,r9,r10⟩:=jyk h hs (qE h hy) hr';obtain ⟨xs,s2,S,F2,⟨q1,q2,q3⟩,q4,h2,q5,q6,q7,q8⟩:=jq1 h1 (qE h hx) hr2;have hargs:c.args=#[x,y]:=by rw [←Array.toArray_toList (xs:=c.args),ha]
 have hats:c.argTypes=#[t,t]:=by rw [←Array.toArray_toList (xs:=c.argTypes),hta]
 have hB:B≤w.heap.size:=Nat.le_trans h.hB h.below.size
 have hdis:∀b∈S,b∉Sy:=fun b hb hb'=>by
  obtain ⟨g',hg'⟩:=q8 b hb;exact r8 g' b hb' hg'
 have hF:Fresh B (S++Sy):=⟨List.nodup_append.2 ⟨q5.1,r7.1,fun p hp q hq e=>hdis p hp (e▸hq)⟩,fun b hb=>by rcases List.mem_append.1 hb with hb|hb;exact q5.2 b hb;exact r7.2 b hb⟩
 obtain ⟨v',w',S',hrun,hrep,hFr,honly,hS'⟩:=jlr (B:=B) (ty:=o.type) ht hi hz hs q4 r1 r2 r3 (fun ad hA j u hu=>by
  rcases r5 ad hA with h5|h5
  ·obtain ⟨b,o',sp⟩:=ad
   simp only at h5;subst h5;rw [zP];exact r4 b o' hA j u hu
  ·subst h5;simp at hu) r6 hF hB q1 q2
 have hrun2:(execOp a.eval o).run P w=.ok (.value v') w':=by
  simp [execOp,ho,resolve,hc,hargs,hats,e1,invoke,builtin,hrun]
 have hb:Below B w w':=honly.below (fun b hb=>q5.2 b hb) hB
 have h3:=h2.world' hb fun g b hb'=>honly.block b ((h2.ob g).lt b hb') fun hh=>q6 g b hh hb'
 have hob:ORel B w' (.loose (.sl i.size e (xs++ys)) (fun p=>hdr w' p (.sl i.size e (xs++ys)) v')) S':=⟨rfl,v',hrep,fun _=>rfl⟩
 have h4:=h3.setO (g:=100*(β+o.dst.getD 0)) hob hFr (fun g' _ b hb'=>by
  rcases hS' b hb' with h5|h5|h5
  ·exact q6 g' b h5
  ·exact fun hh=>r8 g' b h5 (q7 g' b hh)
  ·exact fun hh=>by have:=(h2.ob g').lt b hh;omega)
 have hv:VRel B w' (.c (.h (100*(β+o.dst.getD 0)) 0 [] v')) v':=⟨rfl,by obtain ⟨_,_,_,rfl⟩:=vV hrep;rfl⟩
 exact OpOk.of_run hrun2 ⟨_,_,h4.put hv hd,q3 _⟩
theorem jkC {t u e:TypeId} {i:TypeInfo} (ht:P.underlying t=some (.slice e)) (hu:P.underlying u=some .string) (hi:P.info? e=some i) (hz:i.zero=some (.int .u8 0)) (hs:i.size=1) (hby:i.bytes=1) {ty:TypeId} {xs:List D} {v:Value} {S:List Nat}
 (hrep:Rep w true (.sl 1 e xs) v S) (b:ByteArray) (hF:Fresh B S) (hB:B≤w.heap.size) (hlen:xs.length+b.size≤140737488355328):
 ∃v' w' S',(Builtin.append_ #[t,u] ty #[v,.string b]).run P w=.ok v' w'∧Rep w' true (.sl 1 e (xs++strCells b)) v' S'∧Fresh B S'∧Only S w w'∧∀s∈S',s∈S∨w.heap.size≤s:=by
 obtain ⟨vs,T,S1,⟨n,hown,rfl⟩,hrl,rfl⟩:=hrep;have hvl:=RepL.length _ hrl;have hvn:vs.length=n:=by simpa using hown.1
 have h63:n+b.size≤maxLen:=by unfold maxLen;omega
 obtain ⟨v',w',hr,h2,h3,_⟩:=Go.Lib.run_append_own_string (P:=P) w 0 t u ty e i ht hu hi hz hs hby v n vs hown b h63 (by omega) (Nat.zero_le _)
 have honly:Only (blk v++S1) w w':=Only.of_grown h3 (fun b hb=>by simp [hb])
 have honly1:Only (blk v) w w':=Only.of_grown h3 (fun b hb=>hb)
 have hF1:∀s∈S1,s∉blk v:=fun s hs hb=>(List.nodup_append.1 hF.1).2.2 s hb s hs rfl
 have hnew:∀b∈blk v',b∈blk v∨b=w.heap.size:=by
  intro g hg;by_cases hb0:b.size=0
  ·rcases hown.2 with ⟨rfl,rfl⟩|⟨g',cap,cur,rfl,_,hg',hnc,hcm,hcs,htake⟩
   ·
    have hbe:b=ByteArray.empty:=by
     cases b with
     |mk d=>simp [ByteArray.size] at hb0;subst hb0;rfl
    have:(Builtin.append_ #[t,u] ty #[.slice none 0 0,.string b]).run P w=.ok (.slice none 0 0) w:=by
     simp [Builtin.append_,run_underlying ht,run_underlying hu,sizeOf,typeInfo,hi,Builtin.lenOf,hb0,Builtin.firstCells]
    rw [this] at hr;injection hr with e1 _;subst e1;simp [blk] at hg
   ·rw [Go.Lib.run_append_room_string (P:=P) w t u ty e i ht hu hi hs g' n cap cur hg' b (by omega) (by omega)] at hr
    injection hr with e1 _;subst e1;exact .inl (by simpa [blk] using hg)
  ·rcases hown.2 with ⟨rfl,rfl⟩|⟨g',cap,cur,rfl,_,hg',hnc,hcm,hcs,htake⟩
   ·rw [run_append_nil_string (P:=P) w t u ty e i _ ht hu hi hz b (by omega) (by omega) (by rw [hby];omega)] at hr
    injection hr with e1 _;subst e1;exact .inr (by simpa [blk] using hg)
   ·by_cases hroom:n+b.size≤cap
    ·rw [Go.Lib.run_append_room_string (P:=P) w t u ty e i ht hu hi hs g' n cap cur hg' b hroom (by omega)] at hr
     injection hr with e1 _;subst e1;exact .inl (by simpa [blk] using hg)
    ·rw [Go.Lib.run_append_grow_string (P:=P) w t u ty e i _ ht hu hi hz ⟨g',0,none⟩ n cap vs (by rw [hs];exact hown.1) (hown.cells (g:=g') rfl) b (by omega) (by omega) (growslice_fits (by omega) (by rw [hby];omega))] at hr
     injection hr with e1 _;subst e1;exact .inr (by simpa [blk] using hg)
 have hyl:RepL w' true (strCells b) (Go.Lib.strCells b) []:=by
  have key:∀l:List UInt8,RepL w' true (l.map qX) (l.map fun b=>Value.int .u8 b.toNat) []:=by
   intro l
   induction l with
   |nil=>exact ⟨rfl,rfl⟩
   |cons x l ih=>exact ⟨_,_,[],[],rfl,rfl,⟨rfl,rfl⟩,ih⟩
  exact key _
 have hapl:=RepL.append_ _ (hrl.only honly1 fun s hs=>hF1 s hs) hyl
 rw [List.append_nil] at hapl;have hrep':Rep w' true (.sl 1 e (xs++strCells b)) v' (blk v'++S1):=⟨vs++Go.Lib.strCells b,blk v',S1,⟨n+b.size,h2,rfl⟩,hapl,rfl⟩;have hlt:∀s∈S1,s<w.heap.size:=fun s hs=>RepL.lt _ hrl s hs
 refine ⟨v',w',_,hr,hrep',⟨List.nodup_append.2 ⟨?_,(List.nodup_append.1 hF.1).2.1,fun p hp q hq e=>?_⟩,fun p hp=>?_⟩,honly,fun s hs=>?_⟩
 ·rcases h2.2 with ⟨rfl,_⟩|⟨g,cap,cur,rfl,_⟩<;>simp [blk]
 ·subst e
  rcases hnew p hp with h4|h4
  ·exact hF1 p hq h4
  ·have:=hlt p hq;omega
 ·rcases List.mem_append.1 hp with hp|hp
  ·rcases hnew p hp with h4|h4
   ·exact hF.2 p (by simp [h4])
   ·omega
  ·exact hF.2 p (by simp [hp])
 ·rcases List.mem_append.1 hs with hs|hs
  ·rcases hnew s hs with h4|h4
   ·exact .inl (by simp [h4])
   ·exact .inr (by omega)
  ·exact .inl (by simp [hs])
theorem jyW (h:RelF B w0 N s a w F) {c:Call} {t u e:TypeId} {i:TypeInfo} {x y:Operand} {x' y':X} {g:Option (Nat×Bool)} (ho:o.op=.call c) (hc:c.callee=.builtin .append) (ha:c.args.toList=[x,y]) (hta:c.argTypes.toList=[t,u]) (ht:P.underlying t=some (.slice e)) (hu:P.underlying u=some .string) (hi:P.info? e=some i) (hzz:i.zero=some (.int .u8 0)) (hs:i.size=1) (hby:i.bytes=1)
 (hx:jP x=some x') (hy:jP y=some y') (hd:∀k,o.dst=some k→k<N) (hr:vd P β ⟨o.dst,g,.apps e x' y'⟩ s K):OpOk P o a w (fun a' w'=>∃s' F',RelF B w0 N s' a' w' F'∧K s'):=by
 obtain ⟨b,k1,k2⟩:=hr;obtain ⟨xs,s2,S,F2,⟨q1,q3⟩,q4,h2,q5,q6,q7,q8⟩:=jq1 h (qE h hx) k2;have hargs:c.args=#[x,y]:=by rw [←Array.toArray_toList (xs:=c.args),ha]
 have hats:c.argTypes=#[t,u]:=by rw [←Array.toArray_toList (xs:=c.argTypes),hta]
 have hB:B≤w.heap.size:=Nat.le_trans h.hB h.below.size;obtain ⟨v',w',S',hrun,hrep,hFr,honly,hS'⟩:=jkC (B:=B) (ty:=o.type) ht hu hi hzz hs hby q4 b q5 hB q1
 have hrun2:(execOp a.eval o).run P w=.ok (.value v') w':=by
  simp [execOp,ho,resolve,hc,hargs,hats,jhT h hy k1,invoke,builtin,hrun]
 have hb:Below B w w':=honly.below (fun b hb=>q5.2 b hb) hB
 have h3:=h2.world' hb fun g b hb'=>honly.block b ((h2.ob g).lt b hb') fun hh=>q6 g b hh hb'
 have hob:ORel B w' (.loose (.sl 1 e (xs++strCells b)) (fun p=>hdr w' p (.sl 1 e (xs++strCells b)) v')) S':=⟨rfl,v',hrep,fun _=>rfl⟩
 have h4:=h3.setO (g:=100*(β+o.dst.getD 0)) hob hFr (fun g' _ b hb'=>by
  rcases hS' b hb' with h5|h5
  ·exact q6 g' b h5
  ·exact fun hh=>by have:=(h2.ob g').lt b hh;omega)
 have hv:VRel B w' (.c (.h (100*(β+o.dst.getD 0)) 0 [] v')) v':=⟨rfl,by obtain ⟨_,_,_,rfl⟩:=vV hrep;rfl⟩
 exact OpOk.of_run hrun2 ⟨_,_,h4.put hv hd,q3 _⟩
theorem jrn {z:Array Value} (hz:0<z.size) (n:Nat):(Builtin.zeroCells z n).toList=(List.replicate n z.toList).flatten:=by
 apply List.ext_getElem?
 intro j;by_cases hj:j<n*z.size
 ·rw [zy (by simp) hz n j hj]
  simp [Builtin.zeroCells,hj];rw [Array.getElem?_eq_getElem (Nat.mod_lt _ hz)];simp only [Option.some.injEq];exact getElem!_pos _ _ _
 ·rw [List.getElem?_eq_none (by simp [Builtin.zeroCells];omega),List.getElem?_eq_none (by simp;omega)]
theorem jql {zs:List D} {us:List Value} (h:RepL w true zs us []):∀(n:Nat),RepL w true (List.replicate n zs).flatten (List.replicate n us).flatten []
 |0=>⟨rfl,rfl⟩
 |n+1=>by
  simp only [List.replicate_succ,List.flatten_cons];have:=RepL.append_ zs h (jql h n);simpa using this
theorem jwd {α:Type} {l:List α} (n:Nat):(List.replicate n l).flatten.length=n*l.length:=by simp
theorem jA5 (h:RelF B w0 N s a w F) {cl:Call} {t e:TypeId} {i:TypeInfo} {zs:List Value} {x:Operand} {x':X} {ks:List (Option (Nat×Nat))} {g:Option (Nat×Bool)} (ho:o.op=.call cl) (hc:cl.callee=.builtin .clear) (ha:cl.args.toList=[x]) (hta:cl.argTypes.toList=[t]) (ht:P.underlying t=some (.slice e)) (hi:P.info? e=some i) (hz:vp P e=some zs) (hs:0<i.size)
 (hx:jP x=some x') (hr:vd P β ⟨o.dst,g,.clr i.size (jr9 ks zs) x'⟩ s K):OpOk P o a w (fun a' w'=>∃s' F',RelF B w0 N s' a' w' F'∧K s'):=by
 obtain ⟨hdst,hr⟩:=hr;simp only at hdst;have hargs:cl.args=#[x]:=by rw [←Array.toArray_toList (xs:=cl.args),ha]
 have hats:cl.argTypes=#[t]:=by rw [←Array.toArray_toList (xs:=cl.argTypes),hta]
 have hpu:∀v,a.put o.dst v=a:=fun v=>by rw [hdst];rfl
 have hpv:=qE h hx;split at hr
 ·rename_i he
  have hp:a.eval x=.slice none 0 0:=by rw [he] at hpv;exact hpv
  have hrun:(execOp a.eval o).run P w=.ok (.value (.tuple #[])) w:=by
   simp [execOp,ho,resolve,hc,hargs,hats,hp,invoke,builtin,Builtin.clear_,run_underlying ht]
  exact OpOk.of_run hrun (by rw [hpu];exact ⟨s,F,h,hr⟩)
 ·rename_i k c p hx0 sz lo n he
  obtain ⟨rfl,hn,d0,η,dd,j1,j2,j3,j4,j5,j6,hk⟩:=hr;rw [he] at hpv;obtain ⟨hp,_⟩:=hpv;unfold vp at hz;rw [hi] at hz;simp only at hz;split at hz;rotate_left
  ·simp at hz
  rename_i z hzz;split at hz;rotate_left
  ·simp at hz
  rename_i hcc;simp only [Bool.and_eq_true,decide_eq_true_eq] at hcc;simp at hz;subst hz;have hzl:z.cells.toList.length=i.size:=by rw [Array.length_toList];simpa using hcc.1
  have hz0:0<z.cells.size:=by have:=hcc.1;omega
  generalize hds:(List.replicate n (jr9 ks z.cells.toList)).flatten=ds at*;generalize hus:(List.replicate n z.cells.toList).flatten=us;have hnew:RepL w true ds us []:=by rw [←hds,←hus];exact jql (jpm _ _) n
  have hul:us.length=n*i.size:=by rw [←hus,jwd,hzl]
  have hdl:ds.length=n*i.size:=by rw [←RepL.length _ hnew,hul]
  have hpos:0<n*i.size:=Nat.mul_pos hn hs
  have k8:∀u∈us,u.oneCell'=true:=fun u hu=>by
   rw [←hus] at hu;obtain ⟨l,hl,hul⟩:=List.mem_flatten.1 hu;rw [List.eq_of_mem_replicate hl] at hul;exact List.all_eq_true.1 hcc.2 u (by simpa using hul)
  have hfk:=h.fr k;obtain ⟨u,S1,q0,q1,q2,q3,q4,q5⟩:=ORel.put1 (h.ob k) hfk.1 j1;obtain ⟨Sx,hrx,_⟩:=vW h j1 j2 j3 j4;cases dd with
  |val _=>cases j4
  |sl size ty cs0=>
   simp only [D.size] at j5;subst j5;simp only [D.len,D.cells,D.size] at j6;have hcl:(lo+n)*i.size≤cs0.length:=Nat.le_trans (Nat.mul_le_mul_right _ j6) (Nat.div_mul_le_self _ _);rw [Nat.add_mul] at hcl;obtain ⟨gg,nn,cc,r1,r2,r3,S1',r4,r5,r6,r7⟩:=jlP (k:=lo*i.size) (by omega) hnew List.nodup_nil p q1 q4 (fun b hb=>by simp at hb) j3 (by omega)
   have hhx:hx0=.slice (some ⟨gg,0,none⟩) nn cc:=by rw [←j2,q2,r1]
   obtain ⟨vs,T,S',hrow,hrl,_⟩:=hrx;have hvl:=RepL.length _ hrl
   have hcap:lo<cc:=by
    obtain ⟨nv,hown,_⟩:=hrow;have h1:=hown.1;rcases hown.2 with ⟨e1,e2⟩|⟨g',cap,cur,e1,_,_,e2,_⟩
    ·rw [hhx] at e1;cases e1
    ·rw [hhx] at e1
     injection e1 with e3 e4 e5;subst e5;have:cs0.length/i.size=nv:=by rw [←hvl,h1];exact Nat.mul_div_cancel _ hs
     omega
   have hp':a.eval x=.slice (some ⟨gg,lo*i.size,none⟩) n (cc-lo):=by
    rw [hp.resolve_right fun ⟨_,hn0,_⟩=>by omega,hhx]
    simp only [jix];rw [if_neg (by omega)]
    simp [Addr.add_lit]
   have hrun:(execOp a.eval o).run P w=.ok (.value (.tuple #[])) (w.setCells gg (lo*i.size) us):=by
    have hst:=run_storeCells_cells (P:=P) gg (lo*i.size) us 0 w (fun j hj=>(r3 j (by omega)).1) (fun j hj=>(r3 j (by omega)).2) k8
    simp only [Nat.add_zero] at hst;obtain ⟨m,rfl⟩:∃m,n=m+1:=⟨n-1,by omega⟩
    simp [execOp,ho,resolve,hc,hargs,hats,hp',invoke,builtin,Builtin.clear_,run_underlying ht,zeroValue,typeInfo,hi,hzz,jrn hz0,hus,hst]
   obtain ⟨j6,j7,j8,j9⟩:=kH us w gg (lo*i.size);have hggF:gg∈F k:=q3 gg r2;have hBb:B≤gg:=hfk.2 gg hggF;have hne:∀b,b≠gg→(w.setCells gg (lo*i.size) us).heap[b]?=w.heap[b]?:=fun b hb=>jam us w gg (lo*i.size) b hb
   have hb:Below B w (w.setCells gg (lo*i.size) us):=⟨j6,j7,j8,by rw [j9];exact Nat.le_refl _,fun j hj=>hne j (by omega)⟩
   have hsl:(D.put p (lo*i.size) ds d0).isSl=true:=jxA _ _ _ q0
   obtain ⟨S',m1,m2,m3⟩:=q5 (w.setCells gg (lo*i.size) us) (D.put p (lo*i.size) ds d0) (fun q=>hdr (w.setCells gg (lo*i.size) us) q (D.put p (lo*i.size) ds d0) u) S1' hb (fun b _ hb2=>hne b fun e=>hb2 (e▸r2)) hsl r4 (fun _=>rfl) r5 (fun b hb1=>by
    rcases r6 b hb1 with h|h
    ·exact .inl h
    ·simp at h)
   have t1:=h.setO (g:=k) (ob:=.none) (S:=[]) rfl (Fresh.nil _) (by simp)
   have t2:=t1.world' hb fun g' x hx=>by
    split at hx
    ·simp at hx
    ·rename_i hg'
     exact hne x fun e=>h.dj g' k hg' x hx (e▸hggF)
   have hS'F:∀x∈S',x∈F k:=fun x hx=>by
    rcases m3 x hx with h|h
    ·exact h
    ·rcases r6 x h with h'|h'
     ·exact q3 x h'
     ·simp at h'
   have t3:=t2.setO (g:=k) m1 ⟨m2,fun x hx=>hfk.2 x (hS'F x hx)⟩ (fun g' hg' x hx=>by
    rw [if_neg hg'];exact fun hh=>h.dj g' k hg' x hh (hS'F x hx))
   have hss:(s.setO k .none).setO k ((s.o k).putOwn c (D.put p (lo*i.size) ds d0) (fun q=>hdr (w.setCells gg (lo*i.size) us) q (D.put p (lo*i.size) ds d0) u))=s.setO k ((s.o k).putOwn c (D.put p (lo*i.size) ds d0) (fun q=>hdr (w.setCells gg (lo*i.size) us) q (D.put p (lo*i.size) ds d0) u)):=by
    simp only [St.setO,St.mk.injEq,true_and]
    funext i;split<;>rfl
   rw [hss] at t3
   exact OpOk.of_run hrun (by
    rw [hpu];have hlike:∀q,¬jpT p (lo*i.size) (n*i.size) q→hdr (w.setCells gg (lo*i.size) us) q (D.put p (lo*i.size) ds d0) u=η q:=fun q hq=>by rw [q2];exact r7 q (by rw [hdl];exact hq)
    refine ⟨_,_,t3,jxp hk hlike fun hf=>?_⟩
    simp only [Bool.and_eq_true] at hf
    funext q
    by_cases hq:jpT p (lo*i.size) (n*i.size) q
    ·obtain ⟨j,r,rfl,hj1,hj2⟩:=hq
     obtain ⟨v1,hv1⟩:=jcC (j:=j-lo*i.size) hf.1 (by omega)
     obtain ⟨v2,hv2⟩:=jcC (j:=j-lo*i.size) hf.2 (by simp only [D.cells,List.length_take,List.length_drop];omega)
     rw [q2];rw [jfq (w:=w.setCells gg (lo*i.size) us) (j:=j) (v:=v1) p (jcz p j3) (by rw [ji2 _ _ _ _ (by omega) hj1 (by omega)];exact hv1)]
     refine (jfq (v:=v2) p j3 ?_).symm;rw [←hv2];simp only [D.cells];rw [List.getElem?_take,if_pos (by omega),List.getElem?_drop]
     congr 1;omega
    ·exact hlike q hq)
 ·exact hr.elim
end
section
variable {P:Program} {β B N:Nat} {w w0:World} {s:St} {a:Act} {F:Nat→List Nat} {o:Oper} {K:St→Prop}
theorem OpOk.of_goes (h:RelF B w0 N s a w F) (hd:∀k,o.dst=some k→k<N) (hg:Goes P o a w (ky B w fun av os=>K ((s.addO os).put o.dst av))):
 OpOk P o a w (fun a' w'=>∃s' F',RelF B w0 N s' a' w' F'∧K s'):=by
 intro next Q hk;refine hg next Q fun v w' ⟨av,os,S,h1,h2,h3,h4,h5⟩=>?_
 have hB:B≤w.heap.size:=Nat.le_trans h.hB h.below.size
 obtain ⟨F',h6⟩:=(h.world h4).addO h2 (h3.mono hB) fun g b hb hb'=>by
  have:=(h.ob g).lt b hb';have:=h3.2 b hb;omega
 exact hk _ _ ⟨_,_,h6.put h1 hd,h5⟩
def jx3 (P:Program) (o:Oper) (i:I):Prop:=∀{β B N:Nat} {w w0:World} {s:St} {a:Act} {F:Nat→List Nat} {K:St→Prop} {g:Option (Nat×Bool)},
 RelF B w0 N s a w F→(∀k,o.dst=some k→k<N)→vd P β ⟨o.dst,g,i⟩ s K→OpOk P o a w (fun a' w'=>∃s' F',RelF B w0 N s' a' w' F'∧K s')
theorem jzz {c:Call} {i:I} (ho:o.op=.call c) (hc:jmz P c=some i):jx3 P o i:=by
 intro β B N w w0 s a F K g h hd hr;unfold jmz at hc;split at hc
 ·rename_i x h1 h2
  split at hc
  ·rename_i x' h3 h4
   simp at hc;subst hc;obtain ⟨rt,hg⟩:=hr;exact .of_goes h hd (go_len (str:=true) h ho h1 h2 h3 h4 hg)
  ·rename_i e x' h3 h4
   simp at hc;subst hc;obtain ⟨rt,hg⟩:=hr;exact .of_goes h hd (go_len (str:=false) h ho h1 h2 ⟨_,h3⟩ h4 hg)
  ·simp at hc
 ·rename_i x y h1 h2
  split at hc
  ·rename_i t t' h3
   split at hc
   ·rename_i e e' h4 h5
    split at hc
    ·rename_i i' zs x' y' h6 h7 h8 h9
     split at hc
     ·rename_i h10
      simp at hc;subst hc;simp at h10;obtain ⟨h11,rfl⟩:=h10;exact jA8 h ho h1 h2 h3 h4 h6 h7 h11 h8 h9 hd hr
     ·simp at hc
    ·simp at hc
   ·rename_i e h4 h5
    split at hc
    ·rename_i i' x' y' h6 h7 h8 h9
     split at hc
     ·rename_i h10
      split at hc
      ·rename_i h11
       simp at hc;subst hc;simp at h11;exact jyW h ho h1 h2 h3 h4 h5 h7 h10 h11.1 h11.2 h8 h9 hd hr
      ·simp at hc
     ·simp at hc
    ·simp at hc
   ·simp at hc
  ·simp at hc
 ·rename_i x h1 h2
  split at hc
  ·rename_i t h3
   split at hc
   ·rename_i e h4
    split at hc
    ·rename_i i' zs x' h6 h7 h8
     split at hc
     ·rename_i h10
      simp at hc;subst hc;exact jA5 h ho h1 h2 h3 h4 h6 h7 h10 h8 hr
     ·simp at hc
    ·simp at hc
   ·simp at hc
  ·simp at hc
 ·rename_i x y h1 h2
  split at hc
  ·rename_i x' y' h3 h4
   simp at hc;subst hc;obtain ⟨rt,hg⟩:=hr;exact .of_goes h hd (go_mm (mx:=true) h ho h1 h2 h3 h4 hg)
  ·simp at hc
 ·rename_i x y h1 h2
  split at hc
  ·rename_i x' y' h3 h4
   simp at hc;subst hc;obtain ⟨rt,hg⟩:=hr;exact .of_goes h hd (go_mm (mx:=false) h ho h1 h2 h3 h4 hg)
  ·simp at hc
 ·rename_i f h1
  split at hc
  ·rename_i fn l h3 h4
   split at hc
   ·simp at hc;subst hc
    rcases hr with ⟨rt,hg⟩|ht|ht
    ·exact .of_goes h hd (go_call h ho h1 h4 hg)
    ·exact jqx h (jcn (cs:=[]) ht.1 ho h1 rfl rfl) (by simpa using jiO (caps:=[]) (cs:=[]) h h4 rfl) hd ht
    ·exact jA4 h (jcn (cs:=[]) ht.1 ho h1 rfl rfl) (by simpa using jiO (caps:=[]) (cs:=[]) h h4 rfl) hd ht
   ·simp at hc
  ·simp at hc
 ·rename_i t h1
  cases h2:zh c.args.toList with
  |none=>rw [h2] at hc;simp at hc
  |some l=>
   rw [h2] at hc;simp at hc;subst hc;rcases hr with ⟨rt,hg⟩|⟨f,caps,h0,ht⟩
   ·exact .of_goes h hd (go_callv h ho h1 h2 hg)
   ·have hvf:=h.sl t
    rw [show s.t t=.fn f caps from h0] at hvf
    obtain ⟨cs,k1,k2⟩:=hvf;exact jqx h (jcn ht.1 ho h1 k1 rfl) (jiO h h2 k2) hd ht
 ·simp at hc
theorem jkM {lo hi:Option Operand} {n:Nat} {x:X} {i:I} (hc:(match lo.map jP,hi.map jP with
        |none,none=>some (I.sl n x none none)
        |some (some a),none=>some (.sl n x (some a) none)
        |none,some (some b)=>some (.sl n x none (some b))
        |some (some a),some (some b)=>some (.sl n x (some a) (some b))
        |_,_=>none)=some i):∃lo' hi',i=.sl n x lo' hi'∧((lo=none∧lo'=none)∨∃y y',lo=some y∧lo'=some y'∧jP y=some y')∧((hi=none∧hi'=none)∨∃y y',hi=some y∧hi'=some y'∧jP y=some y'):=by
 cases lo<;>cases hi<;>simp only [Option.map_none,Option.map_some] at hc
 ·simp at hc;subst hc;exact ⟨_,_,rfl,.inl ⟨rfl,rfl⟩,.inl ⟨rfl,rfl⟩⟩
 ·split at hc<;>simp_all
 ·split at hc<;>simp_all
 ·split at hc<;>simp_all
theorem jA2 {i:I} (hc:zd P o.op=some i):jx3 P o i:=by
 intro β B N w w0 s a F K g h hd hr;cases ho:o.op with
 |move x=>
  simp only [ho,zd] at hc;cases h1:jP x with
  |none=>simp [h1] at hc
  |some x'=>
   simp [h1] at hc;subst hc;obtain ⟨rt,hg⟩:=hr;exact .of_goes h hd (go_mov h (.inl ho) h1 hg)
 |assign x=>
  simp only [ho,zd] at hc;cases h1:jP x with
  |none=>simp [h1] at hc
  |some x'=>
   simp [h1] at hc;subst hc;obtain ⟨rt,hg⟩:=hr;exact .of_goes h hd (go_mov h (.inr ho) h1 hg)
 |pick c x y=>
  simp only [ho,zd] at hc;split at hc
  ·rename_i c' x' y' h1 h2 h3
   simp at hc;subst hc;obtain ⟨rt,hg⟩:=hr;exact .of_goes h hd (go_pick h ho h1 h2 h3 hg)
  ·simp at hc
 |alloc e=>
  simp only [ho,zd] at hc;cases h1:vp P e with
  |none=>simp [h1] at hc
  |some z=>
   simp [h1] at hc;subst hc;obtain ⟨rt,hg⟩:=hr;exact .of_goes h hd (go_alloc h ho h1 hg)
 |box e x=>
  simp only [ho,zd] at hc;split at hc
  ·rename_i n x' h1 h2
   simp at hc;subst hc;exact jA7 h ho h2 hd hr
  ·simp at hc
 |build t ps=>
  simp only [ho,zd] at hc;split at hc
  ·rename_i fs z h1 h2
   split at hc
   ·simp at hc
   ·rename_i h3
    simp only [Option.map_eq_some_iff] at hc;obtain ⟨ps',h4,rfl⟩:=hc;obtain ⟨rt,hg⟩:=hr;exact .of_goes h hd (go_bld h ho h1 h2 (by cases hq:(fs.toList.all fun f=>(P.info? f.type).isSome) with|true=>rfl|false=>exact absurd (by rw [hq];rfl) h3) h4 hg)
  ·simp at hc
 |buildSlice t n ps=>
  simp only [ho,zd] at hc;split at hc
  ·rename_i e h1
   split at hc
   ·rename_i size h2
    split at hc
    ·rename_i h3
     simp only [Option.map_eq_some_iff] at hc;obtain ⟨ps',h4,rfl⟩:=hc;simp only [Bool.and_eq_true,decide_eq_true_eq,beq_iff_eq] at h3;obtain ⟨⟨⟨h5,h6⟩,h7⟩,h8⟩:=h3;obtain ⟨z,hz⟩:=Option.isSome_iff_exists.1 h6;exact jA6 h ho h1 h2 h5 hz h7 h8 h4 hd hr
    ·simp at hc
   ·simp at hc
  ·simp at hc
 |load t x=>
  simp only [ho,zd] at hc;split at hc
  ·rename_i fs n x' h1 h2 h3
   simp at hc;subst hc;obtain ⟨rt,hg⟩:=hr;exact .of_goes h hd (go_ld h ho h1 rfl h2 h3 hg)
  ·simp at hc
  ·rename_i dsc x' hn1 hn2 h1 h2 h3
   simp at hc;subst hc;obtain ⟨rt,hg⟩:=hr;refine .of_goes h hd (go_ld h ho h1 ?_ h2 h3 hg);cases dsc<;>simp_all [jzS]
  ·simp at hc
 |store t x y=>
  simp only [ho,zd] at hc;split at hc
  ·rename_i n x' y' h1 h2 h3
   simp at hc;subst hc;exact ok_st h ho h1 h2 h3 hr
  ·simp at hc
 |binOp op t x y t'=>
  simp only [ho,zd] at hc;split at hc
  ·rename_i x' y' h1 h2
   split at hc
   ·rename_i h3
    split at hc
    ·simp at hc;subst hc
     obtain ⟨rt,hg⟩:=hr;exact .of_goes h hd (go_beq (neg:=false) h ho h3 h1 h2 hg)
    ·simp at hc;subst hc
     obtain ⟨rt,hg⟩:=hr;exact .of_goes h hd (go_beq (neg:=true) h ho h3 h1 h2 hg)
    ·simp at hc
   ·simp at hc;subst hc
    obtain ⟨rt,hg⟩:=hr;exact .of_goes h hd (go_bin h ho h1 h2 hg)
   ·simp at hc
  ·simp at hc
 |unOp op t x=>
  simp only [ho,zd] at hc;cases h1:jP x with
  |none=>simp [h1] at hc
  |some x'=>
   simp [h1] at hc;subst hc;obtain ⟨rt,hg⟩:=hr;exact .of_goes h hd (go_un h ho h1 hg)
 |convert t t' x=>
  simp only [ho,zd] at hc;split at hc
  ·rename_i k0 k x' h1 h2 h3
   simp at hc;subst hc;obtain ⟨rt,hg⟩:=hr;exact .of_goes h hd (go_num h ho h1 h2 h3 hg)
  ·rename_i e x' h1 h2 h3
   split at hc
   ·rename_i h4
    simp at hc;subst hc;obtain ⟨rt,hg⟩:=hr;exact .of_goes h hd (go_text h ho h1 h4 h2 h3 hg)
   ·simp at hc
  ·simp at hc
 |makeSlice t l c=>
  simp only [ho,zd] at hc;split at hc
  ·rename_i e l' c' h1 h2 h3
   split at hc
   ·rename_i i' z h4 h5
    split at hc
    ·rename_i h6
     simp at hc;subst hc;obtain ⟨rt,hg⟩:=hr;exact .of_goes h hd (go_mks h ho h1 h4 h5 h6 h2 h3 hg)
    ·simp at hc
   ·simp at hc
  ·simp at hc
 |slice t x lo hi m=>
  cases m with
  |some m=>simp [ho,zd] at hc
  |none=>
   simp only [ho,zd] at hc;split at hc
   ·rename_i e x' h1 h2
    split at hc
    ·rename_i n h3
     obtain ⟨lo',hi',rfl,h4,h5⟩:=jkM hc;obtain ⟨rt,hg⟩:=hr;exact .of_goes h hd (go_sl_ro h ho h1 h3 h2 h4 h5 hg)
    ·simp at hc
   ·rename_i x' h1 h2
    obtain ⟨lo',hi',rfl,h4,h5⟩:=jkM hc;obtain ⟨rt,hg⟩:=hr;exact .of_goes h hd (go_sl_str h ho h1 h2 h4 h5 hg)
   ·simp at hc
 |nilCheck x=>
  simp only [ho,zd,Option.map_eq_some_iff] at hc;obtain ⟨x',h1,rfl⟩:=hc;obtain ⟨rt,hg⟩:=hr;exact .of_goes h hd (go_nc h ho h1 hg)
 |fieldAddr t x f=>
  simp only [ho,zd] at hc;split at hc
  ·rename_i fs x' h1 h2
   split at hc
   ·rename_i fd h3
    split at hc
    ·rename_i n h4
     simp at hc;subst hc;obtain ⟨rt,hg⟩:=hr;exact .of_goes h hd (go_fa h ho h1 h3 h4 h2 hg)
    ·simp at hc
   ·simp at hc
  ·simp at hc
 |indexAddr t x j=>
  simp only [ho,zd] at hc;split at hc
  ·rename_i e x' j' h1 h2 h3
   split at hc
   ·rename_i n h4
    simp at hc;subst hc;obtain ⟨rt,hg⟩:=hr;exact .of_goes h hd (go_ia h ho h1 h4 h2 h3 hg)
   ·simp at hc
  ·simp at hc
 |index t x j=>
  simp only [ho,zd] at hc;split at hc
  ·rename_i x' j' h1 h2 h3
   simp at hc;subst hc;obtain ⟨rt,hg⟩:=hr;exact .of_goes h hd (go_sidx h ho h1 h2 h3 hg)
  ·simp at hc
 |extract x j=>
  simp only [ho,zd] at hc;cases h1:jP x with
  |none=>simp [h1] at hc
  |some x'=>
   simp [h1] at hc;subst hc;obtain ⟨rt,hg⟩:=hr;exact .of_goes h hd (go_ext h ho h1 hg)
 |field t x f=>
  simp only [ho,zd] at hc;split at hc
  ·rename_i fs x' h1 h2
   split at hc
   ·rename_i fd h3
    split at hc
    ·rename_i n h4 h5
     simp at hc;subst hc;obtain ⟨rt,hg⟩:=hr;exact .of_goes h hd (go_fld h ho h1 h3 h4 rfl h5 h2 hg)
    ·simp at hc
    ·rename_i dsc h4 h5 h6 h7
     simp at hc;subst hc;obtain ⟨rt,hg⟩:=hr;exact .of_goes h hd (go_fld h ho h1 h3 h6 (by cases dsc<;>first|rfl|simp_all) h7 h2 hg)
    ·simp at hc
   ·simp at hc
  ·simp at hc
 |makeFunc fn first caps=>
  cases fn with
  |func f=>
   simp only [ho,zd] at hc;split at hc
   ·rename_i h1
    cases h2:zh caps.toList with
    |none=>simp [h2] at hc
    |some l=>
     simp [h2] at hc;subst hc;obtain ⟨rt,hg⟩:=hr;exact .of_goes h hd (go_mkf h ho (by simpa using h1) h2 hg)
   ·simp at hc
  |_=>simp [ho,zd] at hc
 |call c=>simp only [ho,zd] at hc;exact jzz ho hc h hd hr
 |_=>simp [ho,zd] at hc
def jpW (N:Nat) (ops:Array Oper) (g:Option (Nat×Bool)) (g':Option (Nat×Bool)):Prop:=match g with
 |none=>g'=none
 |some (j,want)=>∃t,(ops[j]?).bind (·.dst)=some t∧t<N∧g'=some (t,want)
theorem jir (h:RelF B w0 N s a w F) {ops:Array Oper} {g':Option (Nat×Bool)} {b:Bool} (hg:jpW N ops o.guard g') (hw:vL s g'=some b):
 Region.wanted o (yielded ops a.tmps)=b:=by
 unfold Region.wanted;cases ho:o.guard with
 |none=>rw [ho] at hg;simp only [jpW] at hg;subst hg;simp [vL] at hw;simpa using hw
 |some p=>
  obtain ⟨j,want⟩:=p;rw [ho] at hg;obtain ⟨t,h1,h2,rfl⟩:=hg;have hv:=h.sl t;have hlt:t<a.tmps.size:=by rw [h.sz];exact h2
  have he:a.tmps.getD t undef=a.tmps[t]:=by simp [Array.getD_eq_getD_getElem?,hlt]
  rw [he] at hv;simp only [vL] at hw;simp only [yielded,h1,Option.bind_some,Array.getElem?_eq_getElem hlt];split at hw
  ·rename_i b' hb
   rw [hb] at hv;rw [show a.tmps[t]=.bool b' from hv]
   simp at hw;subst hw;cases b'<;>cases want<;>rfl
  ·rename_i u hu hb
   rw [hb] at hv;have hv':a.tmps[t]=u:=hv;rw [hv'];simp at hw;subst hw;cases u<;>simp_all
  ·simp at hw
theorem jq5 {ops:Array Oper} {i:Ins} (hc:jw5 P N ops o=some i):i.d=o.dst∧zd P o.op=some i.i∧(∀k,o.dst=some k→k<N)∧jpW N ops o.guard i.g:=by
 unfold jw5 at hc;split at hc
 ·rename_i j h1 h2
  have hd:∀k,o.dst=some k→k<N:=fun k hk=>by rw [hk] at h2;simpa using h2
  cases hg:o.guard with
  |none=>rw [hg] at hc;simp at hc;subst hc;exact ⟨rfl,h1,hd,rfl⟩
  |some p=>
   obtain ⟨k,want⟩:=p;rw [hg] at hc;simp only at hc;split at hc
   ·rename_i t ht
    split at hc
    ·rename_i hlt
     simp at hc;subst hc;exact ⟨rfl,h1,hd,t,ht,hlt,rfl⟩
    ·simp at hc
   ·simp at hc
 ·simp at hc
theorem jpp {ops:Array Oper} {Q:Exit→Act→World→Prop} (hQ:∀s a w F,RelF B w0 N s a w F→K s→Q .normal a w):∀{l:List Oper} {is:List Ins} {s:St} {a:Act} {w:World} {F:Nat→List Nat},
 jjG P N ops l=some is→RelF B w0 N s a w F→jgp P β is s K→wpList P ops Q l a w
 |[],is,s,a,w,F,hc,h,hr=>by simp [jjG] at hc;subst hc;exact hQ _ _ _ _ h hr
 |o::l,is,s,a,w,F,hc,h,hr=>by
  simp only [jjG] at hc;split at hc
  ·rename_i i r h1 h2
   simp at hc;subst hc;obtain ⟨e1,e2,e3,e4⟩:=jq5 h1;simp only [jgp] at hr;unfold wpList;split at hr
   ·rename_i hw
    rw [if_pos (jir h e4 hw)];refine .inl (jA2 e2 (g:=i.g) (K:=fun s'=>jgp P β r s' K) h e3 (by rw [←e1];exact hr) _ _ fun a' w' ⟨s',F',h3,h4⟩=>jpp hQ h2 h3 h4)
   ·rename_i hw
    rw [if_neg (by rw [jir h e4 hw];simp)]
    rw [e1] at hr;exact jpp hQ h2 (h.put (u:=undef) (v:=.c (.v undef)) rfl e3) hr
   ·exact hr.elim
  ·simp at hc
end
section
variable {P:Program} {β:Nat} {s s2:St}
theorem jqW {x:X} (h:∀n,x=.t n→s2.t n=s.t n):s2.ev x=s.ev x:=by
 cases x with
 |t n=>exact h n rfl
 |c v=>rfl
 |f n=>rfl
theorem vZ {a:A0} {d:D} (ho:∀g∈a.ids,s2.o g=s.o g) (h:Is s a d):Is s2 a d:=by
 cases a with
 |h g c p x=>simp only [Is] at h⊢;rw [ho g (by simp [A0.ids])];exact h
 |hs g c p x sz lo n=>simp only [Is] at h⊢;rw [ho g (by simp [A0.ids])];exact h
 |_=>exact h
theorem jnY:∀{l:List A0} {ds:List D},(∀a∈l,∀g∈a.ids,s2.o g=s.o g)→IsL s l ds→IsL s2 l ds
 |[],[],_,_=>trivial
 |[],_::_,_,h=>h.elim
 |_::_,[],_,h=>h.elim
 |a::l,d::ds,ho,⟨h1,h2⟩=>⟨vZ (ho a (by simp)) h1,jnY (fun b hb=>ho b (by simp [hb])) h2⟩
theorem jeB {g b:Nat}:∀{l:List Cell} {c:Nat} {ds:List D},Ptr.go s g b l c ds→Ptr.go s2 g b l c ds
 |[],_,[],_=>trivial
 |[],_,_::_,h=>h.elim
 |.a _::_,_,[],h=>h.elim
 |.own _ _::_,_,[],h=>h.elim
 |.a x::l,c,d::ds,⟨h1,h2⟩=>⟨h1,jeB h2⟩
 |.own d' η::l,c,d::ds,⟨h1,h2⟩=>⟨h1,jeB h2⟩
theorem jnq {a:A0} {ds:List D} (ho:∀g∈a.ids,s2.o g=s.o g) (h:Ptr s a ds):Ptr s2 a ds:=by
 cases a with
 |bp g c b=>
  obtain ⟨ty,cs,h1,l,h2,h3⟩:=h;exact ⟨ty,cs,by rw [ho g (by simp [A0.ids])];exact h1,l,h2,jeB h3⟩
 |_=>exact h
theorem jkW:∀{l:List A0} {ds:List (List D)},(∀a∈l,∀g∈a.ids,s2.o g=s.o g)→jxj s l ds→jxj s2 l ds
 |[],[],_,_=>trivial
 |[],_::_,_,h=>h.elim
 |_::_,[],_,h=>h.elim
 |a::l,d::ds,ho,⟨h1,h2⟩=>⟨jnq (ho a (by simp)) h1,jkW (fun b hb=>ho b (by simp [hb])) h2⟩
theorem jvr {a:AV} {v:View} (ho:s2.o=s.o) (h:jkD s a v):jkD s2 a v:=by
 cases a with
 |c x=>cases v with
  |c d=>exact vZ (fun g _=>by rw [ho]) h
  |ptr ds=>exact jnq (fun g _=>by rw [ho]) h
  |_=>exact h.elim
 |agg l=>cases v with
  |agg ds=>exact jnY (fun _ _ g _=>by rw [ho]) h
  |_=>exact h.elim
 |fn f l=>cases v with
  |fn f' ds=>exact ⟨h.1,jkW (fun _ _ g _=>by rw [ho]) h.2⟩
  |_=>exact h.elim
 |_=>cases v<;>exact h.elim
theorem jhm:∀{l:List AV} {vs:List View},s2.o=s.o→zV s l vs→zV s2 l vs
 |[],[],_,_=>trivial
 |[],_::_,_,h=>h.elim
 |_::_,[],_,h=>h.elim
 |_::_,_::_,ho,⟨h1,h2⟩=>⟨jvr ho h1,jhm ho h2⟩
theorem jlf:∀{ps:List (Nat×Nat×X)} {cs:List A0},(∀x∈ps.map (·.2.2),s2.ev x=s.ev x)→jhS s2 cs ps=jhS s cs ps
 |[],_,_=>rfl
 |(off,size,x)::ps,cs,h=>by
  have h1:s2.ev x=s.ev x:=h x (by simp)
  simp only [jhS,h1];split
  ·split
   ·exact jlf fun y hy=>h y (by simp at hy⊢;exact .inr hy)
   ·rfl
  ·rfl
theorem jor:∀{ps:List (Nat×Nat×X)},(∀x∈ps.map (·.2.2),s2.ev x=s.ev x)→jsE s2 ps=jsE s ps
 |[],_=>rfl
 |(off,size,x)::ps,h=>by
  have h1:s2.ev x=s.ev x:=h x (by simp)
  have h2:jsE s2 ps=jsE s ps:=jor fun y hy=>h y (by simp at hy⊢;exact .inr hy)
  simp only [jsE,h1,h2]
theorem jlm:∀{l:List X},(∀x∈l,s2.ev x=s.ev x)→jbS s2 l=jbS s l
 |[],_=>rfl
 |x::l,h=>by
  have h1:s2.ev x=s.ev x:=h x (by simp)
  have h2:jbS s2 l=jbS s l:=jlm fun y hy=>h y (by simp [hy])
  simp only [jbS,h1,h2]
theorem jax {x:Option X} {d n:Nat} (h:∀y,x=some y→s2.ev y=s.ev y) (hb:jgl s x d n):jgl s2 x d n:=by
 cases x with
 |none=>exact hb
 |some y=>obtain ⟨k,h1⟩:=hb;exact ⟨k,by rw [h y rfl];exact h1⟩
theorem jcx {l:List X} (h:∀x∈l,s2.ev x=s.ev x):l.map s2.ev=l.map s.ev:=List.map_congr_left h
theorem jn4 {d:Nat} {rt:RT} {st:jvw} {i:I} {av:AV} {os:List (Nat×Ob)} (hx:∀x∈i.xs,s2.ev x=s.ev x) (ho:∀k∈i.looks s,jqI s s2 k) (hn:i.pureB=false→s2.o=s.o) (h:Gen P s d rt st i av os):Gen P s2 d rt st i av os:=by
 cases i with
 |mov x=>simp only [Gen] at h⊢;rw [hx x (by simp [I.xs])];exact h
 |pick c a b=>simp only [Gen] at h⊢;rw [hx c (by simp [I.xs]),hx a (by simp [I.xs]),hx b (by simp [I.xs])];exact h
 |box ty n x=>exact h
 |alloc ty zs=>exact h
 |bld zs ps=>simp only [Gen] at h⊢;rw [jlf (s:=s) (s2:=s2) fun x hx'=>hx x (by simpa [I.xs] using hx')];exact h
 |bsl e size n ks ps=>exact h
 |ld agg n x=>
  simp only [Gen] at h⊢;obtain ⟨l,h1,h2⟩:=h;refine ⟨l,?_,h2⟩;rw [hx x (by simp [I.xs])]
  have ho':∀k∈(s.ev x).looks n,jqI s s2 k:=ho;cases hv:s.ev x with
  |c a=>
   rw [hv] at h1 ho';cases a with
   |bp g c b=>
    have h3:jrJ g c n (s2.o g) (s.o g):=ho' (.cs g c n) (by simp [AV.looks,A0.looks])
    obtain ⟨ty,cs,k1,k2,k3⟩:=h1;rw [k1] at h3;cases h4:s2.o g with
    |box b' ty' cs'=>
     rw [h4] at h3;obtain ⟨rfl,rfl,e3,e4⟩:=h3;exact ⟨_,_,h4,by omega,by rw [e4];exact k3⟩
    |none=>rw [h4] at h3;cases h3
    |loose d η=>rw [h4] at h3;cases h3
   |ep g c p k y=>
    have h3:s2.o g=s.o g:=ho' (.ob g) (by simp [AV.looks,A0.looks])
    simp only [jac] at h1⊢;rw [h3];exact h1
   |_=>exact h1
  |_=>rw [hv] at h1;exact h1
 |st n ks a x=>exact h
 |fa off x=>simp only [Gen] at h⊢;rw [hx x (by simp [I.xs])];exact h
 |ia size x i=>
  simp only [Gen] at h⊢;have ho':∀g∈(s.ev x).ids,s2.o g=s.o g:=fun g hg=>ho (.ob g) (List.mem_map.2 ⟨g,hg,rfl⟩)
  rw [hx x (by simp [I.xs]),hx i (by simp [I.xs])]
  obtain ⟨k,n,h1,h2,h3,h4⟩:=h;refine ⟨k,n,h1,h2,?_,h4⟩;cases hv:s.ev x with
  |c a=>
   rw [hv] at h3 ho';cases a with
   |h g c p y=>obtain ⟨⟨dd,k1,k2⟩,k3⟩:=h3;exact ⟨⟨dd,vZ ho' (by exact k1),k2⟩,k3⟩
   |hs g c p y sz lo m=>obtain ⟨⟨dd,k1⟩,k3⟩:=h3;exact ⟨⟨dd,vZ ho' (by exact k1)⟩,k3⟩
   |_=>exact h3
  |_=>rw [hv] at h3;exact h3
 |sidx x i=>simp only [Gen] at h⊢;rw [hx x (by simp [I.xs]),hx i (by simp [I.xs])];exact h
 |bin op ty x y=>simp only [Gen] at h⊢;rw [hx x (by simp [I.xs]),hx y (by simp [I.xs])];exact h
 |beq neg x y=>simp only [Gen] at h⊢;rw [hx x (by simp [I.xs]),hx y (by simp [I.xs])];exact h
 |un op x=>simp only [Gen] at h⊢;rw [hx x (by simp [I.xs])];exact h
 |cv c e x=>
  simp only [Gen] at h⊢;have ho':∀g∈(s.ev x).ids,s2.o g=s.o g:=fun g hg=>ho (.ob g) (List.mem_map.2 ⟨g,hg,rfl⟩)
  rw [hx x (by simp [I.xs])]
  cases c with
  |text=>
   obtain ⟨⟨a,ty,bs,h1,h2,h3⟩,h4⟩:=h;rw [h1] at ho';exact ⟨⟨a,ty,bs,h1,vZ ho' h2,h3⟩,h4⟩
  |_=>exact h
 |len str x=>
  simp only [Gen] at h⊢;have ho':∀g∈(s.ev x).ids,s2.o g=s.o g:=fun g hg=>ho (.ob g) (List.mem_map.2 ⟨g,hg,rfl⟩)
  obtain ⟨n,h1,h2⟩:=h;refine ⟨n,?_,h2⟩;rw [hx x (by simp [I.xs])]
  cases hv:s.ev x with
  |c a=>
   rw [hv] at h1 ho';cases a with
   |h g c p y=>
    cases str with
    |true=>exact h1
    |false=>obtain ⟨dd,k1,k2⟩:=h1;exact ⟨dd,vZ ho' (by exact k1),k2⟩
   |hs g c p y sz lo m=>
    cases str with
    |true=>exact h1
    |false=>obtain ⟨⟨dd,k1⟩,k2⟩:=h1;exact ⟨⟨dd,vZ ho' (by exact k1)⟩,k2⟩
   |v u=>cases str<;>cases u<;>first|exact h1|(rename_i a l c;cases a<;>cases l<;>cases c<;>exact h1)
   |_=>cases str<;>exact h1
  |_=>rw [hv] at h1;cases str<;>exact h1
 |app e size bytes x y=>exact h
 |apps e x y=>exact h
 |clr size zs x=>exact h
 |mm mx x y=>simp only [Gen] at h⊢;rw [hx x (by simp [I.xs]),hx y (by simp [I.xs])];exact h
 |mks e size bytes zs l c=>simp only [Gen] at h⊢;rw [hx l (by simp [I.xs]),hx c (by simp [I.xs])];exact h
 |sl size x lo hi=>
  simp only [Gen] at h⊢;have ho':∀g∈(s.ev x).ids,s2.o g=s.o g:=fun g hg=>ho (.ob g) (List.mem_map.2 ⟨g,hg,rfl⟩)
  have hlo:∀y,lo=some y→s2.ev y=s.ev y:=fun y hy=>hx y (by simp [I.xs,hy])
  have hhi:∀y,hi=some y→s2.ev y=s.ev y:=fun y hy=>hx y (by simp [I.xs,hy])
  rw [hx x (by simp [I.xs])]
  obtain ⟨l,hh,h1,h2,h3,h4⟩:=h;refine ⟨l,hh,jax hlo h1,h2,?_,h4⟩;cases hv:s.ev x with
  |c a=>
   rw [hv] at h3 ho';cases a with
   |v u=>
    cases u with
    |string b=>exact ⟨h3.1,jax hhi h3.2.1,h3.2.2⟩
    |_=>exact h3
   |ro dd=>exact ⟨h3.1,h3.2.1,h3.2.2.1,jax hhi h3.2.2.2.1,h3.2.2.2.2⟩
   |h g c p y=>obtain ⟨k0,⟨dd,k1,k2,k3,k4⟩,k5⟩:=h3;exact ⟨k0,⟨dd,vZ ho' (by exact k1),k2,jax hhi k3,k4⟩,k5⟩
   |hs g c p y sz lo m=>obtain ⟨⟨dd,k1⟩,k2,k3,k4⟩:=h3;exact ⟨⟨dd,vZ ho' (by exact k1)⟩,k2,jax hhi k3,k4⟩
   |_=>exact h3
  |_=>rw [hv] at h3;exact h3
 |ext x i=>simp only [Gen] at h⊢;rw [hx x (by simp [I.xs])];exact h
 |fld agg off n x=>simp only [Gen] at h⊢;rw [hx x (by simp [I.xs])];exact h
 |mkf f caps=>simp only [Gen] at h⊢;rw [jlm (s:=s) (s2:=s2) fun x hx'=>hx x (by simpa [I.xs] using hx')];exact h
 |call f args=>
  simp only [Gen] at h⊢;rw [jcx (s:=s) (s2:=s2) fun x hx'=>hx x (by simpa [I.xs] using hx')]
  obtain ⟨vs,h1,h2⟩:=h;exact ⟨vs,jhm (hn rfl) h1,h2⟩
 |callv x args=>
  simp only [Gen] at h⊢;rw [jcx (s:=s) (s2:=s2) (l:=args) fun y hy=>hx y (by simp [I.xs,hy]),hx x (by simp [I.xs])]
  obtain ⟨f,caps,vs,h0,h1,h2⟩:=h;exact ⟨f,caps,vs,h0,jhm (hn rfl) h1,h2⟩
theorem jpo {i:I} (hx:∀x∈i.xs,s2.ev x=s.ev x):i.looks s2=i.looks s:=by
 cases i<;>first|rfl|(simp only [I.looks];rw [hx _ (by simp [I.xs])])
theorem jwH {d d':Nat} {rt rt':RT} {st st':jvw} {i:I} {av:AV} {os:List (Nat×Ob)} (hp:i.pureB=true) (h:Gen P s d rt st i av os):Gen P s d' rt' st' i av []∧os=[]:=by
 cases i<;>first|cases hp|skip
 case mov=>obtain ⟨h1,rfl⟩:=h;exact ⟨⟨h1,rfl⟩,rfl⟩
 case pick=>obtain ⟨t,h1,h2,rfl⟩:=h;exact ⟨⟨t,h1,h2,rfl⟩,rfl⟩
 case bld=>obtain ⟨t,h1,h2,rfl⟩:=h;exact ⟨⟨t,h1,h2,rfl⟩,rfl⟩
 case ld=>obtain ⟨t,h1,h2,rfl⟩:=h;exact ⟨⟨t,h1,h2,rfl⟩,rfl⟩
 case fa=>obtain ⟨h1,rfl⟩:=h;exact ⟨⟨h1,rfl⟩,rfl⟩
 case ia=>obtain ⟨k,n,h1,h2,h3,rfl⟩:=h;exact ⟨⟨k,n,h1,h2,h3,rfl⟩,rfl⟩
 case sidx=>obtain ⟨b,k,n,u,h1,h2,h3,h4,h5,rfl⟩:=h;exact ⟨⟨b,k,n,u,h1,h2,h3,h4,h5,rfl⟩,rfl⟩
 case bin=>obtain ⟨h1,rfl⟩:=h;exact ⟨⟨h1,rfl⟩,rfl⟩
 case beq=>obtain ⟨a,b,h1,h2,h3,rfl⟩:=h;exact ⟨⟨a,b,h1,h2,h3,rfl⟩,rfl⟩
 case un=>obtain ⟨h1,rfl⟩:=h;exact ⟨⟨h1,rfl⟩,rfl⟩
 case cv=>obtain ⟨h1,rfl⟩:=h;exact ⟨⟨h1,rfl⟩,rfl⟩
 case len=>obtain ⟨n,h1,h2,rfl⟩:=h;exact ⟨⟨n,h1,h2,rfl⟩,rfl⟩
 case mm=>obtain ⟨k,k',a,b,h1,h2,h3,rfl⟩:=h;exact ⟨⟨k,k',a,b,h1,h2,h3,rfl⟩,rfl⟩
 case sl=>obtain ⟨l,hh,h1,h2,h3,rfl⟩:=h;exact ⟨⟨l,hh,h1,h2,h3,rfl⟩,rfl⟩
 case ext=>obtain ⟨l,b,az,h1,h2,h3,rfl⟩:=h;exact ⟨⟨l,b,az,h1,h2,h3,rfl⟩,rfl⟩
 case fld=>obtain ⟨l,h1,h2,h3,rfl⟩:=h;exact ⟨⟨l,h1,h2,h3,rfl⟩,rfl⟩
 case mkf=>obtain ⟨l,h1,h2,rfl⟩:=h;exact ⟨⟨l,h1,h2,rfl⟩,rfl⟩
theorem ji5 {i:Ins} (hp:i.i.pureB=true) {K:St→Prop}:vd P β i s K=(∃rt,∀st,∃av os,Gen P s (β+i.d.getD 0) rt st i.i av os∧K ((s.addO os).put i.d av)):=by
 obtain ⟨d,g,i⟩:=i;cases i<;>first|rfl|cases hp
theorem Turns.mono {f:FuncId} {args:List AV} {o:Nat→Ob} {R R':RT→(Nat→Ob)→Prop} (h:∀rt o',R rt o'→R' rt o') (ht:Turns P f args o R):Turns P f args o R':=
 ⟨ht.1,fun B w F xs h1 h2=>(ht.2 B w F xs h1 h2).mono fun e w' ⟨v,rt,o',S,F',k1,k2,k3,k4,k5,k6⟩=>⟨v,rt,o',S,F',k1,k2,k3,k4,k5,h _ _ k6⟩⟩
theorem Inl.mono {f:FuncId} {args:List AV} {o:Nat→Ob} {R R':AV→(Nat→Ob)→Prop} (h:∀av o',R av o'→R' av o') (ht:Inl P f args o R):Inl P f args o R':=
 ⟨ht.1,fun B w F xs h1 h2=>(ht.2 B w F xs h1 h2).mono fun e w' ⟨v,av,o',F',k1,k2,k3,k4⟩=>⟨v,av,o',F',k1,k2,k3,h _ _ k4⟩⟩
theorem jty {i:Ins} {d:Option Nat} {v:AV} {K K':St→Prop} (hd:∀k,d=some k→(∀x∈i.i.xs,x≠.t k)∧i.d≠some k) (h:∀s2:St,(∀n,i.d≠some n→s2.t n=s.t n)→K (s2.put d v)→K' s2) (hr:vd P β i (s.put d v) K):vd P β i s K':=by
 obtain ⟨id,ig,i⟩:=i;simp only at hd
 have hev:∀x∈i.xs,(s.put d v).ev x=s.ev x:=fun x hx=>by
  cases d with
  |none=>rfl
  |some k=>
   refine jqW fun n hn=>?_
   have:=(hd k rfl).1 x hx;show (if n=k then v else s.t n)=s.t n
   rw [if_neg fun e=>this (by rw [hn,e])]
 have ho:(s.put d v).o=s.o:=by cases d<;>rfl
 have hend:∀(s1:St) (os:List (Nat×Ob)) (av:AV),s1.t=s.t→K ((((s1.put d v).addO os)).put id av)→K' ((s1.addO os).put id av):=fun s1 os av h1 hk=>by
  have e1:∀(os:List (Nat×Ob)) (s1:St),(s1.put d v).addO os=(s1.addO os).put d v:=by
   intro os
   induction os with
   |nil=>intro s1;rfl
   |cons p os ih=>
    intro s1;obtain ⟨g,ob⟩:=p;show ((s1.put d v).setO g ob).addO os=((s1.setO g ob).addO os).put d v;rw [←ih]
    congr 1
    cases d<;>rfl
  have e2:∀s1:St,(s1.put d v).put id av=(s1.put id av).put d v:=fun s1=>by
   cases d with
   |none=>rfl
   |some k=>
    cases id with
    |none=>rfl
    |some j=>
     have hne:j≠k:=fun e=>(hd k rfl).2 (by rw [e])
     simp only [St.put,St.mk.injEq,and_true]
     funext n
     by_cases h1:n=j<;>by_cases h2:n=k<;>simp_all
  have e3:∀(os:List (Nat×Ob)) (s1:St),(s1.addO os).t=s1.t:=by
   intro os
   induction os with
   |nil=>intro s1;rfl
   |cons p os ih=>intro s1;obtain ⟨g,ob⟩:=p;show ((s1.setO g ob).addO os).t=_;rw [ih];rfl
  rw [e1,e2] at hk;refine h _ (fun n hn=>?_) hk
  cases id with
  |none=>show (s1.addO os).t n=_;rw [e3,h1]
  |some j=>
   show (if n=j then av else (s1.addO os).t n)=_
   rw [if_neg fun e=>hn (by rw [e]),e3,h1]
 have hgen:∀j:I,(∀x∈j.xs,(s.put d v).ev x=s.ev x)→(∃rt,∀st,∃av os,Gen P (s.put d v) (β+id.getD 0) rt st j av os∧K (((s.put d v).addO os).put id av))→
  ∃rt,∀st,∃av os,Gen P s (β+id.getD 0) rt st j av os∧K' ((s.addO os).put id av):=fun j hj ⟨rt,hg⟩=>⟨rt,fun st=>by
  obtain ⟨av,os,h1,h2⟩:=hg st;exact ⟨av,os,jn4 (fun x hx=>(hj x hx).symm) (fun g _=>jum) (fun _=>ho.symm) h1,hend s os av rfl h2⟩⟩
 have htake:∀{l:List A0} {s1:St} {R R':List Cell→St→Prop},s1.t=s.t→(∀cs s2,s2.t=s.t→R cs (s2.put d v)→R' cs s2)→qA (s1.put d v) l R→qA s1 l R':=by
  intro l
  induction l with
  |nil=>intro s1 R R' h1 h2 hk;exact h2 _ _ h1 hk
  |cons x l ih=>
   intro s1 R R' h1 h2 hk;have plain:∀a:A0,qA (s1.put d v) l (fun cs s'=>R (.a a::cs) s')→qA s1 l (fun cs s'=>R' (.a a::cs) s'):=fun a hk=>ih h1 (fun cs s2 h3=>h2 _ s2 h3) hk
   cases x with
   |h g c p x=>
    obtain ⟨k1,d0,η,k2,k3,k4⟩:=hk;have ho1:(s1.put d v).o=s1.o:=by cases d<;>rfl
    have hrm:(s1.put d v).rm g c=(s1.rm g c).put d v:=by cases d<;>rfl
    rw [ho1] at k2;rw [hrm] at k4;exact ⟨k1,d0,η,k2,k3,ih (by exact h1) (fun cs s2 h3=>h2 _ s2 h3) k4⟩
   |_=>exact ⟨hk.1,plain _ hk.2⟩
 have hdest:∀{e size:Nat} {a:AV} {s1:St} {R R':List D→St→Prop},s1.t=s.t→(∀cs s2,s2.t=s.t→R cs (s2.put d v)→R' cs s2)→jiq (s1.put d v) e size a R→jiq s1 e size a R':=by
  intro e size a s1 R R' h1 h2 hk;unfold jiq at hk⊢;split
  ·exact h2 _ _ h1 hk
  ·have ho1:(s1.put d v).o=s1.o:=by cases d<;>rfl
   rw [ho1] at hk;have hrm:∀g c,(s1.put d v).rm g c=(s1.rm g c).put d v:=fun g c=>by cases d<;>rfl
   have hst:∀g ob,(s1.put d v).setO g ob=(s1.setO g ob).put d v:=fun g ob=>by cases d<;>rfl
   rcases hk with ⟨k1,cs,η,k2,k3,k4⟩|⟨k,k1,sz,tyo,ds0,cs,η,k2,k3,k4,k5⟩
   ·rw [hrm] at k4
    exact .inl ⟨k1,cs,η,k2,k3,h2 _ _ h1 k4⟩
   ·refine .inr ⟨k,k1,sz,tyo,ds0,cs,η,k2,k3,k4,fun η' hη=>?_⟩
    have k6:=k5 η' hη;rw [hst] at k6;exact h2 _ _ h1 k6
  ·simp_all
 have hsrc:∀{size:Nat} {a:AV} {s1:St} {R R':List D→St→Prop},s1.t=s.t→(∀cs s2,s2.t=s.t→R cs (s2.put d v)→R' cs s2)→jvx (s1.put d v) size a R→jvx s1 size a R':=by
  intro size a s1 R R' h1 h2 hk;have ho1:(s1.put d v).o=s1.o:=by cases d<;>rfl
  unfold jvx at hk⊢;split
  ·exact h2 _ _ h1 hk
  ·obtain ⟨k1,k2,k3,k4⟩:=hk;exact ⟨k1,k2,k3,h2 _ _ h1 k4⟩
  ·obtain ⟨dd,k1,k2,k3,k4⟩:=hk;exact ⟨dd,vZ (fun g _=>by rw [ho1]) k1,k2,k3,h2 _ _ h1 k4⟩
  ·obtain ⟨dd,k1,k2,k3⟩:=hk
   refine ⟨dd,vZ (fun g _=>by rw [ho1]) k1,k2,?_⟩
   have hrm:∀g c,(s1.put d v).rm g c=(s1.rm g c).put d v:=fun g c=>by cases d<;>rfl
   split
   ·rw [if_pos (by assumption)] at k3;exact h2 _ _ h1 k3
   ·rw [if_neg (by assumption),hrm] at k3;exact ⟨k3.1,k3.2.1,h2 _ _ (by exact h1) k3.2.2⟩
  ·simp_all
 cases i with
 |box ty n x=>
  obtain ⟨l,h1,h2,h3⟩:=hr;rw [hev x (by simp [I.xs])] at h1
  exact ⟨l,h1,h2,htake rfl (fun cs s2 h4 h5 b=>hend s2 _ _ h4 (h5 b)) h3⟩
 |bsl e size n ks ps=>
  obtain ⟨l,h1,h3⟩:=hr;rw [jor (s:=s) fun x hx=>hev x (by simpa [I.xs] using hx)] at h1
  exact ⟨l,h1,htake rfl (fun cs s2 h4 ⟨ds,h5,h6⟩=>⟨ds,h5,fun η=>hend s2 _ _ h4 (h6 η)⟩) h3⟩
 |st n ks a x=>
  obtain ⟨h0,l,h1,h2,h3⟩:=hr;simp only at h0;subst h0;rw [hev x (by simp [I.xs])] at h1
  rw [hev a (by simp [I.xs])] at h3
  refine ⟨rfl,l,h1,h2,htake rfl (fun cs s2 h4 h5=>?_) h3⟩
  have ho2:(s2.put d v).o=s2.o:=by cases d<;>rfl
  have hfin:∀g ob,K ((s2.put d v).setO g ob)→K' (s2.setO g ob):=fun g ob hk=>hend s2 [(g,ob)] (.unk) h4 hk
  split at h5
  ·obtain ⟨ty,ds,k1,k2,k3⟩:=h5
   rw [ho2] at k1;exact ⟨ty,ds,k1,k2,hfin _ _ k3⟩
  ·obtain ⟨k0,ds,k1,d0,η,dd,k2,k3,k4,k5,k6,k7⟩:=h5
   rw [ho2] at k2 k7;exact ⟨k0,ds,k1,d0,η,dd,k2,k3,k4,k5,k6,jp7 (fun η' hk=>hfin _ _ hk) k7⟩
  ·exact h5.elim
 |app e size bytes x y=>
  have hr':=hr;simp only [vd] at hr'⊢;rw [hev x (by simp [I.xs]),hev y (by simp [I.xs])] at hr'
  exact hsrc rfl (fun ys s1 h1 hk=>hdest h1 (fun xs s2 h2 ⟨k1,k2,k3⟩=>⟨k1,k2,fun η=>hend s2 _ _ h2 (k3 η)⟩) hk) hr'
 |apps e x y=>
  obtain ⟨b,h1,h2⟩:=hr;rw [hev y (by simp [I.xs])] at h1
  rw [hev x (by simp [I.xs])] at h2
  exact ⟨b,h1,hdest rfl (fun xs s2 h2 ⟨k1,k3⟩=>⟨k1,fun η=>hend s2 _ _ h2 (k3 η)⟩) h2⟩
 |clr size zs x=>
  obtain ⟨h0,h3⟩:=hr;simp only at h0;subst h0;rw [hev x (by simp [I.xs])] at h3
  refine ⟨rfl,?_⟩;split at h3
  ·exact hend s [] .unk rfl h3
  ·obtain ⟨k0,k1,d0,η,dd,k2,k3,k4,k5,k6,k7,k8⟩:=h3
   rw [ho] at k2 k8;exact ⟨k0,k1,d0,η,dd,k2,k3,k4,k5,k6,k7,jp7 (fun η' hk=>hend s [(_,_)] .unk rfl hk) k8⟩
  ·exact h3.elim
 |call f args=>
  rcases hr with hg|ht|ht
  ·exact .inl (hgen _ hev hg)
  ·right;left
   rw [jcx (s:=s) fun x hx=>hev x (by simpa [I.xs] using hx),ho] at ht
   refine ht.mono fun rt o' hR η=>?_
   have:=hR η;exact hend ⟨s.t,o'⟩ _ _ rfl (by cases d<;>exact this)
  ·right;right
   rw [jcx (s:=s) fun x hx=>hev x (by simpa [I.xs] using hx),ho] at ht
   refine ht.mono fun av o' hR=>?_
   exact hend ⟨s.t,o'⟩ [] av rfl (by cases d<;>exact hR)
 |callv x args=>
  rcases hr with hg|⟨f,caps,h0,ht⟩
  ·exact .inl (hgen _ hev hg)
  ·right
   rw [hev x (by simp [I.xs])] at h0
   rw [jcx (s:=s) (l:=args) fun y hy=>hev y (by simp [I.xs,hy]),ho] at ht
   refine ⟨f,caps,h0,ht.mono fun rt o' hR η=>?_⟩
   have:=hR η;exact hend ⟨s.t,o'⟩ _ _ rfl (by cases d<;>exact this)
 |_=>exact hgen _ hev hr
theorem je9 {i:Ins} {K K':St→Prop} (h:∀s,K s→K' s) (hr:vd P β i s K):vd P β i s K':=
 jty (d:=none) (v:=.unk) (fun k hk=>by cases hk) (fun s2 _ hk=>h s2 hk) hr
end
inductive Reach (ops:Array Oper):Nat→Nat→Prop where
 |one {j i:Nat} {o:Oper} {e:Edge} (hj:ops[j]?=some o) (he:e∈o.after) (hb:Region.binds .any e=true) (hi:e.on=i):Reach ops j i
 |more {j i:Nat} {o:Oper} {e:Edge} (hj:ops[j]?=some o) (he:e∈o.after) (hb:Region.binds .any e=true) (hi:Reach ops e.on i):Reach ops j i
theorem Reach.trans {ops:Array Oper} {j i k:Nat} (h:Reach ops j i) (h2:Reach ops i k):Reach ops j k:=by
 induction h with
 |one hj he hb hi=>subst hi;exact .more hj he hb h2
 |more hj he hb _ ih=>exact .more hj he hb (ih h2)
theorem jj3 {ops:Array Oper} {j0:Nat}:∀{n:Nat} {seen todo:List Nat},(∀x∈seen,Reach ops j0 x)→(∀x∈todo,x=j0∨Reach ops j0 x)→∀x∈jzO ops n seen todo,Reach ops j0 x
 |0,_,_,h,_,x,hx=>h x (by simpa [jzO] using hx)
 |n+1,_,[],h,_,x,hx=>h x (by simpa [jzO] using hx)
 |n+1,seen,j::todo,h,h2,x,hx=>by
  simp only [jzO] at hx;split at hx
  ·rename_i o ho
   have hnew:∀y∈(o.after.toList.filter fun e=>Region.binds .any e&&!seen.contains e.on).map (·.on),Reach ops j0 y:=by
    intro y hy;obtain ⟨e,he,rfl⟩:=List.mem_map.1 hy;obtain ⟨he1,he2⟩:=List.mem_filter.1 he
    have hb:Region.binds .any e=true:=by
     cases hq:Region.binds .any e with
     |true=>rfl
     |false=>rw [hq] at he2;simp at he2
    have h1:Reach ops j e.on:=.one ho (by simpa using he1) hb rfl
    rcases h2 j (by simp) with rfl|h3
    ·exact h1
    ·exact h3.trans h1
   refine jj3 (n:=n) ?_ ?_ x hx
   ·intro y hy
    rcases List.mem_append.1 hy with hy|hy
    ·exact hnew y hy
    ·exact h y hy
   ·intro y hy
    rcases List.mem_append.1 hy with hy|hy
    ·exact .inr (hnew y hy)
    ·exact h2 y (by simp [hy])
  ·exact jj3 (n:=n) h (fun y hy=>h2 y (by simp [hy])) x hx
theorem joQ {ops:Array Oper} {n j i:Nat} (h:jmO ops n j i=true):Reach ops j i:=by
 unfold jmO at h;rw [List.contains_iff_mem] at h;exact jj3 (by simp) (by simp) i h
def Closed (ops:Array Oper) (listed:Array Bool):Prop:=∀(k:Nat) (o:Oper),ops[k]?=some o→listed.getD k false=true→∀e∈o.after,Region.binds .any e=true→listed.getD e.on false=true
theorem Closed.reach {ops:Array Oper} {listed:Array Bool} (h:Closed ops listed):∀{j i:Nat},Reach ops j i→(∀(o:Oper),ops[j]?=some o→∀e∈o.after,Region.binds .any e=true→listed.getD e.on false=true)→listed.getD i false=true:=by
 intro j i hr
 induction hr with
 |one hj he hb hi=>intro hl;subst hi;exact hl _ hj _ he hb
 |more hj he hb _ ih=>intro hl;exact ih fun o ho e' he' hb'=>h _ o ho (hl _ hj _ he hb) e' he' hb'
theorem Closed.add {ops:Array Oper} {listed:Array Bool} {j:Nat} (h:Closed ops listed) (hj:j∈Region.ready .any ops listed):Closed ops (listed.setIfInBounds j true):=by
 intro k o ho hk e he hb;obtain ⟨_,oj,hoj,hall⟩:=mem_ready.1 hj;by_cases hkj:k=j
 ·subst hkj
  rw [ho] at hoj;cases hoj;exact getD_set_true (hall e he hb)
 ·rw [getD_set_ne false (Ne.symm hkj)] at hk
  exact getD_set_true (h k o ho hk e he hb)
theorem jzn {listed:Array Bool} {i:Nat} (h:listed.getD i true=false):listed.getD i false=false:=by
 rcases Nat.lt_or_ge i listed.size with h'|h'
 ·simpa [h'] using h
 ·simp [Array.getElem?_eq_none h'] at h
section
variable {P:Program} {β N:Nat} {ops:Array Oper} {is:List Ins} {Q:St→Prop}
def jhU (P:Program) (β:Nat) (is:List Ins) (j:Nat) (K:St→Prop) (s:St):Prop:=match is[j]? with
 |none=>False
 |some i=>match vL s i.g with
  |some true=>vd P β i s K
  |some false=>K (s.put i.d (.c (.v undef)))
  |none=>False
def jza (ops:Array Oper) (j:Nat) (l:List (Nat×List Lk)) (s s':St):Prop:=∀p∈l,¬Reach ops j p.1→∀k∈p.2,jqI s s' k
def juU (P:Program) (β:Nat) (ops:Array Oper) (is:List Ins) (Q:St→Prop):Nat→List (Nat×List Lk)→Array Bool→St→Prop
 |0,_,listed,s=>Region.ready .any ops listed=[]∧Q s
 |f+1,l,listed,s=>(Region.ready .any ops listed=[]→Q s)∧∀j∈Region.ready .any ops listed,jhU P β is j (fun s'=>jza ops j l s s'∧juU P β ops is Q f l (listed.setIfInBounds j true) s') s
theorem jlh {j:Nat} {K K':St→Prop} {s:St} (h:∀s,K s→K' s) (hs:jhU P β is j K s):jhU P β is j K' s:=by
 unfold jhU at hs⊢;split
 ·simp_all
 ·rename_i i hi
  simp only [hi] at hs;split
  ·rename_i hw;simp only [hw] at hs;exact je9 h hs
  ·rename_i hw;simp only [hw] at hs;exact h _ hs
  ·rename_i hw;simp only [hw] at hs
theorem jjF:∀{l:List Oper} {is:List Ins},jjG P N ops l=some is→is.length=l.length∧∀(j:Nat) (o:Oper),l[j]?=some o→∃i,is[j]?=some i∧jw5 P N ops o=some i
 |[],is,h=>by simp [jjG] at h;subst h;simp
 |o::l,is,h=>by
  simp only [jjG] at h;split at h
  ·rename_i i r h1 h2
   simp at h;subst h;obtain ⟨h3,h4⟩:=jjF h2;refine ⟨by simp [h3],fun j o' ho=>?_⟩
   cases j with
   |zero=>simp at ho;subst ho;exact ⟨i,rfl,h1⟩
   |succ j=>exact h4 j o' (by simpa using ho)
  ·simp at h
theorem jvt {B:Nat} {w0:World} {Q':Exit→Act→World→Prop} (hc:jjG P N ops ops.toList=some is) (hQ:∀s a w F,RelF B w0 N s a w F→Q s→Q' .normal a w):∀(f:Nat) (l:List (Nat×List Lk)) (listed:Array Bool) (s:St) (a:Act) (w:World) (F:Nat→List Nat),
 RelF B w0 N s a w F→juU P β ops is Q f l listed s→wpAny P .any ops Q' f listed a w
 |0,_,_,s,a,w,F,h,hs=>⟨hs.1,hQ _ _ _ _ h hs.2⟩
 |f+1,l,listed,s,a,w,F,h,hs=>by
  refine ⟨fun h0=>hQ _ _ _ _ h (hs.1 h0),fun j hj=>?_⟩
  have hst:=hs.2 j hj;obtain ⟨_,o,ho,_⟩:=mem_ready.1 hj;obtain ⟨i,hi,hci⟩:=(jjF hc).2 j o (by simpa using ho)
  obtain ⟨e1,e2,e3,e4⟩:=jq5 hci;unfold jhU at hst;simp only [hi] at hst;unfold wpOp;simp only [ho];split at hst
  ·rename_i hw
   rw [if_pos (jir h e4 hw)];refine .inl (jA2 e2 (g:=i.g) (β:=β) (K:=fun s'=>jza ops j l s s'∧juU P β ops is Q f l (listed.setIfInBounds j true) s') h e3 (by rw [←e1];exact hst) _ _ fun a' w' ⟨s',F',h3,h4⟩=>jvt hc hQ f l _ _ _ _ _ h3 h4.2)
  ·rename_i hw
   rw [if_neg (by rw [jir h e4 hw];simp)]
   rw [e1] at hst;exact jvt hc hQ f l _ _ _ _ _ (h.put (u:=undef) (v:=.c (.v undef)) rfl e3) hst.2
  ·exact hst.elim
theorem jri {p:Nat×List Lk}:∀(f:Nat) (l:List (Nat×List Lk)) (listed:Array Bool) (s:St),juU P β ops is Q f (p::l) listed s→juU P β ops is Q f l listed s
 |0,_,_,_,h=>h
 |f+1,l,listed,s,h=>⟨h.1,fun j hj=>jlh (fun s' ⟨h1,h2⟩=>⟨fun q hq=>h1 q (by simp [hq]),jri f l _ s' h2⟩) (h.2 j hj)⟩
theorem jvs {i:Nat}:∀(f:Nat) (l:List (Nat×List Lk)) (listed:Array Bool) (s:St),juU P β ops is Q f l listed s→juU P β ops is Q f ((i,[])::l) listed s
 |0,_,_,_,h=>h
 |f+1,l,listed,s,h=>⟨h.1,fun j hj=>jlh (fun s' ⟨h1,h2⟩=>⟨fun q hq hr g hg=>by
   rcases List.mem_cons.1 hq with rfl|hq
   ·simp at hg
   ·exact h1 q hq hr g hg,jvs f l _ s' h2⟩) (h.2 j hj)⟩
def EY (P:Program) (x:Ins) (s:St) (v:AV) (ids:List Lk):Prop:=
 (vL s x.g=some true∧x.i.pureB=true∧ids=x.i.looks s∧∀d rt st,Gen P s d rt st x.i v [])∨(vL s x.g=some false∧v=.c (.v undef)∧ids=[])
theorem EY.run {x:Ins} {s:St} {v:AV} {ids:List Lk} {i:Nat} {K:St→Prop} (his:is[i]?=some x) (h:EY P x s v ids) (hk:K (s.put x.d v)):jhU P β is i K s:=by
 unfold jhU;simp only [his];rcases h with ⟨h1,h2,_,h3⟩|⟨h1,rfl,_⟩
 ·simp only [h1]
  rw [ji5 h2];exact ⟨.c (.val undef),fun st=>⟨v,[],h3 _ _ _,hk⟩⟩
 ·simp only [h1];exact hk
theorem jkE {s s2:St} {g:Option (Nat×Bool)} (h:∀t w,g=some (t,w)→s2.t t=s.t t):vL s2 g=vL s g:=by
 cases g with
 |none=>rfl
 |some p=>obtain ⟨t,w⟩:=p;simp only [vL,h t w rfl]
theorem EY.stable {x:Ins} {s s2:St} {v:AV} {ids:List Lk} (h:EY P x s v ids) (ht:∀n∈x.uses,s2.t n=s.t n) (ho:∀k∈ids,jqI s s2 k):EY P x s2 v ids:=by
 have hev:∀y∈x.i.xs,s2.ev y=s.ev y:=fun y hy=>jqW fun n hn=>ht n (by
  subst hn;exact List.mem_append_left _ (List.mem_filterMap.2 ⟨_,hy,rfl⟩))
 have hw:vL s2 x.g=vL s x.g:=jkE fun t w hg=>ht t (by simp [Ins.uses,hg])
 rcases h with ⟨h1,h2,h3,h4⟩|⟨h1,h2,h3⟩
 ·refine .inl ⟨by rw [hw];exact h1,h2,by rw [jpo hev];exact h3,fun d rt st=>jn4 hev (fun g hg=>ho g (by rw [h3];exact hg)) (fun hp=>by rw [h2] at hp;cases hp) (h4 d rt st)⟩
 ·exact .inr ⟨by rw [hw];exact h1,h2,h3⟩
theorem jsM {x y:Ins} (h:jlt x y=true):(∀d,x.d=some d→d∉y.uses∧y.d≠some d)∧∀d,y.d=some d→d∉x.uses:=by
 simp only [jlt,Bool.and_eq_true] at h;refine ⟨fun d hd=>?_,fun d hd=>?_⟩
 ·have:=h.1;rw [hd] at this;simpa using this
 ·have:=h.2;rw [hd] at this;simpa using this
theorem juT {j:Nat} {x y:Ins} {s:St} {v:AV} {K K':St→Prop} (hy:is[j]?=some y) (hap:jlt x y=true) (h:∀s2:St,(∀n∈x.uses,s2.t n=s.t n)→K (s2.put x.d v)→K' s2) (hs:jhU P β is j K (s.put x.d v)):jhU P β is j K' s:=by
 obtain ⟨h1,h2⟩:=jsM hap
 have hw:vL (s.put x.d v) y.g=vL s y.g:=jkE fun t w hg=>by
  cases hd:x.d with
  |none=>rfl
  |some d=>
   have hne:t≠d:=fun e=>(h1 d hd).1 (by simp [Ins.uses,hg,e])
   show (if t=d then v else s.t t)=_
   rw [if_neg hne]
 unfold jhU at hs⊢;simp only [hy,hw] at hs⊢;split at hs
 ·refine jty (fun k hk=>⟨fun z hz e=>(h1 k hk).1 ?_,(h1 k hk).2⟩) (fun s2 ht hk=>h s2 (fun n hn=>ht n fun e=>h2 n e hn) hk) hs
  subst e;exact List.mem_append_left _ (List.mem_filterMap.2 ⟨_,hz,rfl⟩)
 ·refine h _ (fun n hn=>?_) ?_
  ·cases hd:y.d with
   |none=>rfl
   |some d=>
    show (if n=d then _ else s.t n)=_
    rw [if_neg fun (e:n=d)=>h2 d hd (e▸hn)]
  ·have e:(s.put x.d v).put y.d (.c (.v undef))=(s.put y.d (.c (.v undef))).put x.d v:=by
    cases hd:x.d with
    |none=>rfl
    |some k=>
     cases hd2:y.d with
     |none=>rfl
     |some m=>
      have hne:m≠k:=fun e=>(h1 k hd).2 (by rw [hd2,e])
      simp only [St.put,St.mk.injEq,and_true]
      funext n
      by_cases h1:n=m<;>by_cases h2:n=k<;>simp_all
   rw [←e];exact hs
 ·exact hs
theorem joI {i:Nat} {x:Ins} {v:AV} {ids:List Lk} (hlen:is.length=ops.size) (his:is[i]?=some x):∀(f:Nat) (l:List (Nat×List Lk)) (listed:Array Bool) (s:St),Closed ops listed→
 (∀(j:Nat) (oj:Oper) (y:Ins),ops[j]?=some oj→is[j]?=some y→j≠i→listed.getD j true=false→(∀e∈oj.after,Region.binds .any e=true→e.on≠i)→jlt x y=true)→
 i∈Region.ready .any ops listed→EY P x s v ids→juU P β ops is Q f ((i,ids)::l) (listed.setIfInBounds i true) (s.put x.d v)→juU P β ops is Q (f+1) l listed s:=by
 intro f
 induction f with
 |zero=>
  intro l listed s _ _ hr hy H;refine ⟨fun h=>(by rw [h] at hr;cases hr),fun j hj=>?_⟩
  by_cases hji:j=i
  ·subst hji
   exact hy.run his ⟨fun p _ _ g _=>jmg,H⟩
  ·have:=ready_mono hj hji
   rw [H.1] at this;cases this
 |succ f ih=>
  intro l listed s hcl hfree hr hy H;refine ⟨fun h=>(by rw [h] at hr;cases hr),fun j hj=>?_⟩
  by_cases hji:j=i
  ·subst hji
   exact hy.run his ⟨fun p _ _ g _=>jmg,jri _ _ _ _ H⟩
  ·have h1:=H.2 j (ready_mono hj hji)
   obtain ⟨hjun,oj,hoj,hall⟩:=mem_ready.1 hj;have hiun:=(mem_ready.1 hr).1
   have hnr:¬Reach ops j i:=fun hh=>by
    have:=hcl.reach hh fun o ho e he hb=>by rw [hoj] at ho;cases ho;exact hall e he hb
    rw [jzn hiun] at this;cases this
   have hnot:∀e∈oj.after,Region.binds .any e=true→e.on≠i:=fun e he hb heq=>hnr (.one hoj he hb heq)
   have hjlt:j<is.length:=by rw [hlen];exact (Array.getElem?_eq_some_iff.1 hoj).1
   obtain ⟨y,hyj⟩:∃y,is[j]?=some y:=⟨is[j],List.getElem?_eq_getElem hjlt⟩;refine juT hyj (hfree j oj y hoj hyj hji hjun hnot) (fun s2 ht ⟨k1,k2⟩=>?_) h1
   refine ⟨fun p hp hnp g hg=>?_,?_⟩
   ·have:=k1 p (by simp [hp]) hnp g hg
    exact kept_put2.1 this
   ·have hyk:EY P x s2 v ids:=hy.stable ht fun g hg=>by
     have:=k1 (i,ids) (by simp) hnr g hg
     exact kept_put2.1 this
    refine ih l (listed.setIfInBounds j true) s2 (hcl.add hj) (fun k ok z hk hz hki hun hno=>?_) (ready_mono hr (Ne.symm hji)) hyk ?_
    ·refine hfree k ok z hk hz hki ?_ hno
     by_cases hjk:j=k
     ·subst hjk;exact hjun
     ·rw [getD_set_ne true hjk] at hun;exact hun
    ·rw [Array.setIfInBounds_comm _ _ hji]
     exact k2
theorem juB {i:Nat} {x:Ins} {listed:Array Bool} (his:is[i]?=some x) (h:jzp ops is listed i=true):x.i.pureB=true∧∀(j:Nat) (oj:Oper) (y:Ins),ops[j]?=some oj→is[j]?=some y→j≠i→listed.getD j true=false→(∀e∈oj.after,Region.binds .any e=true→e.on≠i)→jlt x y=true:=by
 simp only [jzp,his,Bool.and_eq_true,List.all_eq_true,List.mem_range] at h;refine ⟨h.1,fun j oj y hj hy hne hun hno=>?_⟩
 have h1:=h.2 j (Array.getElem?_eq_some_iff.1 hj).1;simp only [hj,hy,Bool.or_eq_true,beq_iff_eq,hne,false_or,hun,Bool.false_eq_true] at h1;rcases h1 with h1|h1
 ·obtain ⟨e,he,hb⟩:=Array.any_eq_true'.1 h1
  simp only [Bool.and_eq_true,beq_iff_eq] at hb;exact absurd hb.2 (hno e he hb.1)
 ·exact h1
theorem jnV {s s':St}:∀{l:List Lk},jpq s s' l→∀g∈l,jqI s s' g
 |[],_,g,hg=>by simp at hg
 |k::l,h,g,hg=>by
  rcases List.mem_cons.1 hg with rfl|hg
  ·exact h.1
  ·exact jnV h.2 g hg
theorem jnU {s s':St} {chk:List Nat}:∀{l:List (Nat×List Lk)},jmi s s' chk l→∀p∈l,p.1∈chk→∀g∈p.2,jqI s s' g
 |[],_,p,hp,_=>by simp at hp
 |(q,ids)::l,h,p,hp,hc=>by
  rcases List.mem_cons.1 hp with rfl|hp
  ·have:=h.1
   rw [if_pos (by simpa using hc)] at this
   exact jnV this
  ·exact jnU h.2 p hp hc
theorem ja4 (hlen:is.length=ops.size):∀(f:Nat) (pures:List Nat) (listed:Array Bool) (t:T) (l:List (Nat×List Lk)) (s:St),mkT ops is f pures listed=some t→(∀p∈l,p.1∈pures)→Closed ops listed→zc P β t l s Q→juU P β ops is Q f l listed s
 |0,pures,listed,t,l,s,h,_,_,hr=>by
  simp only [mkT] at h;split at h
  ·rename_i he
   simp at h;subst h;exact ⟨by simpa using he,hr⟩
  ·simp at h
 |f+1,pures,listed,t,l,s,h,hl,hcl,hr=>by
  simp only [mkT] at h;split at h
  ·rename_i he
   simp at h;subst h;have he':Region.ready .any ops listed=[]:=by simpa using he
   exact ⟨fun _=>hr,fun j hj=>by rw [he'] at hj;cases hj⟩
  ·rename_i hne
   split at h
   ·rename_i i hfi
    have hmem:=List.mem_of_find?_eq_some hfi;have hfree:=List.find?_some hfi;split at h
    ·rename_i x t' his ht
     simp at h;subst h;obtain ⟨hp,hfr⟩:=juB his hfree;simp only [zc] at hr;split at hr
     ·rename_i hw
      rw [ji5 hp] at hr;obtain ⟨rt,hg⟩:=hr;obtain ⟨av,os,h1,h2⟩:=hg ⟨0,fun _ _=>undef⟩
      have h3:=fun d rt st=>jwH (d':=d) (rt':=rt) (st':=st) hp h1
      obtain rfl:=(h3 0 rt ⟨0,fun _ _=>undef⟩).2
      exact joI hlen his f l listed s hcl hfr hmem (.inl ⟨hw,hp,rfl,fun d rt st=>(h3 d rt st).1⟩) (ja4 hlen f _ _ _ _ _ ht (fun p hp'=>by
       rcases List.mem_cons.1 hp' with rfl|hp'
       ·simp
       ·simp [hl p hp']) (hcl.add hmem) h2)
     ·rename_i hw
      exact joI hlen his f l listed s hcl hfr hmem (.inr ⟨hw,rfl,rfl⟩) (jvs _ _ _ _ (ja4 hlen f _ _ _ _ _ ht (fun p hp'=>by simp [hl p hp']) (hcl.add hmem) hr))
     ·exact hr.elim
    ·simp at h
   ·rename_i hnf
    refine ⟨fun h0=>absurd (by simpa using h0) hne,?_⟩
    have key:∀(r:List Nat) (t:T),(∀j∈r,j∈Region.ready .any ops listed)→(r.foldr (fun j acc=>match is[j]?,mkT ops is f pures (listed.setIfInBounds j true),acc with
     |some x,some t,some rest=>some (.alt x (pures.filter fun p=>!jmO ops ops.size j p) t rest)
     |_,_,_=>none) (some .stop))=some t→zc P β t l s Q→∀j∈r,jhU P β is j (fun s'=>jza ops j l s s'∧juU P β ops is Q f l (listed.setIfInBounds j true) s') s:=by
     intro r
     induction r with
     |nil=>intro _ _ _ _ j hj;cases hj
     |cons k r ih=>
      intro t hsub h hr j hj;simp only [List.foldr_cons] at h;split at h
      ·rename_i x t' rest hx ht hrest
       simp at h;subst h;obtain ⟨hr1,hr2⟩:=hr;rcases List.mem_cons.1 hj with rfl|hj
       ·have hjr:=hsub j (by simp)
        unfold jhU;simp only [hx];split at hr1
        ·rename_i hw
         simp only [hw];refine je9 (fun s' ⟨k1,k2⟩=>⟨fun p hp hnp g hg=>?_,ja4 hlen f _ _ _ _ _ ht hl (hcl.add hjr) k2⟩) hr1
         refine jnU k1 p hp (List.mem_filter.2 ⟨hl p hp,?_⟩) g hg;cases hwt:jmO ops ops.size j p.1 with
         |false=>rfl
         |true=>exact absurd (joQ hwt) hnp
        ·rename_i hw
         simp only [hw];exact ⟨fun p _ _ g _=>jmg,ja4 hlen f _ _ _ _ _ ht hl (hcl.add hjr) hr1⟩
        ·exact hr1.elim
       ·exact ih rest (fun k hk=>hsub k (by simp [hk])) hrest hr2 j hj
      ·simp at h
    exact key _ t (fun j hj=>hj) h hr
theorem jzu {B:Nat} {w0 w:World} {s:St} {a:Act} {F:Nat→List Nat} {id:Nat} {t:T} {Q':Exit→Act→World→Prop} (h:RelF B w0 N s a w F) (hc:jw4 P N ops=some t) (hr:zc P β t [] s Q) (hQ:∀s a w F,RelF B w0 N s a w F→Q s→Q' .normal a w):
 (Code.region id ops true).wp P Q' a w:=by
 unfold jw4 at hc;split at hc
 ·rename_i hm
  split at hc
  ·rename_i is hcl
   have hlen:=(jjF hcl).1;simp only [Array.length_toList] at hlen;refine wp_region_any hm (jvt hcl hQ ops.size [] _ s a _ F (h.world (w':=w.drew) (juV w)) (ja4 hlen _ _ _ _ _ _ hc (by simp) (fun k o ho hk=>?_) hr))
   exfalso;have hlt:=(Array.getElem?_eq_some_iff.1 ho).1;simp [hlt] at hk
  ·simp at hc
 ·simp at hc
end
end Go.Proofs.YtcehjhiglmifjaaGreat
