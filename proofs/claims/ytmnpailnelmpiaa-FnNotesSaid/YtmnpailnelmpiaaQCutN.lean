/- Parts. -/
import Derived.Test.YtmnpailnelmpiaaQE4e
set_option linter.unusedSimpArgs false
set_option linter.unusedVariables false
namespace Go.Proofs.Ytmnpailnelmpiaa
open Go.RowKit Go.Sort
section
variable {P:Program} {B:Nat} {w w0:World} {F:Nat→List Nat} {o:Nat→Ob}
theorem ji3 {own:Bool}:∀{k:Nat} {cs:List D} {vs:List Value} {S:List Nat} {d:D},RepL w own cs vs S→cs[k]?=some d→
 ∃v SA Sd SC,vs[k]?=some v∧S=SA++Sd++SC∧Rep w own d v Sd∧∀d' Sd',Rep w own d' v Sd'→RepL w own (cs.set k d') vs (SA++Sd'++SC)
 |_,[],_,_,_,_,h=>by simp at h
 |0,e::cs,_,_,d,⟨v,vs',S1,S2,rfl,rfl,h1,h2⟩,h=>by
  simp at h;subst h;exact ⟨v,[],S1,S2,rfl,by simp,h1,fun d' Sd' h3=>⟨v,vs',Sd',S2,rfl,by simp,h3,h2⟩⟩
 |k+1,e::cs,_,_,d,⟨v,vs',S1,S2,rfl,rfl,h1,h2⟩,h=>by
  simp at h;obtain ⟨v2,SA,Sd,SC,a1,rfl,a3,a4⟩:=ji3 h2 h;exact ⟨v2,S1++SA,Sd,SC,by simpa using a1,by simp,a3,fun d' Sd' h3=>⟨v,vs',S1,SA++Sd'++SC,rfl,by simp,h1,a4 d' Sd' h3⟩⟩
theorem jfE:∀{c:Nat} {l:List Cell} {us:List Value} {S:List Nat} {d:D} {η:jm},CRel B w l us S→l[c]?=some (.own d η)→
 ∃u SA Sd SC,S=SA++Sd++SC∧d.isSl=true∧Rep w true d u Sd∧(∀p,η p=hdr w p d u)∧∀d' η' Sd',d'.isSl=true→Rep w true d' u Sd'→(∀p,η' p=hdr w p d' u)→CRel B w (l.set c (.own d' η')) us (SA++Sd'++SC)
 |_,[],_,_,_,_,_,h=>by simp at h
 |0,.a _::l,_,_,d,η,_,h=>by simp at h
 |0,.own e ε::l,_,_,d,η,⟨u,us',S1,S2,rfl,rfl,h1,h2,h3,h4⟩,h=>by
  simp at h;obtain ⟨rfl,rfl⟩:=h;exact ⟨u,[],S1,S2,by simp,h1,h2,h3,fun d' η' Sd' a1 a2 a3=>⟨u,us',Sd',S2,rfl,by simp,a1,a2,a3,h4⟩⟩
 |c+1,.a x::l,_,_,d,η,⟨u,us',rfl,h1,h2⟩,h=>by
  simp at h;obtain ⟨v,SA,Sd,SC,a1,a2,a3,a4,a5⟩:=jfE h2 h;exact ⟨v,SA,Sd,SC,a1,a2,a3,a4,fun d' η' Sd' b1 b2 b3=>⟨u,us',rfl,h1,a5 d' η' Sd' b1 b2 b3⟩⟩
 |c+1,.own e ε::l,_,_,d,η,⟨u,us',S1,S2,rfl,rfl,h1,h2,h3,h4⟩,h=>by
  simp at h;obtain ⟨v,SA,Sd,SC,rfl,a2,a3,a4,a5⟩:=jfE h4 h;exact ⟨v,S1++SA,Sd,SC,by simp,a2,a3,a4,fun d' η' Sd' b1 b2 b3=>⟨u,us',S1,SA++Sd'++SC,rfl,by simp,h1,h2,h3,a5 d' η' Sd' b1 b2 b3⟩⟩
theorem jpG {ob:Ob} {c:Nat} {S:List Nat} {d:D} {η:jm} (ho:ORel B w ob S) (h:ob.own c=some (d,η)):
 ∃u SA Sd SC,S=SA++Sd++SC∧d.isSl=true∧Rep w true d u Sd∧(∀p,η p=hdr w p d u)∧∀d' η' Sd',d'.isSl=true→Rep w true d' u Sd'→(∀p,η' p=hdr w p d' u)→ORel B w (ob.putOwn c d' η') (SA++Sd'++SC):=by
 cases ob with
 |none=>cases h
 |loose e ε=>
  cases c with
  |succ c=>cases h
  |zero=>
   simp only [Ob.own,Option.some.injEq,Prod.mk.injEq] at h;obtain ⟨rfl,rfl⟩:=h;obtain ⟨h1,u,h2,h3⟩:=ho;exact ⟨u,[],S,[],by simp,h1,h2,h3,fun d' η' Sd' a1 a2 a3=>⟨a1,u,by simpa using a2,a3⟩⟩
 |box b ty l=>
  simp only [Ob.own] at h;split at h
  ·rename_i e ε he
   simp only [Option.some.injEq,Prod.mk.injEq] at h;obtain ⟨rfl,rfl⟩:=h;obtain ⟨us,S1,h1,h2,rfl⟩:=ho;obtain ⟨u,SA,Sd,SC,rfl,a2,a3,a4,a5⟩:=jfE h2 he;exact ⟨u,b::SA,Sd,SC,by simp,a2,a3,a4,fun d' η' Sd' b1 b2 b3=>⟨us,SA++Sd'++SC,h1,a5 d' η' Sd' b1 b2 b3,by simp⟩⟩
  ·cases h
theorem jkx {B:Nat} {w:World} {ob:Ob} {S:List Nat} {c k sz tyo:Nat} {ds0:List D} {e:D} {η:jm} (h:ORel B w ob S) (ho:ob.own c=some (.sl sz tyo ds0,η)) (hk:ds0[k]?=some e):
 ∃v Sk,Rep w true e v Sk∧(e.isSl=true→η [k]=v)∧(∀x,e=.val x→v=x)∧(∀b∈Sk,b∈S)∧(S.Nodup→Sk.Nodup)∧∀e' Sk',Rep w true e' v Sk'→∃η' S',ORel B w (ob.putOwn c (.sl sz tyo (ds0.set k e')) η') S'∧η' []=η []∧∃R,S.Perm (R++Sk)∧S'.Perm (R++Sk'):=by
 obtain ⟨u,SA,Sd,SC,e1,a1,a2,a3,a4⟩:=jpG h ho;obtain ⟨vs,T,S',hrow,hrl,rfl⟩:=a2;obtain ⟨v,SA',Sk,SC',b1,rfl,b3,b4⟩:=ji3 hrl hk
 have hperm:∀X:List Nat,(SA++(T++(SA'++X++SC'))++SC).Perm ((SA++(T++(SA'++[]++SC'))++SC)++X):=fun X=>by
  have e1:SA++(T++(SA'++X++SC'))++SC=(SA++(T++SA'))++(X++(SC'++SC)):=by simp
  have e2:(SA++(T++(SA'++[]++SC'))++SC)++X=(SA++(T++SA'))++((SC'++SC)++X):=by simp
  rw [e1,e2];exact List.Perm.append_left _ List.perm_append_comm
 refine ⟨v,Sk,b3,fun hs=>?_,fun x hx=>?_,fun b hb=>by rw [e1];simp [hb],fun hnd=>?_,fun e' Sk' hr=>?_⟩
 ·rw [a3]
  rcases kY hrow with ⟨_,rfl⟩|⟨gg,nn,cc,rfl,_,_,hcell,_⟩
  ·simp at b1
  ·simp only [hdr,hk,Nat.zero_add,hcell k v b1,Option.getD_some]
   exact vL hs
 ·subst hx;exact b3.1
 ·rw [e1] at hnd
  exact (List.nodup_append.1 ((hperm Sk).nodup_iff.1 hnd)).2.1
 ·have hrep:Rep w true (.sl sz tyo (ds0.set k e')) u (T++(SA'++Sk'++SC')):=⟨vs,T,_,hrow,b4 _ _ hr,rfl⟩
  refine ⟨fun p=>hdr w p (.sl sz tyo (ds0.set k e')) u,_,a4 _ _ _ rfl hrep (fun _=>rfl),by rw [a3];rfl,_,by rw [e1];exact hperm Sk,hperm Sk'⟩
end
section
variable {P:Program} {β B N:Nat} {w w0:World} {s:St} {a:Act} {F:Nat→List Nat} {o:Oper} {K:St→Prop}
theorem jbZ {α:Type}:∀(xs us:List α) (k:Nat),k+xs.length≤us.length→kC us k xs=us.take k++xs++us.drop (k+xs.length)
 |[],us,k,_=>by simp [kC]
 |x::xs,us,k,h=>by
  have hk:k<us.length:=by simp at h;omega
  rw [kC,jbZ xs (us.set k x) (k+1) (by simp at h⊢;omega)]
  have e1:(us.set k x).take (k+1)=us.take k++[x]:=by
   rw [List.take_add_one,List.take_set_of_le (Nat.le_refl _)];simp [hk]
  have e2:(us.set k x).drop (k+1+xs.length)=us.drop (k+(x::xs).length):=by
   rw [List.drop_set_of_lt (by omega)]
   congr 1
   simp;omega
  rw [e1,e2];simp
theorem joC (h:RelF B w0 N s a w F) {size:Nat}:∀{parts:List (Nat×Operand)} {ps:List (Nat×Nat×X)} {l:List A0} {k:Nat} {us:List Value},jbz (fun i=>some (i*size,size)) parts=some ps→jqf s ps=some l→parts.map (·.1)=List.range' k parts.length→us.length=(k+parts.length)*size→
 ∃xs:List Value,A0RelL B w l xs∧xs.length=parts.length*size∧Instr.fill (fun i=>some (i*size,size)) us.toArray (parts.map fun p=>(p.1,a.eval p.2))=some (us.take (k*size)++xs).toArray
 |[],ps,l,k,us,h1,h2,_,h4=>by
  simp [jbz] at h1;subst h1;simp [jqf] at h2;subst h2;refine ⟨[],rfl,by simp,?_⟩
  simp at h4;simp [Instr.fill,←h4]
 |(i,x)::parts,ps,l,k,us,h1,h2,h3,h4=>by
  simp only [jbz] at h1;split at h1
  ·rename_i off n x' ps' k1 k2 k3
   simp at h1;subst h1;simp only [List.map_cons,List.length_cons,List.range'_succ,List.cons.injEq] at h3;obtain ⟨rfl,h3⟩:=h3;simp only [jqf] at h2;split at h2
   ·rename_i m r k4 k5
    split at h2
    ·rename_i k6
     simp at h2;subst h2;obtain ⟨xs,k7,k8⟩:=VRel.cells (qb h k2) k4;have hxl:=A0RelL.len k8;simp only [Option.some.injEq,Prod.mk.injEq] at k1;obtain ⟨rfl,rfl⟩:=k1;have hsz:i*size+size+parts.length*size=us.length:=by rw [h4,List.length_cons,Nat.add_mul,Nat.add_mul,Nat.one_mul];omega
     have hle:i*size+xs.length≤us.length:=by omega
     obtain ⟨ys,k9,k10,k11⟩:=joC h (k:=i+1) (us:=kC us (i*size) xs) k3 k5 h3 (by rw [jk2,h4,List.length_cons];congr 1;omega)
     have happ:∀(l m:List A0) (us vs:List Value),A0RelL B w l us→A0RelL B w m vs→A0RelL B w (l++m) (us++vs):=by
      intro l
      induction l with
      |nil=>intro m us vs h1 h2;rw [show us=[] from h1];exact h2
      |cons x l ih=>intro m us vs h1 h2;obtain ⟨u,us',rfl,h3,h4⟩:=h1;exact ⟨u,_,rfl,h3,ih m us' vs h4 h2⟩
     refine ⟨xs++ys,happ _ _ _ _ k8 k9,by rw [List.length_append,hxl,k6,k10,List.length_cons,Nat.add_mul,Nat.one_mul];omega,?_⟩
     have e2:=je3 (i*size) xs 0 us;simp only [Nat.add_zero] at e2;have e1:¬(xs.length≠size∨us.length<i*size+xs.length):=by omega
     simp only [List.map_cons,Instr.fill,k7];rw [if_neg (by simpa using e1)]
     rw [←Array.foldl_toList,Array.toList_zipIdx];rw [show (xs.toArray.toList.zipIdx 0)=xs.zipIdx 0 from rfl,e2]
     rw [k11]
     congr 2
     have hx:xs.length=size:=by omega
     have e3:(i+1)*size=(us.take (i*size)++xs).length:=by rw [List.length_append,List.length_take,Nat.add_mul,Nat.one_mul];omega
     rw [jbZ xs us (i*size) hle,e3,List.take_left];simp
    ·simp at h2
   ·simp at h2
  ·simp at h1
theorem jzk (h:RelF B w0 N s a w F) {t e:TypeId} {n size:Nat} {parts:Array (Nat×Operand)} {ps:List (Nat×Nat×X)} {g:Option (Nat×Bool)} {zs:List Value} {ks:List (Option (Nat×Nat))} (ho:o.op=.buildSlice t n parts) (ht:P.underlying t=some (.slice e)) (hsz:kD P e=some size) (hs:0<size) (hz:qI P e=some zs)
 (hidx:parts.toList.map (·.1)=List.range n) (hsm:n*size<1000) (hps:jbz (fun i=>some (i*size,size)) parts.toList=some ps) (hd:∀k,o.dst=some k→k<N) (hr:qC P β ⟨o.dst,g,.bsl e size n ks ps⟩ s K):
 OpOk P o a w (fun a' w'=>∃s' F',RelF B w0 N s' a' w' F'∧K s'):=by
 obtain ⟨l,h1,h2⟩:=hr;have hpl:parts.toList.length=n:=by have:=congrArg List.length hidx;simpa using this
 obtain ⟨inf,hinf,hsize⟩:=jjE hsz
 have hzz:∃z,inf.zero=some z:=by
  unfold qI at hz;rw [hinf] at hz;simp only at hz;split at hz
  ·exact ⟨_,by assumption⟩
  ·simp at hz
 obtain ⟨z,hzz⟩:=hzz
 have hfill:∀us:List Value,us.length=n*size→∃xs:List Value,A0RelL B w l xs∧xs.length=n*size∧Instr.fill (fun i=>some (i*size,size)) us.toArray (parts.toList.map fun p=>(p.1,a.eval p.2))=some xs.toArray:=fun us hus=>by
  obtain ⟨xs,k1,k2,k3⟩:=joC h (k:=0) (us:=us) hps h1 (by rw [hidx,hpl,List.range_eq_range']) (by rw [hus,hpl,Nat.zero_add])
  rw [hpl] at k2;refine ⟨xs,k1,k2,?_⟩;rw [k3];simp
 obtain ⟨xs,h3,h4,hrun⟩:∃xs:List Value,A0RelL B w l xs∧xs.length=n*size∧(execOp a.eval o).run P w=.ok (.value (.slice (some ⟨w.heap.size,0,none⟩) n n)) (w.alloc (.cells xs.toArray e)):=by
  have hno:¬(16777216<n*size):=by omega
  have hmapl:(parts.map fun (p:Nat×Operand)=>(p.1,a.eval p.2)).toList=parts.toList.map fun p=>(p.1,a.eval p.2):=by simp
  have hf:∀f:Nat→Value,∃xs:List Value,A0RelL B w l xs∧xs.length=n*size∧Instr.fill (fun i=>some (i*size,size)) ((Array.range (n*size)).map f) (parts.toList.map fun p=>(p.1,a.eval p.2))=some xs.toArray:=fun f=>by
   obtain ⟨xs,k1,k2,k3⟩:=hfill ((Array.range (n*size)).map f).toList (by simp)
   rw [Array.toArray_toList] at k3;exact ⟨xs,k1,k2,k3⟩
  by_cases h0:n*size=0
  ·obtain ⟨xs,k1,k2,k3⟩:=hf fun i=>(#[]:Array Value)[i%0]!
   refine ⟨xs,k1,k2,?_⟩;rw [h0] at k3
   have hnn:n=0:=by
    rcases Nat.mul_eq_zero.1 h0 with h|h
    ·exact h
    ·omega
   subst hnn;have hp0:parts.toList=[]:=List.eq_nil_of_length_eq_zero hpl;have hp1:parts=#[]:=by rw [←Array.toArray_toList (xs:=parts),hp0]
   have hx0:xs=[]:=List.eq_nil_of_length_eq_zero (by rw [k2,Nat.zero_mul])
   subst hx0;simp [execOp,ho,Instr.buildSlice,run_underlying ht,sizeOf,typeInfo,hinf,hsize,hp1,Instr.fill,newRow,Array.range_zero']
  ·obtain ⟨xs,k1,k2,k3⟩:=hf fun i=>z.cells[i%z.cells.size]!
   refine ⟨xs,k1,k2,?_⟩;have hno2:¬(n*size>2^24):=by omega
   simp only [execOp,ho,Sem.run_bind,Instr.buildSlice,run_underlying ht,Result.andThen_ok,sizeOf,typeInfo,hinf,hsize,Sem.run_pure,if_neg hno2,if_neg h0,zeroValue,hzz,hmapl,k3];simp [hinf,hsize,hno2,h0,hzz,hmapl,k3,newRow]
 obtain ⟨cs,s',S,F',⟨ds,kd,kk⟩,k2,k3,k4,k5,k6,k7,_⟩:=jbX h h3 h2;have hb:Below w.heap.size w (w.alloc (.cells xs.toArray e)):=(Below.refl _ _).alloc (Nat.le_refl _) _;have hB:B≤w.heap.size:=Nat.le_trans h.hB h.below.size;have hSlt:∀b∈S,b<w.heap.size:=fun b hb'=>k2.lt b hb'
 have hrl:=jd1 k2 kd;have hrl':RepL (w.alloc (.cells xs.toArray e)) true ds xs S:=RepL.keep _ hrl fun b hb'=>hb.block b (hSlt b hb')
 have hown:Rep (w.alloc (.cells xs.toArray e)) true (.sl size e ds) (.slice (some ⟨w.heap.size,0,none⟩) n n) (w.heap.size::S):=
  ⟨xs,[w.heap.size],S,⟨n,World.ownsRow_lit w xs.toArray n (Nat.zero_le _) (by unfold maxLen;have:n≤n*size:=Nat.le_mul_of_pos_right _ hs;omega) (by simpa using h4),rfl⟩,hrl',rfl⟩
 have hF'lt:∀g,∀b∈F' g,b<w.heap.size:=fun g b hb'=>(k3.ob g).lt b hb'
 have hob:ORel B (w.alloc (.cells xs.toArray e)) (.loose (.sl size e ds) (fun p=>hdr (w.alloc (.cells xs.toArray e)) p (.sl size e ds) (.slice (some ⟨w.heap.size,0,none⟩) n n))) (w.heap.size::S):=⟨rfl,_,hown,fun _=>rfl⟩
 have h5:=(k3.world hb).setO (g:=100*(β+o.dst.getD 0)) hob ⟨List.nodup_cons.2 ⟨fun hh=>by have:=hSlt _ hh;omega,k4.1⟩,fun b hb'=>by rcases List.mem_cons.1 hb' with rfl|hb';exact hB;exact k4.2 b hb'⟩ (fun g' _ b hb'=>by
  rcases List.mem_cons.1 hb' with rfl|hb'
  ·exact fun hh=>by have:=hF'lt g' _ hh;omega
  ·exact k5 g' b hb')
 have hv:VRel B (w.alloc (.cells xs.toArray e)) (.c (.h (100*(β+o.dst.getD 0)) 0 [] (.slice (some ⟨w.heap.size,0,none⟩) n n))) (.slice (some ⟨w.heap.size,0,none⟩) n n):=⟨rfl,rfl⟩;exact OpOk.of_run hrun ⟨_,_,h5.put hv hd,kk _⟩
theorem jov (h:RelF B w0 N s a w F) {e size:Nat} {x:AV} {u:Value} {K:List D→St→Prop} (hv:VRel B w x u) (hk:jfI s e size x K):
 ∃xs s' S F',K xs s'∧Rep w true (.sl size e xs) u S∧RelF B w0 N s' a w F'∧Fresh B S∧(∀g,∀b∈S,b∉F' g)∧(∀g b,b∈F' g→b∈F g)∧∀b∈S,∃g,b∈F g:=by
 unfold jfI at hk;split at hk
 ·have hu:u=.slice none 0 0:=hv
  subst hu;exact ⟨[],s,[],F,hk,Rep.nil_ w size e,h,Fresh.nil _,by simp,fun _ _ h=>h,by simp⟩
 ·rename_i g c p x'
  rcases hk with ⟨rfl,cs,η,ho,hx,hk⟩|⟨k,rfl,sz,tyo,ds0,cs,η,ho,hd,hx,hk⟩
  ·obtain ⟨u',S1,F1,j1,j2,j3,j4,j5,j6,j7,j8⟩:=h.rm ho
   have hu:u=u':=by rw [hv.1,←hx,j3,vL j1]
   subst hu;exact ⟨cs,_,S1,F1,hk,j2,j5,j4,j6,j8,fun b hb=>⟨g,j7 b hb⟩⟩
  ·obtain ⟨v,Sk,a1,a2,_,a4,a5,a6⟩:=jkx (h.ob g) ho hd
   have hu:u=v:=by rw [hv.1,←hx,a2 rfl]
   subst hu;obtain ⟨η',S',b1,b2,R,b3,b4⟩:=a6 (.val u) [] ⟨rfl,rfl⟩;rw [List.append_nil] at b4;have hnd:=b3.nodup_iff.1 (h.fr g).1;have hsub:∀b∈S',b∈F g:=fun b hb=>b3.mem_iff.2 (List.mem_append.2 (.inl (b4.mem_iff.1 hb)))
   have t1:=h.setO (g:=g) b1 ⟨b4.nodup_iff.2 (List.nodup_append.1 hnd).1,fun b hb=>(h.fr g).2 b (hsub b hb)⟩ (fun g' hg' b hb hh=>h.dj g' g hg' b hh (hsub b hb))
   have hxu:x'=u:=by rw [←hx,a2 rfl]
   refine ⟨cs,_,Sk,_,hk η' b2,a1,by rw [hxu];exact t1,⟨(List.nodup_append.1 hnd).2.1,fun b hb=>(h.fr g).2 b (a4 b hb)⟩,fun g' b hb hh=>?_,fun g' b hb=>?_,fun b hb=>⟨g,a4 b hb⟩⟩
   ·split at hh
    ·exact (List.nodup_append.1 hnd).2.2 b (b4.mem_iff.1 hh) b hb rfl
    ·rename_i hgg
     exact h.dj g' g hgg b hh (a4 b hb)
   ·split at hb
    ·rename_i e;rw [e];exact hsub b hb
    ·exact hb
 ·exact hk.elim
theorem jop:∀{ds:List D} {us:List Value} {S:List Nat} {own:Bool},kf ds=true→RepL w own ds us S→(∀u∈us,u.oneCell'=true)∧∀(w':World) (own':Bool),RepL w' own' ds us []
 |[],us,S,own,_,h=>by obtain ⟨rfl,_⟩:=h;exact ⟨by simp,fun _ _=>⟨rfl,rfl⟩⟩
 |.val u::ds,us,S,own,hf,h=>by
  obtain ⟨v,vs',S1,S2,rfl,rfl,h3,h4⟩:=h;simp only [kf,Bool.and_eq_true] at hf;obtain ⟨h5,h6⟩:=jop hf.2 h4;obtain ⟨rfl,rfl⟩:=h3;refine ⟨fun u hu=>?_,fun w' own'=>RepL.val_ (h6 w' own')⟩
  rcases List.mem_cons.1 hu with rfl|hu
  ·exact hf.1
  ·exact h5 u hu
 |.sl _ _ _::_,_,_,_,hf,_=>by simp [kf] at hf
theorem jrx {own:Bool}:∀{ds:List D} {us:List Value} {S:List Nat},RepL w own ds us S→(∀d∈ds,∀u,d=.val u→u.oneCell'=true)→∀u∈us,u.oneCell'=true
 |[],us,S,h,_=>by obtain ⟨rfl,_⟩:=h;simp
 |d::ds,us,S,h,hd=>by
  obtain ⟨v,vs',S1,S2,rfl,rfl,h3,h4⟩:=h;intro u hu;rcases List.mem_cons.1 hu with rfl|hu
  ·cases d with
   |val x=>obtain ⟨rfl,_⟩:=h3;exact hd _ (by simp) _ rfl
   |sl _ _ _=>obtain ⟨_,_,_,rfl⟩:=qW h3;rfl
  ·exact jrx h4 (fun d' hd'=>hd d' (by simp [hd'])) u hu
theorem jqm {t e:TypeId} {i:TypeInfo} {zs:List Value} (ht:P.underlying t=some (.slice e)) (hi:P.info? e=some i) (hz:qI P e=some zs) (hs:0<i.size) {ty:TypeId} {xs ys:List D} {v:Value} {S Sy:List Nat}
 (hrep:Rep w true (.sl i.size e xs) v S) {A:Option Addr} {m c:Nat} {news:List Value} (hy:RepL w true ys news Sy) (hm:news.length=m*i.size) (hA:A=none→m=0∧c=0) (hnews:∀ad,A=some ad→∀j u,news[j]?=some u→w.cell? (ad.add j)=some u)
 (h1:∀u∈news,u.oneCell'=true) (hF:Fresh B (S++Sy)) (hB:B≤w.heap.size) (h63:xs.length/i.size+ys.length/i.size≤maxLen) (hbytes:(xs.length/i.size+ys.length/i.size)*i.bytes≤140737488355328):
 ∃v' w' S',(Builtin.append_ #[t,t] ty #[v,.slice A m c]).run P w=.ok v' w'∧Rep w' true (.sl i.size e (xs++ys)) v' S'∧Fresh B S'∧Only S w w'∧∀s∈S',s∈S∨s∈Sy∨w.heap.size≤s:=by
 obtain ⟨vs,T,S1,⟨n,hown,rfl⟩,hrl,rfl⟩:=hrep;have hvl:=RepL.length _ hrl;have hyl:=RepL.length _ hy;have hxn:xs.length/i.size=n:=by rw [←hvl,hown.1];exact Nat.mul_div_cancel _ hs
 have hyn:ys.length/i.size=m:=by rw [←hyl,hm];exact Nat.mul_div_cancel _ hs
 rw [hxn,hyn] at h63 hbytes;unfold qI at hz;rw [hi] at hz;simp only at hz;split at hz
 ·rename_i z hzz
  split at hz
  ·rename_i hcc
   simp only [Bool.and_eq_true,decide_eq_true_eq] at hcc;cases A with
   |none=>
    obtain ⟨rfl,rfl⟩:=hA rfl;have hn0:news=[]:=List.eq_nil_of_length_eq_zero (by rw [hm,Nat.zero_mul])
    subst hn0;have hy0:ys=[]:=List.eq_nil_of_length_eq_zero (by rw [←hyl];rfl)
    subst hy0;exact ⟨v,w,blk v++S1,run_append_owned_none (P:=P) w 0 t ty e i i.size ht hi v n vs hown,by rw [List.append_nil];exact ⟨vs,blk v,S1,⟨n,hown,rfl⟩,hrl,rfl⟩,hF.left,Only.refl _ _,fun s hs=>.inl hs⟩
   |some ad=>
    have hnews':=hnews ad rfl;obtain ⟨v',w',hr,h2,h3,_⟩:=run_append_own (P:=P) w 0 t ty e i z i.size i.bytes ht hi hzz rfl rfl hcc.1 hs v n vs hown ad m c news hm hnews' h1 h63 hbytes (Nat.zero_le _);have honly:Only (blk v++S1) w w':=Only.of_grown h3 (fun b hb=>by simp [hb])
    have honly1:Only (blk v) w w':=Only.of_grown h3 (fun b hb=>hb)
    have hF1:∀s∈S1++Sy,s∉blk v:=fun s hs hb=>by
     have:=hF.1;rw [List.append_assoc] at this;exact (List.nodup_append.1 this).2.2 s hb s hs rfl
    have hnew:∀b∈blk v',b∈blk v∨b=w.heap.size:=jjp ht hi hzz hown hm hnews' h1 h63 hbytes hr
    have hrep':Rep w' true (.sl i.size e (xs++ys)) v' (blk v'++(S1++Sy)):=
     ⟨vs++news,blk v',S1++Sy,⟨n+m,h2,rfl⟩,RepL.append_ _ (hrl.only honly1 fun s hs=>hF1 s (by simp [hs])) (hy.only honly1 fun s hs=>hF1 s (by simp [hs])),rfl⟩
    have hlt:∀s∈S1++Sy,s<w.heap.size:=fun s hs=>by
     rcases List.mem_append.1 hs with hs|hs
     ·exact RepL.lt _ hrl s hs
     ·exact RepL.lt _ hy s hs
    refine ⟨v',w',_,hr,hrep',?_,honly,fun s hs=>?_⟩
    ·rw [List.append_assoc] at hF
     refine ⟨List.nodup_append.2 ⟨?_,(List.nodup_append.1 hF.1).2.1,fun a ha b hb e=>?_⟩,fun b hb=>?_⟩
     ·rcases h2.2 with ⟨rfl,_⟩|⟨g,cap,cur,rfl,_⟩<;>simp [blk]
     ·subst e
      rcases hnew a ha with h4|h4
      ·exact hF1 a hb h4
      ·have:=hlt a hb;omega
     ·rcases List.mem_append.1 hb with hb|hb
      ·rcases hnew b hb with h4|h4
       ·exact hF.2 b (by simp [h4])
       ·omega
      ·exact hF.2 b (by rw [List.mem_append];exact .inr hb)
    ·rcases List.mem_append.1 hs with hs|hs
     ·rcases hnew s hs with h4|h4
      ·exact .inl (by simp [h4])
      ·right;right;omega
     ·rcases List.mem_append.1 hs with hs|hs
      ·exact .inl (by simp [hs])
      ·exact .inr (.inl hs)
  ·simp at hz
 ·simp at hz
theorem jwu (h:RelF B w0 N s a w F) {size:Nat} (hs:0<size) {x:AV} {u:Value} {K:List D→St→Prop} (hv:VRel B w x u) (hk:jtF s size x K):
 ∃ys s' Sy F' A m c news,K ys s'∧u=.slice A m c∧RepL w true ys news Sy∧news.length=m*size∧(A=none→m=0∧c=0)∧(∀b o,A=some ⟨b,o,none⟩→∀j u,news[j]?=some u→w.cell? ⟨b,o+j,none⟩=some u)∧(∀ad,A=some ad→ad.spot=none∨news=[])∧(∀u∈news,u.oneCell'=true)∧
  RelF B w0 N s' a w F'∧Fresh B Sy∧(∀g,∀b∈Sy,b∉F' g)∧(∀g b,b∈F' g→b∈F g)∧∀b∈Sy,∃g,b∈F g:=by
 have flat:∀(dd:D) (S:List Nat),dd.isSl=true→dd.size=size→kf dd.cells=true→Rep w false dd u S→K dd.cells s→
  ∃ys s' Sy F' A m c news,K ys s'∧u=.slice A m c∧RepL w true ys news Sy∧news.length=m*size∧(A=none→m=0∧c=0)∧(∀b o,A=some ⟨b,o,none⟩→∀j u,news[j]?=some u→w.cell? ⟨b,o+j,none⟩=some u)∧(∀ad,A=some ad→ad.spot=none∨news=[])∧(∀u∈news,u.oneCell'=true)∧
  RelF B w0 N s' a w F'∧Fresh B Sy∧(∀g,∀b∈Sy,b∉F' g)∧(∀g b,b∈F' g→b∈F g)∧∀b∈Sy,∃g,b∈F g:=by
  intro dd S k1 k2 k3 k4 k5;cases dd with
  |val _=>cases k1
  |sl size' ty cs=>
   have k2':size'=size:=k2;subst k2';obtain ⟨A,n,c,vs,S',rfl,j1,j2,_,j4,j5,j6,j7⟩:=vq k4;obtain ⟨j8,j9⟩:=jop k3 j2;have hvl:=RepL.length _ j2;refine ⟨cs,s,[],F,A,n,c,vs,k5,rfl,j9 w true,by rw [hvl,j1],fun hA=>?_,fun b o' hA j u hu=>?_,fun ad hA=>?_,j8,h,Fresh.nil _,by simp,fun _ _ h=>h,by simp⟩
   ·have:=j6 hA;omega
   ·obtain ⟨b',o'',hA',_,j10⟩:=j7 (fun e=>by subst e;simp at hu)
    rw [hA'] at hA;cases hA;exact j10 j u hu
   ·by_cases hne:vs=[]
    ·exact .inr hne
    ·obtain ⟨b',o'',hA',_⟩:=j7 hne
     rw [hA'] at hA;cases hA;exact .inl rfl
 unfold jtF at hk;split at hk
 ·have hu:u=.slice none 0 0:=hv
  subst hu;exact ⟨[],s,[],F,none,0,0,[],hk,rfl,⟨rfl,rfl⟩,by simp,fun _=>⟨rfl,rfl⟩,by simp,by simp,by simp,h,Fresh.nil _,by simp,fun _ _ h=>h,by simp⟩
 ·rename_i dd
  obtain ⟨k1,k2,k3,k4⟩:=hk;obtain ⟨_,S,k5,_⟩:=hv;exact flat dd S k1 k2 k3 k5 k4
 ·rename_i g c p x' sz lo m
  obtain ⟨dd,k1,k2,k3,k4⟩:=hk;have hv':A0Rel B w (.hs g c p x' sz lo m) u:=hv;obtain ⟨S,k5⟩:=jhz h hv' k1;obtain ⟨_,_,d1,_,_,_,k6,_,_,_,rfl⟩:=k1;exact flat _ S (by cases d1 with|val _=>cases k6|sl _ _ _=>rfl) k2 k3 k5 k4
 ·rename_i g c p x'
  obtain ⟨dd,k1,k2,k3⟩:=hk;have hv':A0Rel B w (.h g c p x') u:=hv;obtain ⟨S,k4⟩:=jhz h hv' k1;split at k3
  ·rename_i k5
   obtain ⟨_,_,_,_,_,k7⟩:=k1;exact flat dd S k7 k2 k5 k4 k3
  ·obtain ⟨rfl,k5,k6⟩:=k3
   obtain ⟨d0,η,k7,k8,k9,k10⟩:=k1;simp [D.get] at k9;subst k9;obtain ⟨u',S1,F1,j1,j2,j3,j4,j5,j6,j7,j8⟩:=h.rm k7;have hu:u=u':=by rw [hv'.1,←k8,j3,vL j1]
   subst hu;cases d0 with
   |val _=>cases j1
   |sl size' ty cs=>
    have k2':size'=size:=k2;subst k2';obtain ⟨vs,T,S2,m1,m2,rfl⟩:=j2;have hvl:=RepL.length _ m2
    have hone:∀u∈vs,u.oneCell'=true:=jrx m2 (by
     have key:∀l:List D,jiy l=true→∀d∈l,∀u,d=.val u→u.oneCell'=true:=by
      intro l
      induction l with
      |nil=>intro _ d hd;simp at hd
      |cons x l ih=>
       intro hl d hd u hu;cases x with
       |val v=>
        simp only [jiy,Bool.and_eq_true] at hl;rcases List.mem_cons.1 hd with rfl|hd
        ·cases hu;exact hl.1
        ·exact ih hl.2 d hd u hu
       |sl _ _ _=>
        rcases List.mem_cons.1 hd with rfl|hd
        ·cases hu
        ·exact ih hl d hd u hu
     exact key cs k5)
    have hsub:∀b∈S2,b∈T++S2:=fun b hb=>by simp [hb]
    rcases kY m1 with ⟨rfl,rfl⟩|⟨gg,nn,cc,rfl,rfl,m3,m4,_⟩
    ·refine ⟨cs,_,S2,F1,none,0,0,[],k6,rfl,m2,by simp,fun _=>⟨rfl,rfl⟩,by simp,by simp,by simp,j5,j4.right,fun g' b hb=>j6 g' b (hsub b hb),j8,fun b hb=>⟨g,j7 b (hsub b hb)⟩⟩
    ·refine ⟨cs,_,S2,F1,_,nn,cc,vs,k6,rfl,m2,m3,fun hA=>(by cases hA),fun b o' hA j u hu=>?_,fun ad hA=>?_,hone,j5,j4.right,fun g' b hb=>j6 g' b (hsub b hb),j8,fun b hb=>⟨g,j7 b (hsub b hb)⟩⟩
     ·cases hA
      rw [Nat.zero_add];exact m4 j u hu
     ·cases hA
      exact .inl rfl
 ·exact hk.elim
theorem jzm (h:RelF B w0 N s a w F) {c:Call} {t e:TypeId} {i:TypeInfo} {zs:List Value} {x y:Operand} {x' y':X} {g:Option (Nat×Bool)} (ho:o.op=.call c) (hc:c.callee=.builtin .append) (ha:c.args.toList=[x,y]) (hta:c.argTypes.toList=[t,t]) (ht:P.underlying t=some (.slice e)) (hi:P.info? e=some i) (hz:qI P e=some zs) (hs:0<i.size)
 (hx:jC x=some x') (hy:jC y=some y') (hd:∀k,o.dst=some k→k<N) (hr:qC P β ⟨o.dst,g,.app e i.size i.bytes x' y'⟩ s K):OpOk P o a w (fun a' w'=>∃s' F',RelF B w0 N s' a' w' F'∧K s'):=by
 have hr':jtF s i.size (s.ev y') fun ys s1=>jfI s1 e i.size (s.ev x') fun xs s2=>xs.length/i.size+ys.length/i.size≤maxLen∧(xs.length/i.size+ys.length/i.size)*i.bytes≤140737488355328∧
  ∀η,K ((s2.addO [(100*(β+o.dst.getD 0),.loose (.sl i.size e (xs++ys)) η)]).put o.dst (.c (.h (100*(β+o.dst.getD 0)) 0 [] (η [])))):=hr
 obtain ⟨ys,s1,Sy,F1,A,m,cc,news,hr2,e1,r1,r2,r3,r4,r5,r6,h1,r7,r8,r9,r10⟩:=jwu h hs (qb h hy) hr';obtain ⟨xs,s2,S,F2,⟨q1,q2,q3⟩,q4,h2,q5,q6,q7,q8⟩:=jov h1 (qb h hx) hr2;have hargs:c.args=#[x,y]:=by rw [←Array.toArray_toList (xs:=c.args),ha]
 have hats:c.argTypes=#[t,t]:=by rw [←Array.toArray_toList (xs:=c.argTypes),hta]
 have hB:B≤w.heap.size:=Nat.le_trans h.hB h.below.size
 have hdis:∀b∈S,b∉Sy:=fun b hb hb'=>by
  obtain ⟨g',hg'⟩:=q8 b hb;exact r8 g' b hb' hg'
 have hF:Fresh B (S++Sy):=⟨List.nodup_append.2 ⟨q5.1,r7.1,fun p hp q hq e=>hdis p hp (e▸hq)⟩,fun b hb=>by rcases List.mem_append.1 hb with hb|hb;exact q5.2 b hb;exact r7.2 b hb⟩
 obtain ⟨v',w',S',hrun,hrep,hFr,honly,hS'⟩:=jqm (B:=B) (ty:=o.type) ht hi hz hs q4 r1 r2 r3 (fun ad hA j u hu=>by
  rcases r5 ad hA with h5|h5
  ·obtain ⟨b,o',sp⟩:=ad
   simp only at h5;subst h5;rw [vI];exact r4 b o' hA j u hu
  ·subst h5;simp at hu) r6 hF hB q1 q2
 have hrun2:(execOp a.eval o).run P w=.ok (.value v') w':=by
  simp [execOp,ho,resolve,hc,hargs,hats,e1,invoke,builtin,hrun]
 have hb:Below B w w':=honly.below (fun b hb=>q5.2 b hb) hB
 have h3:=h2.world' hb fun g b hb'=>honly.block b ((h2.ob g).lt b hb') fun hh=>q6 g b hh hb'
 have hob:ORel B w' (.loose (.sl i.size e (xs++ys)) (fun p=>hdr w' p (.sl i.size e (xs++ys)) v')) S':=⟨rfl,v',hrep,fun _=>rfl⟩
 have h4:=h3.setO (g:=100*(β+o.dst.getD 0)) hob hFr (fun g' _ b hb'=>by
  rcases hS' b hb' with h5|h5|h5
  ·exact q6 g' b h5
  ·exact fun hh=>r8 g' b h5 (q7 g' b hh)
  ·exact fun hh=>by have:=(h2.ob g').lt b hh;omega)
 have hv:VRel B w' (.c (.h (100*(β+o.dst.getD 0)) 0 [] v')) v':=⟨rfl,by obtain ⟨_,_,_,rfl⟩:=qW hrep;rfl⟩
 exact OpOk.of_run hrun2 ⟨_,_,h4.put hv hd,q3 _⟩
theorem jiI {t u e:TypeId} {i:TypeInfo} (ht:P.underlying t=some (.slice e)) (hu:P.underlying u=some .string) (hi:P.info? e=some i) (hz:i.zero=some (.int .u8 0)) (hs:i.size=1) (hby:i.bytes=1) {ty:TypeId} {xs:List D} {v:Value} {S:List Nat}
 (hrep:Rep w true (.sl 1 e xs) v S) (b:ByteArray) (hF:Fresh B S) (hB:B≤w.heap.size) (hlen:xs.length+b.size≤140737488355328):
 ∃v' w' S',(Builtin.append_ #[t,u] ty #[v,.string b]).run P w=.ok v' w'∧Rep w' true (.sl 1 e (xs++strCells b)) v' S'∧Fresh B S'∧Only S w w'∧∀s∈S',s∈S∨w.heap.size≤s:=by
 obtain ⟨vs,T,S1,⟨n,hown,rfl⟩,hrl,rfl⟩:=hrep;have hvl:=RepL.length _ hrl;have hvn:vs.length=n:=by simpa using hown.1
 have h63:n+b.size≤maxLen:=by unfold maxLen;omega
 obtain ⟨v',w',hr,h2,h3,_⟩:=Go.Lib.run_append_own_string (P:=P) w 0 t u ty e i ht hu hi hz hs hby v n vs hown b h63 (by omega) (Nat.zero_le _)
 have honly:Only (blk v++S1) w w':=Only.of_grown h3 (fun b hb=>by simp [hb])
 have honly1:Only (blk v) w w':=Only.of_grown h3 (fun b hb=>hb)
 have hF1:∀s∈S1,s∉blk v:=fun s hs hb=>(List.nodup_append.1 hF.1).2.2 s hb s hs rfl
 have hnew:∀b∈blk v',b∈blk v∨b=w.heap.size:=by
  intro g hg;by_cases hb0:b.size=0
  ·rcases hown.2 with ⟨rfl,rfl⟩|⟨g',cap,cur,rfl,_,hg',hnc,hcm,hcs,htake⟩
   ·
    have hbe:b=ByteArray.empty:=by
     cases b with
     |mk d=>simp [ByteArray.size] at hb0;subst hb0;rfl
    have:(Builtin.append_ #[t,u] ty #[.slice none 0 0,.string b]).run P w=.ok (.slice none 0 0) w:=by
     simp [Builtin.append_,run_underlying ht,run_underlying hu,sizeOf,typeInfo,hi,Builtin.lenOf,hb0,Builtin.firstCells]
    rw [this] at hr;injection hr with e1 _;subst e1;simp [blk] at hg
   ·rw [Go.Lib.run_append_room_string (P:=P) w t u ty e i ht hu hi hs g' n cap cur hg' b (by omega) (by omega)] at hr
    injection hr with e1 _;subst e1;exact .inl (by simpa [blk] using hg)
  ·rcases hown.2 with ⟨rfl,rfl⟩|⟨g',cap,cur,rfl,_,hg',hnc,hcm,hcs,htake⟩
   ·rw [run_append_nil_string (P:=P) w t u ty e i _ ht hu hi hz b (by omega) (by omega) (by rw [hby];omega)] at hr
    injection hr with e1 _;subst e1;exact .inr (by simpa [blk] using hg)
   ·by_cases hroom:n+b.size≤cap
    ·rw [Go.Lib.run_append_room_string (P:=P) w t u ty e i ht hu hi hs g' n cap cur hg' b hroom (by omega)] at hr
     injection hr with e1 _;subst e1;exact .inl (by simpa [blk] using hg)
    ·rw [Go.Lib.run_append_grow_string (P:=P) w t u ty e i _ ht hu hi hz ⟨g',0,none⟩ n cap vs (by rw [hs];exact hown.1) (hown.cells (g:=g') rfl) b (by omega) (by omega) (growslice_fits (by omega) (by rw [hby];omega))] at hr
     injection hr with e1 _;subst e1;exact .inr (by simpa [blk] using hg)
 have hyl:RepL w' true (strCells b) (Go.Lib.strCells b) []:=by
  have key:∀l:List UInt8,RepL w' true (l.map kj) (l.map fun b=>Value.int .u8 b.toNat) []:=by
   intro l
   induction l with
   |nil=>exact ⟨rfl,rfl⟩
   |cons x l ih=>exact ⟨_,_,[],[],rfl,rfl,⟨rfl,rfl⟩,ih⟩
  exact key _
 have hapl:=RepL.append_ _ (hrl.only honly1 fun s hs=>hF1 s hs) hyl
 rw [List.append_nil] at hapl;have hrep':Rep w' true (.sl 1 e (xs++strCells b)) v' (blk v'++S1):=⟨vs++Go.Lib.strCells b,blk v',S1,⟨n+b.size,h2,rfl⟩,hapl,rfl⟩;have hlt:∀s∈S1,s<w.heap.size:=fun s hs=>RepL.lt _ hrl s hs
 refine ⟨v',w',_,hr,hrep',⟨List.nodup_append.2 ⟨?_,(List.nodup_append.1 hF.1).2.1,fun p hp q hq e=>?_⟩,fun p hp=>?_⟩,honly,fun s hs=>?_⟩
 ·rcases h2.2 with ⟨rfl,_⟩|⟨g,cap,cur,rfl,_⟩<;>simp [blk]
 ·subst e
  rcases hnew p hp with h4|h4
  ·exact hF1 p hq h4
  ·have:=hlt p hq;omega
 ·rcases List.mem_append.1 hp with hp|hp
  ·rcases hnew p hp with h4|h4
   ·exact hF.2 p (by simp [h4])
   ·omega
  ·exact hF.2 p (by simp [hp])
 ·rcases List.mem_append.1 hs with hs|hs
  ·rcases hnew s hs with h4|h4
   ·exact .inl (by simp [h4])
   ·exact .inr (by omega)
  ·exact .inl (by simp [hs])
theorem jxa (h:RelF B w0 N s a w F) {c:Call} {t u e:TypeId} {i:TypeInfo} {x y:Operand} {x' y':X} {g:Option (Nat×Bool)} (ho:o.op=.call c) (hc:c.callee=.builtin .append) (ha:c.args.toList=[x,y]) (hta:c.argTypes.toList=[t,u]) (ht:P.underlying t=some (.slice e)) (hu:P.underlying u=some .string) (hi:P.info? e=some i) (hzz:i.zero=some (.int .u8 0)) (hs:i.size=1) (hby:i.bytes=1)
 (hx:jC x=some x') (hy:jC y=some y') (hd:∀k,o.dst=some k→k<N) (hr:qC P β ⟨o.dst,g,.apps e x' y'⟩ s K):OpOk P o a w (fun a' w'=>∃s' F',RelF B w0 N s' a' w' F'∧K s'):=by
 obtain ⟨b,k1,k2⟩:=hr;obtain ⟨xs,s2,S,F2,⟨q1,q3⟩,q4,h2,q5,q6,q7,q8⟩:=jov h (qb h hx) k2;have hargs:c.args=#[x,y]:=by rw [←Array.toArray_toList (xs:=c.args),ha]
 have hats:c.argTypes=#[t,u]:=by rw [←Array.toArray_toList (xs:=c.argTypes),hta]
 have hB:B≤w.heap.size:=Nat.le_trans h.hB h.below.size;obtain ⟨v',w',S',hrun,hrep,hFr,honly,hS'⟩:=jiI (B:=B) (ty:=o.type) ht hu hi hzz hs hby q4 b q5 hB q1
 have hrun2:(execOp a.eval o).run P w=.ok (.value v') w':=by
  simp [execOp,ho,resolve,hc,hargs,hats,jgh h hy k1,invoke,builtin,hrun]
 have hb:Below B w w':=honly.below (fun b hb=>q5.2 b hb) hB
 have h3:=h2.world' hb fun g b hb'=>honly.block b ((h2.ob g).lt b hb') fun hh=>q6 g b hh hb'
 have hob:ORel B w' (.loose (.sl 1 e (xs++strCells b)) (fun p=>hdr w' p (.sl 1 e (xs++strCells b)) v')) S':=⟨rfl,v',hrep,fun _=>rfl⟩
 have h4:=h3.setO (g:=100*(β+o.dst.getD 0)) hob hFr (fun g' _ b hb'=>by
  rcases hS' b hb' with h5|h5
  ·exact q6 g' b h5
  ·exact fun hh=>by have:=(h2.ob g').lt b hh;omega)
 have hv:VRel B w' (.c (.h (100*(β+o.dst.getD 0)) 0 [] v')) v':=⟨rfl,by obtain ⟨_,_,_,rfl⟩:=qW hrep;rfl⟩
 exact OpOk.of_run hrun2 ⟨_,_,h4.put hv hd,q3 _⟩
theorem joO {z:Array Value} (hz:0<z.size) (n:Nat):(Builtin.zeroCells z n).toList=(List.replicate n z.toList).flatten:=by
 apply List.ext_getElem?
 intro j;by_cases hj:j<n*z.size
 ·rw [zD (by simp) hz n j hj]
  simp [Builtin.zeroCells,hj];rw [Array.getElem?_eq_getElem (Nat.mod_lt _ hz)];simp only [Option.some.injEq];exact getElem!_pos _ _ _
 ·rw [List.getElem?_eq_none (by simp [Builtin.zeroCells];omega),List.getElem?_eq_none (by simp;omega)]
theorem jnR {zs:List D} {us:List Value} (h:RepL w true zs us []):∀(n:Nat),RepL w true (List.replicate n zs).flatten (List.replicate n us).flatten []
 |0=>⟨rfl,rfl⟩
 |n+1=>by
  simp only [List.replicate_succ,List.flatten_cons];have:=RepL.append_ zs h (jnR h n);simpa using this
theorem juk {α:Type} {l:List α} (n:Nat):(List.replicate n l).flatten.length=n*l.length:=by simp
theorem jzj (h:RelF B w0 N s a w F) {cl:Call} {t e:TypeId} {i:TypeInfo} {zs:List Value} {x:Operand} {x':X} {ks:List (Option (Nat×Nat))} {g:Option (Nat×Bool)} (ho:o.op=.call cl) (hc:cl.callee=.builtin .clear) (ha:cl.args.toList=[x]) (hta:cl.argTypes.toList=[t]) (ht:P.underlying t=some (.slice e)) (hi:P.info? e=some i) (hz:qI P e=some zs) (hs:0<i.size)
 (hx:jC x=some x') (hr:qC P β ⟨o.dst,g,.clr i.size (jpJ ks zs) x'⟩ s K):OpOk P o a w (fun a' w'=>∃s' F',RelF B w0 N s' a' w' F'∧K s'):=by
 obtain ⟨hdst,hr⟩:=hr;simp only at hdst;have hargs:cl.args=#[x]:=by rw [←Array.toArray_toList (xs:=cl.args),ha]
 have hats:cl.argTypes=#[t]:=by rw [←Array.toArray_toList (xs:=cl.argTypes),hta]
 have hpu:∀v,a.put o.dst v=a:=fun v=>by rw [hdst];rfl
 have hpv:=qb h hx;split at hr
 ·rename_i he
  have hp:a.eval x=.slice none 0 0:=by rw [he] at hpv;exact hpv
  have hrun:(execOp a.eval o).run P w=.ok (.value (.tuple #[])) w:=by
   simp [execOp,ho,resolve,hc,hargs,hats,hp,invoke,builtin,Builtin.clear_,run_underlying ht]
  exact OpOk.of_run hrun (by rw [hpu];exact ⟨s,F,h,hr⟩)
 ·rename_i k c p hx0 sz lo n he
  obtain ⟨rfl,hn,d0,η,dd,j1,j2,j3,j4,j5,j6,hk⟩:=hr;rw [he] at hpv;obtain ⟨hp,_⟩:=hpv;unfold qI at hz;rw [hi] at hz;simp only at hz;split at hz;rotate_left
  ·simp at hz
  rename_i z hzz;split at hz;rotate_left
  ·simp at hz
  rename_i hcc;simp only [Bool.and_eq_true,decide_eq_true_eq] at hcc;simp at hz;subst hz;have hzl:z.cells.toList.length=i.size:=by rw [Array.length_toList];simpa using hcc.1
  have hz0:0<z.cells.size:=by have:=hcc.1;omega
  generalize hds:(List.replicate n (jpJ ks z.cells.toList)).flatten=ds at*;generalize hus:(List.replicate n z.cells.toList).flatten=us;have hnew:RepL w true ds us []:=by rw [←hds,←hus];exact jnR (jmY _ _) n
  have hul:us.length=n*i.size:=by rw [←hus,juk,hzl]
  have hdl:ds.length=n*i.size:=by rw [←RepL.length _ hnew,hul]
  have hpos:0<n*i.size:=Nat.mul_pos hn hs
  have k8:∀u∈us,u.oneCell'=true:=fun u hu=>by
   rw [←hus] at hu;obtain ⟨l,hl,hul⟩:=List.mem_flatten.1 hu;rw [List.eq_of_mem_replicate hl] at hul;exact List.all_eq_true.1 hcc.2 u (by simpa using hul)
  have hfk:=h.fr k;obtain ⟨u,S1,q0,q1,q2,q3,q4,q5⟩:=ORel.put1 (h.ob k) hfk.1 j1;obtain ⟨Sx,hrx,_⟩:=qX h j1 j2 j3 j4;cases dd with
  |val _=>cases j4
  |sl size ty cs0=>
   simp only [D.size] at j5;subst j5;simp only [D.len,D.cells,D.size] at j6;have hcl:(lo+n)*i.size≤cs0.length:=Nat.le_trans (Nat.mul_le_mul_right _ j6) (Nat.div_mul_le_self _ _);rw [Nat.add_mul] at hcl;obtain ⟨gg,nn,cc,r1,r2,r3,S1',r4,r5,r6,r7⟩:=jjO (k:=lo*i.size) (by omega) hnew List.nodup_nil p q1 q4 (fun b hb=>by simp at hb) j3 (by omega)
   have hhx:hx0=.slice (some ⟨gg,0,none⟩) nn cc:=by rw [←j2,q2,r1]
   obtain ⟨vs,T,S',hrow,hrl,_⟩:=hrx;have hvl:=RepL.length _ hrl
   have hcap:lo<cc:=by
    obtain ⟨nv,hown,_⟩:=hrow;have h1:=hown.1;rcases hown.2 with ⟨e1,e2⟩|⟨g',cap,cur,e1,_,_,e2,_⟩
    ·rw [hhx] at e1;cases e1
    ·rw [hhx] at e1
     injection e1 with e3 e4 e5;subst e5;have:cs0.length/i.size=nv:=by rw [←hvl,h1];exact Nat.mul_div_cancel _ hs
     omega
   have hp':a.eval x=.slice (some ⟨gg,lo*i.size,none⟩) n (cc-lo):=by
    rw [hp.resolve_right fun ⟨_,hn0,_⟩=>by omega,hhx]
    simp only [joY];rw [if_neg (by omega)]
    simp [Addr.add_lit]
   have hrun:(execOp a.eval o).run P w=.ok (.value (.tuple #[])) (w.setCells gg (lo*i.size) us):=by
    have hst:=run_storeCells_cells (P:=P) gg (lo*i.size) us 0 w (fun j hj=>(r3 j (by omega)).1) (fun j hj=>(r3 j (by omega)).2) k8
    simp only [Nat.add_zero] at hst;obtain ⟨m,rfl⟩:∃m,n=m+1:=⟨n-1,by omega⟩
    simp [execOp,ho,resolve,hc,hargs,hats,hp',invoke,builtin,Builtin.clear_,run_underlying ht,zeroValue,typeInfo,hi,hzz,joO hz0,hus,hst]
   obtain ⟨j6,j7,j8,j9⟩:=vR us w gg (lo*i.size);have hggF:gg∈F k:=q3 gg r2;have hBb:B≤gg:=hfk.2 gg hggF;have hne:∀b,b≠gg→(w.setCells gg (lo*i.size) us).heap[b]?=w.heap[b]?:=fun b hb=>zb us w gg (lo*i.size) b hb
   have hb:Below B w (w.setCells gg (lo*i.size) us):=⟨j6,j7,j8,by rw [j9];exact Nat.le_refl _,fun j hj=>hne j (by omega)⟩
   have hsl:(D.put p (lo*i.size) ds d0).isSl=true:=jvM _ _ _ q0
   obtain ⟨S',m1,m2,m3⟩:=q5 (w.setCells gg (lo*i.size) us) (D.put p (lo*i.size) ds d0) (fun q=>hdr (w.setCells gg (lo*i.size) us) q (D.put p (lo*i.size) ds d0) u) S1' hb (fun b _ hb2=>hne b fun e=>hb2 (e▸r2)) hsl r4 (fun _=>rfl) r5 (fun b hb1=>by
    rcases r6 b hb1 with h|h
    ·exact .inl h
    ·simp at h)
   have t1:=h.setO (g:=k) (ob:=.none) (S:=[]) rfl (Fresh.nil _) (by simp)
   have t2:=t1.world' hb fun g' x hx=>by
    split at hx
    ·simp at hx
    ·rename_i hg'
     exact hne x fun e=>h.dj g' k hg' x hx (e▸hggF)
   have hS'F:∀x∈S',x∈F k:=fun x hx=>by
    rcases m3 x hx with h|h
    ·exact h
    ·rcases r6 x h with h'|h'
     ·exact q3 x h'
     ·simp at h'
   have t3:=t2.setO (g:=k) m1 ⟨m2,fun x hx=>hfk.2 x (hS'F x hx)⟩ (fun g' hg' x hx=>by
    rw [if_neg hg'];exact fun hh=>h.dj g' k hg' x hh (hS'F x hx))
   have hss:(s.setO k .none).setO k ((s.o k).putOwn c (D.put p (lo*i.size) ds d0) (fun q=>hdr (w.setCells gg (lo*i.size) us) q (D.put p (lo*i.size) ds d0) u))=s.setO k ((s.o k).putOwn c (D.put p (lo*i.size) ds d0) (fun q=>hdr (w.setCells gg (lo*i.size) us) q (D.put p (lo*i.size) ds d0) u)):=by
    simp only [St.setO,St.mk.injEq,true_and]
    funext i;split<;>rfl
   rw [hss] at t3
   exact OpOk.of_run hrun (by
    rw [hpu];have hlike:∀q,¬jnr p (lo*i.size) (n*i.size) q→hdr (w.setCells gg (lo*i.size) us) q (D.put p (lo*i.size) ds d0) u=η q:=fun q hq=>by rw [q2];exact r7 q (by rw [hdl];exact hq)
    refine ⟨_,_,t3,jvD hk hlike fun hf=>?_⟩
    simp only [Bool.and_eq_true] at hf
    funext q
    by_cases hq:jnr p (lo*i.size) (n*i.size) q
    ·obtain ⟨j,r,rfl,hj1,hj2⟩:=hq
     obtain ⟨v1,hv1⟩:=jbx (j:=j-lo*i.size) hf.1 (by omega)
     obtain ⟨v2,hv2⟩:=jbx (j:=j-lo*i.size) hf.2 (by simp only [D.cells,List.length_take,List.length_drop];omega)
     rw [q2];rw [jdX (w:=w.setCells gg (lo*i.size) us) (j:=j) (v:=v1) p (jbu p j3) (by rw [jg4 _ _ _ _ (by omega) hj1 (by omega)];exact hv1)]
     refine (jdX (v:=v2) p j3 ?_).symm;rw [←hv2];simp only [D.cells];rw [List.getElem?_take,if_pos (by omega),List.getElem?_drop]
     congr 1;omega
    ·exact hlike q hq)
 ·exact hr.elim
end
end Go.Proofs.Ytmnpailnelmpiaa
