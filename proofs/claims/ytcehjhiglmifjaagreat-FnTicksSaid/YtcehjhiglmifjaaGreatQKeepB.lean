/- Parts. -/
import Derived.Test.YtcehjhiglmifjaaGreatQCancel
set_option linter.unusedSimpArgs false
set_option linter.unusedVariables false
set_option maxRecDepth 100000
namespace Go.Proofs.YtcehjhiglmifjaaGreat
open Go.RowKit Go.Sort
structure joM (r r2:Rn):Prop where
 id:r2.id=r.id
 plan:r2.plan=r.plan
 ok:RunOkP r2
 len:r2.tasks.length=r.tasks.length
 task:∀(t:Nat) (x z:Tk),r.tasks[t]?=some x→r2.tasks[t]?=some z→(x.state=2→z.state=2∨z.state=6)∧(x.state=6→z.state=6)∧(z.state=2→x.state≠6)∧(z.state=3→z=x)∧(z.state=1→x.state=1∧z.tri=x.tri)
 room:kK r2+cS 2 r.tasks+(vP r.tasks r2.tasks r2.tasks.length).length≤kK r+cS 2 r2.tasks
theorem newL_mem {was ts:List Tk} {k:Nat} {v:Int}:v∈vP was ts k↔∃j:Nat,v=j∧j<k∧joO was ts j=true:=by
 simp only [vP,List.mem_map,List.mem_filter,List.mem_range];constructor
 ·rintro ⟨j,⟨h1,h2⟩,rfl⟩;exact ⟨j,rfl,h1,h2⟩
 ·rintro ⟨j,rfl,h1,h2⟩;exact ⟨j,⟨h1,h2⟩,rfl⟩
theorem jsa (was ts:List Tk) (k:Nat):(vP was ts k).Nodup:=jbM _ _
theorem jqC {was ts:List Tk} {j:Nat} {x z:Tk} (hx:was[j]?=some x) (hz:ts[j]?=some z):joO was ts j=(z.state==2&&!(x.state==2)):=by
 have hj:=(List.getElem?_eq_some_iff.1 hx).1;simp [joO,kw hx,kw hz,hj]
theorem jnl {was ts:List Tk} (hl:ts.length=was.length) (h:∀(j:Nat) (x z:Tk),was[j]?=some x→ts[j]?=some z→x.state=2→z.state=2):cS 2 ts=cS 2 was+(vP was ts ts.length).length:=by
 have e1:(vP was ts ts.length).length=((List.range ts.length).filter fun (j:Nat)=>(stT ts (j:Int)==2)&&!(stT was (j:Int)==2)).length:=by
  simp only [vP,List.length_map]
  congr 1
  refine List.filter_congr fun j hj=>?_
  have:j<was.length:=by rw [←hl];exact List.mem_range.1 hj
  simp [joO,this]
 have e2:cS 2 was=((List.range ts.length).filter fun (j:Nat)=>(stT ts (j:Int)==2)&&(stT was (j:Int)==2)).length:=by
  simp only [cS,qM,vO,List.length_map,←hl]
  congr 1
  refine List.filter_congr fun j hj=>?_
  have hj2:=List.mem_range.1 hj;obtain ⟨z,hz⟩:=je hj2;obtain ⟨x,hx⟩:=je (show j<was.length by omega)
  rw [kw hz,kw hx];cases h2:x.state==2
  ·simp
  ·rw [h j x z hx hz (by simpa using h2)];rfl
 have e3:cS 2 ts=((List.range ts.length).filter fun (j:Nat)=>stT ts (j:Int)==2).length:=by simp only [cS,qM,vO,List.length_map]
 rw [e1,e2,e3];have:=List.length_eq_countP_add_countP (fun (j:Nat)=>stT was (j:Int)==2) (l:=(List.range ts.length).filter fun (j:Nat)=>stT ts (j:Int)==2)
 simp only [List.countP_eq_length_filter,List.filter_filter] at this;rw [this]
 congr 1
 ·congr 1
  refine List.filter_congr fun j _=>?_
  exact Bool.and_comm _ _
 ·congr 1
  refine List.filter_congr fun j _=>?_
  cases stT was (j:Int)==2<;>cases stT ts (j:Int)==2<;>rfl
theorem jcl {rs:List Rn} {k:Nat} {r2 r':Rn} (h:r'∈rs.set k r2):r'=r2∨∃j,j≠k∧rs[j]?=some r':=by
 obtain ⟨j,hj⟩:=List.getElem?_of_mem h;rw [List.getElem?_set] at hj;by_cases e:k=j
 ·subst e
  rw [if_pos rfl] at hj;split at hj
  ·exact .inl (Option.some.inj hj).symm
  ·simp at hj
 ·rw [if_neg e] at hj;exact .inr ⟨j,fun h=>e h.symm,hj⟩
theorem joY {rs:List Rn} {k:Nat} {r r2:Rn} (hr:rs[k]?=some r) (h:r2.id=r.id):(rs.set k r2).map (·.id)=rs.map (·.id):=by
 apply List.ext_getElem?
 intro j;simp only [List.getElem?_map,List.getElem?_set];by_cases e:k=j
 ·subst e
  rw [if_pos rfl,if_pos (List.getElem?_eq_some_iff.1 hr).1,hr];simp [h]
 ·rw [if_neg e]
theorem juk {rs rs':List Rn} {q:Int} {L:List En} {r2:Rn} {ids:List Int} (h:EnsI rs q L) (hq:1≤q) (hid:(rs'.map (·.id)).Nodup) (hr2:r2∈rs') (hids:ids.Nodup)
 (h1:∀t∈ids,∃(j:Nat) (x:Tk),t=j∧r2.tasks[j]?=some x∧x.state=2)
 (h2:∀e∈L,∃r∈rs',∃(t:Nat) (x:Tk),e.run=r.id∧e.task=t∧r.tasks[t]?=some x∧(x.state=2∧e.prio=r.plan.prio∨x.state=6))
 (h3:∀r'∈rs',r'.id≠r2.id→r'∈rs)
 (h4:∀(t:Nat) (x:Tk),r2.tasks[t]?=some x→x.state=2→(t:Int)∉ids→zM r2.id t L=1)
 (h5:∀t∈ids,zM r2.id t L=0):EnsI rs' (q+ids.length) (jk4 r2.plan.prio r2.id q ids++L):=by
 refine ⟨fun e he=>?_,?_,fun e he=>?_,fun r' hr' t x hx hs=>?_⟩
 ·rcases List.mem_append.1 he with he|he
  ·obtain ⟨_,_,_,k4,k5⟩:=jdh he;omega
  ·have:=h.range e he;omega
 ·rw [List.map_append]
  refine List.nodup_append.2 ⟨jk3 _ _ _ _,h.apart,fun a ha b hb e=>?_⟩
  obtain ⟨e1,he1,rfl⟩:=List.mem_map.1 ha;obtain ⟨e2,he2,rfl⟩:=List.mem_map.1 hb;have:=(jdh he1).2.2.2.1;have:=h.range e2 he2;omega
 ·rcases List.mem_append.1 he with he|he
  ·obtain ⟨k1,k2,k3,_⟩:=jdh he
   obtain ⟨j,x,hj,hx,hs⟩:=h1 _ k3;exact ⟨r2,hr2,j,x,k2,hj,hx,.inl ⟨hs,k1⟩⟩
  ·exact h2 e he
 ·rw [jhi]
  by_cases hi:r'.id=r2.id
  ·obtain rfl:=jiI hid hr' hr2 hi
   rw [jqB];by_cases ht:(t:Int)∈ids
   ·rw [hids.count,if_pos ht,h5 _ ht]
   ·rw [List.count_eq_zero.2 ht,h4 t x hx hs ht]
  ·rw [jmB (L:=jk4 _ _ _ _) (fun e he=>by have:=(jdh he).2.1;rintro ⟨k1,_⟩;exact hi (k1.symm.trans this)),h.one r' (h3 r' hr' hi) t x hx hs]
theorem jpZ {α:Type} (f:α→Nat) (l:List α) (x:α):vT f (l++[x])=vT f l+f x:=by simp [vT]
theorem RnsI.turn {now:Int} {rs:List Rn} {k:Nat} {r r2:Rn} (h:RnsI now rs) (hr:rs[k]?=some r) (hg:joM r r2):RnsI now (rs.set k r2):=by
 refine ⟨by rw [List.length_set];exact h.eight,fun r' hr'=>?_,by rw [joY hr hg.id];exact h.ids,fun r' hr' t x hx hs=>?_,fun r' hr' x hx hs=>?_⟩
 ·rcases jcl hr' with rfl|⟨j,_,hj⟩
  ·exact hg.ok
  ·exact h.right r' (List.mem_of_getElem? hj)
 ·rcases jcl hr' with rfl|⟨j,_,hj⟩
  ·obtain ⟨z,hz⟩:=je (show t<r.tasks.length by rw [←hg.len];exact (List.getElem?_eq_some_iff.1 hx).1)
   have:=(hg.task t z x hz hx).2.2.2.1 hs;subst this;rw [hg.plan];exact h.til r (List.mem_of_getElem? hr) t x hz hs
  ·exact h.til r' (List.mem_of_getElem? hj) t x hx hs
 ·rcases jcl hr' with rfl|⟨j,_,hj⟩
  ·obtain ⟨t,hx⟩:=List.getElem?_of_mem hx
   obtain ⟨z,hz⟩:=je (show t<r.tasks.length by rw [←hg.len];exact (List.getElem?_eq_some_iff.1 hx).1)
   obtain ⟨h1,h2⟩:=(hg.task t z x hz hx).2.2.2.2 hs;rw [h2];exact h.tri r (List.mem_of_getElem? hr) z (List.mem_of_getElem? hz) h1
  ·exact h.tri r' (List.mem_of_getElem? hj) x hx hs
theorem jyV {rs:List Rn} {k:Nat} {r r2:Rn} {q:Int} {L:List En} (h:EnsI rs q L) (hr:rs[k]?=some r) (hg:joM r r2):∀e∈L,∃r∈rs.set k r2,∃(t:Nat) (x:Tk),e.run=r.id∧e.task=t∧r.tasks[t]?=some x∧(x.state=2∧e.prio=r.plan.prio∨x.state=6):=by
 intro e he;have hk:=(List.getElem?_eq_some_iff.1 hr).1;obtain ⟨r',hr',t,x,h1,h2,h3,h4⟩:=h.own e he;obtain ⟨j,hj⟩:=List.getElem?_of_mem hr';by_cases ejk:k=j
 ·subst ejk
  rw [hr] at hj;obtain rfl:=Option.some.inj hj;obtain ⟨z,hz⟩:=je (show t<r2.tasks.length by rw [hg.len];exact (List.getElem?_eq_some_iff.1 h3).1)
  obtain ⟨g1,g2,_⟩:=hg.task t x z h3 hz;refine ⟨r2,List.mem_of_getElem? (List.getElem?_set_self hk),t,z,by rw [hg.id];exact h1,h2,hz,?_⟩
  rcases h4 with ⟨h4,h5⟩|h4
  ·rcases g1 h4 with g|g
   ·exact .inl ⟨g,by rw [hg.plan];exact h5⟩
   ·exact .inr g
  ·exact .inr (g2 h4)
 ·exact ⟨r',List.mem_of_getElem? (i:=j) (by rw [List.getElem?_set_ne ejk];exact hj),t,x,h1,h2,h3,h4⟩
theorem jzG {rs:List Rn} {q:Int} {L:List En} (h:EnsI rs q L) (hid:(rs.map (·.id)).Nodup) {r:Rn} {t:Nat} {x:Tk} (hr:r∈rs) (hx:r.tasks[t]?=some x) (h2:x.state≠2) (h6:x.state≠6):zM r.id t L=0:=by
 refine jmB fun e he=>?_
 rintro ⟨k1,k2⟩;obtain ⟨r',hr',t',x',h1,h3,h4,h5⟩:=h.own e he;obtain rfl:=jiI hid hr hr' (k1.symm.trans h1);obtain rfl:t=t':=by omega
 rw [hx] at h4;obtain rfl:=Option.some.inj h4;rcases h5 with h5|h5
 ·exact h2 h5.1
 ·exact h6 h5
theorem YdI.turn {y:Yd} {k:Nat} {r r2:Rn} (h:YdI y) (hr:y.runs[k]?=some r) (hg:joM r r2):YdI (kM y k r2):=by
 have hk:=(List.getElem?_eq_some_iff.1 hr).1;obtain ⟨-,hs4⟩:=jym r2.id;obtain ⟨l,hl⟩:=je (show shN r2.id<y.shelf.length by rw [h.four];exact hs4)
 have hR:=h.rns.turn hr hg
 have e:kM y k r2=⟨y.now,y.seq+(vP r.tasks r2.tasks r2.tasks.length).length,y.shelf.set (shN r2.id) (vQ r2.plan.prio r2.id (vP r.tasks r2.tasks r2.tasks.length) (l,y.seq)).1,y.runs.set k r2⟩:=by
  rw [kM,jsg];simp only [hr,Option.getD_some,hl,zB]
 obtain ⟨rest,p1,p2⟩:=zp hl (vQ r2.plan.prio r2.id (vP r.tasks r2.tasks r2.tasks.length) (l,y.seq)).1
 have hp:(jk4 r2.plan.prio r2.id y.seq (vP r.tasks r2.tasks r2.tasks.length)++y.shelf.flatten).Perm (y.shelf.set (shN r2.id) (vQ r2.plan.prio r2.id (vP r.tasks r2.tasks r2.tasks.length) (l,y.seq)).1).flatten:=by
  refine ((List.Perm.append_left _ p1).trans ?_).trans p2.symm;rw [←List.append_assoc];exact ((jjp _ _ _ _ _).symm).append_right _
 have hE:EnsI (y.runs.set k r2) (y.seq+(vP r.tasks r2.tasks r2.tasks.length).length) (jk4 r2.plan.prio r2.id y.seq (vP r.tasks r2.tasks r2.tasks.length)++y.shelf.flatten):=by
  refine juk h.ens h.seq hR.ids (List.mem_of_getElem? (List.getElem?_set_self hk)) (jsa _ _ _) (fun t ht=>?_) (jyV h.ens hr hg) (fun r' hr' hi=>?_) (fun t x hx hs ht=>?_) (fun t ht=>?_)
  ·obtain ⟨j,rfl,hj,hn⟩:=newL_mem.1 ht
   obtain ⟨z,hz⟩:=je hj;simp only [joO,kw hz,Bool.and_eq_true,beq_iff_eq] at hn;exact ⟨j,z,rfl,hz,hn.1⟩
  ·rcases jcl hr' with rfl|⟨j,_,hj⟩
   ·exact absurd rfl hi
   ·exact List.mem_of_getElem? hj
  ·have ht2:=(List.getElem?_eq_some_iff.1 hx).1
   obtain ⟨z,hz⟩:=je (show t<r.tasks.length by rw [←hg.len];exact ht2)
   have hz2:z.state=2:=Classical.byContradiction fun hne=>ht (newL_mem.2 ⟨t,rfl,ht2,by rw [jqC hz hx,hs];simp [hne]⟩)
   rw [hg.id];exact h.ens.one r (List.mem_of_getElem? hr) t z hz hz2
  ·obtain ⟨j,rfl,hj,hn⟩:=newL_mem.1 ht
   obtain ⟨z,hz⟩:=je hj;obtain ⟨x,hx⟩:=je (show j<r.tasks.length by rw [←hg.len];exact hj)
   rw [jqC hx hz] at hn;simp only [Bool.and_eq_true,beq_iff_eq,Bool.not_eq_true',beq_eq_false_iff_ne] at hn;rw [hg.id];exact jzG h.ens h.rns.ids (List.mem_of_getElem? hr) hx hn.2 ((hg.task j x z hx hz).2.2.1 hn.1)
 have hlen:=hp.length_eq;rw [List.length_append,jmc] at hlen;have hroom:=h.room;have hg6:=hg.room;have t1:=qV (f:=kK) r2 hr;have t2:=qV (f:=fun r=>cS 2 r.tasks) r2 hr
 rw [e];refine ⟨h.now,by have:=h.seq;dsimp only;omega,by rw [List.length_set];exact h.four,fun m hm=>?_,hR,hE.perm hp,by simp only [jbL] at hroom⊢;omega⟩
 rcases List.mem_or_eq_of_mem_set hm with hm|rfl
 ·exact h.sorted m hm
 ·exact jme _ _ _ (h.sorted l (List.mem_of_getElem? hl)) fun x hx=>by
   have:=h.ens.range x (List.mem_flatten.2 ⟨l,List.mem_of_getElem? hl,hx⟩);omega
def stD (z:Tk):Tk:=⟨if IntKind.i64.wrap (z.need-1)=0 then 2 else z.state,IntKind.i64.wrap (z.need-1),z.tri,z.til⟩
theorem jtc {ts:List Tk} {b:Int} (hb:0≤b) (j:Nat):(jaB ts b)[j]?=(ts[j]?).map fun z=>if (j:Int)=b then stD z else z:=by
 unfold jaB;by_cases e:(j:Int)=b
 ·have ej:b.toNat=j:=by omega
  rw [ej];cases hz:ts[j]? with
  |none=>simp [hz]
  |some z=>
   have hj:=(List.getElem?_eq_some_iff.1 hz).1;simp only [Option.map_some,if_pos e];rw [List.getElem?_set_self hj];rfl
 ·have ej:b.toNat≠j:=by omega
  cases hz:ts[b.toNat]? with
  |none=>simp [e]
  |some z=>simp only [if_neg e];rw [List.getElem?_set_ne ej];simp
theorem jn8:∀{l:List Int} {ts:List Tk},l.Nodup→(∀b∈l,0≤b)→∀j:Nat,(l.foldl jaB ts)[j]?=(ts[j]?).map fun z=>if (j:Int)∈l then stD z else z
 |[],ts,_,_,j=>by simp
 |b::l,ts,hn,h0,j=>by
  obtain ⟨h1,h2⟩:=List.nodup_cons.1 hn;rw [List.foldl_cons,jn8 h2 (fun x hx=>h0 x (by simp [hx])) j,jtc (h0 b (by simp)) j,Option.map_map]
  congr 1
  funext z
  simp only [Function.comp,List.mem_cons];by_cases e:(j:Int)=b
  ·have:¬(j:Int)∈l:=by rw [e];exact h1
   simp [e,h1]
  ·simp [e]
theorem jpG {l:List Int} {p:Int→Bool} {t:Int} (hn:l.Nodup) (ht:t∈l) (hp:p t=true):(l.filter p).length=(l.filter fun b=>p b&&(b !=t)).length+1:=by
 induction l with
 |nil=>simp at ht
 |cons a l ih=>
  obtain ⟨h1,h2⟩:=List.nodup_cons.1 hn;rcases List.mem_cons.1 ht with rfl|ht
  ·have e:l.filter (fun b=>p b&&(b !=t))=l.filter p:=List.filter_congr fun b hb=>by
    have:b≠t:=fun e=>h1 (e▸hb)
    simp [this]
   rw [List.filter_cons,if_pos hp,List.filter_cons,if_neg (by simp),e];rfl
  ·have hat:a≠t:=fun e=>h1 (e▸ht)
   have:=ih h2 ht;rw [List.filter_cons,List.filter_cons];cases hpa:p a<;>simp [hat,this]
theorem jpF {l:List Int} {p:Int→Bool} {t:Int} (ht:t∉l):(l.filter fun b=>p b&&(b !=t))=l.filter p:=List.filter_congr fun b hb=>by
 have:b≠t:=fun e=>ht (e▸hb)
 simp [this]
theorem jpQ {p:Pl} (h:jw p=0) {a b:Nat}:(a:Int)∈zt p b↔(b:Int)∈jbu p a:=by
 obtain ⟨n,hn,_,_,_,hes,_⟩:=jcb h;have e1:p.tasks.toNat=n:=by omega
 rw [zt,jbu,e1,(ja7 (jj1 hes b)).mem_iff,(ja7 (jmI hes a)).mem_iff,jeY,jeX];simp only [List.mem_map,List.mem_filter,beq_iff_eq];constructor
 ·rintro ⟨e,⟨h1,h2⟩,h3⟩;exact ⟨e,⟨h1,h3⟩,h2⟩
 ·rintro ⟨e,⟨h1,h2⟩,h3⟩;exact ⟨e,⟨h1,h3⟩,h2⟩
theorem jsF {p:Pl} (h:jw p=0) (t:Int):(jbu p t).Nodup:=by
 obtain ⟨n,hn,_,_,_,hes,hd,_⟩:=jcb h;rw [jbu,show p.tasks.toNat=n by omega]
 exact (ja7 (jmI hes t)).nodup_iff.2 (jlo hd t)
theorem jsH {p:Pl} (h:jw p=0) (t:Int):(zt p t).Nodup:=by
 obtain ⟨n,hn,_,_,_,hes,hd,_⟩:=jcb h;rw [zt,show p.tasks.toNat=n by omega]
 exact (ja7 (jj1 hes t)).nodup_iff.2 (jlp hd t)
theorem RunOkP.need_pos {r:Rn} (h:RunOkP r) {t j:Nat} {x z:Tk} (hx:r.tasks[t]?=some x) (hs:x.state=3) (hz:r.tasks[j]?=some z) (hj:(j:Int)∈jbu r.plan t):z.state=1∧z.need=jaD r.plan r.tasks j∧1≤jaD r.plan r.tasks j:=by
 obtain ⟨e1,e2,e3,e4⟩:=h.runs hx hs;have hT:=taskB_iff.1 (h.tasks j z hz)
 have hp:1≤jaD r.plan r.tasks j:=by
  have hm:(t:Int)∈(zt r.plan j).filter fun b=>stT r.tasks b !=4:=List.mem_filter.2 ⟨(jpQ h.plan).2 hj,by rw [kw hx,hs];rfl⟩
  have:=List.length_pos_of_mem hm;simp only [jaD];omega
 have h6:z.state≠6:=jrb e3 hz;have hl:=hT.2.2.2.2;unfold qT at hl;refine ⟨?_,hT.2.1,hp⟩;refine Classical.byContradiction fun h1=>?_
 rw [if_neg h1] at hl;split at hl
 ·simp only [Bool.and_eq_true,beq_iff_eq] at hl;omega
 ·simp only [if_neg h6,Bool.and_eq_true,beq_iff_eq] at hl;omega
section
variable {r:Rn} {t:Nat} {x:Tk}
theorem jwX (h:RunOkP r) (j:Nat):(vI r.plan r.tasks t x)[j]?=((r.tasks.set t ⟨4,x.need,x.tri,0⟩)[j]?).map fun z=>if (j:Int)∈jbu r.plan t then stD z else z:=by
 obtain ⟨n,hn,_,_,_,hes,_⟩:=jcb h.plan;exact jn8 (jsF h.plan t) (fun b hb=>(jpO hn hb).1) j
theorem jqy (h:RunOkP r) (hx:r.tasks[t]?=some x) (hs:x.state=3):¬(t:Int)∈jbu r.plan t:=fun hm=>by
 have:=(h.need_pos hx hs hx hm).1;omega
theorem jdo (h:RunOkP r) (hx:r.tasks[t]?=some x) (hs:x.state=3) {j:Nat} {w:Tk} (hw:(vI r.plan r.tasks t x)[j]?=some w):
 (j=t∧w=⟨4,x.need,x.tri,0⟩)∨(j≠t∧∃z,r.tasks[j]?=some z∧((j:Int)∈jbu r.plan t∧w=stD z∨¬(j:Int)∈jbu r.plan t∧w=z)):=by
 have ht:=(List.getElem?_eq_some_iff.1 hx).1;rw [jwX h] at hw;by_cases e:j=t
 ·subst e
  rw [List.getElem?_set_self ht,Option.map_some,if_neg (jqy h hx hs)] at hw;exact .inl ⟨rfl,(Option.some.inj hw).symm⟩
 ·rw [List.getElem?_set_ne (fun e'=>e e'.symm)] at hw
  obtain ⟨z,hz,rfl⟩:=Option.map_eq_some_iff.1 hw;refine .inr ⟨e,z,hz,?_⟩;by_cases hm:(j:Int)∈jbu r.plan t
  ·exact .inl ⟨hm,by rw [if_pos hm]⟩
  ·exact .inr ⟨hm,by rw [if_neg hm]⟩
theorem jxq {z:Tk} (h:z.state=1):(stD z).state=1∨(stD z).state=2:=by
 simp only [stD];split
 ·exact .inr rfl
 ·exact .inl h
theorem jwW (h:RunOkP r) (hx:r.tasks[t]?=some x) (hs:x.state=3) (j:Nat):(stT (vI r.plan r.tasks t x) j !=4)=(stT r.tasks j !=4&&((j:Int) !=t)):=by
 have ht:=(List.getElem?_eq_some_iff.1 hx).1;cases hw:(vI r.plan r.tasks t x)[j]? with
 |none=>
  have hz:r.tasks[j]?=none:=by rw [List.getElem?_eq_none_iff] at hw⊢;rw [jbk] at hw;exact hw
  have hjt:¬j=t:=fun e=>by subst e;rw [hx] at hz;cases hz
  have hjt':((j:Int) !=t)=true:=by simp only [bne_iff_ne];omega
  simp only [stT,Int.toNat_natCast,hw,hz,hjt',Bool.and_true]
 |some w=>
  rw [kw hw];rcases jdo h hx hs hw with ⟨rfl,rfl⟩|⟨hne,z,hz,⟨hm,rfl⟩|⟨hm,rfl⟩⟩
  ·simp
  ·have h1:=(h.need_pos hx hs hz hm).1
   have hjt':((j:Int) !=t)=true:=by simp only [bne_iff_ne];omega
   rw [kw hz,h1,hjt'];rcases jxq h1 with h2|h2<;>rw [h2]<;>rfl
  ·have hjt':((j:Int) !=t)=true:=by simp only [bne_iff_ne];omega
   rw [kw hz,hjt',Bool.and_true]
theorem jsx (h:RunOkP r) (hx:r.tasks[t]?=some x) (hs:x.state=3) (j:Nat):jaD r.plan (vI r.plan r.tasks t x) j=jaD r.plan r.tasks j-if (j:Int)∈jbu r.plan t then 1 else 0:=by
 obtain ⟨n,hn,_,_,_,hes,_⟩:=jcb h.plan
 have e:(zt r.plan j).filter (fun b=>stT (vI r.plan r.tasks t x) b !=4)=(zt r.plan j).filter fun b=>(stT r.tasks b !=4)&&(b !=(t:Int)):=List.filter_congr fun b hb=>by
  have hb0:0≤b:=by
   rw [zt] at hb;exact (je6 hb).1.1
  obtain ⟨m,rfl⟩:=Int.eq_ofNat_of_zero_le hb0;exact jwW h hx hs m
 simp only [jaD];rw [e];by_cases hm:(j:Int)∈jbu r.plan t
 ·have:=jpG (p:=fun b=>stT r.tasks b !=4) (jsH h.plan j) ((jpQ h.plan).2 hm) (by rw [kw hx,hs];rfl)
  rw [if_pos hm];omega
 ·have:=jpF (p:=fun b=>stT r.tasks b !=4) (fun hc=>hm ((jpQ h.plan).1 hc))
  rw [if_neg hm,this];omega
theorem juW (h:RunOkP r) (hx:r.tasks[t]?=some x) (hs:x.state=3) (h0:∀z∈r.tasks,z.state=1→z.tri=0):joM r (jhV r t x):=by
 obtain ⟨e1,e2,e3,e4⟩:=h.runs hx hs;obtain ⟨n,hn,hn1,h12,h30,hes,hnd,hprio,hmost,hwait⟩:=jcb h.plan;have hx1:=taskB_iff.1 (h.tasks t x hx);have hxl:=hx1.2.2.2.2;simp only [qT,hs] at hxl;have hxl:x.need=0∧1≤x.tri:=by simpa using hxl
 have hnl:∀j:Nat,jaD r.plan r.tasks j≤12:=fun j=>by
  have h1:=List.length_filter_le (fun b=>stT r.tasks b !=4) (zt r.plan j)
  have h2:(zt r.plan j).length≤n:=by
   rw [zt,show r.plan.tasks.toNat=n by omega,jvQ (jj1 hes j)]
   exact jre hnd hes j
  simp only [jaD];omega
 have hstate:=jli h hx hs;have hlen:=jbk r.plan r.tasks t x;refine ⟨rfl,rfl,⟨h.id,h.plan,by show ((vI r.plan r.tasks t x).length:Int)=_;rw [hlen];exact h.len,fun j w hw=>?_,hstate.symm,?_⟩,hlen,fun j z w hz hw=>?_,?_⟩
 ·show jS r.plan (vI r.plan r.tasks t x) j w=true
  rw [taskB_iff,jsx h hx hs];rcases jdo h hx hs hw with ⟨rfl,rfl⟩|⟨hne,z,hz,⟨hm,rfl⟩|⟨hm,rfl⟩⟩
  ·rw [if_neg (jqy h hx hs)]
   exact ⟨by simp,by rw [hx1.2.1];omega,hx1.2.2.1,rfl,by simp [qT,hxl.1,hxl.2]⟩
  ·obtain ⟨g1,g2,g3⟩:=h.need_pos hx hs hz hm
   have g4:=hnl j;have g5:=h0 z (List.mem_of_getElem? hz) g1;have hw1:IntKind.i64.wrap (z.need-1)=z.need-1:=jf (by omega) (by omega)
   have hzT:=taskB_iff.1 (h.tasks j z hz)
   have htil:z.til=0:=by
    have:=hzT.2.2.2.1;simpa [ja6,g1] using this
   rw [if_pos hm];simp only [stD,hw1];by_cases hz0:z.need-1=0
   ·rw [if_pos hz0]
    refine ⟨by simp,by omega,hzT.2.2.1,by simp [ja6,htil],?_⟩
    have:z.tri<r.plan.most:=by omega
    simp [qT,hz0,this]
   ·rw [if_neg hz0]
    refine ⟨by simp [g1],by omega,hzT.2.2.1,by simp [ja6,g1,htil],?_⟩
    have:0<z.need-1:=by omega
    simp only [qT,g1,if_true,decide_eq_true_eq];exact this
  ·have hzT:=taskB_iff.1 (h.tasks j _ hz)
   rw [if_neg hm,Int.sub_zero];exact hzT
 ·show (if _ then (2:Int) else r.state)≠0
  split<;>omega
 ·have hw2:(vI r.plan r.tasks t x)[j]?=some w:=hw
  rcases jdo h hx hs hw2 with ⟨rfl,rfl⟩|⟨hne,z',hz',⟨hm,rfl⟩|⟨hm,rfl⟩⟩
  ·rw [hx] at hz
   obtain rfl:=Option.some.inj hz;simp [hs]
  ·rw [hz] at hz'
   obtain rfl:=Option.some.inj hz';have g1:=(h.need_pos hx hs hz hm).1;have g3:(stD z).tri=z.tri:=rfl;rcases jxq g1 with g2|g2<;>rw [g2,g1,g3]<;>refine ⟨fun g=>?_,fun g=>?_,fun g=>?_,fun g=>?_,fun g=>?_⟩<;>first|omega|(simp;done)|exact ⟨rfl,rfl⟩
  ·rw [hz] at hz'
   obtain rfl:=Option.some.inj hz';refine ⟨fun g=>.inl g,fun g=>g,fun g=>by omega,fun _=>rfl,fun g=>⟨g,rfl⟩⟩
 ·have hk:=jnl (was:=r.tasks) (ts:=vI r.plan r.tasks t x) hlen fun j z w hz hw g=>by
   rcases jdo h hx hs hw with ⟨rfl,rfl⟩|⟨hne,z',hz',⟨hm,rfl⟩|⟨hm,rfl⟩⟩
   ·rw [hx] at hz
    obtain rfl:=Option.some.inj hz;omega
   ·rw [hz] at hz'
    obtain rfl:=Option.some.inj hz';have:=(h.need_pos hx hs hz hm).1;omega
   ·rw [hz] at hz'
    obtain rfl:=Option.some.inj hz';exact g
  have hlv:kK (jhV r t x)≤kK r:=by
   unfold kK;rw [if_pos e1];split
   ·show (vI r.plan r.tasks t x).length≤_;omega
   ·omega
  show kK (jhV r t x)+cS 2 r.tasks+(vP r.tasks (vI r.plan r.tasks t x) (vI r.plan r.tasks t x).length).length≤kK r+cS 2 (vI r.plan r.tasks t x);omega
theorem jnH {was ts:List Tk} (h:∀z∈ts,z.state≠2) (k:Nat) (hk:k≤ts.length):vP was ts k=[]:=by
 have:∀v,v∉vP was ts k:=fun v hv=>by
  obtain ⟨j,rfl,hj,hn⟩:=newL_mem.1 hv;obtain ⟨z,hz⟩:=je (show j<ts.length by omega)
  simp only [joO,kw hz,Bool.and_eq_true,beq_iff_eq] at hn;exact h z (List.mem_of_getElem? hz) hn.1
 exact List.eq_nil_iff_forall_not_mem.2 this
theorem jsv (h:RunOkP r) (hx:r.tasks[t]?=some x) (hs:x.state=3):joM r (zg r t x):=by
 have hok:=joe h hx hs;obtain ⟨e1,e2,e3,e4⟩:=h.runs hx hs;have ht:=(List.getElem?_eq_some_iff.1 hx).1;by_cases hm:x.tri<r.plan.most
 ·have e:zg r t x=⟨r.id,r.plan,r.state,r.tasks.set t ⟨2,x.need,x.tri,0⟩⟩:=by rw [zg,if_pos hm]
  rw [e] at hok⊢
  have key:∀(j:Nat) (z w:Tk),r.tasks[j]?=some z→(r.tasks.set t ⟨2,x.need,x.tri,0⟩)[j]?=some w→(j=t∧z=x∧w=⟨2,x.need,x.tri,0⟩)∨w=z:=fun j z w hz hw=>by
   rw [List.getElem?_set] at hw;by_cases e:t=j
   ·subst e
    rw [if_pos rfl,if_pos ht] at hw;rw [hx] at hz;exact .inl ⟨rfl,(Option.some.inj hz).symm,(Option.some.inj hw).symm⟩
   ·rw [if_neg e,hz] at hw
    exact .inr (Option.some.inj hw).symm
  refine ⟨rfl,rfl,hok,List.length_set ..,fun j z w hz hw=>?_,?_⟩
  ·rcases key j z w hz hw with ⟨rfl,rfl,rfl⟩|rfl
   ·simp [hs]
   ·exact ⟨fun g=>.inl g,fun g=>g,fun g=>by omega,fun _=>rfl,fun g=>⟨g,rfl⟩⟩
  ·have hk:=jnl (was:=r.tasks) (ts:=r.tasks.set t ⟨2,x.need,x.tri,0⟩) (List.length_set ..) fun j z w hz hw g=>by
    rcases key j z w hz hw with ⟨rfl,rfl,rfl⟩|rfl
    ·rfl
    ·exact g
   have hlv:kK ⟨r.id,r.plan,r.state,r.tasks.set t ⟨2,x.need,x.tri,0⟩⟩=kK r:=by simp [kK]
   rw [hlv];dsimp only;omega
 ·have e:zg r t x=⟨r.id,r.plan,3,qU jA (r.tasks.set t ⟨5,x.need,x.tri,0⟩) r.tasks.length⟩:=by rw [zg,if_neg hm]
  rw [e] at hok⊢;have hl:(qU jA (r.tasks.set t ⟨5,x.need,x.tri,0⟩) r.tasks.length).length=r.tasks.length:=by rw [vX,List.length_set]
  have key:∀(j:Nat) (z w:Tk),r.tasks[j]?=some z→(qU jA (r.tasks.set t ⟨5,x.need,x.tri,0⟩) r.tasks.length)[j]?=some w→(w.state=4∧z.state=4)∨(w.state=5∧z.state=3)∨(w.state=6∧z.state≠4):=fun j z w hz hw=>by
   have el:r.tasks.length=(r.tasks.set t ⟨5,x.need,x.tri,0⟩).length:=by rw [List.length_set]
   rw [el] at hw;obtain ⟨u,hu,rfl⟩:=jfh hw;rw [List.getElem?_set] at hu;by_cases e:t=j
   ·subst e
    rw [if_pos rfl,if_pos ht] at hu;obtain rfl:=Option.some.inj hu;rw [hx] at hz;obtain rfl:=Option.some.inj hz;exact .inr (.inl ⟨by simp [jA],hs⟩)
   ·rw [if_neg e,hz] at hu
    obtain rfl:=Option.some.inj hu;have h5:z.state≠5:=jrb e2 hz;by_cases h4:z.state=4
    ·exact .inl ⟨by simp [jA,h4],h4⟩
    ·exact .inr (.inr ⟨by simp [jA,h4,h5],h4⟩)
  have no2:∀w∈qU jA (r.tasks.set t ⟨5,x.need,x.tri,0⟩) r.tasks.length,w.state≠2:=fun w hw=>by
   obtain ⟨j,hj⟩:=List.getElem?_of_mem hw;obtain ⟨z,hz⟩:=je (show j<r.tasks.length by rw [←hl];exact (List.getElem?_eq_some_iff.1 hj).1)
   rcases key j z w hz hj with g|g|g<;>omega
  refine ⟨rfl,rfl,hok,hl,fun j z w hz hw=>?_,?_⟩
  ·have h6:z.state≠6:=jrb e3 hz
   rcases key j z w hz hw with ⟨g,g'⟩|⟨g,g'⟩|⟨g,g'⟩<;>rw [g]<;>refine ⟨fun _=>?_,fun _=>?_,fun _=>?_,fun _=>?_,fun _=>?_⟩<;>simp_all
  ·have:=jbf h
   have e0:vP r.tasks (qU jA (r.tasks.set t ⟨5,x.need,x.tri,0⟩) r.tasks.length) (qU jA (r.tasks.set t ⟨5,x.need,x.tri,0⟩) r.tasks.length).length=[]:=jnH no2 _ (Nat.le_refl _);dsimp only;rw [e0];simp [kK] at this⊢;split at this<;>simp_all
   all_goals omega
end
theorem jfb {r:Rn} (h:RunOkP r) (t:Int) (hr:vq r t=true):joM r (jG r t):=by
 obtain ⟨k,x,rfl,hx,hs,_⟩:=jaJ hr;rw [qC hx hr];exact jsv h hx hs
theorem jnd {r:Rn} (h:RunOkP r) (h0:∀z∈r.tasks,z.state=1→z.tri=0) (t:Int) (hr:vq r t=true):joM r (qI r t):=by
 obtain ⟨k,x,rfl,hx,hs,_⟩:=jaJ hr;rw [jey hx hr];exact juW h hx hs h0
theorem jyo {y:Yd} (h:YdI y) {k:Nat} {t:Int} {r:Rn} (hr:y.runs[k]?=some r) (ht:0≤t) (hs:stT r.tasks t=3):vq r t=true:=by
 obtain ⟨n,rfl⟩:=Int.eq_ofNat_of_zero_le ht;cases hx:r.tasks[n]? with
 |none=>
  have:stT r.tasks (n:Int)=0:=by simp only [stT,Int.toNat_natCast,hx,Option.getD_none];rfl
  omega
 |some x=>
  rw [kw hx] at hs;exact jgs (h.rns.right r (List.mem_of_getElem? hr)) hx hs
theorem YdI.failK {y:Yd} (h:YdI y) (k t:Nat):YdI (failK y k t):=by
 unfold Go.Proofs.YtcehjhiglmifjaaGreat.failK;split
 ·rename_i hs
  cases hk:y.runs[k]? with
  |none=>
   rw [hk] at hs;simp [stT] at hs;cases hs
  |some r=>
   rw [hk,Option.getD_some] at hs;rw [Option.getD_some];exact h.turn hk (jfb (h.rns.right r (List.mem_of_getElem? hk)) _ (jyo h hk (Int.natCast_nonneg _) (by simpa using hs)))
 ·exact h
theorem jrr {y:Yd} {id task:Int} {x:Tk} (h:zF y id task=some x):∃(k t:Nat) (r:Rn),runAt y id=k∧y.runs[k]?=some r∧r.id=id∧task=t∧r.tasks[t]?=some x:=by
 unfold zF at h;split at h
 ·cases h
 ·rename_i hneg
  obtain ⟨k,r,hrk,hr,hid,_⟩:=qP hneg;rw [hrk,Int.toNat_natCast,hr] at h;dsimp only at h;split at h
  ·rename_i h0
   obtain ⟨t,rfl⟩:=Int.eq_ofNat_of_zero_le h0;exact ⟨k,t,r,hrk,hr,hid,rfl,by simpa using h⟩
  ·cases h
theorem jpz {y:Yd} {id task tri:Int} (h:qK y id task tri=true):∃(k t:Nat) (r:Rn) (x:Tk),runAt y id=k∧y.runs[k]?=some r∧r.id=id∧task=t∧r.tasks[t]?=some x∧x.state=3∧x.tri=tri:=by
 unfold qK at h;cases ht:zF y id task with
 |none=>rw [ht] at h;simp at h
 |some x=>
  rw [ht] at h;simp only [Bool.and_eq_true,beq_iff_eq] at h;obtain ⟨k,t,r,h1,h2,h3,h4,h5⟩:=jrr ht;exact ⟨k,t,r,x,h1,h2,h3,h4,h5,h.1,h.2⟩
theorem YdI.comp {y:Yd} (h:YdI y) (id task tri:Int):YdI (jcF y id task tri):=by
 unfold jcF;split
 ·rename_i hc
  obtain ⟨hok,hneg⟩:=joG hc
  have hh:qK y id task tri=true:=by
   obtain ⟨hok,hneg⟩:=joG hc;cases hq:qK y id task tri with
   |true=>rfl
   |false=>rw [jaV,if_neg (by rw [zu hok];decide),if_neg hneg,if_pos hq] at hc;cases hc
  obtain ⟨k,t,r,x,hrk,hr,_,rfl,hx,hs,_⟩:=jpz hh;rw [hrk,Int.toNat_natCast,hr,Option.getD_some];have hR:=h.rns.right r (List.mem_of_getElem? hr);exact h.turn hr (jnd hR (h.rns.tri r (List.mem_of_getElem? hr)) _ (jgs hR hx hs))
 ·exact h
theorem YdI.fail {y:Yd} (h:YdI y) (id task tri:Int):YdI (jcD y id task tri):=by
 unfold jcD;split
 ·rename_i hc
  have hh:qK y id task tri=true:=by
   obtain ⟨hok,hneg⟩:=joG hc;cases hq:qK y id task tri with
   |true=>rfl
   |false=>rw [jaV,if_neg (by rw [zu hok];decide),if_neg hneg,if_pos hq] at hc;cases hc
  obtain ⟨k,t,r,x,hrk,hr,_,rfl,hx,hs,_⟩:=jpz hh;rw [hrk,Int.toNat_natCast,hr,Option.getD_some];have hR:=h.rns.right r (List.mem_of_getElem? hr);exact h.turn hr (jfb hR _ (jgs hR hx hs))
 ·exact h
theorem YdI.restT {y:Yd} (h:YdI y) (k:Nat):∀t,YdI (restT y k t)
 |0=>h
 |t+1=>(YdI.restT h k t).failK k t
theorem YdI.restR {y:Yd} (h:YdI y):∀k,YdI (restR y k)
 |0=>h
 |k+1=>(YdI.restR h k).restT k _
theorem YdI.rest {y:Yd} (h:YdI y):YdI (zG y):=by
 unfold zG;split
 ·exact h.restR _
 ·exact h
def SubR (y z:Yd):Prop:=∀(k t:Nat) (r':Rn) (x:Tk),z.runs[k]?=some r'→r'.tasks[t]?=some x→x.state=3→∃r,y.runs[k]?=some r∧r.id=r'.id∧r.plan=r'.plan∧r.tasks[t]?=some x
theorem SubR.refl (y:Yd):SubR y y:=fun k t r x hr hx _=>⟨r,hr,rfl,rfl,hx⟩
theorem SubR.trans {x y z:Yd} (h:SubR x y) (h':SubR y z):SubR x z:=fun k t r u hr hu hs=>by
 obtain ⟨r1,h1,h2,h3,h4⟩:=h' k t r u hr hu hs;obtain ⟨r2,g1,g2,g3,g4⟩:=h k t r1 u h1 h4 hs;exact ⟨r2,g1,g2.trans h2,g3.trans h3,g4⟩
theorem SubR.failK (y:Yd) (k t:Nat):SubR y (failK y k t):=by
 unfold Go.Proofs.YtcehjhiglmifjaaGreat.failK;split
 ·intro j i r' x hr' hx hs
  rw [jcf,List.getElem?_set] at hr';by_cases e:k=j
  ·subst e
   rw [if_pos rfl] at hr';split at hr'
   ·rename_i hk
    obtain ⟨r,hr⟩:=je hk;rw [hr,Option.getD_some] at hr';obtain rfl:=Option.some.inj hr';have hi:=jex r t;exact ⟨r,hr,hi.1.symm,hi.2.symm,jkS hx hs⟩
   ·simp at hr'
  ·rw [if_neg e] at hr';exact ⟨r',hr',rfl,rfl,hx⟩
 ·exact .refl y
theorem jof {y:Yd} (h:YdI y) {k t:Nat} {r':Rn} {x:Tk} (hr:(failK y k t).runs[k]?=some r') (hx:r'.tasks[t]?=some x):x.state≠3:=by
 intro hs;obtain ⟨r,h1,_,_,h4⟩:=SubR.failK y k t k t r' x hr hx hs;unfold Go.Proofs.YtcehjhiglmifjaaGreat.failK at hr;have hst:stT r.tasks (t:Int)=3:=by rw [kw h4,hs]
 rw [h1,Option.getD_some,hst,if_pos (by decide),jcf,List.getElem?_set_self (List.getElem?_eq_some_iff.1 h1).1] at hr
 obtain rfl:=Option.some.inj hr;have hR:=h.rns.right r (List.mem_of_getElem? h1);have hrb:=jgs hR h4 hs;rw [qC h4 hrb,zg] at hx;have ht:=(List.getElem?_eq_some_iff.1 h4).1;split at hx
 ·dsimp only at hx
  rw [List.getElem?_set_self ht] at hx;have:=congrArg Tk.state (Option.some.inj hx);dsimp only at this;omega
 ·dsimp only at hx
  have e:r.tasks.length=(r.tasks.set t ⟨5,x.need,x.tri,0⟩).length:=by rw [List.length_set]
  rw [e] at hx;obtain ⟨u,hu,he⟩:=jfh hx;rw [List.getElem?_set_self ht] at hu;rw [←Option.some.inj hu] at he;have:=congrArg Tk.state he;simp [jA] at this;omega
theorem jy7 {y:Yd} {r:Rn} {t:Nat} {x:Tk} (hr:r∈y.runs) (hx:r.tasks[t]?=some x) (hs:x.state=3) (hl:x.til≤y.now+1):[r.id,(t:Int),x.tri]∈kv y:=by
 have key:∀(ts:List Tk) (k j:Nat),ts[j]?=some x→[r.id,((k+j:Nat):Int),x.tri]∈vY y.now r k ts:=by
  intro ts
  induction ts with
  |nil=>intro k j h;simp at h
  |cons a ts ih=>
   intro k j h;rw [vY];cases j with
   |zero=>
    simp at h;subst h;refine List.mem_append.2 (.inl ?_)
    have:zR y.now r.id a k=some [r.id,(k:Int),a.tri]:=by
     rw [zR,if_pos];simp only [hs,beq_self_eq_true,Bool.true_and,decide_eq_true_eq];omega
    rw [this];simp
   |succ j=>
    refine List.mem_append.2 (.inr ?_);have:=ih (k+1) j (by simpa using h)
    rwa [show k+1+j=k+(j+1) by omega] at this
 have:=key r.tasks 0 t hx;rw [Nat.zero_add] at this;exact List.mem_flatMap.2 ⟨r,hr,this⟩
theorem juL (y:Yd) (k t:Nat):(failK y k t).runs.map (·.id)=y.runs.map (·.id):=by
 unfold Go.Proofs.YtcehjhiglmifjaaGreat.failK;split
 ·rw [jcf]
  cases hr:y.runs[k]? with
  |none=>rw [List.set_eq_of_length_le (List.getElem?_eq_none_iff.1 hr)]
  |some r=>rw [Option.getD_some,joY hr (jex _ _).1]
 ·rfl
theorem YdI.tickI {y:Yd} (h:YdI y):∀i,i≤(kv y).length→YdI (tickI y i)∧(tickI y i).runs.map (·.id)=y.runs.map (·.id)∧(tickI y i).now=y.now
 |0,_=>⟨h,rfl,rfl⟩
 |i+1,hi=>by
  obtain ⟨h1,h2,h3⟩:=YdI.tickI h i (by omega)
  obtain ⟨l,hl⟩:=je (show i<(kv y).length by omega)
  rw [jet hl,jmW];refine ⟨h1.failK _ _,?_,?_⟩
  ·rw [←h2];exact juL _ _ _
  ·rw [←h3]
   unfold Go.Proofs.YtcehjhiglmifjaaGreat.failK;split<;>rfl
theorem jlx (y:Yd) (i:Nat):∀d:Nat,i+d≤(kv y).length→SubR (tickI y i) (tickI y (i+d)):=by
 intro d
 induction d with
 |zero=>intro _;exact .refl _
 |succ d ih=>
  intro h;obtain ⟨l,hl⟩:=je (show i+d<(kv y).length by omega)
  have h1:=ih (by omega)
  have e:tickI y (i+(d+1))=failK (tickI y (i+d)) (runAt (tickI y (i+d)) (l.headD 0)).toNat (l.tail.headD 0).toNat:=by
   rw [←Nat.add_assoc,jet hl,jmW]
  rw [e];exact h1.trans (.failK _ _ _)
theorem jmT {y:Yd} (h:YdI y):∀r'∈(tickI y (kv y).length).runs,∀(t:Nat) (x:Tk),r'.tasks[t]?=some x→x.state=3→y.now+2≤x.til:=by
 intro r' hr' t x hx hs;refine Classical.byContradiction fun hlt=>?_
 obtain ⟨k,hk⟩:=List.getElem?_of_mem hr';have s0:=jlx y 0 (kv y).length (by omega)
 rw [Nat.zero_add] at s0;obtain ⟨r,hr,hid,-,hx'⟩:=s0 k t r' x hk hx hs;have hr:y.runs[k]?=some r:=hr;obtain ⟨i,hi⟩:=List.getElem?_of_mem (jy7 (List.mem_of_getElem? hr) hx' hs (by omega))
 have hil:=(List.getElem?_eq_some_iff.1 hi).1;have s1:=jlx y (i+1) ((kv y).length-(i+1)) (by omega)
 rw [show i+1+((kv y).length-(i+1))=(kv y).length by omega] at s1
 obtain ⟨r1,hr1,hid1,-,hx1⟩:=s1 k t r' x hk hx hs;obtain ⟨hI,hids,-⟩:=h.tickI i (by omega)
 rw [jet hi,jmW] at hr1
 obtain ⟨r2,hr2⟩:=je (show k<(tickI y i).runs.length by
  have:=congrArg List.length hids;simp only [List.length_map] at this;rw [this];exact (List.getElem?_eq_some_iff.1 hr).1)
 have hid2:r2.id=r.id:=by
  have e1:((tickI y i).runs.map (·.id))[k]?=some r2.id:=by rw [List.getElem?_map,hr2];rfl
  rw [hids,List.getElem?_map,hr] at e1;exact (Option.some.inj e1).symm
 have hat:=joC hI.rns.eight hI.rns.ids hr2;rw [hid2] at hat;have e1:([r.id,(t:Int),x.tri]:List Int).headD 0=r.id:=rfl;have e2:(([r.id,(t:Int),x.tri]:List Int).tail.headD 0).toNat=t:=by simp
 rw [e1,e2,hat,Int.toNat_natCast] at hr1;exact jof hI hr1 hx1 hs
theorem YdI.tick {y:Yd} (h:YdI y):YdI (vE y):=by
 unfold vE;split
 ·rename_i hc
  have hnow:y.now+1≤999999980:=by
   unfold zE at hc;split at hc
   ·cases hc
   ·split at hc
    ·cases hc
    ·omega
  obtain ⟨h1,h2,h3⟩:=h.tickI _ (Nat.le_refl _);have key:=jmT h;have hn:=h.now;generalize Go.Proofs.YtcehjhiglmifjaaGreat.tickI y (kv y).length=z at*
  exact ⟨⟨by dsimp only;omega,hnow⟩,h1.seq,h1.four,h1.sorted,⟨h1.rns.eight,h1.rns.right,h1.rns.ids,fun r hr t x hx hs=>by
   have k1:=key r hr t x hx hs;have k2:=h1.rns.til r hr t x hx hs;dsimp only;omega,h1.rns.tri⟩,h1.ens,h1.room⟩
 ·exact h
theorem js2 {y:Yd} {k:Nat} {r r2:Rn} (hr:y.runs[k]?=some r) (hn:vP r.tasks r2.tasks r2.tasks.length=[]) (h4:y.shelf.length=4):kM y k r2=jhq y k r2:=by
 obtain ⟨-,hs4⟩:=jym r2.id;obtain ⟨l,hl⟩:=je (show shN r2.id<y.shelf.length by rw [h4];exact hs4)
 have e:y.shelf.set (shN r2.id) l=y.shelf:=by
  obtain ⟨h1,h2⟩:=List.getElem?_eq_some_iff.1 hl;rw [←h2];exact List.set_getElem_self h1
 rw [kM,jsg];simp only [hr,Option.getD_some,hn,hl,jfj,e,jhq]
theorem jui {r:Rn} (h:RunOkP r) (hs:r.state=1):joM r (jaE r)∧vP r.tasks (jaE r).tasks (jaE r).tasks.length=[]:=by
 have e:jaE r=⟨r.id,r.plan,4,qU jA r.tasks r.tasks.length⟩:=by rw [jaE,if_pos (by simp [runOk_iff.2 h,hs])]
 have hst:=h.state;rw [hs] at hst
 obtain ⟨c4,c5,c6⟩:cS 4 r.tasks≠r.tasks.length∧cS 5 r.tasks=0∧cS 6 r.tasks=0:=by
  unfold jgo at hst;split at hst
  ·cases hst
  ·rename_i g
   split at hst
   ·cases hst
   ·split at hst
    ·cases hst
    ·split at hst
     ·rename_i g2;exact ⟨g,g2.1,g2.2⟩
     ·cases hst
 have hl:(qU jA r.tasks r.tasks.length).length=r.tasks.length:=vX
 have key:∀(j:Nat) (w:Tk),(qU jA r.tasks r.tasks.length)[j]?=some w→∃z,r.tasks[j]?=some z∧((z.state=4∧w=z)∨(z.state≠4∧w=⟨6,z.need,z.tri,0⟩)):=fun j w hw=>by
  obtain ⟨z,hz,rfl⟩:=jfh hw;have h5:z.state≠5:=jrb c5 hz;refine ⟨z,hz,?_⟩;by_cases h4:z.state=4
  ·exact .inl ⟨h4,by simp [jA,h4]⟩
  ·exact .inr ⟨h4,by simp [jA,h4,h5]⟩
 have hin:∀w∈qU jA r.tasks r.tasks.length,w.state=4∨w.state=6:=fun w hw=>by
  obtain ⟨j,hj⟩:=List.getElem?_of_mem hw;obtain ⟨z,_,⟨h1,rfl⟩|⟨_,rfl⟩⟩:=key j w hj
  ·exact .inl h1
  ·exact .inr rfl
 have hst4:∀b:Int,(stT (qU jA r.tasks r.tasks.length) b !=4)=(stT r.tasks b !=4):=by
  intro b;simp only [stT,qU,List.getElem?_mapIdx];cases hb:r.tasks[b.toNat]? with
  |none=>rfl
  |some z=>simp only [Option.map_some,Option.getD_some,if_pos (List.getElem?_eq_some_iff.1 hb).1,jqF]
 have hN:=fun j=>jbD (p:=r.plan) hst4 j
 have d4:cS 4 (qU jA r.tasks r.tasks.length)=cS 4 r.tasks:=by
  simp only [cS,qM,vO,List.length_map,hl]
  congr 1
  refine List.filter_congr fun j _=>?_
  have:=hst4 (j:Int);cases h1:stT (qU jA r.tasks r.tasks.length) (j:Int)==4<;>cases h2:stT r.tasks (j:Int)==4<;>simp_all [bne]
 have d5:cS 5 (qU jA r.tasks r.tasks.length)=0:=jdB fun z hz=>by rcases hin z hz with g|g<;>omega
 have d1:cS 1 (qU jA r.tasks r.tasks.length)=0:=jdB fun z hz=>by rcases hin z hz with g|g<;>omega
 have d2:cS 2 (qU jA r.tasks r.tasks.length)=0:=jdB fun z hz=>by rcases hin z hz with g|g<;>omega
 have d3:cS 3 (qU jA r.tasks r.tasks.length)=0:=jdB fun z hz=>by rcases hin z hz with g|g<;>omega
 have hsum:=jcg (fun z hz=>by rcases hin z hz with g|g<;>omega) _ (Nat.le_refl (qU jA r.tasks r.tasks.length).length)
 change cS 1 _+cS 2 _+cS 3 _+cS 4 _+cS 5 _+cS 6 _=_ at hsum;have hle:cS 4 r.tasks≤r.tasks.length:=by simp only [cS,qM];exact vC _ _ _
 have hnl:vP r.tasks (qU jA r.tasks r.tasks.length) (qU jA r.tasks r.tasks.length).length=[]:=jnH (fun z hz=>by rcases hin z hz with g|g<;>omega) _ (Nat.le_refl _)
 rw [e];refine ⟨⟨rfl,rfl,⟨h.id,h.plan,by dsimp only;rw [hl];exact h.len,fun j w hw=>?_,?_,by simp⟩,hl,fun j z w hz hw=>?_,?_⟩,hnl⟩
 ·dsimp only at hw⊢
  rw [taskB_iff,hN];obtain ⟨z,hz,⟨g1,rfl⟩|⟨g1,rfl⟩⟩:=key j w hw
  ·exact taskB_iff.1 (h.tasks j _ hz)
  ·have h3:=taskB_iff.1 (h.tasks j _ hz)
   exact ⟨by simp,h3.2.1,h3.2.2.1,rfl,by simp [qT]⟩
 ·dsimp only
  rw [jgo,if_neg (by omega),if_neg (by omega),if_pos ⟨d5,by omega,by omega⟩]
 ·obtain ⟨z',hz',⟨g1,rfl⟩|⟨g1,rfl⟩⟩:=key j w hw
  ·rw [hz] at hz'
   obtain rfl:=Option.some.inj hz';exact ⟨fun g=>by omega,fun g=>g,fun g=>by omega,fun _=>rfl,fun g=>⟨g,rfl⟩⟩
  ·rw [hz] at hz'
   obtain rfl:=Option.some.inj hz';exact ⟨fun _=>.inr rfl,fun _=>rfl,fun g=>by simp at g,fun g=>by simp at g,fun g=>by simp at g⟩
 ·have:=jbf h
  dsimp only;rw [hnl,d2];have hlv:kK ⟨r.id,r.plan,4,qU jA r.tasks r.tasks.length⟩=0:=by simp [kK]
  rw [hlv,List.length_nil];omega
theorem YdI.cancel {y:Yd} (h:YdI y) (id:Int):YdI (kQ y id):=by
 unfold kQ;split
 ·rename_i hc
  unfold qc at hc;split at hc
  ·cases hc
  split at hc
  ·cases hc
  split at hc
  ·rename_i hneg hst
   obtain ⟨k,r,hrk,hr,-,-⟩:=qP hneg;rw [hrk,Int.toNat_natCast,hr,Option.getD_some] at hst⊢;obtain ⟨g1,g2⟩:=jui (h.rns.right r (List.mem_of_getElem? hr)) hst;rw [←js2 hr g2 h.four];exact h.turn hr g1
  ·cases hc
 ·exact h
theorem YdI.forget {y:Yd} (h:YdI y) (id:Int):YdI (jau y id):=by
 unfold jau;split
 ·rename_i hc
  unfold jav at hc;split at hc
  ·cases hc
  split at hc
  ·cases hc
  split at hc
  ·cases hc
  rename_i hneg hst;obtain ⟨k,r,hrk,hr,hid,-⟩:=qP hneg;rw [hrk,Int.toNat_natCast,hr,Option.getD_some] at hst;rw [hrk,Int.toNat_natCast];have hR:=h.rns.right r (List.mem_of_getElem? hr);have hfl:(y.shelf.map fun l=>l.filter (jcd id)).flatten=y.shelf.flatten.filter (jcd id):=by rw [List.filter_flatten]
  have hsub:∀x∈y.runs.eraseIdx k,x∈y.runs:=fun x hx=>List.mem_of_mem_eraseIdx hx
  have hne:∀x∈y.runs.eraseIdx k,x.id≠id:=fun x hx he=>by
   obtain ⟨j,hjk,hj⟩:=List.mem_eraseIdx_iff_getElem?.1 hx;exact hjk (jqN h.rns.ids hj hr (he.trans hid.symm))
  have hstay:∀x∈y.runs,x.id≠id→x∈y.runs.eraseIdx k:=fun x hx he=>by
   obtain ⟨j,hj⟩:=List.getElem?_of_mem hx;refine List.mem_eraseIdx_iff_getElem?.2 ⟨j,fun e=>?_,hj⟩
   subst e;rw [hr] at hj;obtain rfl:=Option.some.inj hj;exact he hid
  have hr0:kK r=0:=by rw [kK,if_neg hst]
  have hc0:cS 2 r.tasks=0:=by have:=jbf hR;omega
  have hE:EnsI (y.runs.eraseIdx k) y.seq (y.shelf.flatten.filter (jcd id)):=by
   refine ⟨fun e he=>h.ens.range e (List.mem_filter.1 he).1,(h.ens.apart).sublist ((List.filter_sublist).map _),fun e he=>?_,fun r' hr' t x hx hs=>?_⟩
   ·obtain ⟨he1,he2⟩:=List.mem_filter.1 he
    obtain ⟨r',hr',t,x,h1,h2,h3,h4⟩:=h.ens.own e he1;have:r'.id≠id:=by rw [←h1];simpa [jcd] using he2
    exact ⟨r',hstay r' hr' this,t,x,h1,h2,h3,h4⟩
   ·have hone:=h.ens.one r' (hsub r' hr') t x hx hs
    rw [←hone];simp only [zM,List.filter_filter]
    congr 1
    refine List.filter_congr fun e _=>?_
    have:=hne r' hr';by_cases g:e.run=r'.id
    ·simp [jcd,g,this]
    ·simp [g]
  have hlen:(y.shelf.flatten.filter (jcd id)).length≤y.shelf.flatten.length:=List.length_filter_le _ _
  have t1:∀f:Rn→Nat,vT f (y.runs.eraseIdx k)+f r=vT f y.runs:=fun f=>by
   obtain ⟨hk,e⟩:=List.getElem?_eq_some_iff.1 hr;have h1:y.runs=y.runs.take k++r::y.runs.drop (k+1):=by rw [←e];simp
   have h2:y.runs.eraseIdx k=y.runs.take k++y.runs.drop (k+1):=List.eraseIdx_eq_take_drop_succ _ _;rw [h2]
   conv=>rhs;rw [h1]
   simp only [vT,List.map_append,List.sum_append,List.map_cons,List.sum_cons];omega
  have t2:=t1 kK;have t3:=t1 fun r=>cS 2 r.tasks
  have hroom:=h.room;refine ⟨h.now,h.seq,by rw [List.length_map];exact h.four,fun l hl=>?_,⟨?_,fun r' hr'=>h.rns.right r' (hsub r' hr'),?_,fun r' hr'=>h.rns.til r' (hsub r' hr'),fun r' hr'=>h.rns.tri r' (hsub r' hr')⟩,by dsimp only;rw [hfl];exact hE,?_⟩
  ·obtain ⟨m,hm,rfl⟩:=List.mem_map.1 hl
   exact (h.sorted m hm).sublist List.filter_sublist
  ·have:=List.length_eraseIdx_le y.runs k
   have:=h.rns.eight;dsimp only;omega
  ·exact (h.rns.ids).sublist ((List.eraseIdx_sublist _ _).map _)
  ·dsimp only
   rw [hfl];simp only [jbL] at hroom⊢;omega
 ·exact h
theorem jmb {p:Pl} {n t:Nat} {x:Tk} (h:(vN p n)[t]?=some x):t<n∧x=jkq p t:=by
 have ht:=(List.getElem?_eq_some_iff.1 h).1;simp only [vN,List.length_map,List.length_range] at ht;simp only [vN,List.getElem?_map,List.getElem?_range ht,Option.map_some] at h;exact ⟨ht,(Option.some.inj h).symm⟩
theorem jtC {id:Int} {p:Pl} (hid:1≤id∧id≤9999) (hp:jw p=0):RunOkP (jY id p):=by
 obtain ⟨n,hn,hn1,h12,h30,hes,hnd,hprio,hmost,hwait⟩:=jcb hp;have hnt:p.tasks.toNat=n:=by omega
 have hlen:(vN p n).length=n:=by simp [vN]
 have hin:∀z∈vN p n,z.state=1∨z.state=2:=fun z hz=>by
  obtain ⟨j,hj⟩:=List.getElem?_of_mem hz;obtain ⟨_,rfl⟩:=jmb hj;simp only [jkq];split
  ·exact .inl rfl
  ·exact .inr rfl
 have hst:∀b:Int,(stT (vN p n) b !=4)=true:=fun b=>by
  simp only [stT];cases hb:(vN p n)[b.toNat]? with
  |none=>rfl
  |some z=>
   rcases hin z (List.mem_of_getElem? hb) with g|g<;>simp [g]
 have hN:∀j:Nat,jaD p (vN p n) j=((zt p j).length:Int):=fun j=>by
  have:(zt p j).filter (fun b=>stT (vN p n) b !=4)=zt p j:=List.filter_eq_self.2 fun b _=>hst b
  simp only [jaD,this]
 have c4:cS 4 (vN p n)=0:=jdB fun z hz=>by rcases hin z hz with g|g<;>omega
 have c5:cS 5 (vN p n)=0:=jdB fun z hz=>by rcases hin z hz with g|g<;>omega
 have c6:cS 6 (vN p n)=0:=jdB fun z hz=>by rcases hin z hz with g|g<;>omega
 have e:jY id p=⟨id,p,1,vN p n⟩:=by rw [jY,hnt]
 rw [e];refine ⟨by simp [inB,hid],hp,by dsimp only;rw [hlen];exact hn.symm,fun j w hw=>?_,?_,by simp⟩
 ·dsimp only at hw⊢
  obtain ⟨hj,rfl⟩:=jmb hw;rw [taskB_iff,hN];have hm1:=hmost.1;by_cases hz:0<(zt p j).length
  ·have hz':(0:Int)<(zt p j).length:=by omega
   refine ⟨by simp [jkq,hz],rfl,by simp only [jkq];omega,by simp [ja6,jkq,hz],?_⟩
   simp only [qT,jkq,if_pos hz,if_true,decide_eq_true_eq];exact hz'
  ·have hz0:(zt p j).length=0:=by omega
   have h0m:(0:Int)<p.most:=by omega
   refine ⟨by simp [jkq,hz],rfl,by simp only [jkq];omega,by simp [ja6,jkq,hz],?_⟩
   simp [qT,jkq,hz,hz0,h0m]
 ·dsimp only
  rw [jgo,if_neg (by rw [c4,hlen];omega),if_neg (by omega),if_neg (by omega),if_pos ⟨c5,c6⟩]
theorem YdI.sub {y:Yd} (h:YdI y) (id:Int) (p:Pl):YdI (jeu y id p):=by
 unfold jeu;split
 ·rename_i hc
  unfold jdG at hc;split at hc
  ·cases hc
  split at hc
  ·cases hc
  split at hc
  ·cases hc
  split at hc
  ·rename_i g1 g2 g3 g4;exact absurd hc g4
  split at hc
  ·cases hc
  rename_i g1 g2 g3 g4 g5;have hid:1≤id∧id≤9999:=Classical.byContradiction fun g=>g2 g
  have hp:jw p=0:=Classical.byContradiction fun g=>g4 g
  have hroom:zm y p=true:=by simpa using g5
  simp only [zm,Bool.and_eq_true,decide_eq_true_eq] at hroom;obtain ⟨r1,⟨r2,r2'⟩,r3,r4⟩:=hroom;have hok:=yard_iff.1 (show jD y=true by simpa using g1)
  have hR:=jtC hid hp;obtain ⟨n,hn,hn1,h12,h30,hes,hnd,hprio,hmost,hwait⟩:=jcb hp
  have hnew:∀r∈y.runs,r.id≠id:=fun r hr he=>by
   obtain ⟨k,hk⟩:=List.getElem?_of_mem hr;have:=joC h.rns.eight h.rns.ids hk;rw [he] at this;omega
  have hlen:(jY id p).tasks.length=n:=by simp only [jY,vN,List.length_map,List.length_range];omega
  have hst:∀(t:Nat) (x:Tk),(jY id p).tasks[t]?=some x→(x.state=1∨x.state=2)∧x.tri=0:=fun t x hx=>by
   obtain ⟨_,rfl⟩:=jmb (p:=p) (n:=p.tasks.toNat) hx;refine ⟨?_,rfl⟩;simp only [jkq];split
   ·exact .inl rfl
   ·exact .inr rfl
  have hno:∀t,zM id t y.shelf.flatten=0:=fun t=>jmB fun e he=>by
   rintro ⟨k1,_⟩;obtain ⟨r',hr',_,_,h1,_⟩:=h.ens.own e he;exact hnew r' hr' (h1.symm.trans k1)
  have hids:((y.runs++[jY id p]).map (·.id)).Nodup:=by
   rw [List.map_append];refine List.nodup_append.2 ⟨h.rns.ids,by simp,fun a ha b hb e=>?_⟩
   obtain ⟨r',hr',rfl⟩:=List.mem_map.1 ha;simp only [List.map_cons,List.map_nil,List.mem_singleton] at hb;exact hnew r' hr' (e.trans hb)
  have hRn:RnsI y.now (y.runs++[jY id p]):=by
   refine ⟨by rw [List.length_append,List.length_singleton];omega,fun r hr=>?_,hids,fun r hr t x hx hs=>?_,fun r hr x hx hs=>?_⟩
   ·rcases List.mem_append.1 hr with hr|hr
    ·exact h.rns.right r hr
    ·rw [List.mem_singleton] at hr;rw [hr];exact hR
   ·rcases List.mem_append.1 hr with hr|hr
    ·exact h.rns.til r hr t x hx hs
    ·rw [List.mem_singleton] at hr;subst hr
     rcases (hst t x hx).1 with g|g<;>omega
   ·rcases List.mem_append.1 hr with hr|hr
    ·exact h.rns.tri r hr x hx hs
    ·rw [List.mem_singleton] at hr;subst hr
     obtain ⟨t,ht⟩:=List.getElem?_of_mem hx;exact (hst t x ht).2
  obtain ⟨-,hs4⟩:=jym (jY id p).id;obtain ⟨l,hl⟩:=je (show shN (jY id p).id<y.shelf.length by rw [h.four];exact hs4)
  have e:jsg ⟨y.now,y.seq,y.shelf,y.runs++[jY id p]⟩ (jY id p) (qM 2 (jY id p).tasks)=⟨y.now,y.seq+(qM 2 (jY id p).tasks).length,y.shelf.set (shN (jY id p).id) (vQ (jY id p).plan.prio (jY id p).id (qM 2 (jY id p).tasks) (l,y.seq)).1,y.runs++[jY id p]⟩:=by
   rw [jsg];simp only [hl,Option.getD_some,zB]
  obtain ⟨rest,p1,p2⟩:=zp hl (vQ (jY id p).plan.prio (jY id p).id (qM 2 (jY id p).tasks) (l,y.seq)).1
  have hpm:(jk4 (jY id p).plan.prio (jY id p).id y.seq (qM 2 (jY id p).tasks)++y.shelf.flatten).Perm (y.shelf.set (shN (jY id p).id) (vQ (jY id p).plan.prio (jY id p).id (qM 2 (jY id p).tasks) (l,y.seq)).1).flatten:=by
   refine ((List.Perm.append_left _ p1).trans ?_).trans p2.symm;rw [←List.append_assoc];exact ((jjp _ _ _ _ _).symm).append_right _
  have hE:EnsI (y.runs++[jY id p]) (y.seq+(qM 2 (jY id p).tasks).length) (jk4 (jY id p).plan.prio (jY id p).id y.seq (qM 2 (jY id p).tasks)++y.shelf.flatten):=by
   refine juk h.ens h.seq hids (by simp) (jkG _ _) (fun t ht=>tinL_mem.1 ht) (fun e he=>?_) (fun r' hr' hi=>?_) (fun t x hx hs ht=>?_) (fun t ht=>hno t)
   ·obtain ⟨r',hr',t,x,k⟩:=h.ens.own e he
    exact ⟨r',by simp [hr'],t,x,k⟩
   ·rcases List.mem_append.1 hr' with hr'|hr'
    ·exact hr'
    ·rw [List.mem_singleton] at hr';exact absurd (by rw [hr']) hi
   ·exact absurd (tinL_mem.2 ⟨t,x,rfl,hx,hs⟩) ht
  have hlen2:=hpm.length_eq;rw [List.length_append,jmc] at hlen2;have hroom:=h.room
  have hsl:vT kK y.runs+y.shelf.flatten.length≤40+jbL y.runs-n:=by
   have hf:=jn6 h.rns.eight h.rns.ids h.ens;have hrl:=jdb h.rns.right
   have hcnt:qs y (jaj y)+(y.shelf.flatten.filter (jU y)).length=y.shelf.flatten.length:=by
    simp only [qs,jaj,List.countP_eq_length_filter];have:=List.length_eq_countP_add_countP (jU y) (l:=y.shelf.flatten);simp only [List.countP_eq_length_filter] at this;have e:y.shelf.flatten.filter (fun e=>!jU y e)=y.shelf.flatten.filter (fun a=>decide ¬jU y a=true):=List.filter_congr fun a _=>by cases jU y a<;>rfl
    rw [e];omega
   simp only [kZ] at r3;omega
  have hlv:kK (jY id p)=n:=by
   have h1:(jY id p).state=1:=rfl;rw [kK,if_pos h1,hlen]
  rw [e];refine ⟨h.now,by have:=h.seq;dsimp only;omega,by rw [List.length_set];exact h.four,fun m hm=>?_,hRn,hE.perm hpm,?_⟩
  ·rcases List.mem_or_eq_of_mem_set hm with hm|rfl
   ·exact h.sorted m hm
   ·exact jme _ _ _ (h.sorted l (List.mem_of_getElem? hl)) fun x hx=>by
     have:=h.ens.range x (List.mem_flatten.2 ⟨l,List.mem_of_getElem? hl,hx⟩);omega
  ·have q1:=jpZ kK y.runs (jY id p)
   have q2:=jpZ (fun r:Rn=>cS 2 r.tasks) y.runs (jY id p)
   have q3:cS 2 (jY id p).tasks=(qM 2 (jY id p).tasks).length:=rfl;simp only [jbL] at hsl⊢;omega
 ·exact h
theorem EnsI.sweep {y:Yd} {q:Int} {l rest:List En} (h8:y.runs.length≤8) (hi:(y.runs.map (·.id)).Nodup) (h:EnsI y.runs q (l++rest)):EnsI y.runs q (l.filter (jU y)++rest):=by
 have hs:(l.filter (jU y)++rest).Sublist (l++rest):=List.Sublist.append List.filter_sublist (List.Sublist.refl _);refine ⟨fun e he=>h.range e (hs.subset he),h.apart.sublist (hs.map _),fun e he=>h.own e (hs.subset he),fun r hr t x hx hst=>?_⟩
 rw [←h.one r hr t x hx hst,jhi,jhi]
 congr 1
 simp only [zM,List.filter_filter]
 congr 1
 refine List.filter_congr fun e _=>?_
 by_cases g:e.run=r.id∧e.task=t
 ·have:jU y e=true:=by rw [jiJ h8 hi hr g.1 g.2 hx,hst];rfl
  simp [g.1,g.2,this]
 ·have:(e.run==r.id&&e.task==(t:Int))=false:=by
   simp only [Bool.and_eq_false_iff,beq_eq_false_iff_ne,ne_eq];by_cases h3:e.run=r.id
   ·exact .inr fun h4=>g ⟨h3,h4⟩
   ·exact .inl h3
  rw [this];rfl
theorem YdI.shelf {y:Yd} (h:YdI y) {sh:List (List En)} (h4:sh.length=4) (hs:∀l∈sh,SrtP l) (he:EnsI y.runs y.seq sh.flatten) (hl:sh.flatten.length≤y.shelf.flatten.length):YdI ⟨y.now,y.seq,sh,y.runs⟩:=
 ⟨h.now,h.seq,h4,hs,h.rns,he,by have:=h.room;dsimp only;omega⟩
theorem YdI.swept {y:Yd} (h:YdI y) (k:Int):YdI (ze y k):=by
 unfold ze;split
 ·rename_i hk
  obtain ⟨n,rfl⟩:=Int.eq_ofNat_of_zero_le hk.1;obtain ⟨l,hl⟩:=je (show n<y.shelf.length by omega)
  rw [Int.toNat_natCast,hl,Option.getD_some];obtain ⟨rest,p1,p2⟩:=zp hl (l.filter (jU y));refine h.shelf (by rw [List.length_set];exact h.four) (fun m hm=>?_) (((h.ens.perm p1).sweep h.rns.eight h.rns.ids).perm p2.symm) ?_
  ·rcases List.mem_or_eq_of_mem_set hm with hm|rfl
   ·exact h.sorted m hm
   ·exact (h.sorted l (List.mem_of_getElem? hl)).sublist List.filter_sublist
  ·have a1:=p1.length_eq
   have a2:=p2.length_eq;rw [List.length_append] at a1 a2;have:=List.length_filter_le (jU y) l;omega
 ·exact h
theorem YdI.flat_le {y:Yd} (h:YdI y):y.shelf.flatten.length≤40:=by
 have:=jdb h.rns.right;have:=h.room;omega
theorem joa {sh:List (List En)} {l:List En} {k:Nat} (h:sh[k]?=some l):l.length≤sh.flatten.length:=(List.sublist_flatten_of_mem (List.mem_of_getElem? h)).length_le
theorem YdI.pollV {z:Yd} {hm v:Nat} (h:YdI z) (hv:v<4) (hh:hm<4) (hne:v≠hm):YdI (pollV z hm v):=by
 obtain ⟨l,hl⟩:=je (show v<z.shelf.length by rw [h.four];exact hv)
 obtain ⟨a,ha⟩:=je (show hm<z.shelf.length by rw [h.four];exact hh)
 obtain ⟨e1,e2⟩:=jiC hl ha hne;have hS:=h.swept v;rw [e1] at hS;rw [e2];have hvl:v<z.shelf.length:=(List.getElem?_eq_some_iff.1 hl).1;have g1:(z.shelf.set v (l.filter (jU z)))[v]?=some (l.filter (jU z)):=List.getElem?_set_self hvl;have g2:(z.shelf.set v (l.filter (jU z)))[hm]?=some a:=by rw [List.getElem?_set_ne hne];exact ha
 generalize hL:l.filter (jU z)=L at*;obtain ⟨rest,p1,p2⟩:=zp g1 (jaF L);have g3:((z.shelf.set v L).set v (jaF L))[hm]?=some a:=by rw [List.getElem?_set_ne hne];exact g2
 obtain ⟨rest2,p3,p4⟩:=zp g3 (qb a (vh L));rw [List.set_set] at p2 p3 p4;have hfl:=hS.flat_le
 have hsm:a.length+(vh L).length≤80:=by
  have b1:a.length≤(z.shelf.set v L).flatten.length:=joa g2;have b2:L.length≤(z.shelf.set v L).flatten.length:=joa g1;have b3:(vh L).length≤L.length:=by simp only [vh,List.length_take];omega
  dsimp only at hfl;omega
 have hmg:qb a (vh L)=(vh L).foldl jb8 a:=by rw [qb,if_neg (by omega)]
 have hp:(z.shelf.set v L).flatten.Perm ((z.shelf.set v (jaF L)).set hm (qb a (vh L))).flatten:=by
  rw [hmg];have hLs:(vh L++jaF L)=L:=by simp [vh,jaF]
  have q1:(z.shelf.set v L).flatten.Perm (vh L++(a++rest2)):=by
   refine p1.trans ?_
   conv=>lhs;rw [←hLs]
   rw [List.append_assoc];exact List.Perm.append_left _ (p2.symm.trans p3)
  refine q1.trans ?_;rw [hmg] at p4;refine List.Perm.trans ?_ p4.symm;rw [←List.append_assoc];refine List.Perm.append_right _ ?_;exact (List.perm_append_comm).trans (jjc (vh L) a).symm
 have hE:=hS.ens.perm hp;refine h.shelf (by rw [List.length_set,List.length_set];exact h.four) (fun m hm'=>?_) hE ?_
 ·rcases List.mem_or_eq_of_mem_set hm' with hm'|rfl
  ·rcases List.mem_or_eq_of_mem_set hm' with hm'|rfl
   ·exact h.sorted m hm'
   ·exact (hS.sorted L (List.mem_of_getElem? g1)).sublist (List.drop_sublist _ _)
  ·rw [hmg]
   refine jqs (hS.sorted a (List.mem_of_getElem? g2)) ?_;have hap:=hE.apart;have hp4:=(p4.map (·.seq)).nodup_iff.1 hap
   rw [List.map_append] at hp4;have hp5:=(List.nodup_append.1 hp4).1;rw [hmg] at hp5;exact ((jjc (vh L) a).map (·.seq)).nodup_iff.1 hp5
 ·rw [←hp.length_eq]
  have:(z.shelf.set v L).flatten.length≤z.shelf.flatten.length:=by
   obtain ⟨r3,c1,c2⟩:=zp hl L;have c1:=c1.length_eq;have c2:=c2.length_eq;rw [List.length_append] at c1 c2;have:L.length≤l.length:=by rw [←hL];exact List.length_filter_le _ _
   omega
  exact this
theorem YdI.pollF {hm:Nat} (hh:hm<4):∀(vs:List Int) (z:Yd),(∀v∈vs,∃n:Nat,v=n∧n<4∧n≠hm)→YdI z→YdI (pollF hm vs z)
 |[],z,_,h=>h
 |v::vs,z,hv,h=>by
  unfold Go.Proofs.YtcehjhiglmifjaaGreat.pollF;split
  ·obtain ⟨n,rfl,h4,hne⟩:=hv v (by simp)
   exact YdI.pollF hh vs _ (fun w hw=>hv w (by simp [hw])) (h.pollV h4 hh hne)
  ·exact h
theorem YdI.pollZ {y:Yd} (h:YdI y) {hm:Nat} (hh:hm<4) (draw:Int):YdI (pollZ y hm draw):=by
 obtain ⟨a,b,c,e,ha,hb,hc,na,nb,nc⟩:=jis hh draw;unfold Go.Proofs.YtcehjhiglmifjaaGreat.pollZ;rw [e];refine YdI.pollF hh _ _ (fun v hv=>?_) (h.swept hm)
 simp only [List.mem_cons,List.not_mem_nil,or_false] at hv;rcases hv with rfl|rfl|rfl
 ·exact ⟨a,rfl,ha,na⟩
 ·exact ⟨b,rfl,hb,nb⟩
 ·exact ⟨c,rfl,hc,nc⟩
theorem jvP {r:Rn} {t:Nat} {x:Tk} {now:Int} (h:RunOkP r) (hx:r.tasks[t]?=some x) (hs:x.state=2) (hn:0≤now∧now≤999999980):RunOkP (kT r t x now)∧(kT r t x now).tasks=r.tasks.set t ⟨3,x.need,x.tri+1,now+r.plan.wait⟩:=by
 obtain ⟨n,hn',hn1,h12,h30,hes,hnd,hprio,hmost,hwait⟩:=jcb h.plan;have ht:=(List.getElem?_eq_some_iff.1 hx).1;have hx1:=taskB_iff.1 (h.tasks t x hx);have hxl:=hx1.2.2.2.2
 have hxl:x.need=0∧x.tri<r.plan.most:=by
  simp only [qT,hs] at hxl;simpa using hxl
 have hx3:=hx1.2.2.1;have w1:IntKind.i64.wrap (x.tri+1)=x.tri+1:=jf (by omega) (by omega)
 have w2:IntKind.i64.wrap (now+r.plan.wait)=now+r.plan.wait:=jf (by omega) (by omega)
 have e:kT r t x now=⟨r.id,r.plan,r.state,r.tasks.set t ⟨3,x.need,x.tri+1,now+r.plan.wait⟩⟩:=by rw [kT,jtf,w1,w2]
 have hst:=h.state;have c2:=jra (s:=2) hx hs;have hl:=jbf h
 have hs1:r.state=1:=by
  unfold kK at hl;split at hl
  ·assumption
  ·omega
 rw [hs1] at hst
 obtain ⟨c4,c5,c6⟩:cS 4 r.tasks≠r.tasks.length∧cS 5 r.tasks=0∧cS 6 r.tasks=0:=by
  unfold jgo at hst;split at hst
  ·cases hst
  ·rename_i g
   split at hst
   ·cases hst
   ·split at hst
    ·cases hst
    ·split at hst
     ·rename_i g2;exact ⟨g,g2.1,g2.2⟩
     ·cases hst
 have hN:∀j:Int,jaD r.plan (r.tasks.set t ⟨3,x.need,x.tri+1,now+r.plan.wait⟩) j=jaD r.plan r.tasks j:=jbD (joV hx (by simp [hs]))
 have d5:cS 5 (r.tasks.set t ⟨3,x.need,x.tri+1,now+r.plan.wait⟩)=0:=jdB (jhp (q:=fun s=>s≠5) (by simp) fun y hy=>by obtain ⟨k,hk,rfl⟩:=List.getElem_of_mem hy;exact jrb c5 (List.getElem?_eq_getElem hk))
 have d6:cS 6 (r.tasks.set t ⟨3,x.need,x.tri+1,now+r.plan.wait⟩)=0:=jdB (jhp (q:=fun s=>s≠6) (by simp) fun y hy=>by obtain ⟨k,hk,rfl⟩:=List.getElem_of_mem hy;exact jrb c6 (List.getElem?_eq_getElem hk))
 have d3:=jra (s:=3) (List.getElem?_set_self ht:(r.tasks.set t ⟨3,x.need,x.tri+1,now+r.plan.wait⟩)[t]?=some _) rfl;have hsts:∀z∈r.tasks.set t ⟨3,x.need,x.tri+1,now+r.plan.wait⟩,1≤z.state∧z.state≤6:=jhp (q:=fun s=>1≤s∧s≤6) (by simp) h.st
 have hsum:=jcg hsts _ (Nat.le_refl _);change cS 1 _+cS 2 _+cS 3 _+cS 4 _+cS 5 _+cS 6 _=_ at hsum;rw [e];refine ⟨⟨h.id,h.plan,by dsimp only;rw [List.length_set];exact h.len,fun j z hz=>?_,?_,by dsimp only;omega⟩,rfl⟩
 ·dsimp only at hz⊢
  rw [List.getElem?_set] at hz;by_cases ej:t=j
  ·subst ej
   rw [if_pos rfl,if_pos ht] at hz;obtain rfl:=Option.some.inj hz;rw [taskB_iff,hN];refine ⟨by simp,hx1.2.1,by dsimp only;omega,?_,?_⟩
   ·simp only [ja6,if_true,inB,decide_eq_true_eq];omega
   ·have:1≤x.tri+1:=by omega
    simp [qT,hxl.1,this]
  ·rw [if_neg ej] at hz
   have:=taskB_iff.1 (h.tasks j z hz);rw [taskB_iff,hN];exact this
 ·dsimp only
  rw [hs1,jgo,if_neg (by omega),if_neg (by omega),if_neg (by omega),if_pos ⟨d5,d6⟩]
theorem YdI.hand {Z:Yd} {hm:Nat} {e:En} {l:List En} {k t:Nat} {r:Rn} {x:Tk} (h:YdI Z) (ha:Z.shelf[hm]?=some (e::l)) (hrk:runAt Z e.run=k) (hr:Z.runs[k]?=some r) (het:e.task=t) (hx:r.tasks[t]?=some x) (hs:x.state=2):YdI (jkr Z hm e l):=by
 have hR:=h.rns.right r (List.mem_of_getElem? hr);obtain ⟨hok,htk⟩:=jvP hR hx hs h.now;have hk:=(List.getElem?_eq_some_iff.1 hr).1;have ht:=(List.getElem?_eq_some_iff.1 hx).1
 have hH:jkr Z hm e l=⟨Z.now,Z.seq,Z.shelf.set hm l,Z.runs.set k (kT r t x Z.now)⟩:=by
  simp only [jkr,hrk,het,Int.toNat_natCast,hr,hx,Option.getD_some]
 have hrid:r.id=e.run:=by
  have hneg:¬runAt Z e.run<0:=by rw [hrk];omega
  obtain ⟨k',r',h1,h2,h3,_⟩:=qP hneg;rw [hrk] at h1;obtain rfl:k=k':=by omega
  rw [hr] at h2;obtain rfl:=Option.some.inj h2;exact h3
 obtain ⟨rest,p1,p2⟩:=zp ha l;have hE0:=h.ens.perm p1;have hone:=hE0.one r (List.mem_of_getElem? hr) t x hx hs
 have hcnt:zM r.id t (l++rest)=0:=by
  have:zM r.id t ((e::l)++rest)=zM r.id t (l++rest)+1:=by
   simp [zM,hrid,het]
  omega
 have hsub:(l++rest).Sublist ((e::l)++rest):=List.Sublist.append (List.sublist_cons_self _ _) (List.Sublist.refl _);have hids:=joY (r2:=kT r t x Z.now) hr rfl
 have hget:∀(j:Nat) (z w:Tk),r.tasks[j]?=some z→(kT r t x Z.now).tasks[j]?=some w→(j=t∧w=⟨3,x.need,x.tri+1,Z.now+r.plan.wait⟩)∨(j≠t∧w=z):=fun j z w hz hw=>by
  rw [htk,List.getElem?_set] at hw;by_cases ej:t=j
  ·subst ej
   rw [if_pos rfl,if_pos ht] at hw;exact .inl ⟨rfl,(Option.some.inj hw).symm⟩
  ·rw [if_neg ej,hz] at hw
   exact .inr ⟨fun g=>ej g.symm,(Option.some.inj hw).symm⟩
 have hlenT:(kT r t x Z.now).tasks.length=r.tasks.length:=by rw [htk,List.length_set]
 have hgs:∀(j:Nat) (w:Tk),(kT r t x Z.now).tasks[j]?=some w→∃z,r.tasks[j]?=some z∧((j=t∧w=⟨3,x.need,x.tri+1,Z.now+r.plan.wait⟩)∨(j≠t∧w=z)):=fun j w hw=>by
  obtain ⟨z,hz⟩:=je (show j<r.tasks.length by rw [←hlenT];exact (List.getElem?_eq_some_iff.1 hw).1)
  exact ⟨z,hz,hget j z w hz hw⟩
 obtain ⟨n,hn',hn1,h12,h30,hes,hnd,hprio,hmost,hwait⟩:=jcb hR.plan
 have hRn:RnsI Z.now (Z.runs.set k (kT r t x Z.now)):=by
  refine ⟨by rw [List.length_set];exact h.rns.eight,fun r' hr'=>?_,by rw [hids];exact h.rns.ids,fun r' hr' j w hw hst=>?_,fun r' hr' w hw hst=>?_⟩
  ·rcases jcl hr' with rfl|⟨j,_,hj⟩
   ·exact hok
   ·exact h.rns.right r' (List.mem_of_getElem? hj)
  ·rcases jcl hr' with rfl|⟨i,_,hi⟩
   ·obtain ⟨z,hz,⟨rfl,rfl⟩|⟨_,rfl⟩⟩:=hgs j w hw
    ·show Z.now+1≤Z.now+r.plan.wait∧Z.now+r.plan.wait≤Z.now+r.plan.wait
     omega
    ·exact h.rns.til r (List.mem_of_getElem? hr) j _ hz hst
   ·exact h.rns.til r' (List.mem_of_getElem? hi) j w hw hst
  ·rcases jcl hr' with rfl|⟨i,_,hi⟩
   ·obtain ⟨j,hj⟩:=List.getElem?_of_mem hw
    obtain ⟨z,hz,⟨rfl,rfl⟩|⟨_,rfl⟩⟩:=hgs j w hj
    ·simp at hst
    ·exact h.rns.tri r (List.mem_of_getElem? hr) _ (List.mem_of_getElem? hz) hst
   ·exact h.rns.tri r' (List.mem_of_getElem? hi) w hw hst
 have hE:EnsI (Z.runs.set k (kT r t x Z.now)) Z.seq (l++rest):=by
  refine ⟨fun f hf=>hE0.range f (hsub.subset hf),hE0.apart.sublist (hsub.map _),fun f hf=>?_,fun r' hr' j w hw hst=>?_⟩
  ·obtain ⟨r',hr',j,z,h1,h2,h3,h4⟩:=hE0.own f (hsub.subset hf)
   obtain ⟨i,hi⟩:=List.getElem?_of_mem hr';by_cases eik:k=i
   ·subst eik
    rw [hr] at hi;obtain rfl:=Option.some.inj hi
    have hjt:j≠t:=fun e=>by
     subst e;have:=jzF hf h1 h2;omega
    refine ⟨kT r t x Z.now,List.mem_of_getElem? (List.getElem?_set_self hk),j,z,h1,h2,?_,h4⟩;rw [htk,List.getElem?_set_ne (fun e=>hjt e.symm)];exact h3
   ·exact ⟨r',List.mem_of_getElem? (i:=i) (by rw [List.getElem?_set_ne eik];exact hi),j,z,h1,h2,h3,h4⟩
  ·have hcons:∀(id u:Int),¬(e.run=id∧e.task=u)→zM id u ((e::l)++rest)=zM id u (l++rest):=fun id u g=>by
    have:(e.run==id&&e.task==u)=false:=by
     simp only [Bool.and_eq_false_iff,beq_eq_false_iff_ne,ne_eq];by_cases h3:e.run=id
     ·exact .inr fun h4=>g ⟨h3,h4⟩
     ·exact .inl h3
    simp [zM,List.filter_cons,this]
   rcases jcl hr' with rfl|⟨i,hik,hi⟩
   ·obtain ⟨z,hz,⟨rfl,rfl⟩|⟨hjt,rfl⟩⟩:=hgs j w hw
    ·simp at hst
    ·have:=hE0.one r (List.mem_of_getElem? hr) j _ hz hst
     rw [hcons _ _ (fun g=>hjt (by have:=g.2;omega))] at this
     exact this
   ·have:=hE0.one r' (List.mem_of_getElem? hi) j w hw hst
    rw [hcons _ _ (fun g=>by
     have e1:r.id=r'.id:=hrid.trans g.1;exact hik (jqN h.rns.ids hi hr e1.symm))] at this
    exact this
 have hready:cS 2 r.tasks≤cS 2 (kT r t x Z.now).tasks+1:=by
  simp only [cS,qM,vO,List.length_map,hlenT]
  have h1:∀n,((List.range n).filter fun (j:Nat)=>stT r.tasks (j:Int)==2).length≤((List.range n).filter fun (j:Nat)=>stT (kT r t x Z.now).tasks (j:Int)==2).length+if t<n then 1 else 0:=fun n=>by
   induction n with
   |zero=>simp
   |succ n ih=>
    rw [List.range_succ,List.filter_append,List.filter_append,List.length_append,List.length_append];by_cases ent:n=t
    ·subst ent
     simp only [List.filter_cons,List.filter_nil];split<;>split<;>simp_all<;>omega
    ·have e3:stT (kT r t x Z.now).tasks (n:Int)=stT r.tasks (n:Int):=by
      simp only [stT,Int.toNat_natCast,htk,List.getElem?_set_ne (fun e=>ent e.symm)]
     simp only [List.filter_cons,List.filter_nil,e3];split<;>simp<;>split at ih<;>split<;>omega
  have:=h1 r.tasks.length;rw [if_pos ht] at this;exact this
 have t1:=qV (f:=kK) (kT r t x Z.now) hr;have t2:=qV (f:=fun r:Rn=>cS 2 r.tasks) (kT r t x Z.now) hr
 have hlv:kK (kT r t x Z.now)=kK r:=by
  have:(kT r t x Z.now).state=r.state:=rfl;simp only [kK,this,hlenT]
 have a1:=p1.length_eq;have a2:=p2.length_eq;rw [List.length_append] at a1 a2;rw [List.length_cons] at a1;have hroom:=h.room;rw [hH];refine ⟨h.now,h.seq,by rw [List.length_set];exact h.four,fun m hm'=>?_,hRn,hE.perm p2.symm,?_⟩
 ·rcases List.mem_or_eq_of_mem_set hm' with hm'|rfl
  ·exact h.sorted m hm'
  ·exact (h.sorted _ (List.mem_of_getElem? ha)).sublist (List.sublist_cons_self _ _)
 ·simp only [jbL] at hroom⊢
  omega
theorem YdI.poll {y:Yd} (h:YdI y) (worker draw:Int):YdI (zQ y worker draw):=by
 unfold zQ;split
 ·exact h
 ·rename_i hc
  have hok:jD y=true:=by
   cases h:jD y with
   |true=>rfl
   |false=>exact absurd (.inl h) hc
  have hw:0≤worker∧worker≤99:=by
   refine Classical.byContradiction fun h=>hc (.inr h)
  have hh4:(worker.tmod 4).toNat<4:=by rw [Int.tmod_eq_emod_of_nonneg hw.1];omega
  have hI:=jtW (yard_iff.1 hok) hh4 draw;have hZ:=h.pollZ hh4 draw;split
  ·exact hZ
  ·rename_i e l he
   generalize (worker.tmod 4).toNat=hm at*
   have ha:(Go.Proofs.YtcehjhiglmifjaaGreat.pollZ y hm draw).shelf[hm]?=some (e::l):=by
    rw [jjd] at he;cases hs:(Go.Proofs.YtcehjhiglmifjaaGreat.pollZ y hm draw).shelf[hm]? with
    |none=>rw [hs] at he;simp at he
    |some x=>rw [hs,Option.getD_some] at he;rw [he]
   generalize Go.Proofs.YtcehjhiglmifjaaGreat.pollZ y hm draw=Z at*;obtain ⟨k,t,r,x,hrk,hr,het,hx,hxs⟩:=jmp (hI.frs _ ha e (by simp))
   rw [←hI.runs] at hr;have hrz2:runAt Z e.run=(k:Int):=by rw [←hrk];unfold runAt;rw [hI.runs]
   exact hZ.hand ha hrz2 hr het hx hxs
theorem YdI.do {y:Yd} (h:YdI y) (d:Dd):YdI (doY y d):=by
 unfold doY
 repeat' split
 ·exact h
 ·exact h.sub _ _
 ·exact h.poll _ _
 ·exact h.comp _ _ _
 ·exact h.fail _ _ _
 ·exact h.tick
 ·exact h.cancel _
 ·exact h.forget _
 ·exact h.rest
abbrev Cu:=Nat×Int
def jrk (a b:Int):Int:=IntKind.i64.wrap ((BitVec.ofInt 64 a&&&BitVec.ofInt 64 b).toNat)
theorem jB0 (a:Int) (m:Nat) (hm:m<2^62):0≤jrk a (m:Int)∧jrk a (m:Int)≤m:=by
 have h2:(BitVec.ofInt 64 a&&&BitVec.ofInt 64 (m:Int)).toNat≤m:=by
  rw [BitVec.toNat_and,BitVec.ofInt_natCast,BitVec.toNat_ofNat,Nat.mod_eq_of_lt (a:=m) (by omega)]
  exact Nat.and_le_right
 rw [jrk,jf (by omega) (by omega)]
 omega
theorem jmK (a:Int):0≤jrk a 255∧jrk a 255≤255:=jB0 a 255 (by decide)
def joi (h:Int):Int:=IntKind.i64.wrap (IntKind.i64.wrap (h*6364136223846793005)+1442695040888963407)
def jxT (h:Int):Int:=jrk (jro (h.fdiv (2^33)) (h.fdiv (2^45))) 255
def kL (c:List UInt8) (s:Cu):Int×Cu:=match c[s.1]? with
 |some u=>(jrk (jxT (joi s.2)+(u.toNat:Int)) 255,(s.1+1,joi s.2))
 |none=>(jxT (joi s.2),(s.1,joi s.2))
theorem jah (c:List UInt8) (s:Cu):0≤(kL c s).1∧(kL c s).1≤255:=by
 unfold kL;split
 ·exact jmK _
 ·exact jmK _
theorem jaQ {c:List UInt8} {s:Cu} (h:s.1≤c.length):(kL c s).2.1≤c.length:=by
 unfold kL;split
 ·rename_i u hu
  have:=(List.getElem?_eq_some_iff.1 hu).1;dsimp only;omega
 ·exact h
def jr (c:List UInt8) (n:Int) (s:Cu):Int×Cu:=
 if n≤0 then (0,s) else if n≤256 then ((kL c s).1.tmod n,(kL c s).2)
 else (((kL c s).1*16777216+(kL c (kL c s).2).1*65536+(kL c (kL c (kL c s).2).2).1*256+(kL c (kL c (kL c (kL c s).2).2).2).1).tmod n,(kL c (kL c (kL c (kL c s).2).2).2).2)
theorem jR (c:List UInt8) {n:Int} (s:Cu) (hn:0<n):0≤(jr c n s).1∧(jr c n s).1<n:=by
 unfold jr;rw [if_neg (by omega)]
 split
 ·have:=jah c s
  exact ⟨Int.tmod_nonneg _ this.1,Int.tmod_lt_of_pos _ hn⟩
 ·refine ⟨Int.tmod_nonneg _ ?_,Int.tmod_lt_of_pos _ hn⟩
  have h1:=jah c s;have h2:=jah c (kL c s).2;have h3:=jah c (kL c (kL c s).2).2;have h4:=jah c (kL c (kL c (kL c s).2).2).2;omega
theorem ju {c:List UInt8} {n:Int} {s:Cu} (h:s.1≤c.length):(jr c n s).2.1≤c.length:=by
 unfold jr;split
 ·exact h
 ·split
  ·exact jaQ h
  ·exact jaQ (jaQ (jaQ (jaQ h)))
def zK (c:List UInt8) (n:Int):Nat→Nat→List Ed→Cu→List Ed×Cu
 |0,_,E,s=>(E,s)
 |f+1,i,E,s=>let m:=jr c 9 s
  if (i:Int)<m.1∧1<n then
   let a:=jr c (n-1) m.2;let b:=jr c (1+a.1) a.2
   zK c n f (i+1) (if (⟨b.1,1+a.1⟩:Ed)∈E then E else E++[⟨b.1,1+a.1⟩]) b.2
  else (E,m.2)
structure EdsI (n:Int) (E:List Ed):Prop where
 nd:E.Nodup
 up:∀e∈E,0≤e.src∧e.src<e.dst∧e.dst<n
theorem EdsI.add {n:Int} {E:List Ed} {e:Ed} (h:EdsI n E) (he:0≤e.src∧e.src<e.dst∧e.dst<n):EdsI n (if e∈E then E else E++[e]):=by
 split
 ·exact h
 ·rename_i hn
  refine ⟨List.nodup_append.2 ⟨h.nd,by simp,fun x hx y hy e1=>?_⟩,fun x hx=>?_⟩
  ·simp at hy;subst hy;subst e1;exact hn hx
  ·rcases List.mem_append.1 hx with hx|hx
   ·exact h.up x hx
   ·simp at hx;subst hx;exact he
theorem jjC (c:List UInt8) (n:Int):∀(f i:Nat) (E:List Ed) (s:Cu),EdsI n E→EdsI n (zK c n f i E s).1∧(zK c n f i E s).1.length≤E.length+f
 |0,i,E,s,h=>⟨h,Nat.le_refl _⟩
 |f+1,i,E,s,h=>by
  rw [zK];dsimp only;split
  ·rename_i hc
   have ha:=jR c (n:=n-1) (jr c 9 s).2 (by omega)
   have hb:=jR c (n:=1+(jr c (n-1) (jr c 9 s).2).1) (jr c (n-1) (jr c 9 s).2).2 (by omega)
   obtain ⟨h1,h2⟩:=jjC c n f (i+1) _ (jr c (1+(jr c (n-1) (jr c 9 s).2).1) (jr c (n-1) (jr c 9 s).2).2).2 (h.add (e:=⟨_,_⟩) ⟨hb.1,hb.2,by dsimp only;omega⟩)
   refine ⟨h1,Nat.le_trans h2 ?_⟩;split
   ·omega
   ·simp;omega
  ·exact ⟨h,by dsimp only;omega⟩
theorem joh (c:List UInt8) (n:Int):∀(f i:Nat) (E:List Ed) (s:Cu),s.1≤c.length→(zK c n f i E s).2.1≤c.length
 |0,i,E,s,h=>h
 |f+1,i,E,s,h=>by
  rw [zK];dsimp only;split
  ·exact joh c n f _ _ _ (ju (ju (ju h)))
  ·exact ju h
def jca (c:List UInt8) (s:Cu):Pl×Cu:=
 let a:=jr c 4 s;let b:=jr c 3 a.2;let w:=jr c 4 b.2;let t:=jr c 6 w.2;let o:=jr c 10 t.2
 let n:=if o.1=0 then 12 else 1+t.1
 let e:=zK c n 9 0 [] o.2
 (⟨a.1,1+b.1,1+w.1,n,e.1⟩,e.2)
theorem rc_up {n:Int} {E:List Ed} (h:EdsI n E) {a b:Int} (hr:Rc E a b):a<b:=by
 induction hr with
 |one he=>obtain ⟨e,h1,h2,h3⟩:=he;have:=h.up e h1;omega
 |step _ he ih=>obtain ⟨e,h1,h2,h3⟩:=he;have:=h.up e h1;omega
theorem jwZ (c:List UInt8) (s:Cu):jw (jca c s).1=0:=by
 unfold jca;dsimp only;have h1:=jR c (n:=4) s (by decide)
 generalize jr c 4 s=a at*;have h2:=jR c (n:=3) a.2 (by decide)
 generalize jr c 3 a.2=b at*;have h3:=jR c (n:=4) b.2 (by decide)
 generalize jr c 4 b.2=w at*;have h4:=jR c (n:=6) w.2 (by decide)
 generalize jr c 6 w.2=t at*;generalize jr c 10 t.2=o at*;obtain ⟨n,hn⟩:∃n:Int,(if o.1=0 then (12:Int) else 1+t.1)=n:=⟨_,rfl⟩
 rw [hn];have hn12:1≤n∧n≤12:=by rw [←hn];split<;>omega
 obtain ⟨hE,hl⟩:=jjC c n 9 0 [] o.2 ⟨by simp,by simp⟩
 generalize (zK c n 9 0 [] o.2).1=E at*;simp only [List.length_nil] at hl;refine jyR ?_ ?_ hE.nd fun t _ hr=>by have:=rc_up hE hr;omega
 ·simp only [vH,inB,Bool.or_eq_false_iff,Bool.not_eq_false',decide_eq_true_eq,decide_eq_false_iff_not]
  omega
 ·refine List.any_eq_false.2 fun e he=>?_
  have:=hE.up e he;simp only [jiM,inB,Bool.or_eq_true,Bool.not_eq_true',decide_eq_false_iff_not,not_or,Classical.not_not];omega
theorem jw0 {c:List UInt8} {s:Cu} (h:s.1≤c.length):(jca c s).2.1≤c.length:=joh _ _ _ _ _ _ (ju (ju (ju (ju (ju h)))))
def jbl (c:List UInt8):List Rn→Cu→Option (Int×Int×Int)×Cu
 |[],s=>(none,s)
 |r::rs,s=>let l:=qM 3 r.tasks
  if l=[] then jbl c rs s else
   let o:=jr c 5 s
   if o.1=0 then jbl c rs o.2 else
    let k:=jr c l.length o.2
    let t:=(l[k.1.toNat]?).getD 0
    let v:=((r.tasks[t.toNat]?).map (·.tri)).getD 0
    let e:=jr c 8 k.2
    if e.1=0 then let f:=jr c 2 e.2;(some (r.id,t,IntKind.i64.wrap (IntKind.i64.wrap (v-1)+2*f.1)),f.2) else (some (r.id,t,v),e.2)
def qr (c:List UInt8) (y:Yd) (s:Cu):(Int×Int×Int)×Cu:=match jbl c y.runs s with
 |(some x,s)=>(x,s)
 |(none,s)=>let a:=jr c 5 s;let b:=jr c 6 a.2;let d:=jr c 4 b.2;((1+a.1,b.1-1,d.1),d.2)
theorem jjB {c:List UInt8}:∀(rs:List Rn) {s:Cu},s.1≤c.length→(jbl c rs s).2.1≤c.length
 |[],s,h=>h
 |r::rs,s,h=>by
  rw [jbl];dsimp only;split
  ·exact jjB rs h
  ·split
   ·exact jjB rs (ju h)
   ·split
    ·exact ju (ju (ju (ju h)))
    ·exact ju (ju (ju h))
theorem jq3 {c:List UInt8} {y:Yd} {s:Cu} (h:s.1≤c.length):(qr c y s).2.1≤c.length:=by
 unfold qr;have:=jjB y.runs h;split
 ·rename_i x s' e;rw [e] at this;exact this
 ·rename_i s' e;rw [e] at this;exact ju (ju (ju this))
theorem jjA {c:List UInt8}:∀(rs:List Rn) {s:Cu} {x:Int×Int×Int} {s':Cu},jbl c rs s=(some x,s')→∃r∈rs,x.1=r.id
 |[],s,x,s',h=>by simp [jbl] at h
 |r::rs,s,x,s',h=>by
  rw [jbl] at h;dsimp only at h;split at h
  ·obtain ⟨r',h1,h2⟩:=jjA rs h;exact ⟨r',by simp [h1],h2⟩
  ·split at h
   ·obtain ⟨r',h1,h2⟩:=jjA rs h;exact ⟨r',by simp [h1],h2⟩
   ·split at h
    ·simp only [Prod.mk.injEq,Option.some.injEq] at h;exact ⟨r,by simp,by rw [←h.1]⟩
    ·simp only [Prod.mk.injEq,Option.some.injEq] at h;exact ⟨r,by simp,by rw [←h.1]⟩
abbrev plZ:Pl:=⟨0,0,0,0,[]⟩
def qf (c:List UInt8) (y:Yd) (s:Cu):Dd×Cu:=
 let k:=jr c 20 s
 if k.1<6 then let w:=jr c 8 k.2;let d:=jr c 7 w.2;(⟨2,0,plZ,0,0,w.1,d.1⟩,d.2)
 else if k.1<10 then let r:=jr c 9 k.2;let p:=jca c r.2;(⟨1,1+r.1,p.1,0,0,0,0⟩,p.2)
 else if k.1<15 then let h:=qr c y k.2;(⟨3,h.1.1,plZ,brI h.1.2.1 0 99,brI h.1.2.2 0 99,0,0⟩,h.2)
 else if k.1=15 then let h:=qr c y k.2;(⟨4,h.1.1,plZ,brI h.1.2.1 0 99,brI h.1.2.2 0 99,0,0⟩,h.2)
 else if k.1=16 then (⟨5,0,plZ,0,0,0,0⟩,k.2)
 else if k.1=17 then let r:=jr c 9 k.2;(⟨6,1+r.1,plZ,0,0,0,0⟩,r.2)
 else if k.1=18 then let r:=jr c 9 k.2;(⟨7,1+r.1,plZ,0,0,0,0⟩,r.2)
 else let o:=jr c 3 k.2;if o.1=0 then (⟨8,0,plZ,0,0,0,0⟩,o.2) else (⟨5,0,plZ,0,0,0,0⟩,o.2)
theorem jw3 {c:List UInt8} {y:Yd} {s:Cu} (h:s.1≤c.length):(qf c y s).2.1≤c.length:=by
 unfold qf;dsimp only;have h1:=ju (n:=20) h
 repeat' split
 ·exact ju (ju h1)
 ·exact jw0 (ju h1)
 ·exact jq3 h1
 ·exact jq3 h1
 ·exact h1
 ·exact ju h1
 ·exact ju h1
 ·exact ju h1
 ·exact ju h1
noncomputable def vz (c:List UInt8):Nat→List Dd×Yd×Cu→List Dd×Yd×Cu
 |0,x=>x
 |n+1,x=>vz c n (x.1++[(qf c x.2.1 x.2.2).1],doY x.2.1 (qf c x.2.1 x.2.2).1,(qf c x.2.1 x.2.2).2)
noncomputable def jhW (c:List UInt8) (s:Cu):Yd×Cu:=(vz c (jr c 26 s).1.toNat ([],newYd,(jr c 26 s).2)).2
def jCa (c:List UInt8):Int:=(c.take 4000).foldl (fun h u=>jrk (IntKind.i64.wrap (IntKind.i64.wrap (IntKind.i64.wrap (h*131)+(u.toNat:Int))+7)) 1073741823) (94701+(c.length:Int))
def jsP (c:List UInt8):Cu:=(0,jCa c)
theorem ji3 (y:Yd) (k:Nat) (r2:Rn):(kM y k r2).seq≤y.seq+r2.tasks.length:=by
 simp only [kM,jsg,zB];have:=jdg ((y.runs[k]?).getD default).tasks r2.tasks r2.tasks.length;omega
theorem jqc {y:Yd} (h:YdI y) (k:Nat):((y.runs[k]?).getD default).tasks.length≤12:=by
 cases hr:y.runs[k]? with
 |none=>exact Nat.zero_le _
 |some r=>exact (h.rns.right r (List.mem_of_getElem? hr)).le12
theorem jna {y:Yd} (h:YdI y) (k t:Nat):(failK y k t).seq≤y.seq+12:=by
 unfold failK;split
 ·have h1:=ji3 y k (jG ((y.runs[k]?).getD default) t)
  have h2:=jqc h k;rw [kX] at h1;omega
 ·omega
theorem jm8 {z:Yd} (h:YdI z) (k:Nat):∀t,(restT z k t).seq≤z.seq+12*t
 |0=>by simp [restT]
 |t+1=>by
  have h1:=jm8 h k t;have h2:=jna (h.restT k t) k t;simp only [restT];omega
theorem jm9 {y:Yd} (h:YdI y):∀k,(restR y k).seq≤y.seq+144*k
 |0=>by simp [restR]
 |k+1=>by
  have h1:=jm9 h k;have h2:=jm8 (h.restR k) k ((y.runs[k]?).getD default).tasks.length;have h3:=jqc h k;simp only [restR];omega
theorem jm7 {y:Yd} (h:YdI y):∀i,i≤(kv y).length→(tickI y i).seq≤y.seq+12*i
 |0,_=>by simp [tickI]
 |i+1,hi=>by
  have h1:=jm7 h i (by omega)
  have h2:=(h.tickI i (by omega)).1
  obtain ⟨l,hl⟩:=je (show i<(kv y).length by omega)
  rw [jet hl];unfold jmW;have:=jna h2 (runAt (tickI y i) (l.headD 0)).toNat (l.tail.headD 0).toNat;omega
theorem jtv {y:Yd} (h:YdI y) (d:Dd):(doY y d).seq≤y.seq+2000:=by
 unfold doY;split
 ·omega
 split
 ·unfold jeu
  split
  ·rename_i hc
   simp only [jsg,zB]
   have hp:jw d.plan=0:=by
    refine Classical.byContradiction fun hp=>?_
    unfold jdG at hc
    repeat' split at hc
    all_goals first|(cases hc;done)|exact hp hc|contradiction|omega
   obtain ⟨n,hn,_,h12,-⟩:=jcb hp;have h3:(jY d.run d.plan).tasks.length≤12:=by rw [jY,jcw];omega
   have h4:(qM 2 (jY d.run d.plan).tasks).length≤(jY d.run d.plan).tasks.length:=vC _ _ _;omega
  ·omega
 split
 ·unfold zQ
  split
  ·omega
  ·rename_i hc
   have hok:jD y=true:=by
    cases h:jD y with
    |true=>rfl
    |false=>exact absurd (.inl h) hc
   have hw:0≤d.worker∧d.worker≤99:=by
    refine Classical.byContradiction fun h=>hc (.inr h)
   have hh4:(d.worker.tmod 4).toNat<4:=by rw [Int.tmod_eq_emod_of_nonneg hw.1];omega
   have hI:=(jtW (yard_iff.1 hok) hh4 d.draw).seq;split
   ·omega
   ·simp only [jkr];omega
 split
 ·unfold jcF
  split
  ·have h1:=ji3 y (runAt y d.run).toNat (qI ((y.runs[(runAt y d.run).toNat]?).getD default) d.task)
   have h2:=jqc h (runAt y d.run).toNat;rw [jez] at h1;omega
  ·omega
 split
 ·unfold jcD
  split
  ·have h1:=ji3 y (runAt y d.run).toNat (jG ((y.runs[(runAt y d.run).toNat]?).getD default) d.task)
   have h2:=jqc h (runAt y d.run).toNat;rw [kX] at h1;omega
  ·omega
 split
 ·unfold vE
  split
  ·rename_i hc
   have hok:jD y=true:=by
    unfold zE at hc;cases h:jD y with
    |true=>rfl
    |false=>rw [if_pos h] at hc;cases hc
   have h1:=jm7 h _ (Nat.le_refl _);have h2:=jmf (yard_iff.1 hok);dsimp only;omega
  ·omega
 split
 ·unfold kQ
  split
  ·simp only [jhq];omega
  ·omega
 split
 ·unfold jau
  split
  ·dsimp only;omega
  ·omega
 ·unfold zG
  split
  ·have h1:=jm9 h y.runs.length
   have h2:=h.rns.eight;omega
  ·omega
theorem YdI.new:YdI newYd:=by
 refine ⟨by decide,by decide,rfl,fun l hl=>?_,⟨by simp [newYd],by simp [newYd],by simp [newYd],by simp [newYd],by simp [newYd]⟩,⟨by simp [newYd],by simp [newYd],by simp [newYd],by simp [newYd]⟩,by simp [newYd,vT]⟩
 have:l=[]:=by simp [newYd] at hl;exact hl
 subst this;exact List.Pairwise.nil
theorem jve (n:Int) {a b:Int} (h:a≤b):a≤brI n a b∧brI n a b≤b:=by
 unfold brI;split
 ·omega
 ·split<;>omega
theorem jwm:jbC plZ=true:=by decide
theorem zI {n:Int} (h:0≤n∧n≤1000000000):zo n=true:=decide_eq_true h
theorem jwh {p:Pl} (h:jw p=0):jgB p=true:=by
 obtain ⟨n,h1,h2,h3,h4,h5,h6,h7,h8,h9⟩:=jcb h;simp only [jgB,Bool.and_eq_true,decide_eq_true_eq,List.all_eq_true];refine ⟨⟨⟨⟨⟨zI (by omega),zI (by omega)⟩,zI (by omega)⟩,zI (by omega)⟩,by omega⟩,fun e he=>?_⟩
 have:=h5 e he;unfold okE at this;simp only [edB,Bool.and_eq_true];exact ⟨zI (by omega),zI (by omega)⟩
theorem jw1 (c:List UInt8) {y:Yd} (s:Cu) (hi:∀r∈y.runs,1≤r.id∧r.id≤9999):0≤(qr c y s).1.1∧(qr c y s).1.1≤9999:=by
 unfold qr;split
 ·rename_i x s' e
  obtain ⟨r,h1,h2⟩:=jjA _ e;have:=hi r h1;dsimp only;omega
 ·rename_i s' e
  have:=jR c (n:=5) s' (by decide)
  dsimp only;omega
theorem jw2 (c:List UInt8) {y:Yd} (s:Cu) (hi:∀r∈y.runs,1≤r.id∧r.id≤9999):kf (qf c y s).1=true:=by
 unfold qf;dsimp only;generalize jr c 20 s=k at*;have hh:=jw1 c k.2 hi;have b9:=jR c (n:=9) k.2 (by decide)
 have b8:=jR c (n:=8) k.2 (by decide)
 have b7:=jR c (n:=7) (jr c 8 k.2).2 (by decide)
 have hp:=jwZ c (jr c 9 k.2).2;have ht:=jve (qr c y k.2).1.2.1 (a:=0) (b:=99) (by decide)
 have hv:=jve (qr c y k.2).1.2.2 (a:=0) (b:=99) (by decide)
 have hz:=jwm
 repeat' split
 ·simp [kf,hz,zI (n:=(jr c 8 k.2).1) (by omega),zI (n:=(jr c 7 (jr c 8 k.2).2).1) (by omega)]
 ·simp [kf,jwh hp,zI (n:=1+(jr c 9 k.2).1) (by omega)]
 ·simp [kf,hz,zI (n:=(qr c y k.2).1.1) (by omega),zI (n:=brI (qr c y k.2).1.2.1 0 99) (by omega),zI (n:=brI (qr c y k.2).1.2.2 0 99) (by omega)]
 ·simp [kf,hz,zI (n:=(qr c y k.2).1.1) (by omega),zI (n:=brI (qr c y k.2).1.2.1 0 99) (by omega),zI (n:=brI (qr c y k.2).1.2.2 0 99) (by omega)]
 ·simp [kf,hz]
 ·simp [kf,hz,zI (n:=1+(jr c 9 k.2).1) (by omega)]
 ·simp [kf,hz,zI (n:=1+(jr c 9 k.2).1) (by omega)]
 ·simp [kf,hz]
 ·simp [kf,hz]
theorem YdI.ids {y:Yd} (h:YdI y):∀r∈y.runs,1≤r.id∧r.id≤9999:=fun r hr=>of_decide_eq_true (h.rns.right r hr).id
structure DdsI (c:List UInt8) (n:Nat) (x:List Dd×Yd×Cu):Prop where
 yd:YdI x.2.1
 seq:x.2.1.seq≤1+2000*n
 len:x.1.length=n
 ok:∀d∈x.1,kf d=true
 at_:x.2.2.1≤c.length
 yis:x.2.1=x.1.foldl doY newYd
 edges:∀d∈x.1,d.plan.edges.length≤9
theorem jjD (c:List UInt8) (y:Yd) (s:Cu):(qf c y s).1.plan.edges.length≤9:=by
 unfold qf;dsimp only
 repeat' split
 all_goals first
  |exact Nat.zero_le _
  |(have:=(jjC c (if (jr c 10 (jr c 6 (jr c 4 (jr c 3 (jr c 4 (jr c 9 (jr c 20 s).2).2).2).2).2).2).1=0 then 12 else 1+(jr c 6 (jr c 4 (jr c 3 (jr c 4 (jr c 9 (jr c 20 s).2).2).2).2).2).1) 9 0 [] (jr c 10 (jr c 6 (jr c 4 (jr c 3 (jr c 4 (jr c 9 (jr c 20 s).2).2).2).2).2).2).2 ⟨by simp,by simp⟩).2;simpa [jca] using this)
theorem DdsI.start {c:List UInt8} {s:Cu} (h:s.1≤c.length):DdsI c 0 ([],newYd,s):=⟨.new,by simp [newYd],rfl,by simp,h,rfl,by simp⟩
theorem DdsI.next {c:List UInt8} {n:Nat} {x:List Dd×Yd×Cu} (h:DdsI c n x):DdsI c (n+1) (x.1++[(qf c x.2.1 x.2.2).1],doY x.2.1 (qf c x.2.1 x.2.2).1,(qf c x.2.1 x.2.2).2):=by
 have hd:=jw2 c x.2.2 h.yd.ids;refine ⟨h.yd.do _,?_,by simp [h.len],fun d hm=>?_,jw3 h.at_,?_,fun d hm=>?_⟩
 ·have h1:=jtv h.yd (qf c x.2.1 x.2.2).1
  have h2:=h.seq;dsimp only;omega
 ·rcases List.mem_append.1 hm with hm|hm
  ·exact h.ok d hm
  ·simp at hm;subst hm;exact hd
 ·rw [List.foldl_append,←h.yis];rfl
 ·rcases List.mem_append.1 hm with hm|hm
  ·exact h.edges d hm
  ·simp at hm;subst hm;exact jjD _ _ _
theorem jq4 {c:List UInt8}:∀(n m:Nat) {x:List Dd×Yd×Cu},DdsI c m x→DdsI c (m+n) (vz c n x)
 |0,m,x,h=>h
 |n+1,m,x,h=>by
  rw [vz,show m+(n+1)=(m+1)+n by omega]
  exact jq4 n (m+1) h.next
end Go.Proofs.YtcehjhiglmifjaaGreat
