/- Parts. -/
import Derived.Test.YtmnpailnelmpiaaGreatQCancel
set_option linter.unusedSimpArgs false
set_option linter.unusedVariables false
namespace Go.Proofs.YtmnpailnelmpiaaGreat
open Go.RowKit Go.Sort
structure job (r r2:Rn):Prop where
 id:r2.id=r.id
 plan:r2.plan=r.plan
 ok:RunOkP r2
 len:r2.tasks.length=r.tasks.length
 task:∀(t:Nat) (x z:Tk),r.tasks[t]?=some x→r2.tasks[t]?=some z→(x.state=2→z.state=2∨z.state=6)∧(x.state=6→z.state=6)∧(z.state=2→x.state≠6)∧(z.state=3→z=x)∧(z.state=1→x.state=1∧z.tri=x.tri)
 room:kJ r2+cS 2 r.tasks+(vO r.tasks r2.tasks r2.tasks.length).length≤kJ r+cS 2 r2.tasks
theorem newL_mem {was ts:List Tk} {k:Nat} {v:Int}:v∈vO was ts k↔∃j:Nat,v=j∧j<k∧jod was ts j=true:=by
 simp only [vO,List.mem_map,List.mem_filter,List.mem_range];constructor
 ·rintro ⟨j,⟨h1,h2⟩,rfl⟩;exact ⟨j,rfl,h1,h2⟩
 ·rintro ⟨j,rfl,h1,h2⟩;exact ⟨j,⟨h1,h2⟩,rfl⟩
theorem jrx (was ts:List Tk) (k:Nat):(vO was ts k).Nodup:=jbI _ _
theorem jpX {was ts:List Tk} {j:Nat} {x z:Tk} (hx:was[j]?=some x) (hz:ts[j]?=some z):jod was ts j=(z.state==2&&!(x.state==2)):=by
 have hj:=(List.getElem?_eq_some_iff.1 hx).1;simp [jod,kv hx,kv hz,hj]
theorem jmX {was ts:List Tk} (hl:ts.length=was.length) (h:∀(j:Nat) (x z:Tk),was[j]?=some x→ts[j]?=some z→x.state=2→z.state=2):cS 2 ts=cS 2 was+(vO was ts ts.length).length:=by
 have e1:(vO was ts ts.length).length=((List.range ts.length).filter fun (j:Nat)=>(stT ts (j:Int)==2)&&!(stT was (j:Int)==2)).length:=by
  simp only [vO,List.length_map]
  congr 1
  refine List.filter_congr fun j hj=>?_
  have:j<was.length:=by rw [←hl];exact List.mem_range.1 hj
  simp [jod,this]
 have e2:cS 2 was=((List.range ts.length).filter fun (j:Nat)=>(stT ts (j:Int)==2)&&(stT was (j:Int)==2)).length:=by
  simp only [cS,qB,vN,List.length_map,←hl]
  congr 1
  refine List.filter_congr fun j hj=>?_
  have hj2:=List.mem_range.1 hj;obtain ⟨z,hz⟩:=je hj2;obtain ⟨x,hx⟩:=je (show j<was.length by omega)
  rw [kv hz,kv hx];cases h2:x.state==2
  ·simp
  ·rw [h j x z hx hz (by simpa using h2)];rfl
 have e3:cS 2 ts=((List.range ts.length).filter fun (j:Nat)=>stT ts (j:Int)==2).length:=by simp only [cS,qB,vN,List.length_map]
 rw [e1,e2,e3];have:=List.length_eq_countP_add_countP (fun (j:Nat)=>stT was (j:Int)==2) (l:=(List.range ts.length).filter fun (j:Nat)=>stT ts (j:Int)==2)
 simp only [List.countP_eq_length_filter,List.filter_filter] at this;rw [this]
 congr 1
 ·congr 1
  refine List.filter_congr fun j _=>?_
  exact Bool.and_comm _ _
 ·congr 1
  refine List.filter_congr fun j _=>?_
  cases stT was (j:Int)==2<;>cases stT ts (j:Int)==2<;>rfl
theorem jcg {rs:List Rn} {k:Nat} {r2 r':Rn} (h:r'∈rs.set k r2):r'=r2∨∃j,j≠k∧rs[j]?=some r':=by
 obtain ⟨j,hj⟩:=List.getElem?_of_mem h;rw [List.getElem?_set] at hj;by_cases e:k=j
 ·subst e
  rw [if_pos rfl] at hj;split at hj
  ·exact .inl (Option.some.inj hj).symm
  ·simp at hj
 ·rw [if_neg e] at hj;exact .inr ⟨j,fun h=>e h.symm,hj⟩
theorem jom {rs:List Rn} {k:Nat} {r r2:Rn} (hr:rs[k]?=some r) (h:r2.id=r.id):(rs.set k r2).map (·.id)=rs.map (·.id):=by
 apply List.ext_getElem?
 intro j;simp only [List.getElem?_map,List.getElem?_set];by_cases e:k=j
 ·subst e
  rw [if_pos rfl,if_pos (List.getElem?_eq_some_iff.1 hr).1,hr];simp [h]
 ·rw [if_neg e]
theorem jtE {rs rs':List Rn} {q:Int} {L:List En} {r2:Rn} {ids:List Int} (h:EnsI rs q L) (hq:1≤q) (hid:(rs'.map (·.id)).Nodup) (hr2:r2∈rs') (hids:ids.Nodup)
 (h1:∀t∈ids,∃(j:Nat) (x:Tk),t=j∧r2.tasks[j]?=some x∧x.state=2)
 (h2:∀e∈L,∃r∈rs',∃(t:Nat) (x:Tk),e.run=r.id∧e.task=t∧r.tasks[t]?=some x∧(x.state=2∧e.prio=r.plan.prio∨x.state=6))
 (h3:∀r'∈rs',r'.id≠r2.id→r'∈rs)
 (h4:∀(t:Nat) (x:Tk),r2.tasks[t]?=some x→x.state=2→(t:Int)∉ids→zD r2.id t L=1)
 (h5:∀t∈ids,zD r2.id t L=0):EnsI rs' (q+ids.length) (jkL r2.plan.prio r2.id q ids++L):=by
 refine ⟨fun e he=>?_,?_,fun e he=>?_,fun r' hr' t x hx hs=>?_⟩
 ·rcases List.mem_append.1 he with he|he
  ·obtain ⟨_,_,_,k4,k5⟩:=jdc he;omega
  ·have:=h.range e he;omega
 ·rw [List.map_append]
  refine List.nodup_append.2 ⟨jkK _ _ _ _,h.apart,fun a ha b hb e=>?_⟩
  obtain ⟨e1,he1,rfl⟩:=List.mem_map.1 ha;obtain ⟨e2,he2,rfl⟩:=List.mem_map.1 hb;have:=(jdc he1).2.2.2.1;have:=h.range e2 he2;omega
 ·rcases List.mem_append.1 he with he|he
  ·obtain ⟨k1,k2,k3,_⟩:=jdc he
   obtain ⟨j,x,hj,hx,hs⟩:=h1 _ k3;exact ⟨r2,hr2,j,x,k2,hj,hx,.inl ⟨hs,k1⟩⟩
  ·exact h2 e he
 ·rw [jg0]
  by_cases hi:r'.id=r2.id
  ·obtain rfl:=jl1 hid hr' hr2 hi
   rw [jpW];by_cases ht:(t:Int)∈ids
   ·rw [hids.count,if_pos ht,h5 _ ht]
   ·rw [List.count_eq_zero.2 ht,h4 t x hx hs ht]
  ·rw [jmi (L:=jkL _ _ _ _) (fun e he=>by have:=(jdc he).2.1;rintro ⟨k1,_⟩;exact hi (k1.symm.trans this)),h.one r' (h3 r' hr' hi) t x hx hs]
theorem jpn {α:Type} (f:α→Nat) (l:List α) (x:α):vM f (l++[x])=vM f l+f x:=by simp [vM]
theorem RnsI.turn {now:Int} {rs:List Rn} {k:Nat} {r r2:Rn} (h:RnsI now rs) (hr:rs[k]?=some r) (hg:job r r2):RnsI now (rs.set k r2):=by
 refine ⟨by rw [List.length_set];exact h.eight,fun r' hr'=>?_,by rw [jom hr hg.id];exact h.ids,fun r' hr' t x hx hs=>?_,fun r' hr' x hx hs=>?_⟩
 ·rcases jcg hr' with rfl|⟨j,_,hj⟩
  ·exact hg.ok
  ·exact h.right r' (List.mem_of_getElem? hj)
 ·rcases jcg hr' with rfl|⟨j,_,hj⟩
  ·obtain ⟨z,hz⟩:=je (show t<r.tasks.length by rw [←hg.len];exact (List.getElem?_eq_some_iff.1 hx).1)
   have:=(hg.task t z x hz hx).2.2.2.1 hs;subst this;rw [hg.plan];exact h.til r (List.mem_of_getElem? hr) t x hz hs
  ·exact h.til r' (List.mem_of_getElem? hj) t x hx hs
 ·rcases jcg hr' with rfl|⟨j,_,hj⟩
  ·obtain ⟨t,hx⟩:=List.getElem?_of_mem hx
   obtain ⟨z,hz⟩:=je (show t<r.tasks.length by rw [←hg.len];exact (List.getElem?_eq_some_iff.1 hx).1)
   obtain ⟨h1,h2⟩:=(hg.task t z x hz hx).2.2.2.2 hs;rw [h2];exact h.tri r (List.mem_of_getElem? hr) z (List.mem_of_getElem? hz) h1
  ·exact h.tri r' (List.mem_of_getElem? hj) x hx hs
theorem jyc {rs:List Rn} {k:Nat} {r r2:Rn} {q:Int} {L:List En} (h:EnsI rs q L) (hr:rs[k]?=some r) (hg:job r r2):∀e∈L,∃r∈rs.set k r2,∃(t:Nat) (x:Tk),e.run=r.id∧e.task=t∧r.tasks[t]?=some x∧(x.state=2∧e.prio=r.plan.prio∨x.state=6):=by
 intro e he;have hk:=(List.getElem?_eq_some_iff.1 hr).1;obtain ⟨r',hr',t,x,h1,h2,h3,h4⟩:=h.own e he;obtain ⟨j,hj⟩:=List.getElem?_of_mem hr';by_cases ejk:k=j
 ·subst ejk
  rw [hr] at hj;obtain rfl:=Option.some.inj hj;obtain ⟨z,hz⟩:=je (show t<r2.tasks.length by rw [hg.len];exact (List.getElem?_eq_some_iff.1 h3).1)
  obtain ⟨g1,g2,_⟩:=hg.task t x z h3 hz;refine ⟨r2,List.mem_of_getElem? (List.getElem?_set_self hk),t,z,by rw [hg.id];exact h1,h2,hz,?_⟩
  rcases h4 with ⟨h4,h5⟩|h4
  ·rcases g1 h4 with g|g
   ·exact .inl ⟨g,by rw [hg.plan];exact h5⟩
   ·exact .inr g
  ·exact .inr (g2 h4)
 ·exact ⟨r',List.mem_of_getElem? (i:=j) (by rw [List.getElem?_set_ne ejk];exact hj),t,x,h1,h2,h3,h4⟩
theorem jyV {rs:List Rn} {q:Int} {L:List En} (h:EnsI rs q L) (hid:(rs.map (·.id)).Nodup) {r:Rn} {t:Nat} {x:Tk} (hr:r∈rs) (hx:r.tasks[t]?=some x) (h2:x.state≠2) (h6:x.state≠6):zD r.id t L=0:=by
 refine jmi fun e he=>?_
 rintro ⟨k1,k2⟩;obtain ⟨r',hr',t',x',h1,h3,h4,h5⟩:=h.own e he;obtain rfl:=jl1 hid hr hr' (k1.symm.trans h1);obtain rfl:t=t':=by omega
 rw [hx] at h4;obtain rfl:=Option.some.inj h4;rcases h5 with h5|h5
 ·exact h2 h5.1
 ·exact h6 h5
theorem YdI.turn {y:Yd} {k:Nat} {r r2:Rn} (h:YdI y) (hr:y.runs[k]?=some r) (hg:job r r2):YdI (kL y k r2):=by
 have hk:=(List.getElem?_eq_some_iff.1 hr).1;obtain ⟨-,hs4⟩:=jxD r2.id;obtain ⟨l,hl⟩:=je (show shN r2.id<y.shelf.length by rw [h.four];exact hs4)
 have hR:=h.rns.turn hr hg
 have e:kL y k r2=⟨y.now,y.seq+(vO r.tasks r2.tasks r2.tasks.length).length,y.shelf.set (shN r2.id) (vP r2.plan.prio r2.id (vO r.tasks r2.tasks r2.tasks.length) (l,y.seq)).1,y.runs.set k r2⟩:=by
  rw [kL,jrF];simp only [hr,Option.getD_some,hl,zw]
 obtain ⟨rest,p1,p2⟩:=zk hl (vP r2.plan.prio r2.id (vO r.tasks r2.tasks r2.tasks.length) (l,y.seq)).1
 have hp:(jkL r2.plan.prio r2.id y.seq (vO r.tasks r2.tasks r2.tasks.length)++y.shelf.flatten).Perm (y.shelf.set (shN r2.id) (vP r2.plan.prio r2.id (vO r.tasks r2.tasks r2.tasks.length) (l,y.seq)).1).flatten:=by
  refine ((List.Perm.append_left _ p1).trans ?_).trans p2.symm;rw [←List.append_assoc];exact ((ji3 _ _ _ _ _).symm).append_right _
 have hE:EnsI (y.runs.set k r2) (y.seq+(vO r.tasks r2.tasks r2.tasks.length).length) (jkL r2.plan.prio r2.id y.seq (vO r.tasks r2.tasks r2.tasks.length)++y.shelf.flatten):=by
  refine jtE h.ens h.seq hR.ids (List.mem_of_getElem? (List.getElem?_set_self hk)) (jrx _ _ _) (fun t ht=>?_) (jyc h.ens hr hg) (fun r' hr' hi=>?_) (fun t x hx hs ht=>?_) (fun t ht=>?_)
  ·obtain ⟨j,rfl,hj,hn⟩:=newL_mem.1 ht
   obtain ⟨z,hz⟩:=je hj;simp only [jod,kv hz,Bool.and_eq_true,beq_iff_eq] at hn;exact ⟨j,z,rfl,hz,hn.1⟩
  ·rcases jcg hr' with rfl|⟨j,_,hj⟩
   ·exact absurd rfl hi
   ·exact List.mem_of_getElem? hj
  ·have ht2:=(List.getElem?_eq_some_iff.1 hx).1
   obtain ⟨z,hz⟩:=je (show t<r.tasks.length by rw [←hg.len];exact ht2)
   have hz2:z.state=2:=Classical.byContradiction fun hne=>ht (newL_mem.2 ⟨t,rfl,ht2,by rw [jpX hz hx,hs];simp [hne]⟩)
   rw [hg.id];exact h.ens.one r (List.mem_of_getElem? hr) t z hz hz2
  ·obtain ⟨j,rfl,hj,hn⟩:=newL_mem.1 ht
   obtain ⟨z,hz⟩:=je hj;obtain ⟨x,hx⟩:=je (show j<r.tasks.length by rw [←hg.len];exact hj)
   rw [jpX hx hz] at hn;simp only [Bool.and_eq_true,beq_iff_eq,Bool.not_eq_true',beq_eq_false_iff_ne] at hn;rw [hg.id];exact jyV h.ens h.rns.ids (List.mem_of_getElem? hr) hx hn.2 ((hg.task j x z hx hz).2.2.1 hn.1)
 have hlen:=hp.length_eq;rw [List.length_append,jlT] at hlen;have hroom:=h.room;have hg6:=hg.room;have t1:=qW (f:=kJ) r2 hr;have t2:=qW (f:=fun r=>cS 2 r.tasks) r2 hr
 rw [e];refine ⟨h.now,by have:=h.seq;dsimp only;omega,by rw [List.length_set];exact h.four,fun m hm=>?_,hR,hE.perm hp,by simp only [qr] at hroom⊢;omega⟩
 rcases List.mem_or_eq_of_mem_set hm with hm|rfl
 ·exact h.sorted m hm
 ·exact jlV _ _ _ (h.sorted l (List.mem_of_getElem? hl)) fun x hx=>by
   have:=h.ens.range x (List.mem_flatten.2 ⟨l,List.mem_of_getElem? hl,hx⟩);omega
def stD (z:Tk):Tk:=⟨if IntKind.i64.wrap (z.need-1)=0 then 2 else z.state,IntKind.i64.wrap (z.need-1),z.tri,z.til⟩
theorem jsz {ts:List Tk} {b:Int} (hb:0≤b) (j:Nat):(jar ts b)[j]?=(ts[j]?).map fun z=>if (j:Int)=b then stD z else z:=by
 unfold jar;by_cases e:(j:Int)=b
 ·have ej:b.toNat=j:=by omega
  rw [ej];cases hz:ts[j]? with
  |none=>simp [hz]
  |some z=>
   have hj:=(List.getElem?_eq_some_iff.1 hz).1;simp only [Option.map_some,if_pos e];rw [List.getElem?_set_self hj];rfl
 ·have ej:b.toNat≠j:=by omega
  cases hz:ts[b.toNat]? with
  |none=>simp [e]
  |some z=>simp only [if_neg e];rw [List.getElem?_set_ne ej];simp
theorem jnB:∀{l:List Int} {ts:List Tk},l.Nodup→(∀b∈l,0≤b)→∀j:Nat,(l.foldl jar ts)[j]?=(ts[j]?).map fun z=>if (j:Int)∈l then stD z else z
 |[],ts,_,_,j=>by simp
 |b::l,ts,hn,h0,j=>by
  obtain ⟨h1,h2⟩:=List.nodup_cons.1 hn;rw [List.foldl_cons,jnB h2 (fun x hx=>h0 x (by simp [hx])) j,jsz (h0 b (by simp)) j,Option.map_map]
  congr 1
  funext z
  simp only [Function.comp,List.mem_cons];by_cases e:(j:Int)=b
  ·have:¬(j:Int)∈l:=by rw [e];exact h1
   simp [e,h1]
  ·simp [e]
theorem jo5 {l:List Int} {p:Int→Bool} {t:Int} (hn:l.Nodup) (ht:t∈l) (hp:p t=true):(l.filter p).length=(l.filter fun b=>p b&&(b !=t)).length+1:=by
 induction l with
 |nil=>simp at ht
 |cons a l ih=>
  obtain ⟨h1,h2⟩:=List.nodup_cons.1 hn;rcases List.mem_cons.1 ht with rfl|ht
  ·have e:l.filter (fun b=>p b&&(b !=t))=l.filter p:=List.filter_congr fun b hb=>by
    have:b≠t:=fun e=>h1 (e▸hb)
    simp [this]
   rw [List.filter_cons,if_pos hp,List.filter_cons,if_neg (by simp),e];rfl
  ·have hat:a≠t:=fun e=>h1 (e▸ht)
   have:=ih h2 ht;rw [List.filter_cons,List.filter_cons];cases hpa:p a<;>simp [hat,this]
theorem jo4 {l:List Int} {p:Int→Bool} {t:Int} (ht:t∉l):(l.filter fun b=>p b&&(b !=t))=l.filter p:=List.filter_congr fun b hb=>by
 have:b≠t:=fun e=>ht (e▸hb)
 simp [this]
theorem jpf {p:Pl} (h:jw p=0) {a b:Nat}:(a:Int)∈zo p b↔(b:Int)∈jbo p a:=by
 obtain ⟨n,hn,_,_,_,hes,_⟩:=jck h;have e1:p.tasks.toNat=n:=by omega
 rw [zo,jbo,e1,(ja2 (jjG hes b)).mem_iff,(ja2 (jmp hes a)).mem_iff,jeM,jeL];simp only [List.mem_map,List.mem_filter,beq_iff_eq];constructor
 ·rintro ⟨e,⟨h1,h2⟩,h3⟩;exact ⟨e,⟨h1,h3⟩,h2⟩
 ·rintro ⟨e,⟨h1,h2⟩,h3⟩;exact ⟨e,⟨h1,h3⟩,h2⟩
theorem jr4 {p:Pl} (h:jw p=0) (t:Int):(jbo p t).Nodup:=by
 obtain ⟨n,hn,_,_,_,hes,hd,_⟩:=jck h;rw [jbo,show p.tasks.toNat=n by omega]
 exact (ja2 (jmp hes t)).nodup_iff.2 (jk4 hd t)
theorem jr6 {p:Pl} (h:jw p=0) (t:Int):(zo p t).Nodup:=by
 obtain ⟨n,hn,_,_,_,hes,hd,_⟩:=jck h;rw [zo,show p.tasks.toNat=n by omega]
 exact (ja2 (jjG hes t)).nodup_iff.2 (jk5 hd t)
theorem RunOkP.need_pos {r:Rn} (h:RunOkP r) {t j:Nat} {x z:Tk} (hx:r.tasks[t]?=some x) (hs:x.state=3) (hz:r.tasks[j]?=some z) (hj:(j:Int)∈jbo r.plan t):z.state=1∧z.need=jat r.plan r.tasks j∧1≤jat r.plan r.tasks j:=by
 obtain ⟨e1,e2,e3,e4⟩:=h.runs hx hs;have hT:=taskB_iff.1 (h.tasks j z hz)
 have hp:1≤jat r.plan r.tasks j:=by
  have hm:(t:Int)∈(zo r.plan j).filter fun b=>stT r.tasks b !=4:=List.mem_filter.2 ⟨(jpf h.plan).2 hj,by rw [kv hx,hs];rfl⟩
  have:=List.length_pos_of_mem hm;simp only [jat];omega
 have h6:z.state≠6:=jqx e3 hz;have hl:=hT.2.2.2.2;unfold qT at hl;refine ⟨?_,hT.2.1,hp⟩;refine Classical.byContradiction fun h1=>?_
 rw [if_neg h1] at hl;split at hl
 ·simp only [Bool.and_eq_true,beq_iff_eq] at hl;omega
 ·simp only [if_neg h6,Bool.and_eq_true,beq_iff_eq] at hl;omega
section
variable {r:Rn} {t:Nat} {x:Tk}
theorem jwi (h:RunOkP r) (j:Nat):(vG r.plan r.tasks t x)[j]?=((r.tasks.set t ⟨4,x.need,x.tri,0⟩)[j]?).map fun z=>if (j:Int)∈jbo r.plan t then stD z else z:=by
 obtain ⟨n,hn,_,_,_,hes,_⟩:=jck h.plan;exact jnB (jr4 h.plan t) (fun b hb=>(jpd hn hb).1) j
theorem jpT (h:RunOkP r) (hx:r.tasks[t]?=some x) (hs:x.state=3):¬(t:Int)∈jbo r.plan t:=fun hm=>by
 have:=(h.need_pos hx hs hx hm).1;omega
theorem jdh (h:RunOkP r) (hx:r.tasks[t]?=some x) (hs:x.state=3) {j:Nat} {w:Tk} (hw:(vG r.plan r.tasks t x)[j]?=some w):
 (j=t∧w=⟨4,x.need,x.tri,0⟩)∨(j≠t∧∃z,r.tasks[j]?=some z∧((j:Int)∈jbo r.plan t∧w=stD z∨¬(j:Int)∈jbo r.plan t∧w=z)):=by
 have ht:=(List.getElem?_eq_some_iff.1 hx).1;rw [jwi h] at hw;by_cases e:j=t
 ·subst e
  rw [List.getElem?_set_self ht,Option.map_some,if_neg (jpT h hx hs)] at hw;exact .inl ⟨rfl,(Option.some.inj hw).symm⟩
 ·rw [List.getElem?_set_ne (fun e'=>e e'.symm)] at hw
  obtain ⟨z,hz,rfl⟩:=Option.map_eq_some_iff.1 hw;refine .inr ⟨e,z,hz,?_⟩;by_cases hm:(j:Int)∈jbo r.plan t
  ·exact .inl ⟨hm,by rw [if_pos hm]⟩
  ·exact .inr ⟨hm,by rw [if_neg hm]⟩
theorem jwL {z:Tk} (h:z.state=1):(stD z).state=1∨(stD z).state=2:=by
 simp only [stD];split
 ·exact .inr rfl
 ·exact .inl h
theorem jwh (h:RunOkP r) (hx:r.tasks[t]?=some x) (hs:x.state=3) (j:Nat):(stT (vG r.plan r.tasks t x) j !=4)=(stT r.tasks j !=4&&((j:Int) !=t)):=by
 have ht:=(List.getElem?_eq_some_iff.1 hx).1;cases hw:(vG r.plan r.tasks t x)[j]? with
 |none=>
  have hz:r.tasks[j]?=none:=by rw [List.getElem?_eq_none_iff] at hw⊢;rw [jbf] at hw;exact hw
  have hjt:¬j=t:=fun e=>by subst e;rw [hx] at hz;cases hz
  have hjt':((j:Int) !=t)=true:=by simp only [bne_iff_ne];omega
  simp only [stT,Int.toNat_natCast,hw,hz,hjt',Bool.and_true]
 |some w=>
  rw [kv hw];rcases jdh h hx hs hw with ⟨rfl,rfl⟩|⟨hne,z,hz,⟨hm,rfl⟩|⟨hm,rfl⟩⟩
  ·simp
  ·have h1:=(h.need_pos hx hs hz hm).1
   have hjt':((j:Int) !=t)=true:=by simp only [bne_iff_ne];omega
   rw [kv hz,h1,hjt'];rcases jwL h1 with h2|h2<;>rw [h2]<;>rfl
  ·have hjt':((j:Int) !=t)=true:=by simp only [bne_iff_ne];omega
   rw [kv hz,hjt',Bool.and_true]
theorem jrW (h:RunOkP r) (hx:r.tasks[t]?=some x) (hs:x.state=3) (j:Nat):jat r.plan (vG r.plan r.tasks t x) j=jat r.plan r.tasks j-if (j:Int)∈jbo r.plan t then 1 else 0:=by
 obtain ⟨n,hn,_,_,_,hes,_⟩:=jck h.plan
 have e:(zo r.plan j).filter (fun b=>stT (vG r.plan r.tasks t x) b !=4)=(zo r.plan j).filter fun b=>(stT r.tasks b !=4)&&(b !=(t:Int)):=List.filter_congr fun b hb=>by
  have hb0:0≤b:=by
   rw [zo] at hb;exact (jeT hb).1.1
  obtain ⟨m,rfl⟩:=Int.eq_ofNat_of_zero_le hb0;exact jwh h hx hs m
 simp only [jat];rw [e];by_cases hm:(j:Int)∈jbo r.plan t
 ·have:=jo5 (p:=fun b=>stT r.tasks b !=4) (jr6 h.plan j) ((jpf h.plan).2 hm) (by rw [kv hx,hs];rfl)
  rw [if_pos hm];omega
 ·have:=jo4 (p:=fun b=>stT r.tasks b !=4) (fun hc=>hm ((jpf h.plan).1 hc))
  rw [if_neg hm,this];omega
theorem juj (h:RunOkP r) (hx:r.tasks[t]?=some x) (hs:x.state=3) (h0:∀z∈r.tasks,z.state=1→z.tri=0):job r (jhD r t x):=by
 obtain ⟨e1,e2,e3,e4⟩:=h.runs hx hs;obtain ⟨n,hn,hn1,h12,h30,hes,hnd,hprio,hmost,hwait⟩:=jck h.plan;have hx1:=taskB_iff.1 (h.tasks t x hx);have hxl:=hx1.2.2.2.2;simp only [qT,hs] at hxl;have hxl:x.need=0∧1≤x.tri:=by simpa using hxl
 have hnl:∀j:Nat,jat r.plan r.tasks j≤12:=fun j=>by
  have h1:=List.length_filter_le (fun b=>stT r.tasks b !=4) (zo r.plan j)
  have h2:(zo r.plan j).length≤n:=by
   rw [zo,show r.plan.tasks.toNat=n by omega,jvd (jjG hes j)]
   exact jqB hnd hes j
  simp only [jat];omega
 have hstate:=jkZ h hx hs;have hlen:=jbf r.plan r.tasks t x;refine ⟨rfl,rfl,⟨h.id,h.plan,by show ((vG r.plan r.tasks t x).length:Int)=_;rw [hlen];exact h.len,fun j w hw=>?_,hstate.symm,?_⟩,hlen,fun j z w hz hw=>?_,?_⟩
 ·show jR r.plan (vG r.plan r.tasks t x) j w=true
  rw [taskB_iff,jrW h hx hs];rcases jdh h hx hs hw with ⟨rfl,rfl⟩|⟨hne,z,hz,⟨hm,rfl⟩|⟨hm,rfl⟩⟩
  ·rw [if_neg (jpT h hx hs)]
   exact ⟨by simp,by rw [hx1.2.1];omega,hx1.2.2.1,rfl,by simp [qT,hxl.1,hxl.2]⟩
  ·obtain ⟨g1,g2,g3⟩:=h.need_pos hx hs hz hm
   have g4:=hnl j;have g5:=h0 z (List.mem_of_getElem? hz) g1;have hw1:IntKind.i64.wrap (z.need-1)=z.need-1:=jg (by omega) (by omega)
   have hzT:=taskB_iff.1 (h.tasks j z hz)
   have htil:z.til=0:=by
    have:=hzT.2.2.2.1;simpa [ja0,g1] using this
   rw [if_pos hm];simp only [stD,hw1];by_cases hz0:z.need-1=0
   ·rw [if_pos hz0]
    refine ⟨by simp,by omega,hzT.2.2.1,by simp [ja0,htil],?_⟩
    have:z.tri<r.plan.most:=by omega
    simp [qT,hz0,this]
   ·rw [if_neg hz0]
    refine ⟨by simp [g1],by omega,hzT.2.2.1,by simp [ja0,g1,htil],?_⟩
    have:0<z.need-1:=by omega
    simp only [qT,g1,if_true,decide_eq_true_eq];exact this
  ·have hzT:=taskB_iff.1 (h.tasks j _ hz)
   rw [if_neg hm,Int.sub_zero];exact hzT
 ·show (if _ then (2:Int) else r.state)≠0
  split<;>omega
 ·have hw2:(vG r.plan r.tasks t x)[j]?=some w:=hw
  rcases jdh h hx hs hw2 with ⟨rfl,rfl⟩|⟨hne,z',hz',⟨hm,rfl⟩|⟨hm,rfl⟩⟩
  ·rw [hx] at hz
   obtain rfl:=Option.some.inj hz;simp [hs]
  ·rw [hz] at hz'
   obtain rfl:=Option.some.inj hz';have g1:=(h.need_pos hx hs hz hm).1;have g3:(stD z).tri=z.tri:=rfl;rcases jwL g1 with g2|g2<;>rw [g2,g1,g3]<;>refine ⟨fun g=>?_,fun g=>?_,fun g=>?_,fun g=>?_,fun g=>?_⟩<;>first|omega|(simp;done)|exact ⟨rfl,rfl⟩
  ·rw [hz] at hz'
   obtain rfl:=Option.some.inj hz';refine ⟨fun g=>.inl g,fun g=>g,fun g=>by omega,fun _=>rfl,fun g=>⟨g,rfl⟩⟩
 ·have hk:=jmX (was:=r.tasks) (ts:=vG r.plan r.tasks t x) hlen fun j z w hz hw g=>by
   rcases jdh h hx hs hw with ⟨rfl,rfl⟩|⟨hne,z',hz',⟨hm,rfl⟩|⟨hm,rfl⟩⟩
   ·rw [hx] at hz
    obtain rfl:=Option.some.inj hz;omega
   ·rw [hz] at hz'
    obtain rfl:=Option.some.inj hz';have:=(h.need_pos hx hs hz hm).1;omega
   ·rw [hz] at hz'
    obtain rfl:=Option.some.inj hz';exact g
  have hlv:kJ (jhD r t x)≤kJ r:=by
   unfold kJ;rw [if_pos e1];split
   ·show (vG r.plan r.tasks t x).length≤_;omega
   ·omega
  show kJ (jhD r t x)+cS 2 r.tasks+(vO r.tasks (vG r.plan r.tasks t x) (vG r.plan r.tasks t x).length).length≤kJ r+cS 2 (vG r.plan r.tasks t x);omega
theorem jne {was ts:List Tk} (h:∀z∈ts,z.state≠2) (k:Nat) (hk:k≤ts.length):vO was ts k=[]:=by
 have:∀v,v∉vO was ts k:=fun v hv=>by
  obtain ⟨j,rfl,hj,hn⟩:=newL_mem.1 hv;obtain ⟨z,hz⟩:=je (show j<ts.length by omega)
  simp only [jod,kv hz,Bool.and_eq_true,beq_iff_eq] at hn;exact h z (List.mem_of_getElem? hz) hn.1
 exact List.eq_nil_iff_forall_not_mem.2 this
theorem jrU (h:RunOkP r) (hx:r.tasks[t]?=some x) (hs:x.state=3):job r (zb r t x):=by
 have hok:=jnH h hx hs;obtain ⟨e1,e2,e3,e4⟩:=h.runs hx hs;have ht:=(List.getElem?_eq_some_iff.1 hx).1;by_cases hm:x.tri<r.plan.most
 ·have e:zb r t x=⟨r.id,r.plan,r.state,r.tasks.set t ⟨2,x.need,x.tri,0⟩⟩:=by rw [zb,if_pos hm]
  rw [e] at hok⊢
  have key:∀(j:Nat) (z w:Tk),r.tasks[j]?=some z→(r.tasks.set t ⟨2,x.need,x.tri,0⟩)[j]?=some w→(j=t∧z=x∧w=⟨2,x.need,x.tri,0⟩)∨w=z:=fun j z w hz hw=>by
   rw [List.getElem?_set] at hw;by_cases e:t=j
   ·subst e
    rw [if_pos rfl,if_pos ht] at hw;rw [hx] at hz;exact .inl ⟨rfl,(Option.some.inj hz).symm,(Option.some.inj hw).symm⟩
   ·rw [if_neg e,hz] at hw
    exact .inr (Option.some.inj hw).symm
  refine ⟨rfl,rfl,hok,List.length_set ..,fun j z w hz hw=>?_,?_⟩
  ·rcases key j z w hz hw with ⟨rfl,rfl,rfl⟩|rfl
   ·simp [hs]
   ·exact ⟨fun g=>.inl g,fun g=>g,fun g=>by omega,fun _=>rfl,fun g=>⟨g,rfl⟩⟩
  ·have hk:=jmX (was:=r.tasks) (ts:=r.tasks.set t ⟨2,x.need,x.tri,0⟩) (List.length_set ..) fun j z w hz hw g=>by
    rcases key j z w hz hw with ⟨rfl,rfl,rfl⟩|rfl
    ·rfl
    ·exact g
   have hlv:kJ ⟨r.id,r.plan,r.state,r.tasks.set t ⟨2,x.need,x.tri,0⟩⟩=kJ r:=by simp [kJ]
   rw [hlv];dsimp only;omega
 ·have e:zb r t x=⟨r.id,r.plan,3,qV jA (r.tasks.set t ⟨5,x.need,x.tri,0⟩) r.tasks.length⟩:=by rw [zb,if_neg hm]
  rw [e] at hok⊢;have hl:(qV jA (r.tasks.set t ⟨5,x.need,x.tri,0⟩) r.tasks.length).length=r.tasks.length:=by rw [vV,List.length_set]
  have key:∀(j:Nat) (z w:Tk),r.tasks[j]?=some z→(qV jA (r.tasks.set t ⟨5,x.need,x.tri,0⟩) r.tasks.length)[j]?=some w→(w.state=4∧z.state=4)∨(w.state=5∧z.state=3)∨(w.state=6∧z.state≠4):=fun j z w hz hw=>by
   have el:r.tasks.length=(r.tasks.set t ⟨5,x.need,x.tri,0⟩).length:=by rw [List.length_set]
   rw [el] at hw;obtain ⟨u,hu,rfl⟩:=je2 hw;rw [List.getElem?_set] at hu;by_cases e:t=j
   ·subst e
    rw [if_pos rfl,if_pos ht] at hu;obtain rfl:=Option.some.inj hu;rw [hx] at hz;obtain rfl:=Option.some.inj hz;exact .inr (.inl ⟨by simp [jA],hs⟩)
   ·rw [if_neg e,hz] at hu
    obtain rfl:=Option.some.inj hu;have h5:z.state≠5:=jqx e2 hz;by_cases h4:z.state=4
    ·exact .inl ⟨by simp [jA,h4],h4⟩
    ·exact .inr (.inr ⟨by simp [jA,h4,h5],h4⟩)
  have no2:∀w∈qV jA (r.tasks.set t ⟨5,x.need,x.tri,0⟩) r.tasks.length,w.state≠2:=fun w hw=>by
   obtain ⟨j,hj⟩:=List.getElem?_of_mem hw;obtain ⟨z,hz⟩:=je (show j<r.tasks.length by rw [←hl];exact (List.getElem?_eq_some_iff.1 hj).1)
   rcases key j z w hz hj with g|g|g<;>omega
  refine ⟨rfl,rfl,hok,hl,fun j z w hz hw=>?_,?_⟩
  ·have h6:z.state≠6:=jqx e3 hz
   rcases key j z w hz hw with ⟨g,g'⟩|⟨g,g'⟩|⟨g,g'⟩<;>rw [g]<;>refine ⟨fun _=>?_,fun _=>?_,fun _=>?_,fun _=>?_,fun _=>?_⟩<;>simp_all
  ·have:=jba h
   have e0:vO r.tasks (qV jA (r.tasks.set t ⟨5,x.need,x.tri,0⟩) r.tasks.length) (qV jA (r.tasks.set t ⟨5,x.need,x.tri,0⟩) r.tasks.length).length=[]:=jne no2 _ (Nat.le_refl _);dsimp only;rw [e0];simp [kJ] at this⊢;split at this<;>simp_all
   all_goals omega
end
end Go.Proofs.YtmnpailnelmpiaaGreat
