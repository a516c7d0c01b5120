/- Parts. -/
import Derived.Test.YtmnpailnelmpiaaQLateOf
set_option linter.unusedSimpArgs false
set_option linter.unusedVariables false
namespace Go.Proofs.Ytmnpailnelmpiaa
open Go.RowKit Go.Sort
theorem vl {sh:List (List En)} {n:Nat} {l:List En} (h:sh[n]?=some l) (l':List En):∃rest,sh.flatten.Perm (l++rest)∧(sh.set n l').flatten.Perm (l'++rest):=by
 have hn:=(List.getElem?_eq_some_iff.1 h).1
 have key:∀m:List En,(sh.set n m).flatten.Perm (m++((sh.take n).flatten++(sh.drop (n+1)).flatten)):=fun m=>by
  rw [List.set_eq_take_append_cons_drop,if_pos hn,List.flatten_append,List.flatten_cons];exact List.perm_append_comm_assoc _ _ _
 have e:sh.set n l=sh:=by
  obtain ⟨h1,rfl⟩:=List.getElem?_eq_some_iff.1 h;exact List.set_getElem_self h1
 exact ⟨_,by have:=key l;rwa [e] at this,key l'⟩
theorem jia {a b c:En} (h1:kv a b=true) (h2:kv b c=true):kv a c=true:=by
 simp only [kv,decide_eq_true_eq] at*;omega
theorem jvu {a b:En} (h:a.seq≠b.seq) (h1:kv a b=false):kv b a=true:=by
 simp only [kv,decide_eq_true_eq,decide_eq_false_iff_not] at*;omega
def SrtP (l:List En):Prop:=l.Pairwise fun a b=>kv a b=true
theorem SrtP.ahead {l:List En} (h:SrtP l) (k:Nat) (a b:En) (ha:l[k]?=some a) (hb:l[k+1]?=some b):kv a b=true:=by
 obtain ⟨h1,rfl⟩:=List.getElem?_eq_some_iff.1 ha;obtain ⟨h2,rfl⟩:=List.getElem?_eq_some_iff.1 hb;exact List.pairwise_iff_getElem.1 h k (k+1) h1 h2 (by omega)
theorem jhh (l:List En) (e:En):(jdc l e).Perm (e::l):=by
 rw [jdc,jye];have:=List.perm_middle (a:=e) (l₁:=l.take (jmq l e)) (l₂:=l.drop (jmq l e))
 rwa [List.take_append_drop] at this
theorem jnU {l:List En} {e:En} (h:SrtP l) (hs:∀x∈l,x.seq≠e.seq):SrtP (jdc l e):=by
 have hd:(∀x∈l.take (jmq l e),kv x e=true)∧∀x∈l.drop (jmq l e),kv e x=true:=by
  rcases jhI (fun x=>!kv x e) l with ⟨hf,hn⟩|⟨k,x,hk,hx,hp,hn⟩
  ·have hK:jmq l e=l.length:=by rw [jmq,if_pos (by omega)]
   rw [hK,List.take_length,List.drop_length];exact ⟨fun x hx=>by have:=hn x hx;simpa using this,by simp⟩
  ·have hK:jmq l e=k:=by rw [jmq,if_neg (by omega),hk];simp
   rw [hK];refine ⟨fun z hz=>by have:=hn z hz;simpa using this,?_⟩
   have hxe:kv e x=true:=jvu (hs x (List.mem_of_getElem? hx)) (by simpa using hp)
   have hkl:=(List.getElem?_eq_some_iff.1 hx).1
   have e1:l.drop k=x::l.drop (k+1):=by
    rw [List.drop_eq_getElem_cons hkl];congr 1;exact (List.getElem?_eq_some_iff.1 hx).2
   intro z hz;have hp2:SrtP (l.drop k):=h.sublist (List.drop_sublist _ _);rw [e1] at hz hp2;rcases List.mem_cons.1 hz with rfl|hz
   ·exact hxe
   ·exact jia hxe ((List.pairwise_cons.1 hp2).1 z hz)
 rw [jdc,jye];refine List.pairwise_append.2 ⟨h.sublist (List.take_sublist _ _),List.pairwise_cons.2 ⟨hd.2,h.sublist (List.drop_sublist _ _)⟩,fun a ha b hb=>?_⟩
 rcases List.mem_cons.1 hb with rfl|hb
 ·exact hd.1 a ha
 ·exact jia (hd.1 a ha) (hd.2 b hb)
theorem jhi:∀(b a:List En),(b.foldl jdc a).Perm (a++b)
 |[],a=>by simp
 |e::b,a=>by
  rw [List.foldl_cons];exact (jhi b (jdc a e)).trans (((jhh a e).append_right b).trans (by simpa using (List.perm_middle (a:=e) (l₁:=a) (l₂:=b)).symm))
theorem jnY:∀{b a:List En},SrtP a→((a++b).map (·.seq)).Nodup→SrtP (b.foldl jdc a)
 |[],a,h,_=>h
 |e::b,a,h,hn=>by
  rw [List.foldl_cons]
  have hp:((jdc a e++b).map (·.seq)).Nodup:=by
   refine ((List.Perm.map _ (((jhh a e).append_right b).trans ?_)).nodup_iff).2 hn;simpa using (List.perm_middle (a:=e) (l₁:=a) (l₂:=b)).symm
  refine jnY (jnU h fun x hx hxe=>?_) hp
  rw [List.map_append,List.map_cons] at hn;exact (List.nodup_append.1 hn).2.2 _ (List.mem_map_of_mem hx) _ (by rw [hxe];simp) rfl
def jjb (prio id:Int):Int→List Int→List En
 |_,[]=>[]
 |q,t::ids=>⟨prio,q,id,t⟩::jjb prio id (q+1) ids
theorem jka (prio id:Int):∀(ids:List Int) (q:Int),(jjb prio id q ids).length=ids.length
 |[],_=>rfl
 |_::ids,q=>by simp [jjb,jka prio id ids]
theorem jb3 {prio id:Int}:∀{ids:List Int} {q:Int} {e:En},e∈jjb prio id q ids→e.prio=prio∧e.run=id∧e.task∈ids∧q≤e.seq∧e.seq<q+ids.length
 |[],_,_,h=>by simp [jjb] at h
 |t::ids,q,e,h=>by
  rcases List.mem_cons.1 h with rfl|h
  ·refine ⟨rfl,rfl,by simp,?_,?_⟩<;>(try dsimp only)<;>(try simp only [List.length_cons])<;>omega
  ·obtain ⟨h1,h2,h3,h4,h5⟩:=jb3 h
   refine ⟨h1,h2,by simp [h3],?_,?_⟩<;>(try simp only [List.length_cons])<;>omega
theorem jja (prio id:Int):∀(ids:List Int) (q:Int),((jjb prio id q ids).map (·.seq)).Nodup
 |[],_=>by simp [jjb]
 |t::ids,q=>by
  simp only [jjb,List.map_cons];refine List.nodup_cons.2 ⟨fun h=>?_,jja prio id ids (q+1)⟩
  obtain ⟨e,he,hq⟩:=List.mem_map.1 h;have:=(jb3 he).2.2.2.1;omega
theorem jn8 (prio id:Int) (t:Int):∀(ids:List Int) (q:Int),zo id t (jjb prio id q ids)=ids.count t
 |[],_=>by simp [jjb,zo]
 |u::ids,q=>by
  have ih:=jn8 prio id t ids (q+1);simp only [zo] at ih;simp only [jjb,zo,List.filter_cons,beq_self_eq_true,Bool.true_and,List.count_cons];cases h:u==t<;>simp [ih]
theorem jhx (prio id:Int):∀(ids:List Int) (l:List En) (q:Int),(zw prio id ids (l,q)).1.Perm (jjb prio id q ids++l)
 |[],l,q=>by simp [zw,jjb]
 |t::ids,l,q=>by
  have ih:=jhx prio id ids (jdc l ⟨prio,q,id,t⟩) (q+1);simp only [zw,List.foldl_cons,jjb] at ih⊢;refine ih.trans (((jhh l ⟨prio,q,id,t⟩).append_left _).trans ?_);exact List.perm_middle
theorem jkc (prio id:Int):∀(ids:List Int) {l:List En} {q:Int},SrtP l→(∀x∈l,x.seq<q)→SrtP (zw prio id ids (l,q)).1
 |[],_,_,h,_=>h
 |t::ids,l,q,h,hq=>by
  have:=jkc prio id ids (l:=jdc l ⟨prio,q,id,t⟩) (q:=q+1) (jnU h fun x hx=>by have:=hq x hx;dsimp only;omega) (fun x hx=>by
   rcases jnV hx with hx|rfl
   ·have:=hq x hx;omega
   ·dsimp only;omega)
  simpa only [zw,List.foldl_cons] using this
structure RnsI (now:Int) (rs:List Rn):Prop where
 eight:rs.length≤8
 right:∀r∈rs,RunOkP r
 ids:(rs.map (·.id)).Nodup
 til:∀r∈rs,∀(t:Nat) (x:Tk),r.tasks[t]?=some x→x.state=3→now+1≤x.til∧x.til≤now+r.plan.wait
 tri:∀r∈rs,∀x∈r.tasks,x.state=1→x.tri=0
structure EnsI (rs:List Rn) (q:Int) (L:List En):Prop where
 range:∀e∈L,1≤e.seq∧e.seq≤q-1
 apart:(L.map (·.seq)).Nodup
 own:∀e∈L,∃r∈rs,∃(t:Nat) (x:Tk),e.run=r.id∧e.task=t∧r.tasks[t]?=some x∧(x.state=2∧e.prio=r.plan.prio∨x.state=6)
 one:∀r∈rs,∀(t:Nat) (x:Tk),r.tasks[t]?=some x→x.state=2→zo r.id t L=1
def jaI (rs:List Rn):Nat:=qE (fun r=>cS 2 r.tasks) rs
structure YdI (y:Yd):Prop where
 now:0≤y.now∧y.now≤999999980
 seq:1≤y.seq
 four:y.shelf.length=4
 sorted:∀l∈y.shelf,SrtP l
 rns:RnsI y.now y.runs
 ens:EnsI y.runs y.seq y.shelf.flatten
 room:qE kH y.runs+y.shelf.flatten.length≤40+jaI y.runs
theorem js1 {L M:List En} (h:L.Perm M) (id t:Int):zo id t L=zo id t M:=by
 simp only [zo];exact (h.filter _).length_eq
theorem EnsI.perm {rs:List Rn} {q:Int} {L M:List En} (h:EnsI rs q L) (hp:L.Perm M):EnsI rs q M:=
 ⟨fun e he=>h.range e (hp.mem_iff.2 he),((hp.map _).nodup_iff).1 h.apart,fun e he=>h.own e (hp.mem_iff.2 he),fun r hr t x hx hs=>by rw [←js1 hp];exact h.one r hr t x hx hs⟩
theorem jxX {L:List En} {e:En} {id t:Int} (he:e∈L) (h1:e.run=id) (h2:e.task=t):1≤zo id t L:=by
 have:e∈L.filter fun e=>e.run==id&&e.task==t:=List.mem_filter.2 ⟨he,by simp [h1,h2]⟩
 exact List.length_pos_of_mem this
theorem jkA {L:List En} {id t:Int} (h:∀e∈L,¬(e.run=id∧e.task=t)):zo id t L=0:=by
 have:L.filter (fun e=>e.run==id&&e.task==t)=[]:=List.filter_eq_nil_iff.2 fun e he=>by
  have:=h e he;simp;intro h1 h2;exact this ⟨h1,h2⟩
 simp [zo,this]
theorem jfC (id t:Int) (L M:List En):zo id t (L++M)=zo id t L+zo id t M:=by simp [zo]
theorem joj {rs:List Rn} (h:(rs.map (·.id)).Nodup) {j k:Nat} {r r':Rn} (h1:rs[j]?=some r) (h2:rs[k]?=some r') (he:r.id=r'.id):j=k:=by
 have hj:=(List.getElem?_eq_some_iff.1 h1).1;have hk:=(List.getElem?_eq_some_iff.1 h2).1;refine Classical.byContradiction fun hne=>?_
 have e1:(rs.map (·.id))[j]?=some r.id:=by rw [List.getElem?_map,h1];rfl
 have e2:(rs.map (·.id))[k]?=some r.id:=by rw [List.getElem?_map,h2,he];rfl
 exact hne ((List.getElem?_inj (by simpa using hj) h).1 (e1.trans e2.symm))
theorem jki {rs:List Rn} (h:(rs.map (·.id)).Nodup) {r r':Rn} (h1:r∈rs) (h2:r'∈rs) (he:r.id=r'.id):r=r':=by
 obtain ⟨j,hj⟩:=List.getElem?_of_mem h1;obtain ⟨k,hk⟩:=List.getElem?_of_mem h2;have:=joj h hj hk he;subst this;rw [hj] at hk;exact Option.some.inj hk
theorem joI {y:Yd} (h8:y.runs.length≤8) (h:(y.runs.map (·.id)).Nodup) {k:Nat} {r:Rn} (hr:y.runs[k]?=some r):runAt y r.id=k:=by
 unfold runAt;rw [if_neg (by omega)]
 refine jan hr rfl fun j hj z hz he=>?_
 have:=joj h hz hr he;omega
theorem jgP {y:Yd} (h8:y.runs.length≤8) (h:(y.runs.map (·.id)).Nodup) {e:En} {r:Rn} {t:Nat} {x:Tk} (hr:r∈y.runs) (h1:e.run=r.id) (h2:e.task=t) (hx:r.tasks[t]?=some x):jM y e=(x.state==2):=by
 obtain ⟨k,hk⟩:=List.getElem?_of_mem hr;have:=joI h8 h hk;rw [←h1] at this
 have ht:zL y e.run e.task=some x:=by
  unfold zL;simp only [this,h2,Int.toNat_natCast,hk];simp [hx]
 simp [jM,ht]
theorem tinL_mem {s:Int} {ts:List Tk} {v:Int}:v∈ja4 s ts↔∃(t:Nat) (x:Tk),v=t∧ts[t]?=some x∧x.state=s:=by
 simp only [ja4,vh,List.mem_map,List.mem_filter,List.mem_range];constructor
 ·rintro ⟨j,⟨hj,hs⟩,rfl⟩
  have hx:ts[j]?=some ts[j]:=List.getElem?_eq_getElem hj;rw [kq hx] at hs;exact ⟨j,_,rfl,hx,by simpa using hs⟩
 ·rintro ⟨t,x,rfl,hx,hs⟩
  exact ⟨t,⟨(List.getElem?_eq_some_iff.1 hx).1,by rw [kq hx,hs];simp⟩,rfl⟩
theorem jaJ (p:Nat→Bool) (n:Nat):(((List.range n).filter p).map fun (j:Nat)=>(j:Int)).Nodup:=by
 have h:((List.range n).filter p).Pairwise (· ≠ ·):=List.Pairwise.filter _ (List.nodup_range (n:=n))
 exact List.pairwise_map.2 (h.imp fun hab e=>hab (by omega))
theorem jiM (s:Int) (ts:List Tk):(ja4 s ts).Nodup:=jaJ _ _
def jco (rs:List Rn):List (Int×Int):=rs.flatMap fun r=>(ja4 2 r.tasks).map fun t=>(r.id,t)
theorem jpm (rs:List Rn):(jco rs).length=jaI rs:=by
 induction rs with
 |nil=>rfl
 |cons r rs ih=>simp only [jco,jaI,qE,List.flatMap_cons,List.length_append,List.length_map,List.map_cons,List.sum_cons,cS] at ih⊢;rw [ih]
theorem readyK_mem {rs:List Rn} {a b:Int}:(a,b)∈jco rs↔∃r∈rs,∃(t:Nat) (x:Tk),a=r.id∧b=t∧r.tasks[t]?=some x∧x.state=2:=by
 simp only [jco,List.mem_flatMap,List.mem_map,tinL_mem,Prod.mk.injEq];constructor
 ·rintro ⟨r,hr,v,⟨t,x,rfl,hx,hs⟩,rfl,rfl⟩;exact ⟨r,hr,t,x,rfl,rfl,hx,hs⟩
 ·rintro ⟨r,hr,t,x,rfl,rfl,hx,hs⟩;exact ⟨r,hr,_,⟨t,x,rfl,hx,hs⟩,rfl,rfl⟩
theorem jfN:∀{rs:List Rn},(rs.map (·.id)).Nodup→(jco rs).Nodup
 |[],_=>by simp [jco]
 |r::rs,h=>by
  obtain ⟨h1,h2⟩:=List.nodup_cons.1 h;have ih:=jfN h2;simp only [jco,List.flatMap_cons] at ih⊢;refine List.nodup_append.2 ⟨?_,ih,fun a ha b hb e=>?_⟩
  ·have:(ja4 2 r.tasks).Pairwise (· ≠ ·):=jiM 2 r.tasks
   exact List.pairwise_map.2 (this.imp fun hab e=>hab (by simpa using e))
  ·subst e
   obtain ⟨t,_,rfl⟩:=List.mem_map.1 ha;obtain ⟨r',hr',_,_,he,_⟩:=readyK_mem.1 hb;exact h1 (List.mem_map.2 ⟨r',hr',he.symm⟩)
theorem jlN {y:Yd} {q:Int} {L:List En} (h8:y.runs.length≤8) (hi:(y.runs.map (·.id)).Nodup) (h:EnsI y.runs q L):(L.filter (jM y)).length=jaI y.runs:=by
 have hmem:∀a b:Int,(a,b)∈(L.filter (jM y)).map (fun e=>(e.run,e.task))↔(a,b)∈jco y.runs:=by
  intro a b;rw [readyK_mem];constructor
  ·intro hm
   obtain ⟨e,he,hab⟩:=List.mem_map.1 hm;obtain ⟨he1,he2⟩:=List.mem_filter.1 he;simp only [Prod.mk.injEq] at hab;obtain ⟨rfl,rfl⟩:=hab;obtain ⟨r,hr,t,x,h1,h2,h3,h4⟩:=h.own e he1;rw [jgP h8 hi hr h1 h2 h3] at he2;exact ⟨r,hr,t,x,h1,h2,h3,by simpa using he2⟩
  ·rintro ⟨r,hr,t,x,rfl,rfl,hx,hs⟩
   have h1:=h.one r hr t x hx hs;have:0<(L.filter fun e=>e.run==r.id&&e.task==(t:Int)).length:=by simp only [zo] at h1;omega
   obtain ⟨e,he⟩:=List.exists_mem_of_length_pos this;obtain ⟨he1,he2⟩:=List.mem_filter.1 he;simp only [Bool.and_eq_true,beq_iff_eq] at he2;refine List.mem_map.2 ⟨e,List.mem_filter.2 ⟨he1,?_⟩,by simp [he2.1,he2.2]⟩
   rw [jgP h8 hi hr he2.1 he2.2 hx,hs];rfl
 have hnd:((L.filter (jM y)).map fun e=>(e.run,e.task)).Nodup:=by
  rw [List.nodup_iff_count];rintro ⟨a,b⟩;by_cases hm:(a,b)∈jco y.runs
  ·obtain ⟨r,hr,t,x,rfl,rfl,hx,hs⟩:=readyK_mem.1 hm
   have h1:=h.one r hr t x hx hs;rw [List.count_eq_countP,List.countP_map,List.countP_filter,List.countP_eq_length_filter];refine Nat.le_trans (Nat.le_of_eq ?_) (Nat.le_of_eq h1);simp only [zo]
   congr 1
   refine List.filter_congr fun e he=>?_
   simp only [Function.comp];by_cases h2:e.run=r.id∧e.task=t
   ·have:jM y e=true:=by rw [jgP h8 hi hr h2.1 h2.2 hx,hs];rfl
    simp [h2.1,h2.2,this]
   ·have e1:((e.run,e.task)==(r.id,(t:Int)))=false:=by
     simp only [beq_eq_false_iff_ne,ne_eq,Prod.mk.injEq];exact h2
    have e2:(e.run==r.id&&e.task==(t:Int))=false:=by
     simp only [Bool.and_eq_false_iff,beq_eq_false_iff_ne,ne_eq];by_cases h3:e.run=r.id
     ·exact .inr fun h4=>h2 ⟨h3,h4⟩
     ·exact .inl h3
    rw [e1,e2];rfl
  ·rw [List.count_eq_zero.2 fun hm2=>hm ((hmem a b).1 hm2)];omega
 have hp:((L.filter (jM y)).map fun e=>(e.run,e.task)).Perm (jco y.runs):=
  (List.perm_ext_iff_of_nodup hnd (jfN hi)).2 fun ⟨a,b⟩=>hmem a b
 have:=hp.length_eq;rw [List.length_map,jpm] at this;exact this
theorem zT {r:Rn} (h:RunOkP r):cS 2 r.tasks≤kH r:=by
 by_cases h0:cS 2 r.tasks=0
 ·omega
 ·have hsum:=jba h.st _ (Nat.le_refl _)
  change cS 1 _+cS 2 _+cS 3 _+cS 4 _+cS 5 _+cS 6 _=_ at hsum;have hst:=h.state;have hl:=h.live
  have h1:r.state=1:=by
   rw [hst] at hl⊢;unfold jkV at hl⊢;rw [if_neg (by omega),if_neg (by omega),if_neg (by omega)] at hl⊢
   split at hl
   ·rename_i h;rw [if_pos h]
   ·exact absurd rfl hl
  rw [kH,if_pos h1];omega
theorem jb1:∀{rs:List Rn},(∀r∈rs,RunOkP r)→jaI rs≤qE kH rs
 |[],_=>by simp [jaI,qE]
 |r::rs,h=>by
  have h1:=zT (h r (by simp))
  have h2:=jb1 (rs:=rs) fun x hx=>h x (by simp [hx])
  simp only [jaI,qE,List.map_cons,List.sum_cons] at h2⊢;omega
theorem YdI.ok {y:Yd} (h:YdI y) (hq:y.seq≤1000000000):YardOkP y:=by
 have hf:=jlN h.rns.eight h.rns.ids h.ens;have hrl:=jb1 h.rns.right;have hroom:=h.room;have hlen:y.shelf.flatten.length≤40:=by omega
 refine ⟨h.now,⟨h.seq,hq⟩,h.four,h.rns.eight,fun l hl=>⟨?_,(h.sorted l hl).ahead⟩,⟨h.ens.range,h.ens.apart⟩,h.rns.right,fun k r hr=>joI h.rns.eight h.rns.ids hr,fun r hr t x hx=>⟨fun hs=>⟨fun e he h1 h2=>?_,h.ens.one r hr t x hx hs⟩,h.rns.til r hr t x hx⟩,?_⟩
 ·have:l.length≤y.shelf.flatten.length:=(List.sublist_flatten_of_mem hl).length_le
  omega
 ·obtain ⟨r',hr',t',x',h3,h4,h5,h6⟩:=h.ens.own e he
  have:r=r':=jki h.rns.ids hr hr' (h1.symm.trans h3);subst this;obtain rfl:t=t':=by omega
  rw [hx] at h5;obtain rfl:=Option.some.inj h5;rcases h6 with h6|h6
  ·exact h6.2
  ·omega
 ·have hst:qe y (jgF y)+(y.shelf.flatten.filter (jM y)).length=y.shelf.flatten.length:=by
   simp only [qe,jgF,List.countP_eq_length_filter];have:=List.length_eq_countP_add_countP (jM y) (l:=y.shelf.flatten);simp only [List.countP_eq_length_filter] at this;have e:y.shelf.flatten.filter (fun e=>!jM y e)=y.shelf.flatten.filter (fun a=>decide ¬jM y a=true):=List.filter_congr fun a _=>by cases jM y a<;>rfl
   rw [e];omega
  simp only [qF];omega
structure jmp (r r2:Rn):Prop where
 id:r2.id=r.id
 plan:r2.plan=r.plan
 ok:RunOkP r2
 len:r2.tasks.length=r.tasks.length
 task:∀(t:Nat) (x z:Tk),r.tasks[t]?=some x→r2.tasks[t]?=some z→(x.state=2→z.state=2∨z.state=6)∧(x.state=6→z.state=6)∧(z.state=2→x.state≠6)∧(z.state=3→z=x)∧(z.state=1→x.state=1∧z.tri=x.tri)
 room:kH r2+cS 2 r.tasks+(vu r.tasks r2.tasks r2.tasks.length).length≤kH r+cS 2 r2.tasks
theorem newL_mem {was ts:List Tk} {k:Nat} {v:Int}:v∈vu was ts k↔∃j:Nat,v=j∧j<k∧jm1 was ts j=true:=by
 simp only [vu,List.mem_map,List.mem_filter,List.mem_range];constructor
 ·rintro ⟨j,⟨h1,h2⟩,rfl⟩;exact ⟨j,rfl,h1,h2⟩
 ·rintro ⟨j,rfl,h1,h2⟩;exact ⟨j,⟨h1,h2⟩,rfl⟩
theorem jpK (was ts:List Tk) (k:Nat):(vu was ts k).Nodup:=jaJ _ _
theorem jn9 {was ts:List Tk} {j:Nat} {x z:Tk} (hx:was[j]?=some x) (hz:ts[j]?=some z):jm1 was ts j=(z.state==2&&!(x.state==2)):=by
 have hj:=(List.getElem?_eq_some_iff.1 hx).1;simp [jm1,kq hx,kq hz,hj]
theorem jle {was ts:List Tk} (hl:ts.length=was.length) (h:∀(j:Nat) (x z:Tk),was[j]?=some x→ts[j]?=some z→x.state=2→z.state=2):cS 2 ts=cS 2 was+(vu was ts ts.length).length:=by
 have e1:(vu was ts ts.length).length=((List.range ts.length).filter fun (j:Nat)=>(stT ts (j:Int)==2)&&!(stT was (j:Int)==2)).length:=by
  simp only [vu,List.length_map]
  congr 1
  refine List.filter_congr fun j hj=>?_
  have:j<was.length:=by rw [←hl];exact List.mem_range.1 hj
  simp [jm1,this]
 have e2:cS 2 was=((List.range ts.length).filter fun (j:Nat)=>(stT ts (j:Int)==2)&&(stT was (j:Int)==2)).length:=by
  simp only [cS,ja4,vh,List.length_map,←hl]
  congr 1
  refine List.filter_congr fun j hj=>?_
  have hj2:=List.mem_range.1 hj;obtain ⟨z,hz⟩:=je hj2;obtain ⟨x,hx⟩:=je (show j<was.length by omega)
  rw [kq hz,kq hx];cases h2:x.state==2
  ·simp
  ·rw [h j x z hx hz (by simpa using h2)];rfl
 have e3:cS 2 ts=((List.range ts.length).filter fun (j:Nat)=>stT ts (j:Int)==2).length:=by simp only [cS,ja4,vh,List.length_map]
 rw [e1,e2,e3];have:=List.length_eq_countP_add_countP (fun (j:Nat)=>stT was (j:Int)==2) (l:=(List.range ts.length).filter fun (j:Nat)=>stT ts (j:Int)==2)
 simp only [List.countP_eq_length_filter,List.filter_filter] at this;rw [this]
 congr 1
 ·congr 1
  refine List.filter_congr fun j _=>?_
  exact Bool.and_comm _ _
 ·congr 1
  refine List.filter_congr fun j _=>?_
  cases stT was (j:Int)==2<;>cases stT ts (j:Int)==2<;>rfl
theorem jbf {rs:List Rn} {k:Nat} {r2 r':Rn} (h:r'∈rs.set k r2):r'=r2∨∃j,j≠k∧rs[j]?=some r':=by
 obtain ⟨j,hj⟩:=List.getElem?_of_mem h;rw [List.getElem?_set] at hj;by_cases e:k=j
 ·subst e
  rw [if_pos rfl] at hj;split at hj
  ·exact .inl (Option.some.inj hj).symm
  ·simp at hj
 ·rw [if_neg e] at hj;exact .inr ⟨j,fun h=>e h.symm,hj⟩
theorem jmD {rs:List Rn} {k:Nat} {r r2:Rn} (hr:rs[k]?=some r) (h:r2.id=r.id):(rs.set k r2).map (·.id)=rs.map (·.id):=by
 apply List.ext_getElem?
 intro j;simp only [List.getElem?_map,List.getElem?_set];by_cases e:k=j
 ·subst e
  rw [if_pos rfl,if_pos (List.getElem?_eq_some_iff.1 hr).1,hr];simp [h]
 ·rw [if_neg e]
theorem jsb {rs rs':List Rn} {q:Int} {L:List En} {r2:Rn} {ids:List Int} (h:EnsI rs q L) (hq:1≤q) (hid:(rs'.map (·.id)).Nodup) (hr2:r2∈rs') (hids:ids.Nodup)
 (h1:∀t∈ids,∃(j:Nat) (x:Tk),t=j∧r2.tasks[j]?=some x∧x.state=2)
 (h2:∀e∈L,∃r∈rs',∃(t:Nat) (x:Tk),e.run=r.id∧e.task=t∧r.tasks[t]?=some x∧(x.state=2∧e.prio=r.plan.prio∨x.state=6))
 (h3:∀r'∈rs',r'.id≠r2.id→r'∈rs)
 (h4:∀(t:Nat) (x:Tk),r2.tasks[t]?=some x→x.state=2→(t:Int)∉ids→zo r2.id t L=1)
 (h5:∀t∈ids,zo r2.id t L=0):EnsI rs' (q+ids.length) (jjb r2.plan.prio r2.id q ids++L):=by
 refine ⟨fun e he=>?_,?_,fun e he=>?_,fun r' hr' t x hx hs=>?_⟩
 ·rcases List.mem_append.1 he with he|he
  ·obtain ⟨_,_,_,k4,k5⟩:=jb3 he;omega
  ·have:=h.range e he;omega
 ·rw [List.map_append]
  refine List.nodup_append.2 ⟨jja _ _ _ _,h.apart,fun a ha b hb e=>?_⟩
  obtain ⟨e1,he1,rfl⟩:=List.mem_map.1 ha;obtain ⟨e2,he2,rfl⟩:=List.mem_map.1 hb;have:=(jb3 he1).2.2.2.1;have:=h.range e2 he2;omega
 ·rcases List.mem_append.1 he with he|he
  ·obtain ⟨k1,k2,k3,_⟩:=jb3 he
   obtain ⟨j,x,hj,hx,hs⟩:=h1 _ k3;exact ⟨r2,hr2,j,x,k2,hj,hx,.inl ⟨hs,k1⟩⟩
  ·exact h2 e he
 ·rw [jfC]
  by_cases hi:r'.id=r2.id
  ·obtain rfl:=jki hid hr' hr2 hi
   rw [jn8];by_cases ht:(t:Int)∈ids
   ·rw [hids.count,if_pos ht,h5 _ ht]
   ·rw [List.count_eq_zero.2 ht,h4 t x hx hs ht]
  ·rw [jkA (L:=jjb _ _ _ _) (fun e he=>by have:=(jb3 he).2.1;rintro ⟨k1,_⟩;exact hi (k1.symm.trans this)),h.one r' (h3 r' hr' hi) t x hx hs]
theorem jnx {α:Type} (f:α→Nat) (l:List α) (x:α):qE f (l++[x])=qE f l+f x:=by simp [qE]
theorem RnsI.turn {now:Int} {rs:List Rn} {k:Nat} {r r2:Rn} (h:RnsI now rs) (hr:rs[k]?=some r) (hg:jmp r r2):RnsI now (rs.set k r2):=by
 refine ⟨by rw [List.length_set];exact h.eight,fun r' hr'=>?_,by rw [jmD hr hg.id];exact h.ids,fun r' hr' t x hx hs=>?_,fun r' hr' x hx hs=>?_⟩
 ·rcases jbf hr' with rfl|⟨j,_,hj⟩
  ·exact hg.ok
  ·exact h.right r' (List.mem_of_getElem? hj)
 ·rcases jbf hr' with rfl|⟨j,_,hj⟩
  ·obtain ⟨z,hz⟩:=je (show t<r.tasks.length by rw [←hg.len];exact (List.getElem?_eq_some_iff.1 hx).1)
   have:=(hg.task t z x hz hx).2.2.2.1 hs;subst this;rw [hg.plan];exact h.til r (List.mem_of_getElem? hr) t x hz hs
  ·exact h.til r' (List.mem_of_getElem? hj) t x hx hs
 ·rcases jbf hr' with rfl|⟨j,_,hj⟩
  ·obtain ⟨t,hx⟩:=List.getElem?_of_mem hx
   obtain ⟨z,hz⟩:=je (show t<r.tasks.length by rw [←hg.len];exact (List.getElem?_eq_some_iff.1 hx).1)
   obtain ⟨h1,h2⟩:=(hg.task t z x hz hx).2.2.2.2 hs;rw [h2];exact h.tri r (List.mem_of_getElem? hr) z (List.mem_of_getElem? hz) h1
  ·exact h.tri r' (List.mem_of_getElem? hj) x hx hs
theorem jw9 {rs:List Rn} {k:Nat} {r r2:Rn} {q:Int} {L:List En} (h:EnsI rs q L) (hr:rs[k]?=some r) (hg:jmp r r2):∀e∈L,∃r∈rs.set k r2,∃(t:Nat) (x:Tk),e.run=r.id∧e.task=t∧r.tasks[t]?=some x∧(x.state=2∧e.prio=r.plan.prio∨x.state=6):=by
 intro e he;have hk:=(List.getElem?_eq_some_iff.1 hr).1;obtain ⟨r',hr',t,x,h1,h2,h3,h4⟩:=h.own e he;obtain ⟨j,hj⟩:=List.getElem?_of_mem hr';by_cases ejk:k=j
 ·subst ejk
  rw [hr] at hj;obtain rfl:=Option.some.inj hj;obtain ⟨z,hz⟩:=je (show t<r2.tasks.length by rw [hg.len];exact (List.getElem?_eq_some_iff.1 h3).1)
  obtain ⟨g1,g2,_⟩:=hg.task t x z h3 hz;refine ⟨r2,List.mem_of_getElem? (List.getElem?_set_self hk),t,z,by rw [hg.id];exact h1,h2,hz,?_⟩
  rcases h4 with ⟨h4,h5⟩|h4
  ·rcases g1 h4 with g|g
   ·exact .inl ⟨g,by rw [hg.plan];exact h5⟩
   ·exact .inr g
  ·exact .inr (g2 h4)
 ·exact ⟨r',List.mem_of_getElem? (i:=j) (by rw [List.getElem?_set_ne ejk];exact hj),t,x,h1,h2,h3,h4⟩
theorem jxY {rs:List Rn} {q:Int} {L:List En} (h:EnsI rs q L) (hid:(rs.map (·.id)).Nodup) {r:Rn} {t:Nat} {x:Tk} (hr:r∈rs) (hx:r.tasks[t]?=some x) (h2:x.state≠2) (h6:x.state≠6):zo r.id t L=0:=by
 refine jkA fun e he=>?_
 rintro ⟨k1,k2⟩;obtain ⟨r',hr',t',x',h1,h3,h4,h5⟩:=h.own e he;obtain rfl:=jki hid hr hr' (k1.symm.trans h1);obtain rfl:t=t':=by omega
 rw [hx] at h4;obtain rfl:=Option.some.inj h4;rcases h5 with h5|h5
 ·exact h2 h5.1
 ·exact h6 h5
theorem YdI.turn {y:Yd} {k:Nat} {r r2:Rn} (h:YdI y) (hr:y.runs[k]?=some r) (hg:jmp r r2):YdI (qi y k r2):=by
 have hk:=(List.getElem?_eq_some_iff.1 hr).1;obtain ⟨-,hs4⟩:=jyF r2.id;obtain ⟨l,hl⟩:=je (show shN r2.id<y.shelf.length by rw [h.four];exact hs4)
 have hR:=h.rns.turn hr hg
 have e:qi y k r2=⟨y.now,y.seq+(vu r.tasks r2.tasks r2.tasks.length).length,y.shelf.set (shN r2.id) (zw r2.plan.prio r2.id (vu r.tasks r2.tasks r2.tasks.length) (l,y.seq)).1,y.runs.set k r2⟩:=by
  rw [qi,jqs];simp only [hr,Option.getD_some,hl,zu]
 obtain ⟨rest,p1,p2⟩:=vl hl (zw r2.plan.prio r2.id (vu r.tasks r2.tasks r2.tasks.length) (l,y.seq)).1
 have hp:(jjb r2.plan.prio r2.id y.seq (vu r.tasks r2.tasks r2.tasks.length)++y.shelf.flatten).Perm (y.shelf.set (shN r2.id) (zw r2.plan.prio r2.id (vu r.tasks r2.tasks r2.tasks.length) (l,y.seq)).1).flatten:=by
  refine ((List.Perm.append_left _ p1).trans ?_).trans p2.symm;rw [←List.append_assoc];exact ((jhx _ _ _ _ _).symm).append_right _
 have hE:EnsI (y.runs.set k r2) (y.seq+(vu r.tasks r2.tasks r2.tasks.length).length) (jjb r2.plan.prio r2.id y.seq (vu r.tasks r2.tasks r2.tasks.length)++y.shelf.flatten):=by
  refine jsb h.ens h.seq hR.ids (List.mem_of_getElem? (List.getElem?_set_self hk)) (jpK _ _ _) (fun t ht=>?_) (jw9 h.ens hr hg) (fun r' hr' hi=>?_) (fun t x hx hs ht=>?_) (fun t ht=>?_)
  ·obtain ⟨j,rfl,hj,hn⟩:=newL_mem.1 ht
   obtain ⟨z,hz⟩:=je hj;simp only [jm1,kq hz,Bool.and_eq_true,beq_iff_eq] at hn;exact ⟨j,z,rfl,hz,hn.1⟩
  ·rcases jbf hr' with rfl|⟨j,_,hj⟩
   ·exact absurd rfl hi
   ·exact List.mem_of_getElem? hj
  ·have ht2:=(List.getElem?_eq_some_iff.1 hx).1
   obtain ⟨z,hz⟩:=je (show t<r.tasks.length by rw [←hg.len];exact ht2)
   have hz2:z.state=2:=Classical.byContradiction fun hne=>ht (newL_mem.2 ⟨t,rfl,ht2,by rw [jn9 hz hx,hs];simp [hne]⟩)
   rw [hg.id];exact h.ens.one r (List.mem_of_getElem? hr) t z hz hz2
  ·obtain ⟨j,rfl,hj,hn⟩:=newL_mem.1 ht
   obtain ⟨z,hz⟩:=je hj;obtain ⟨x,hx⟩:=je (show j<r.tasks.length by rw [←hg.len];exact hj)
   rw [jn9 hx hz] at hn;simp only [Bool.and_eq_true,beq_iff_eq,Bool.not_eq_true',beq_eq_false_iff_ne] at hn;rw [hg.id];exact jxY h.ens h.rns.ids (List.mem_of_getElem? hr) hx hn.2 ((hg.task j x z hx hz).2.2.1 hn.1)
 have hlen:=hp.length_eq;rw [List.length_append,jka] at hlen;have hroom:=h.room;have hg6:=hg.room;have t1:=qj (f:=kH) r2 hr;have t2:=qj (f:=fun r=>cS 2 r.tasks) r2 hr
 rw [e];refine ⟨h.now,by have:=h.seq;dsimp only;omega,by rw [List.length_set];exact h.four,fun m hm=>?_,hR,hE.perm hp,by simp only [jaI] at hroom⊢;omega⟩
 rcases List.mem_or_eq_of_mem_set hm with hm|rfl
 ·exact h.sorted m hm
 ·exact jkc _ _ _ (h.sorted l (List.mem_of_getElem? hl)) fun x hx=>by
   have:=h.ens.range x (List.mem_flatten.2 ⟨l,List.mem_of_getElem? hl,hx⟩);omega
def stD (z:Tk):Tk:=⟨if IntKind.i64.wrap (z.need-1)=0 then 2 else z.state,IntKind.i64.wrap (z.need-1),z.tri,z.til⟩
theorem jqT {ts:List Tk} {b:Int} (hb:0≤b) (j:Nat):(jak ts b)[j]?=(ts[j]?).map fun z=>if (j:Int)=b then stD z else z:=by
 unfold jak;by_cases e:(j:Int)=b
 ·have ej:b.toNat=j:=by omega
  rw [ej];cases hz:ts[j]? with
  |none=>simp [hz]
  |some z=>
   have hj:=(List.getElem?_eq_some_iff.1 hz).1;simp only [Option.map_some,if_pos e];rw [List.getElem?_set_self hj];rfl
 ·have ej:b.toNat≠j:=by omega
  cases hz:ts[b.toNat]? with
  |none=>simp [e]
  |some z=>simp only [if_neg e];rw [List.getElem?_set_ne ej];simp
theorem jlP:∀{l:List Int} {ts:List Tk},l.Nodup→(∀b∈l,0≤b)→∀j:Nat,(l.foldl jak ts)[j]?=(ts[j]?).map fun z=>if (j:Int)∈l then stD z else z
 |[],ts,_,_,j=>by simp
 |b::l,ts,hn,h0,j=>by
  obtain ⟨h1,h2⟩:=List.nodup_cons.1 hn;rw [List.foldl_cons,jlP h2 (fun x hx=>h0 x (by simp [hx])) j,jqT (h0 b (by simp)) j,Option.map_map]
  congr 1
  funext z
  simp only [Function.comp,List.mem_cons];by_cases e:(j:Int)=b
  ·have:¬(j:Int)∈l:=by rw [e];exact h1
   simp [e,h1]
  ·simp [e]
theorem jni {l:List Int} {p:Int→Bool} {t:Int} (hn:l.Nodup) (ht:t∈l) (hp:p t=true):(l.filter p).length=(l.filter fun b=>p b&&(b !=t)).length+1:=by
 induction l with
 |nil=>simp at ht
 |cons a l ih=>
  obtain ⟨h1,h2⟩:=List.nodup_cons.1 hn;rcases List.mem_cons.1 ht with rfl|ht
  ·have e:l.filter (fun b=>p b&&(b !=t))=l.filter p:=List.filter_congr fun b hb=>by
    have:b≠t:=fun e=>h1 (e▸hb)
    simp [this]
   rw [List.filter_cons,if_pos hp,List.filter_cons,if_neg (by simp),e];rfl
  ·have hat:a≠t:=fun e=>h1 (e▸ht)
   have:=ih h2 ht;rw [List.filter_cons,List.filter_cons];cases hpa:p a<;>simp [hat,this]
theorem jnh {l:List Int} {p:Int→Bool} {t:Int} (ht:t∉l):(l.filter fun b=>p b&&(b !=t))=l.filter p:=List.filter_congr fun b hb=>by
 have:b≠t:=fun e=>ht (e▸hb)
 simp [this]
theorem jno {p:Pl} (h:jz p=0) {a b:Nat}:(a:Int)∈jaZ p b↔(b:Int)∈jeG p a:=by
 obtain ⟨n,hn,_,_,_,hes,_⟩:=jgL h;have e1:p.tasks.toNat=n:=by omega
 rw [jaZ,jeG,e1,(jbc (jkE hes b)).mem_iff,(jbc (jth hes a)).mem_iff,jfF,jf5];simp only [List.mem_map,List.mem_filter,beq_iff_eq];constructor
 ·rintro ⟨e,⟨h1,h2⟩,h3⟩;exact ⟨e,⟨h1,h3⟩,h2⟩
 ·rintro ⟨e,⟨h1,h2⟩,h3⟩;exact ⟨e,⟨h1,h3⟩,h2⟩
theorem jqg {p:Pl} (h:jz p=0) (t:Int):(jeG p t).Nodup:=by
 obtain ⟨n,hn,_,_,_,hes,hd,_⟩:=jgL h;rw [jeG,show p.tasks.toNat=n by omega]
 exact (jbc (jth hes t)).nodup_iff.2 (jqh hd t)
theorem jqj {p:Pl} (h:jz p=0) (t:Int):(jaZ p t).Nodup:=by
 obtain ⟨n,hn,_,_,_,hes,hd,_⟩:=jgL h;rw [jaZ,show p.tasks.toNat=n by omega]
 exact (jbc (jkE hes t)).nodup_iff.2 (jjo hd t)
theorem RunOkP.need_pos {r:Rn} (h:RunOkP r) {t j:Nat} {x z:Tk} (hx:r.tasks[t]?=some x) (hs:x.state=3) (hz:r.tasks[j]?=some z) (hj:(j:Int)∈jeG r.plan t):z.state=1∧z.need=zG r.plan r.tasks j∧1≤zG r.plan r.tasks j:=by
 obtain ⟨e1,e2,e3,e4⟩:=h.runs hx hs;have hT:=taskB_iff.1 (h.tasks j z hz)
 have hp:1≤zG r.plan r.tasks j:=by
  have hm:(t:Int)∈(jaZ r.plan j).filter fun b=>stT r.tasks b !=4:=List.mem_filter.2 ⟨(jno h.plan).2 hj,by rw [kq hx,hs];rfl⟩
  have:=List.length_pos_of_mem hm;simp only [zG];omega
 have h6:z.state≠6:=jqu e3 hz;have hl:=hT.2.2.2.2;unfold vE at hl;refine ⟨?_,hT.2.1,hp⟩;refine Classical.byContradiction fun h1=>?_
 rw [if_neg h1] at hl;split at hl
 ·simp only [Bool.and_eq_true,beq_iff_eq] at hl;omega
 ·simp only [if_neg h6,Bool.and_eq_true,beq_iff_eq] at hl;omega
section
variable {r:Rn} {t:Nat} {x:Tk}
theorem ju4 (h:RunOkP r) (j:Nat):(vG r.plan r.tasks t x)[j]?=((r.tasks.set t ⟨4,x.need,x.tri,0⟩)[j]?).map fun z=>if (j:Int)∈jeG r.plan t then stD z else z:=by
 obtain ⟨n,hn,_,_,_,hes,_⟩:=jgL h.plan;exact jlP (jqg h.plan t) (fun b hb=>(jte hn hb).1) j
theorem jn6 (h:RunOkP r) (hx:r.tasks[t]?=some x) (hs:x.state=3):¬(t:Int)∈jeG r.plan t:=fun hm=>by
 have:=(h.need_pos hx hs hx hm).1;omega
theorem jb9 (h:RunOkP r) (hx:r.tasks[t]?=some x) (hs:x.state=3) {j:Nat} {w:Tk} (hw:(vG r.plan r.tasks t x)[j]?=some w):
 (j=t∧w=⟨4,x.need,x.tri,0⟩)∨(j≠t∧∃z,r.tasks[j]?=some z∧((j:Int)∈jeG r.plan t∧w=stD z∨¬(j:Int)∈jeG r.plan t∧w=z)):=by
 have ht:=(List.getElem?_eq_some_iff.1 hx).1;rw [ju4 h] at hw;by_cases e:j=t
 ·subst e
  rw [List.getElem?_set_self ht,Option.map_some,if_neg (jn6 h hx hs)] at hw;exact .inl ⟨rfl,(Option.some.inj hw).symm⟩
 ·rw [List.getElem?_set_ne (fun e'=>e e'.symm)] at hw
  obtain ⟨z,hz,rfl⟩:=Option.map_eq_some_iff.1 hw;refine .inr ⟨e,z,hz,?_⟩;by_cases hm:(j:Int)∈jeG r.plan t
  ·exact .inl ⟨hm,by rw [if_pos hm]⟩
  ·exact .inr ⟨hm,by rw [if_neg hm]⟩
theorem jvE {z:Tk} (h:z.state=1):(stD z).state=1∨(stD z).state=2:=by
 simp only [stD];split
 ·exact .inr rfl
 ·exact .inl h
theorem ju3 (h:RunOkP r) (hx:r.tasks[t]?=some x) (hs:x.state=3) (j:Nat):(stT (vG r.plan r.tasks t x) j !=4)=(stT r.tasks j !=4&&((j:Int) !=t)):=by
 have ht:=(List.getElem?_eq_some_iff.1 hx).1;cases hw:(vG r.plan r.tasks t x)[j]? with
 |none=>
  have hz:r.tasks[j]?=none:=by rw [List.getElem?_eq_none_iff] at hw⊢;rw [jby] at hw;exact hw
  have hjt:¬j=t:=fun e=>by subst e;rw [hx] at hz;cases hz
  have hjt':((j:Int) !=t)=true:=by simp only [bne_iff_ne];omega
  simp only [stT,Int.toNat_natCast,hw,hz,hjt',Bool.and_true]
 |some w=>
  rw [kq hw];rcases jb9 h hx hs hw with ⟨rfl,rfl⟩|⟨hne,z,hz,⟨hm,rfl⟩|⟨hm,rfl⟩⟩
  ·simp
  ·have h1:=(h.need_pos hx hs hz hm).1
   have hjt':((j:Int) !=t)=true:=by simp only [bne_iff_ne];omega
   rw [kq hz,h1,hjt'];rcases jvE h1 with h2|h2<;>rw [h2]<;>rfl
  ·have hjt':((j:Int) !=t)=true:=by simp only [bne_iff_ne];omega
   rw [kq hz,hjt',Bool.and_true]
theorem jp6 (h:RunOkP r) (hx:r.tasks[t]?=some x) (hs:x.state=3) (j:Nat):zG r.plan (vG r.plan r.tasks t x) j=zG r.plan r.tasks j-if (j:Int)∈jeG r.plan t then 1 else 0:=by
 obtain ⟨n,hn,_,_,_,hes,_⟩:=jgL h.plan
 have e:(jaZ r.plan j).filter (fun b=>stT (vG r.plan r.tasks t x) b !=4)=(jaZ r.plan j).filter fun b=>(stT r.tasks b !=4)&&(b !=(t:Int)):=List.filter_congr fun b hb=>by
  have hb0:0≤b:=by
   rw [jaZ] at hb;exact (jdD hb).1.1
  obtain ⟨m,rfl⟩:=Int.eq_ofNat_of_zero_le hb0;exact ju3 h hx hs m
 simp only [zG];rw [e];by_cases hm:(j:Int)∈jeG r.plan t
 ·have:=jni (p:=fun b=>stT r.tasks b !=4) (jqj h.plan j) ((jno h.plan).2 hm) (by rw [kq hx,hs];rfl)
  rw [if_pos hm];omega
 ·have:=jnh (p:=fun b=>stT r.tasks b !=4) (fun hc=>hm ((jno h.plan).1 hc))
  rw [if_neg hm,this];omega
theorem jsV (h:RunOkP r) (hx:r.tasks[t]?=some x) (hs:x.state=3) (h0:∀z∈r.tasks,z.state=1→z.tri=0):jmp r (jiA r t x):=by
 obtain ⟨e1,e2,e3,e4⟩:=h.runs hx hs;obtain ⟨n,hn,hn1,h12,h30,hes,hnd,hprio,hmost,hwait⟩:=jgL h.plan;have hx1:=taskB_iff.1 (h.tasks t x hx);have hxl:=hx1.2.2.2.2;simp only [vE,hs] at hxl;have hxl:x.need=0∧1≤x.tri:=by simpa using hxl
 have hnl:∀j:Nat,zG r.plan r.tasks j≤12:=fun j=>by
  have h1:=List.length_filter_le (fun b=>stT r.tasks b !=4) (jaZ r.plan j)
  have h2:(jaZ r.plan j).length≤n:=by
   rw [jaZ,show r.plan.tasks.toNat=n by omega,jtZ (jkE hes j)]
   exact jvq hnd hes j
  simp only [zG];omega
 have hstate:=jjj h hx hs;have hlen:=jby r.plan r.tasks t x;refine ⟨rfl,rfl,⟨h.id,h.plan,by show ((vG r.plan r.tasks t x).length:Int)=_;rw [hlen];exact h.len,fun j w hw=>?_,hstate.symm,?_⟩,hlen,fun j z w hz hw=>?_,?_⟩
 ·show kt r.plan (vG r.plan r.tasks t x) j w=true
  rw [taskB_iff,jp6 h hx hs];rcases jb9 h hx hs hw with ⟨rfl,rfl⟩|⟨hne,z,hz,⟨hm,rfl⟩|⟨hm,rfl⟩⟩
  ·rw [if_neg (jn6 h hx hs)]
   exact ⟨by simp,by rw [hx1.2.1];omega,hx1.2.2.1,rfl,by simp [vE,hxl.1,hxl.2]⟩
  ·obtain ⟨g1,g2,g3⟩:=h.need_pos hx hs hz hm
   have g4:=hnl j;have g5:=h0 z (List.mem_of_getElem? hz) g1;have hw1:IntKind.i64.wrap (z.need-1)=z.need-1:=jg (by omega) (by omega)
   have hzT:=taskB_iff.1 (h.tasks j z hz)
   have htil:z.til=0:=by
    have:=hzT.2.2.2.1;simpa [jf7,g1] using this
   rw [if_pos hm];simp only [stD,hw1];by_cases hz0:z.need-1=0
   ·rw [if_pos hz0]
    refine ⟨by simp,by omega,hzT.2.2.1,by simp [jf7,htil],?_⟩
    have:z.tri<r.plan.most:=by omega
    simp [vE,hz0,this]
   ·rw [if_neg hz0]
    refine ⟨by simp [g1],by omega,hzT.2.2.1,by simp [jf7,g1,htil],?_⟩
    have:0<z.need-1:=by omega
    simp only [vE,g1,if_true,decide_eq_true_eq];exact this
  ·have hzT:=taskB_iff.1 (h.tasks j _ hz)
   rw [if_neg hm,Int.sub_zero];exact hzT
 ·show (if _ then (2:Int) else r.state)≠0
  split<;>omega
 ·have hw2:(vG r.plan r.tasks t x)[j]?=some w:=hw
  rcases jb9 h hx hs hw2 with ⟨rfl,rfl⟩|⟨hne,z',hz',⟨hm,rfl⟩|⟨hm,rfl⟩⟩
  ·rw [hx] at hz
   obtain rfl:=Option.some.inj hz;simp [hs]
  ·rw [hz] at hz'
   obtain rfl:=Option.some.inj hz';have g1:=(h.need_pos hx hs hz hm).1;have g3:(stD z).tri=z.tri:=rfl;rcases jvE g1 with g2|g2<;>rw [g2,g1,g3]<;>refine ⟨fun g=>?_,fun g=>?_,fun g=>?_,fun g=>?_,fun g=>?_⟩<;>first|omega|(simp;done)|exact ⟨rfl,rfl⟩
  ·rw [hz] at hz'
   obtain rfl:=Option.some.inj hz';refine ⟨fun g=>.inl g,fun g=>g,fun g=>by omega,fun _=>rfl,fun g=>⟨g,rfl⟩⟩
 ·have hk:=jle (was:=r.tasks) (ts:=vG r.plan r.tasks t x) hlen fun j z w hz hw g=>by
   rcases jb9 h hx hs hw with ⟨rfl,rfl⟩|⟨hne,z',hz',⟨hm,rfl⟩|⟨hm,rfl⟩⟩
   ·rw [hx] at hz
    obtain rfl:=Option.some.inj hz;omega
   ·rw [hz] at hz'
    obtain rfl:=Option.some.inj hz';have:=(h.need_pos hx hs hz hm).1;omega
   ·rw [hz] at hz'
    obtain rfl:=Option.some.inj hz';exact g
  have hlv:kH (jiA r t x)≤kH r:=by
   unfold kH;rw [if_pos e1];split
   ·show (vG r.plan r.tasks t x).length≤_;omega
   ·omega
  show kH (jiA r t x)+cS 2 r.tasks+(vu r.tasks (vG r.plan r.tasks t x) (vG r.plan r.tasks t x).length).length≤kH r+cS 2 (vG r.plan r.tasks t x);omega
theorem jlr {was ts:List Tk} (h:∀z∈ts,z.state≠2) (k:Nat) (hk:k≤ts.length):vu was ts k=[]:=by
 have:∀v,v∉vu was ts k:=fun v hv=>by
  obtain ⟨j,rfl,hj,hn⟩:=newL_mem.1 hv;obtain ⟨z,hz⟩:=je (show j<ts.length by omega)
  simp only [jm1,kq hz,Bool.and_eq_true,beq_iff_eq] at hn;exact h z (List.mem_of_getElem? hz) hn.1
 exact List.eq_nil_iff_forall_not_mem.2 this
theorem jp4 (h:RunOkP r) (hx:r.tasks[t]?=some x) (hs:x.state=3):jmp r (vM r t x):=by
 have hok:=jlX h hx hs;obtain ⟨e1,e2,e3,e4⟩:=h.runs hx hs;have ht:=(List.getElem?_eq_some_iff.1 hx).1;by_cases hm:x.tri<r.plan.most
 ·have e:vM r t x=⟨r.id,r.plan,r.state,r.tasks.set t ⟨2,x.need,x.tri,0⟩⟩:=by rw [vM,if_pos hm]
  rw [e] at hok⊢
  have key:∀(j:Nat) (z w:Tk),r.tasks[j]?=some z→(r.tasks.set t ⟨2,x.need,x.tri,0⟩)[j]?=some w→(j=t∧z=x∧w=⟨2,x.need,x.tri,0⟩)∨w=z:=fun j z w hz hw=>by
   rw [List.getElem?_set] at hw;by_cases e:t=j
   ·subst e
    rw [if_pos rfl,if_pos ht] at hw;rw [hx] at hz;exact .inl ⟨rfl,(Option.some.inj hz).symm,(Option.some.inj hw).symm⟩
   ·rw [if_neg e,hz] at hw
    exact .inr (Option.some.inj hw).symm
  refine ⟨rfl,rfl,hok,List.length_set ..,fun j z w hz hw=>?_,?_⟩
  ·rcases key j z w hz hw with ⟨rfl,rfl,rfl⟩|rfl
   ·simp [hs]
   ·exact ⟨fun g=>.inl g,fun g=>g,fun g=>by omega,fun _=>rfl,fun g=>⟨g,rfl⟩⟩
  ·have hk:=jle (was:=r.tasks) (ts:=r.tasks.set t ⟨2,x.need,x.tri,0⟩) (List.length_set ..) fun j z w hz hw g=>by
    rcases key j z w hz hw with ⟨rfl,rfl,rfl⟩|rfl
    ·rfl
    ·exact g
   have hlv:kH ⟨r.id,r.plan,r.state,r.tasks.set t ⟨2,x.need,x.tri,0⟩⟩=kH r:=by simp [kH]
   rw [hlv];dsimp only;omega
 ·have e:vM r t x=⟨r.id,r.plan,3,vi jx (r.tasks.set t ⟨5,x.need,x.tri,0⟩) r.tasks.length⟩:=by rw [vM,if_neg hm]
  rw [e] at hok⊢;have hl:(vi jx (r.tasks.set t ⟨5,x.need,x.tri,0⟩) r.tasks.length).length=r.tasks.length:=by rw [zt,List.length_set]
  have key:∀(j:Nat) (z w:Tk),r.tasks[j]?=some z→(vi jx (r.tasks.set t ⟨5,x.need,x.tri,0⟩) r.tasks.length)[j]?=some w→(w.state=4∧z.state=4)∨(w.state=5∧z.state=3)∨(w.state=6∧z.state≠4):=fun j z w hz hw=>by
   have el:r.tasks.length=(r.tasks.set t ⟨5,x.need,x.tri,0⟩).length:=by rw [List.length_set]
   rw [el] at hw;obtain ⟨u,hu,rfl⟩:=jdR hw;rw [List.getElem?_set] at hu;by_cases e:t=j
   ·subst e
    rw [if_pos rfl,if_pos ht] at hu;obtain rfl:=Option.some.inj hu;rw [hx] at hz;obtain rfl:=Option.some.inj hz;exact .inr (.inl ⟨by simp [jx],hs⟩)
   ·rw [if_neg e,hz] at hu
    obtain rfl:=Option.some.inj hu;have h5:z.state≠5:=jqu e2 hz;by_cases h4:z.state=4
    ·exact .inl ⟨by simp [jx,h4],h4⟩
    ·exact .inr (.inr ⟨by simp [jx,h4,h5],h4⟩)
  have no2:∀w∈vi jx (r.tasks.set t ⟨5,x.need,x.tri,0⟩) r.tasks.length,w.state≠2:=fun w hw=>by
   obtain ⟨j,hj⟩:=List.getElem?_of_mem hw;obtain ⟨z,hz⟩:=je (show j<r.tasks.length by rw [←hl];exact (List.getElem?_eq_some_iff.1 hj).1)
   rcases key j z w hz hj with g|g|g<;>omega
  refine ⟨rfl,rfl,hok,hl,fun j z w hz hw=>?_,?_⟩
  ·have h6:z.state≠6:=jqu e3 hz
   rcases key j z w hz hw with ⟨g,g'⟩|⟨g,g'⟩|⟨g,g'⟩<;>rw [g]<;>refine ⟨fun _=>?_,fun _=>?_,fun _=>?_,fun _=>?_,fun _=>?_⟩<;>simp_all
  ·have:=zT h
   have e0:vu r.tasks (vi jx (r.tasks.set t ⟨5,x.need,x.tri,0⟩) r.tasks.length) (vi jx (r.tasks.set t ⟨5,x.need,x.tri,0⟩) r.tasks.length).length=[]:=jlr no2 _ (Nat.le_refl _);dsimp only;rw [e0];simp [kH] at this⊢;split at this<;>simp_all
   all_goals omega
end
end Go.Proofs.Ytmnpailnelmpiaa
