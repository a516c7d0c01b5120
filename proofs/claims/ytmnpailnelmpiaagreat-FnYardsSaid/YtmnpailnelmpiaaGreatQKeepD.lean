/- Parts. -/
import Derived.Test.YtmnpailnelmpiaaGreatQKeepB
set_option linter.unusedSimpArgs false
set_option linter.unusedVariables false
namespace Go.Proofs.YtmnpailnelmpiaaGreat
open Go.RowKit Go.Sort
theorem jeY {r:Rn} (h:RunOkP r) (t:Int) (hr:vu r t=true):job r (jE r t):=by
 obtain ⟨k,x,rfl,hx,hs,_⟩:=jaB hr;rw [qD hx hr];exact jrU h hx hs
theorem jmT {r:Rn} (h:RunOkP r) (h0:∀z∈r.tasks,z.state=1→z.tri=0) (t:Int) (hr:vu r t=true):job r (qJ r t):=by
 obtain ⟨k,x,rfl,hx,hs,_⟩:=jaB hr;rw [jeq hx hr];exact juj h hx hs h0
theorem jxF {y:Yd} (h:YdI y) {k:Nat} {t:Int} {r:Rn} (hr:y.runs[k]?=some r) (ht:0≤t) (hs:stT r.tasks t=3):vu r t=true:=by
 obtain ⟨n,rfl⟩:=Int.eq_ofNat_of_zero_le ht;cases hx:r.tasks[n]? with
 |none=>
  have:stT r.tasks (n:Int)=0:=by simp only [stT,Int.toNat_natCast,hx,Option.getD_none];rfl
  omega
 |some x=>
  rw [kv hx] at hs;exact jga (h.rns.right r (List.mem_of_getElem? hr)) hx hs
theorem YdI.failK {y:Yd} (h:YdI y) (k t:Nat):YdI (failK y k t):=by
 unfold Go.Proofs.YtmnpailnelmpiaaGreat.failK;split
 ·rename_i hs
  cases hk:y.runs[k]? with
  |none=>
   rw [hk] at hs;simp [stT] at hs;cases hs
  |some r=>
   rw [hk,Option.getD_some] at hs;rw [Option.getD_some];exact h.turn hk (jeY (h.rns.right r (List.mem_of_getElem? hk)) _ (jxF h hk (Int.natCast_nonneg _) (by simpa using hs)))
 ·exact h
theorem jqP {y:Yd} {id task:Int} {x:Tk} (h:jad y id task=some x):∃(k t:Nat) (r:Rn),runAt y id=k∧y.runs[k]?=some r∧r.id=id∧task=t∧r.tasks[t]?=some x:=by
 unfold jad at h;split at h
 ·cases h
 ·rename_i hneg
  obtain ⟨k,r,hrk,hr,hid,_⟩:=qN hneg;rw [hrk,Int.toNat_natCast,hr] at h;dsimp only at h;split at h
  ·rename_i h0
   obtain ⟨t,rfl⟩:=Int.eq_ofNat_of_zero_le h0;exact ⟨k,t,r,hrk,hr,hid,rfl,by simpa using h⟩
  ·cases h
theorem jtY {y:Yd} {id task tri:Int} (h:qU y id task tri=true):∃(k t:Nat) (r:Rn) (x:Tk),runAt y id=k∧y.runs[k]?=some r∧r.id=id∧task=t∧r.tasks[t]?=some x∧x.state=3∧x.tri=tri:=by
 unfold qU at h;cases ht:jad y id task with
 |none=>rw [ht] at h;simp at h
 |some x=>
  rw [ht] at h;simp only [Bool.and_eq_true,beq_iff_eq] at h;obtain ⟨k,t,r,h1,h2,h3,h4,h5⟩:=jqP ht;exact ⟨k,t,r,x,h1,h2,h3,h4,h5,h.1,h.2⟩
theorem YdI.comp {y:Yd} (h:YdI y) (id task tri:Int):YdI (jdo y id task tri):=by
 unfold jdo;split
 ·rename_i hc
  obtain ⟨hok,hneg⟩:=jn6 hc
  have hh:qU y id task tri=true:=by
   obtain ⟨hok,hneg⟩:=jn6 hc;cases hq:qU y id task tri with
   |true=>rfl
   |false=>rw [jaO,if_neg (by rw [jay hok];decide),if_neg hneg,if_pos hq] at hc;cases hc
  obtain ⟨k,t,r,x,hrk,hr,_,rfl,hx,hs,_⟩:=jtY hh;rw [hrk,Int.toNat_natCast,hr,Option.getD_some];have hR:=h.rns.right r (List.mem_of_getElem? hr);exact h.turn hr (jmT hR (h.rns.tri r (List.mem_of_getElem? hr)) _ (jga hR hx hs))
 ·exact h
theorem YdI.fail {y:Yd} (h:YdI y) (id task tri:Int):YdI (jdn y id task tri):=by
 unfold jdn;split
 ·rename_i hc
  have hh:qU y id task tri=true:=by
   obtain ⟨hok,hneg⟩:=jn6 hc;cases hq:qU y id task tri with
   |true=>rfl
   |false=>rw [jaO,if_neg (by rw [jay hok];decide),if_neg hneg,if_pos hq] at hc;cases hc
  obtain ⟨k,t,r,x,hrk,hr,_,rfl,hx,hs,_⟩:=jtY hh;rw [hrk,Int.toNat_natCast,hr,Option.getD_some];have hR:=h.rns.right r (List.mem_of_getElem? hr);exact h.turn hr (jeY hR _ (jga hR hx hs))
 ·exact h
theorem YdI.restT {y:Yd} (h:YdI y) (k:Nat):∀t,YdI (restT y k t)
 |0=>h
 |t+1=>(YdI.restT h k t).failK k t
theorem YdI.restR {y:Yd} (h:YdI y):∀k,YdI (restR y k)
 |0=>h
 |k+1=>(YdI.restR h k).restT k _
theorem YdI.rest {y:Yd} (h:YdI y):YdI (jdj y):=by
 unfold jdj;split
 ·exact h.restR _
 ·exact h
def SubR (y z:Yd):Prop:=∀(k t:Nat) (r':Rn) (x:Tk),z.runs[k]?=some r'→r'.tasks[t]?=some x→x.state=3→∃r,y.runs[k]?=some r∧r.id=r'.id∧r.plan=r'.plan∧r.tasks[t]?=some x
theorem SubR.refl (y:Yd):SubR y y:=fun k t r x hr hx _=>⟨r,hr,rfl,rfl,hx⟩
theorem SubR.trans {x y z:Yd} (h:SubR x y) (h':SubR y z):SubR x z:=fun k t r u hr hu hs=>by
 obtain ⟨r1,h1,h2,h3,h4⟩:=h' k t r u hr hu hs;obtain ⟨r2,g1,g2,g3,g4⟩:=h k t r1 u h1 h4 hs;exact ⟨r2,g1,g2.trans h2,g3.trans h3,g4⟩
theorem SubR.failK (y:Yd) (k t:Nat):SubR y (failK y k t):=by
 unfold Go.Proofs.YtmnpailnelmpiaaGreat.failK;split
 ·intro j i r' x hr' hx hs
  rw [jb8,List.getElem?_set] at hr';by_cases e:k=j
  ·subst e
   rw [if_pos rfl] at hr';split at hr'
   ·rename_i hk
    obtain ⟨r,hr⟩:=je hk;rw [hr,Option.getD_some] at hr';obtain rfl:=Option.some.inj hr';have hi:=jep r t;exact ⟨r,hr,hi.1.symm,hi.2.symm,jkz hx hs⟩
   ·simp at hr'
  ·rw [if_neg e] at hr';exact ⟨r',hr',rfl,rfl,hx⟩
 ·exact .refl y
theorem jt8 {y:Yd} (h:YdI y) {k t:Nat} {r':Rn} {x:Tk} (hr:(failK y k t).runs[k]?=some r') (hx:r'.tasks[t]?=some x):x.state≠3:=by
 intro hs;obtain ⟨r,h1,_,_,h4⟩:=SubR.failK y k t k t r' x hr hx hs;unfold Go.Proofs.YtmnpailnelmpiaaGreat.failK at hr;have hst:stT r.tasks (t:Int)=3:=by rw [kv h4,hs]
 rw [h1,Option.getD_some,hst,if_pos (by decide),jb8,List.getElem?_set_self (List.getElem?_eq_some_iff.1 h1).1] at hr
 obtain rfl:=Option.some.inj hr;have hR:=h.rns.right r (List.mem_of_getElem? h1);have hrb:=jga hR h4 hs;rw [qD h4 hrb,zb] at hx;have ht:=(List.getElem?_eq_some_iff.1 h4).1;split at hx
 ·dsimp only at hx
  rw [List.getElem?_set_self ht] at hx;have:=congrArg Tk.state (Option.some.inj hx);dsimp only at this;omega
 ·dsimp only at hx
  have e:r.tasks.length=(r.tasks.set t ⟨5,x.need,x.tri,0⟩).length:=by rw [List.length_set]
  rw [e] at hx;obtain ⟨u,hu,he⟩:=je2 hx;rw [List.getElem?_set_self ht] at hu;rw [←Option.some.inj hu] at he;have:=congrArg Tk.state he;simp [jA] at this;omega
theorem jyo {y:Yd} {r:Rn} {t:Nat} {x:Tk} (hr:r∈y.runs) (hx:r.tasks[t]?=some x) (hs:x.state=3) (hl:x.til≤y.now+1):[r.id,(t:Int),x.tri]∈kD y:=by
 have key:∀(ts:List Tk) (k j:Nat),ts[j]?=some x→[r.id,((k+j:Nat):Int),x.tri]∈zA y.now r k ts:=by
  intro ts
  induction ts with
  |nil=>intro k j h;simp at h
  |cons a ts ih=>
   intro k j h;rw [zA];cases j with
   |zero=>
    simp at h;subst h;refine List.mem_append.2 (.inl ?_)
    have:zW y.now r.id a k=some [r.id,(k:Int),a.tri]:=by
     rw [zW,if_pos];simp only [hs,beq_self_eq_true,Bool.true_and,decide_eq_true_eq];omega
    rw [this];simp
   |succ j=>
    refine List.mem_append.2 (.inr ?_);have:=ih (k+1) j (by simpa using h)
    rwa [show k+1+j=k+(j+1) by omega] at this
 have:=key r.tasks 0 t hx;rw [Nat.zero_add] at this;exact List.mem_flatMap.2 ⟨r,hr,this⟩
theorem jt9 (y:Yd) (k t:Nat):(failK y k t).runs.map (·.id)=y.runs.map (·.id):=by
 unfold Go.Proofs.YtmnpailnelmpiaaGreat.failK;split
 ·rw [jb8]
  cases hr:y.runs[k]? with
  |none=>rw [List.set_eq_of_length_le (List.getElem?_eq_none_iff.1 hr)]
  |some r=>rw [Option.getD_some,jom hr (jep _ _).1]
 ·rfl
theorem YdI.tickI {y:Yd} (h:YdI y):∀i,i≤(kD y).length→YdI (tickI y i)∧(tickI y i).runs.map (·.id)=y.runs.map (·.id)∧(tickI y i).now=y.now
 |0,_=>⟨h,rfl,rfl⟩
 |i+1,hi=>by
  obtain ⟨h1,h2,h3⟩:=YdI.tickI h i (by omega)
  obtain ⟨l,hl⟩:=je (show i<(kD y).length by omega)
  rw [jen hl,jmC];refine ⟨h1.failK _ _,?_,?_⟩
  ·rw [←h2];exact jt9 _ _ _
  ·rw [←h3]
   unfold Go.Proofs.YtmnpailnelmpiaaGreat.failK;split<;>rfl
theorem jpo (y:Yd) (i:Nat):∀d:Nat,i+d≤(kD y).length→SubR (tickI y i) (tickI y (i+d)):=by
 intro d
 induction d with
 |zero=>intro _;exact .refl _
 |succ d ih=>
  intro h;obtain ⟨l,hl⟩:=je (show i+d<(kD y).length by omega)
  have h1:=ih (by omega)
  have e:tickI y (i+(d+1))=failK (tickI y (i+d)) (runAt (tickI y (i+d)) (l.headD 0)).toNat (l.tail.headD 0).toNat:=by
   rw [←Nat.add_assoc,jen hl,jmC]
  rw [e];exact h1.trans (.failK _ _ _)
theorem jsr {y:Yd} (h:YdI y):∀r'∈(tickI y (kD y).length).runs,∀(t:Nat) (x:Tk),r'.tasks[t]?=some x→x.state=3→y.now+2≤x.til:=by
 intro r' hr' t x hx hs;refine Classical.byContradiction fun hlt=>?_
 obtain ⟨k,hk⟩:=List.getElem?_of_mem hr';have s0:=jpo y 0 (kD y).length (by omega)
 rw [Nat.zero_add] at s0;obtain ⟨r,hr,hid,-,hx'⟩:=s0 k t r' x hk hx hs;have hr:y.runs[k]?=some r:=hr;obtain ⟨i,hi⟩:=List.getElem?_of_mem (jyo (List.mem_of_getElem? hr) hx' hs (by omega))
 have hil:=(List.getElem?_eq_some_iff.1 hi).1;have s1:=jpo y (i+1) ((kD y).length-(i+1)) (by omega)
 rw [show i+1+((kD y).length-(i+1))=(kD y).length by omega] at s1
 obtain ⟨r1,hr1,hid1,-,hx1⟩:=s1 k t r' x hk hx hs;obtain ⟨hI,hids,-⟩:=h.tickI i (by omega)
 rw [jen hi,jmC] at hr1
 obtain ⟨r2,hr2⟩:=je (show k<(tickI y i).runs.length by
  have:=congrArg List.length hids;simp only [List.length_map] at this;rw [this];exact (List.getElem?_eq_some_iff.1 hr).1)
 have hid2:r2.id=r.id:=by
  have e1:((tickI y i).runs.map (·.id))[k]?=some r2.id:=by rw [List.getElem?_map,hr2];rfl
  rw [hids,List.getElem?_map,hr] at e1;exact (Option.some.inj e1).symm
 have hat:=jqF hI.rns.eight hI.rns.ids hr2;rw [hid2] at hat;have e1:([r.id,(t:Int),x.tri]:List Int).headD 0=r.id:=rfl;have e2:(([r.id,(t:Int),x.tri]:List Int).tail.headD 0).toNat=t:=by simp
 rw [e1,e2,hat,Int.toNat_natCast] at hr1;exact jt8 hI hr1 hx1 hs
theorem YdI.tick {y:Yd} (h:YdI y):YdI (jb1 y):=by
 unfold jb1;split
 ·rename_i hc
  have hnow:y.now+1≤999999980:=by
   unfold ja1 at hc;split at hc
   ·cases hc
   ·split at hc
    ·cases hc
    ·omega
  obtain ⟨h1,h2,h3⟩:=h.tickI _ (Nat.le_refl _);have key:=jsr h;have hn:=h.now;generalize Go.Proofs.YtmnpailnelmpiaaGreat.tickI y (kD y).length=z at*
  exact ⟨⟨by dsimp only;omega,hnow⟩,h1.seq,h1.four,h1.sorted,⟨h1.rns.eight,h1.rns.right,h1.rns.ids,fun r hr t x hx hs=>by
   have k1:=key r hr t x hx hs;have k2:=h1.rns.til r hr t x hx hs;dsimp only;omega,h1.rns.tri⟩,h1.ens,h1.room⟩
 ·exact h
theorem jsq {y:Yd} {k:Nat} {r r2:Rn} (hr:y.runs[k]?=some r) (hn:vO r.tasks r2.tasks r2.tasks.length=[]) (h4:y.shelf.length=4):kL y k r2=jg8 y k r2:=by
 obtain ⟨-,hs4⟩:=jxD r2.id;obtain ⟨l,hl⟩:=je (show shN r2.id<y.shelf.length by rw [h4];exact hs4)
 have e:y.shelf.set (shN r2.id) l=y.shelf:=by
  obtain ⟨h1,h2⟩:=List.getElem?_eq_some_iff.1 hl;rw [←h2];exact List.set_getElem_self h1
 rw [kL,jrF];simp only [hr,Option.getD_some,hn,hl,je4,e,jg8]
theorem jtC {r:Rn} (h:RunOkP r) (hs:r.state=1):job r (jau r)∧vO r.tasks (jau r).tasks (jau r).tasks.length=[]:=by
 have e:jau r=⟨r.id,r.plan,4,qV jA r.tasks r.tasks.length⟩:=by rw [jau,if_pos (by simp [runOk_iff.2 h,hs])]
 have hst:=h.state;rw [hs] at hst
 obtain ⟨c4,c5,c6⟩:cS 4 r.tasks≠r.tasks.length∧cS 5 r.tasks=0∧cS 6 r.tasks=0:=by
  unfold jf6 at hst;split at hst
  ·cases hst
  ·rename_i g
   split at hst
   ·cases hst
   ·split at hst
    ·cases hst
    ·split at hst
     ·rename_i g2;exact ⟨g,g2.1,g2.2⟩
     ·cases hst
 have hl:(qV jA r.tasks r.tasks.length).length=r.tasks.length:=vV
 have key:∀(j:Nat) (w:Tk),(qV jA r.tasks r.tasks.length)[j]?=some w→∃z,r.tasks[j]?=some z∧((z.state=4∧w=z)∨(z.state≠4∧w=⟨6,z.need,z.tri,0⟩)):=fun j w hw=>by
  obtain ⟨z,hz,rfl⟩:=je2 hw;have h5:z.state≠5:=jqx c5 hz;refine ⟨z,hz,?_⟩;by_cases h4:z.state=4
  ·exact .inl ⟨h4,by simp [jA,h4]⟩
  ·exact .inr ⟨h4,by simp [jA,h4,h5]⟩
 have hin:∀w∈qV jA r.tasks r.tasks.length,w.state=4∨w.state=6:=fun w hw=>by
  obtain ⟨j,hj⟩:=List.getElem?_of_mem hw;obtain ⟨z,_,⟨h1,rfl⟩|⟨_,rfl⟩⟩:=key j w hj
  ·exact .inl h1
  ·exact .inr rfl
 have hst4:∀b:Int,(stT (qV jA r.tasks r.tasks.length) b !=4)=(stT r.tasks b !=4):=by
  intro b;simp only [stT,qV,List.getElem?_mapIdx];cases hb:r.tasks[b.toNat]? with
  |none=>rfl
  |some z=>simp only [Option.map_some,Option.getD_some,if_pos (List.getElem?_eq_some_iff.1 hb).1,jp0]
 have hN:=fun j=>jby (p:=r.plan) hst4 j
 have d4:cS 4 (qV jA r.tasks r.tasks.length)=cS 4 r.tasks:=by
  simp only [cS,qB,vN,List.length_map,hl]
  congr 1
  refine List.filter_congr fun j _=>?_
  have:=hst4 (j:Int);cases h1:stT (qV jA r.tasks r.tasks.length) (j:Int)==4<;>cases h2:stT r.tasks (j:Int)==4<;>simp_all [bne]
 have d5:cS 5 (qV jA r.tasks r.tasks.length)=0:=jdw fun z hz=>by rcases hin z hz with g|g<;>omega
 have d1:cS 1 (qV jA r.tasks r.tasks.length)=0:=jdw fun z hz=>by rcases hin z hz with g|g<;>omega
 have d2:cS 2 (qV jA r.tasks r.tasks.length)=0:=jdw fun z hz=>by rcases hin z hz with g|g<;>omega
 have d3:cS 3 (qV jA r.tasks r.tasks.length)=0:=jdw fun z hz=>by rcases hin z hz with g|g<;>omega
 have hsum:=jcb (fun z hz=>by rcases hin z hz with g|g<;>omega) _ (Nat.le_refl (qV jA r.tasks r.tasks.length).length)
 change cS 1 _+cS 2 _+cS 3 _+cS 4 _+cS 5 _+cS 6 _=_ at hsum;have hle:cS 4 r.tasks≤r.tasks.length:=by simp only [cS,qB];exact vd _ _ _
 have hnl:vO r.tasks (qV jA r.tasks r.tasks.length) (qV jA r.tasks r.tasks.length).length=[]:=jne (fun z hz=>by rcases hin z hz with g|g<;>omega) _ (Nat.le_refl _)
 rw [e];refine ⟨⟨rfl,rfl,⟨h.id,h.plan,by dsimp only;rw [hl];exact h.len,fun j w hw=>?_,?_,by simp⟩,hl,fun j z w hz hw=>?_,?_⟩,hnl⟩
 ·dsimp only at hw⊢
  rw [taskB_iff,hN];obtain ⟨z,hz,⟨g1,rfl⟩|⟨g1,rfl⟩⟩:=key j w hw
  ·exact taskB_iff.1 (h.tasks j _ hz)
  ·have h3:=taskB_iff.1 (h.tasks j _ hz)
   exact ⟨by simp,h3.2.1,h3.2.2.1,rfl,by simp [qT]⟩
 ·dsimp only
  rw [jf6,if_neg (by omega),if_neg (by omega),if_pos ⟨d5,by omega,by omega⟩]
 ·obtain ⟨z',hz',⟨g1,rfl⟩|⟨g1,rfl⟩⟩:=key j w hw
  ·rw [hz] at hz'
   obtain rfl:=Option.some.inj hz';exact ⟨fun g=>by omega,fun g=>g,fun g=>by omega,fun _=>rfl,fun g=>⟨g,rfl⟩⟩
  ·rw [hz] at hz'
   obtain rfl:=Option.some.inj hz';exact ⟨fun _=>.inr rfl,fun _=>rfl,fun g=>by simp at g,fun g=>by simp at g,fun g=>by simp at g⟩
 ·have:=jba h
  dsimp only;rw [hnl,d2];have hlv:kJ ⟨r.id,r.plan,4,qV jA r.tasks r.tasks.length⟩=0:=by simp [kJ]
  rw [hlv,List.length_nil];omega
theorem YdI.cancel {y:Yd} (h:YdI y) (id:Int):YdI (kT y id):=by
 unfold kT;split
 ·rename_i hc
  unfold qb at hc;split at hc
  ·cases hc
  split at hc
  ·cases hc
  split at hc
  ·rename_i hneg hst
   obtain ⟨k,r,hrk,hr,-,-⟩:=qN hneg;rw [hrk,Int.toNat_natCast,hr,Option.getD_some] at hst⊢;obtain ⟨g1,g2⟩:=jtC (h.rns.right r (List.mem_of_getElem? hr)) hst;rw [←jsq hr g2 h.four];exact h.turn hr g1
  ·cases hc
 ·exact h
theorem YdI.forget {y:Yd} (h:YdI y) (id:Int):YdI (jaw y id):=by
 unfold jaw;split
 ·rename_i hc
  unfold jal at hc;split at hc
  ·cases hc
  split at hc
  ·cases hc
  split at hc
  ·cases hc
  rename_i hneg hst;obtain ⟨k,r,hrk,hr,hid,-⟩:=qN hneg;rw [hrk,Int.toNat_natCast,hr,Option.getD_some] at hst;rw [hrk,Int.toNat_natCast];have hR:=h.rns.right r (List.mem_of_getElem? hr);have hfl:(y.shelf.map fun l=>l.filter (jb6 id)).flatten=y.shelf.flatten.filter (jb6 id):=by rw [List.filter_flatten]
  have hsub:∀x∈y.runs.eraseIdx k,x∈y.runs:=fun x hx=>List.mem_of_mem_eraseIdx hx
  have hne:∀x∈y.runs.eraseIdx k,x.id≠id:=fun x hx he=>by
   obtain ⟨j,hjk,hj⟩:=List.mem_eraseIdx_iff_getElem?.1 hx;exact hjk (jp8 h.rns.ids hj hr (he.trans hid.symm))
  have hstay:∀x∈y.runs,x.id≠id→x∈y.runs.eraseIdx k:=fun x hx he=>by
   obtain ⟨j,hj⟩:=List.getElem?_of_mem hx;refine List.mem_eraseIdx_iff_getElem?.2 ⟨j,fun e=>?_,hj⟩
   subst e;rw [hr] at hj;obtain rfl:=Option.some.inj hj;exact he hid
  have hr0:kJ r=0:=by rw [kJ,if_neg hst]
  have hc0:cS 2 r.tasks=0:=by have:=jba hR;omega
  have hE:EnsI (y.runs.eraseIdx k) y.seq (y.shelf.flatten.filter (jb6 id)):=by
   refine ⟨fun e he=>h.ens.range e (List.mem_filter.1 he).1,(h.ens.apart).sublist ((List.filter_sublist).map _),fun e he=>?_,fun r' hr' t x hx hs=>?_⟩
   ·obtain ⟨he1,he2⟩:=List.mem_filter.1 he
    obtain ⟨r',hr',t,x,h1,h2,h3,h4⟩:=h.ens.own e he1;have:r'.id≠id:=by rw [←h1];simpa [jb6] using he2
    exact ⟨r',hstay r' hr' this,t,x,h1,h2,h3,h4⟩
   ·have hone:=h.ens.one r' (hsub r' hr') t x hx hs
    rw [←hone];simp only [zD,List.filter_filter]
    congr 1
    refine List.filter_congr fun e _=>?_
    have:=hne r' hr';by_cases g:e.run=r'.id
    ·simp [jb6,g,this]
    ·simp [g]
  have hlen:(y.shelf.flatten.filter (jb6 id)).length≤y.shelf.flatten.length:=List.length_filter_le _ _
  have t1:∀f:Rn→Nat,vM f (y.runs.eraseIdx k)+f r=vM f y.runs:=fun f=>by
   obtain ⟨hk,e⟩:=List.getElem?_eq_some_iff.1 hr;have h1:y.runs=y.runs.take k++r::y.runs.drop (k+1):=by rw [←e];simp
   have h2:y.runs.eraseIdx k=y.runs.take k++y.runs.drop (k+1):=List.eraseIdx_eq_take_drop_succ _ _;rw [h2]
   conv=>rhs;rw [h1]
   simp only [vM,List.map_append,List.sum_append,List.map_cons,List.sum_cons];omega
  have t2:=t1 kJ;have t3:=t1 fun r=>cS 2 r.tasks
  have hroom:=h.room;refine ⟨h.now,h.seq,by rw [List.length_map];exact h.four,fun l hl=>?_,⟨?_,fun r' hr'=>h.rns.right r' (hsub r' hr'),?_,fun r' hr'=>h.rns.til r' (hsub r' hr'),fun r' hr'=>h.rns.tri r' (hsub r' hr')⟩,by dsimp only;rw [hfl];exact hE,?_⟩
  ·obtain ⟨m,hm,rfl⟩:=List.mem_map.1 hl
   exact (h.sorted m hm).sublist List.filter_sublist
  ·have:=List.length_eraseIdx_le y.runs k
   have:=h.rns.eight;dsimp only;omega
  ·exact (h.rns.ids).sublist ((List.eraseIdx_sublist _ _).map _)
  ·dsimp only
   rw [hfl];simp only [qr] at hroom⊢;omega
 ·exact h
theorem jlS {p:Pl} {n t:Nat} {x:Tk} (h:(vL p n)[t]?=some x):t<n∧x=jj7 p t:=by
 have ht:=(List.getElem?_eq_some_iff.1 h).1;simp only [vL,List.length_map,List.length_range] at ht;simp only [vL,List.getElem?_map,List.getElem?_range ht,Option.map_some] at h;exact ⟨ht,(Option.some.inj h).symm⟩
theorem jsY {id:Int} {p:Pl} (hid:1≤id∧id≤9999) (hp:jw p=0):RunOkP (jW id p):=by
 obtain ⟨n,hn,hn1,h12,h30,hes,hnd,hprio,hmost,hwait⟩:=jck hp;have hnt:p.tasks.toNat=n:=by omega
 have hlen:(vL p n).length=n:=by simp [vL]
 have hin:∀z∈vL p n,z.state=1∨z.state=2:=fun z hz=>by
  obtain ⟨j,hj⟩:=List.getElem?_of_mem hz;obtain ⟨_,rfl⟩:=jlS hj;simp only [jj7];split
  ·exact .inl rfl
  ·exact .inr rfl
 have hst:∀b:Int,(stT (vL p n) b !=4)=true:=fun b=>by
  simp only [stT];cases hb:(vL p n)[b.toNat]? with
  |none=>rfl
  |some z=>
   rcases hin z (List.mem_of_getElem? hb) with g|g<;>simp [g]
 have hN:∀j:Nat,jat p (vL p n) j=((zo p j).length:Int):=fun j=>by
  have:(zo p j).filter (fun b=>stT (vL p n) b !=4)=zo p j:=List.filter_eq_self.2 fun b _=>hst b
  simp only [jat,this]
 have c4:cS 4 (vL p n)=0:=jdw fun z hz=>by rcases hin z hz with g|g<;>omega
 have c5:cS 5 (vL p n)=0:=jdw fun z hz=>by rcases hin z hz with g|g<;>omega
 have c6:cS 6 (vL p n)=0:=jdw fun z hz=>by rcases hin z hz with g|g<;>omega
 have e:jW id p=⟨id,p,1,vL p n⟩:=by rw [jW,hnt]
 rw [e];refine ⟨by simp [inB,hid],hp,by dsimp only;rw [hlen];exact hn.symm,fun j w hw=>?_,?_,by simp⟩
 ·dsimp only at hw⊢
  obtain ⟨hj,rfl⟩:=jlS hw;rw [taskB_iff,hN];have hm1:=hmost.1;by_cases hz:0<(zo p j).length
  ·have hz':(0:Int)<(zo p j).length:=by omega
   refine ⟨by simp [jj7,hz],rfl,by simp only [jj7];omega,by simp [ja0,jj7,hz],?_⟩
   simp only [qT,jj7,if_pos hz,if_true,decide_eq_true_eq];exact hz'
  ·have hz0:(zo p j).length=0:=by omega
   have h0m:(0:Int)<p.most:=by omega
   refine ⟨by simp [jj7,hz],rfl,by simp only [jj7];omega,by simp [ja0,jj7,hz],?_⟩
   simp [qT,jj7,hz,hz0,h0m]
 ·dsimp only
  rw [jf6,if_neg (by rw [c4,hlen];omega),if_neg (by omega),if_neg (by omega),if_pos ⟨c5,c6⟩]
theorem YdI.sub {y:Yd} (h:YdI y) (id:Int) (p:Pl):YdI (jeK y id p):=by
 unfold jeK;split
 ·rename_i hc
  unfold jdB at hc;split at hc
  ·cases hc
  split at hc
  ·cases hc
  split at hc
  ·cases hc
  split at hc
  ·rename_i g1 g2 g3 g4;exact absurd hc g4
  split at hc
  ·cases hc
  rename_i g1 g2 g3 g4 g5;have hid:1≤id∧id≤9999:=Classical.byContradiction fun g=>g2 g
  have hp:jw p=0:=Classical.byContradiction fun g=>g4 g
  have hroom:zg y p=true:=by simpa using g5
  simp only [zg,Bool.and_eq_true,decide_eq_true_eq] at hroom;obtain ⟨r1,⟨r2,r2'⟩,r3,r4⟩:=hroom;have hok:=yard_iff.1 (show jC y=true by simpa using g1)
  have hR:=jsY hid hp;obtain ⟨n,hn,hn1,h12,h30,hes,hnd,hprio,hmost,hwait⟩:=jck hp
  have hnew:∀r∈y.runs,r.id≠id:=fun r hr he=>by
   obtain ⟨k,hk⟩:=List.getElem?_of_mem hr;have:=jqF h.rns.eight h.rns.ids hk;rw [he] at this;omega
  have hlen:(jW id p).tasks.length=n:=by simp only [jW,vL,List.length_map,List.length_range];omega
  have hst:∀(t:Nat) (x:Tk),(jW id p).tasks[t]?=some x→(x.state=1∨x.state=2)∧x.tri=0:=fun t x hx=>by
   obtain ⟨_,rfl⟩:=jlS (p:=p) (n:=p.tasks.toNat) hx;refine ⟨?_,rfl⟩;simp only [jj7];split
   ·exact .inl rfl
   ·exact .inr rfl
  have hno:∀t,zD id t y.shelf.flatten=0:=fun t=>jmi fun e he=>by
   rintro ⟨k1,_⟩;obtain ⟨r',hr',_,_,h1,_⟩:=h.ens.own e he;exact hnew r' hr' (h1.symm.trans k1)
  have hids:((y.runs++[jW id p]).map (·.id)).Nodup:=by
   rw [List.map_append];refine List.nodup_append.2 ⟨h.rns.ids,by simp,fun a ha b hb e=>?_⟩
   obtain ⟨r',hr',rfl⟩:=List.mem_map.1 ha;simp only [List.map_cons,List.map_nil,List.mem_singleton] at hb;exact hnew r' hr' (e.trans hb)
  have hRn:RnsI y.now (y.runs++[jW id p]):=by
   refine ⟨by rw [List.length_append,List.length_singleton];omega,fun r hr=>?_,hids,fun r hr t x hx hs=>?_,fun r hr x hx hs=>?_⟩
   ·rcases List.mem_append.1 hr with hr|hr
    ·exact h.rns.right r hr
    ·rw [List.mem_singleton] at hr;rw [hr];exact hR
   ·rcases List.mem_append.1 hr with hr|hr
    ·exact h.rns.til r hr t x hx hs
    ·rw [List.mem_singleton] at hr;subst hr
     rcases (hst t x hx).1 with g|g<;>omega
   ·rcases List.mem_append.1 hr with hr|hr
    ·exact h.rns.tri r hr x hx hs
    ·rw [List.mem_singleton] at hr;subst hr
     obtain ⟨t,ht⟩:=List.getElem?_of_mem hx;exact (hst t x ht).2
  obtain ⟨-,hs4⟩:=jxD (jW id p).id;obtain ⟨l,hl⟩:=je (show shN (jW id p).id<y.shelf.length by rw [h.four];exact hs4)
  have e:jrF ⟨y.now,y.seq,y.shelf,y.runs++[jW id p]⟩ (jW id p) (qB 2 (jW id p).tasks)=⟨y.now,y.seq+(qB 2 (jW id p).tasks).length,y.shelf.set (shN (jW id p).id) (vP (jW id p).plan.prio (jW id p).id (qB 2 (jW id p).tasks) (l,y.seq)).1,y.runs++[jW id p]⟩:=by
   rw [jrF];simp only [hl,Option.getD_some,zw]
  obtain ⟨rest,p1,p2⟩:=zk hl (vP (jW id p).plan.prio (jW id p).id (qB 2 (jW id p).tasks) (l,y.seq)).1
  have hpm:(jkL (jW id p).plan.prio (jW id p).id y.seq (qB 2 (jW id p).tasks)++y.shelf.flatten).Perm (y.shelf.set (shN (jW id p).id) (vP (jW id p).plan.prio (jW id p).id (qB 2 (jW id p).tasks) (l,y.seq)).1).flatten:=by
   refine ((List.Perm.append_left _ p1).trans ?_).trans p2.symm;rw [←List.append_assoc];exact ((ji3 _ _ _ _ _).symm).append_right _
  have hE:EnsI (y.runs++[jW id p]) (y.seq+(qB 2 (jW id p).tasks).length) (jkL (jW id p).plan.prio (jW id p).id y.seq (qB 2 (jW id p).tasks)++y.shelf.flatten):=by
   refine jtE h.ens h.seq hids (by simp) (jkn _ _) (fun t ht=>tinL_mem.1 ht) (fun e he=>?_) (fun r' hr' hi=>?_) (fun t x hx hs ht=>?_) (fun t ht=>hno t)
   ·obtain ⟨r',hr',t,x,k⟩:=h.ens.own e he
    exact ⟨r',by simp [hr'],t,x,k⟩
   ·rcases List.mem_append.1 hr' with hr'|hr'
    ·exact hr'
    ·rw [List.mem_singleton] at hr';exact absurd (by rw [hr']) hi
   ·exact absurd (tinL_mem.2 ⟨t,x,rfl,hx,hs⟩) ht
  have hlen2:=hpm.length_eq;rw [List.length_append,jlT] at hlen2;have hroom:=h.room
  have hsl:vM kJ y.runs+y.shelf.flatten.length≤40+qr y.runs-n:=by
   have hf:=jja h.rns.eight h.rns.ids h.ens;have hrl:=jc6 h.rns.right
   have hcnt:qq y (zZ y)+(y.shelf.flatten.filter (jN y)).length=y.shelf.flatten.length:=by
    simp only [qq,zZ,List.countP_eq_length_filter];have:=List.length_eq_countP_add_countP (jN y) (l:=y.shelf.flatten);simp only [List.countP_eq_length_filter] at this;have e:y.shelf.flatten.filter (fun e=>!jN y e)=y.shelf.flatten.filter (fun a=>decide ¬jN y a=true):=List.filter_congr fun a _=>by cases jN y a<;>rfl
    rw [e];omega
   simp only [kZ] at r3;omega
  have hlv:kJ (jW id p)=n:=by
   have h1:(jW id p).state=1:=rfl;rw [kJ,if_pos h1,hlen]
  rw [e];refine ⟨h.now,by have:=h.seq;dsimp only;omega,by rw [List.length_set];exact h.four,fun m hm=>?_,hRn,hE.perm hpm,?_⟩
  ·rcases List.mem_or_eq_of_mem_set hm with hm|rfl
   ·exact h.sorted m hm
   ·exact jlV _ _ _ (h.sorted l (List.mem_of_getElem? hl)) fun x hx=>by
     have:=h.ens.range x (List.mem_flatten.2 ⟨l,List.mem_of_getElem? hl,hx⟩);omega
  ·have q1:=jpn kJ y.runs (jW id p)
   have q2:=jpn (fun r:Rn=>cS 2 r.tasks) y.runs (jW id p)
   have q3:cS 2 (jW id p).tasks=(qB 2 (jW id p).tasks).length:=rfl;simp only [qr] at hsl⊢;omega
 ·exact h
theorem EnsI.sweep {y:Yd} {q:Int} {l rest:List En} (h8:y.runs.length≤8) (hi:(y.runs.map (·.id)).Nodup) (h:EnsI y.runs q (l++rest)):EnsI y.runs q (l.filter (jN y)++rest):=by
 have hs:(l.filter (jN y)++rest).Sublist (l++rest):=List.Sublist.append List.filter_sublist (List.Sublist.refl _);refine ⟨fun e he=>h.range e (hs.subset he),h.apart.sublist (hs.map _),fun e he=>h.own e (hs.subset he),fun r hr t x hx hst=>?_⟩
 rw [←h.one r hr t x hx hst,jg0,jg0]
 congr 1
 simp only [zD,List.filter_filter]
 congr 1
 refine List.filter_congr fun e _=>?_
 by_cases g:e.run=r.id∧e.task=t
 ·have:jN y e=true:=by rw [jip h8 hi hr g.1 g.2 hx,hst];rfl
  simp [g.1,g.2,this]
 ·have:(e.run==r.id&&e.task==(t:Int))=false:=by
   simp only [Bool.and_eq_false_iff,beq_eq_false_iff_ne,ne_eq];by_cases h3:e.run=r.id
   ·exact .inr fun h4=>g ⟨h3,h4⟩
   ·exact .inl h3
  rw [this];rfl
theorem YdI.shelf {y:Yd} (h:YdI y) {sh:List (List En)} (h4:sh.length=4) (hs:∀l∈sh,SrtP l) (he:EnsI y.runs y.seq sh.flatten) (hl:sh.flatten.length≤y.shelf.flatten.length):YdI ⟨y.now,y.seq,sh,y.runs⟩:=
 ⟨h.now,h.seq,h4,hs,h.rns,he,by have:=h.room;dsimp only;omega⟩
theorem YdI.swept {y:Yd} (h:YdI y) (k:Int):YdI (zK y k):=by
 unfold zK;split
 ·rename_i hk
  obtain ⟨n,rfl⟩:=Int.eq_ofNat_of_zero_le hk.1;obtain ⟨l,hl⟩:=je (show n<y.shelf.length by omega)
  rw [Int.toNat_natCast,hl,Option.getD_some];obtain ⟨rest,p1,p2⟩:=zk hl (l.filter (jN y));refine h.shelf (by rw [List.length_set];exact h.four) (fun m hm=>?_) (((h.ens.perm p1).sweep h.rns.eight h.rns.ids).perm p2.symm) ?_
  ·rcases List.mem_or_eq_of_mem_set hm with hm|rfl
   ·exact h.sorted m hm
   ·exact (h.sorted l (List.mem_of_getElem? hl)).sublist List.filter_sublist
  ·have a1:=p1.length_eq
   have a2:=p2.length_eq;rw [List.length_append] at a1 a2;have:=List.length_filter_le (jN y) l;omega
 ·exact h
theorem YdI.flat_le {y:Yd} (h:YdI y):y.shelf.flatten.length≤40:=by
 have:=jc6 h.rns.right;have:=h.room;omega
theorem jnD {sh:List (List En)} {l:List En} {k:Nat} (h:sh[k]?=some l):l.length≤sh.flatten.length:=(List.sublist_flatten_of_mem (List.mem_of_getElem? h)).length_le
theorem YdI.pollV {z:Yd} {hm v:Nat} (h:YdI z) (hv:v<4) (hh:hm<4) (hne:v≠hm):YdI (pollV z hm v):=by
 obtain ⟨l,hl⟩:=je (show v<z.shelf.length by rw [h.four];exact hv)
 obtain ⟨a,ha⟩:=je (show hm<z.shelf.length by rw [h.four];exact hh)
 obtain ⟨e1,e2⟩:=jij hl ha hne;have hS:=h.swept v;rw [e1] at hS;rw [e2];have hvl:v<z.shelf.length:=(List.getElem?_eq_some_iff.1 hl).1;have g1:(z.shelf.set v (l.filter (jN z)))[v]?=some (l.filter (jN z)):=List.getElem?_set_self hvl;have g2:(z.shelf.set v (l.filter (jN z)))[hm]?=some a:=by rw [List.getElem?_set_ne hne];exact ha
 generalize hL:l.filter (jN z)=L at*;obtain ⟨rest,p1,p2⟩:=zk g1 (jav L);have g3:((z.shelf.set v L).set v (jav L))[hm]?=some a:=by rw [List.getElem?_set_ne hne];exact g2
 obtain ⟨rest2,p3,p4⟩:=zk g3 (qa a (vl L));rw [List.set_set] at p2 p3 p4;have hfl:=hS.flat_le
 have hsm:a.length+(vl L).length≤80:=by
  have b1:a.length≤(z.shelf.set v L).flatten.length:=jnD g2;have b2:L.length≤(z.shelf.set v L).flatten.length:=jnD g1;have b3:(vl L).length≤L.length:=by simp only [vl,List.length_take];omega
  dsimp only at hfl;omega
 have hmg:qa a (vl L)=(vl L).foldl jb2 a:=by rw [qa,if_neg (by omega)]
 have hp:(z.shelf.set v L).flatten.Perm ((z.shelf.set v (jav L)).set hm (qa a (vl L))).flatten:=by
  rw [hmg];have hLs:(vl L++jav L)=L:=by simp [vl,jav]
  have q1:(z.shelf.set v L).flatten.Perm (vl L++(a++rest2)):=by
   refine p1.trans ?_
   conv=>lhs;rw [←hLs]
   rw [List.append_assoc];exact List.Perm.append_left _ (p2.symm.trans p3)
  refine q1.trans ?_;rw [hmg] at p4;refine List.Perm.trans ?_ p4.symm;rw [←List.append_assoc];refine List.Perm.append_right _ ?_;exact (List.perm_append_comm).trans (jiO (vl L) a).symm
 have hE:=hS.ens.perm hp;refine h.shelf (by rw [List.length_set,List.length_set];exact h.four) (fun m hm'=>?_) hE ?_
 ·rcases List.mem_or_eq_of_mem_set hm' with hm'|rfl
  ·rcases List.mem_or_eq_of_mem_set hm' with hm'|rfl
   ·exact h.sorted m hm'
   ·exact (hS.sorted L (List.mem_of_getElem? g1)).sublist (List.drop_sublist _ _)
  ·rw [hmg]
   refine jpN (hS.sorted a (List.mem_of_getElem? g2)) ?_;have hap:=hE.apart;have hp4:=(p4.map (·.seq)).nodup_iff.1 hap
   rw [List.map_append] at hp4;have hp5:=(List.nodup_append.1 hp4).1;rw [hmg] at hp5;exact ((jiO (vl L) a).map (·.seq)).nodup_iff.1 hp5
 ·rw [←hp.length_eq]
  have:(z.shelf.set v L).flatten.length≤z.shelf.flatten.length:=by
   obtain ⟨r3,c1,c2⟩:=zk hl L;have c1:=c1.length_eq;have c2:=c2.length_eq;rw [List.length_append] at c1 c2;have:L.length≤l.length:=by rw [←hL];exact List.length_filter_le _ _
   omega
  exact this
theorem YdI.pollF {hm:Nat} (hh:hm<4):∀(vs:List Int) (z:Yd),(∀v∈vs,∃n:Nat,v=n∧n<4∧n≠hm)→YdI z→YdI (pollF hm vs z)
 |[],z,_,h=>h
 |v::vs,z,hv,h=>by
  unfold Go.Proofs.YtmnpailnelmpiaaGreat.pollF;split
  ·obtain ⟨n,rfl,h4,hne⟩:=hv v (by simp)
   exact YdI.pollF hh vs _ (fun w hw=>hv w (by simp [hw])) (h.pollV h4 hh hne)
  ·exact h
theorem YdI.pollZ {y:Yd} (h:YdI y) {hm:Nat} (hh:hm<4) (draw:Int):YdI (pollZ y hm draw):=by
 obtain ⟨a,b,c,e,ha,hb,hc,na,nb,nc⟩:=jh9 hh draw;unfold Go.Proofs.YtmnpailnelmpiaaGreat.pollZ;rw [e];refine YdI.pollF hh _ _ (fun v hv=>?_) (h.swept hm)
 simp only [List.mem_cons,List.not_mem_nil,or_false] at hv;rcases hv with rfl|rfl|rfl
 ·exact ⟨a,rfl,ha,na⟩
 ·exact ⟨b,rfl,hb,nb⟩
 ·exact ⟨c,rfl,hc,nc⟩
theorem jvc {r:Rn} {t:Nat} {x:Tk} {now:Int} (h:RunOkP r) (hx:r.tasks[t]?=some x) (hs:x.state=2) (hn:0≤now∧now≤999999980):RunOkP (kP r t x now)∧(kP r t x now).tasks=r.tasks.set t ⟨3,x.need,x.tri+1,now+r.plan.wait⟩:=by
 obtain ⟨n,hn',hn1,h12,h30,hes,hnd,hprio,hmost,hwait⟩:=jck h.plan;have ht:=(List.getElem?_eq_some_iff.1 hx).1;have hx1:=taskB_iff.1 (h.tasks t x hx);have hxl:=hx1.2.2.2.2
 have hxl:x.need=0∧x.tri<r.plan.most:=by
  simp only [qT,hs] at hxl;simpa using hxl
 have hx3:=hx1.2.2.1;have w1:IntKind.i64.wrap (x.tri+1)=x.tri+1:=jg (by omega) (by omega)
 have w2:IntKind.i64.wrap (now+r.plan.wait)=now+r.plan.wait:=jg (by omega) (by omega)
 have e:kP r t x now=⟨r.id,r.plan,r.state,r.tasks.set t ⟨3,x.need,x.tri+1,now+r.plan.wait⟩⟩:=by rw [kP,jsC,w1,w2]
 have hst:=h.state;have c2:=jqw (s:=2) hx hs;have hl:=jba h
 have hs1:r.state=1:=by
  unfold kJ at hl;split at hl
  ·assumption
  ·omega
 rw [hs1] at hst
 obtain ⟨c4,c5,c6⟩:cS 4 r.tasks≠r.tasks.length∧cS 5 r.tasks=0∧cS 6 r.tasks=0:=by
  unfold jf6 at hst;split at hst
  ·cases hst
  ·rename_i g
   split at hst
   ·cases hst
   ·split at hst
    ·cases hst
    ·split at hst
     ·rename_i g2;exact ⟨g,g2.1,g2.2⟩
     ·cases hst
 have hN:∀j:Int,jat r.plan (r.tasks.set t ⟨3,x.need,x.tri+1,now+r.plan.wait⟩) j=jat r.plan r.tasks j:=jby (joj hx (by simp [hs]))
 have d5:cS 5 (r.tasks.set t ⟨3,x.need,x.tri+1,now+r.plan.wait⟩)=0:=jdw (jg7 (q:=fun s=>s≠5) (by simp) fun y hy=>by obtain ⟨k,hk,rfl⟩:=List.getElem_of_mem hy;exact jqx c5 (List.getElem?_eq_getElem hk))
 have d6:cS 6 (r.tasks.set t ⟨3,x.need,x.tri+1,now+r.plan.wait⟩)=0:=jdw (jg7 (q:=fun s=>s≠6) (by simp) fun y hy=>by obtain ⟨k,hk,rfl⟩:=List.getElem_of_mem hy;exact jqx c6 (List.getElem?_eq_getElem hk))
 have d3:=jqw (s:=3) (List.getElem?_set_self ht:(r.tasks.set t ⟨3,x.need,x.tri+1,now+r.plan.wait⟩)[t]?=some _) rfl;have hsts:∀z∈r.tasks.set t ⟨3,x.need,x.tri+1,now+r.plan.wait⟩,1≤z.state∧z.state≤6:=jg7 (q:=fun s=>1≤s∧s≤6) (by simp) h.st
 have hsum:=jcb hsts _ (Nat.le_refl _);change cS 1 _+cS 2 _+cS 3 _+cS 4 _+cS 5 _+cS 6 _=_ at hsum;rw [e];refine ⟨⟨h.id,h.plan,by dsimp only;rw [List.length_set];exact h.len,fun j z hz=>?_,?_,by dsimp only;omega⟩,rfl⟩
 ·dsimp only at hz⊢
  rw [List.getElem?_set] at hz;by_cases ej:t=j
  ·subst ej
   rw [if_pos rfl,if_pos ht] at hz;obtain rfl:=Option.some.inj hz;rw [taskB_iff,hN];refine ⟨by simp,hx1.2.1,by dsimp only;omega,?_,?_⟩
   ·simp only [ja0,if_true,inB,decide_eq_true_eq];omega
   ·have:1≤x.tri+1:=by omega
    simp [qT,hxl.1,this]
  ·rw [if_neg ej] at hz
   have:=taskB_iff.1 (h.tasks j z hz);rw [taskB_iff,hN];exact this
 ·dsimp only
  rw [hs1,jf6,if_neg (by omega),if_neg (by omega),if_neg (by omega),if_pos ⟨d5,d6⟩]
theorem YdI.hand {Z:Yd} {hm:Nat} {e:En} {l:List En} {k t:Nat} {r:Rn} {x:Tk} (h:YdI Z) (ha:Z.shelf[hm]?=some (e::l)) (hrk:runAt Z e.run=k) (hr:Z.runs[k]?=some r) (het:e.task=t) (hx:r.tasks[t]?=some x) (hs:x.state=2):YdI (jj8 Z hm e l):=by
 have hR:=h.rns.right r (List.mem_of_getElem? hr);obtain ⟨hok,htk⟩:=jvc hR hx hs h.now;have hk:=(List.getElem?_eq_some_iff.1 hr).1;have ht:=(List.getElem?_eq_some_iff.1 hx).1
 have hH:jj8 Z hm e l=⟨Z.now,Z.seq,Z.shelf.set hm l,Z.runs.set k (kP r t x Z.now)⟩:=by
  simp only [jj8,hrk,het,Int.toNat_natCast,hr,hx,Option.getD_some]
 have hrid:r.id=e.run:=by
  have hneg:¬runAt Z e.run<0:=by rw [hrk];omega
  obtain ⟨k',r',h1,h2,h3,_⟩:=qN hneg;rw [hrk] at h1;obtain rfl:k=k':=by omega
  rw [hr] at h2;obtain rfl:=Option.some.inj h2;exact h3
 obtain ⟨rest,p1,p2⟩:=zk ha l;have hE0:=h.ens.perm p1;have hone:=hE0.one r (List.mem_of_getElem? hr) t x hx hs
 have hcnt:zD r.id t (l++rest)=0:=by
  have:zD r.id t ((e::l)++rest)=zD r.id t (l++rest)+1:=by
   simp [zD,hrid,het]
  omega
 have hsub:(l++rest).Sublist ((e::l)++rest):=List.Sublist.append (List.sublist_cons_self _ _) (List.Sublist.refl _);have hids:=jom (r2:=kP r t x Z.now) hr rfl
 have hget:∀(j:Nat) (z w:Tk),r.tasks[j]?=some z→(kP r t x Z.now).tasks[j]?=some w→(j=t∧w=⟨3,x.need,x.tri+1,Z.now+r.plan.wait⟩)∨(j≠t∧w=z):=fun j z w hz hw=>by
  rw [htk,List.getElem?_set] at hw;by_cases ej:t=j
  ·subst ej
   rw [if_pos rfl,if_pos ht] at hw;exact .inl ⟨rfl,(Option.some.inj hw).symm⟩
  ·rw [if_neg ej,hz] at hw
   exact .inr ⟨fun g=>ej g.symm,(Option.some.inj hw).symm⟩
 have hlenT:(kP r t x Z.now).tasks.length=r.tasks.length:=by rw [htk,List.length_set]
 have hgs:∀(j:Nat) (w:Tk),(kP r t x Z.now).tasks[j]?=some w→∃z,r.tasks[j]?=some z∧((j=t∧w=⟨3,x.need,x.tri+1,Z.now+r.plan.wait⟩)∨(j≠t∧w=z)):=fun j w hw=>by
  obtain ⟨z,hz⟩:=je (show j<r.tasks.length by rw [←hlenT];exact (List.getElem?_eq_some_iff.1 hw).1)
  exact ⟨z,hz,hget j z w hz hw⟩
 obtain ⟨n,hn',hn1,h12,h30,hes,hnd,hprio,hmost,hwait⟩:=jck hR.plan
 have hRn:RnsI Z.now (Z.runs.set k (kP r t x Z.now)):=by
  refine ⟨by rw [List.length_set];exact h.rns.eight,fun r' hr'=>?_,by rw [hids];exact h.rns.ids,fun r' hr' j w hw hst=>?_,fun r' hr' w hw hst=>?_⟩
  ·rcases jcg hr' with rfl|⟨j,_,hj⟩
   ·exact hok
   ·exact h.rns.right r' (List.mem_of_getElem? hj)
  ·rcases jcg hr' with rfl|⟨i,_,hi⟩
   ·obtain ⟨z,hz,⟨rfl,rfl⟩|⟨_,rfl⟩⟩:=hgs j w hw
    ·show Z.now+1≤Z.now+r.plan.wait∧Z.now+r.plan.wait≤Z.now+r.plan.wait
     omega
    ·exact h.rns.til r (List.mem_of_getElem? hr) j _ hz hst
   ·exact h.rns.til r' (List.mem_of_getElem? hi) j w hw hst
  ·rcases jcg hr' with rfl|⟨i,_,hi⟩
   ·obtain ⟨j,hj⟩:=List.getElem?_of_mem hw
    obtain ⟨z,hz,⟨rfl,rfl⟩|⟨_,rfl⟩⟩:=hgs j w hj
    ·simp at hst
    ·exact h.rns.tri r (List.mem_of_getElem? hr) _ (List.mem_of_getElem? hz) hst
   ·exact h.rns.tri r' (List.mem_of_getElem? hi) w hw hst
 have hE:EnsI (Z.runs.set k (kP r t x Z.now)) Z.seq (l++rest):=by
  refine ⟨fun f hf=>hE0.range f (hsub.subset hf),hE0.apart.sublist (hsub.map _),fun f hf=>?_,fun r' hr' j w hw hst=>?_⟩
  ·obtain ⟨r',hr',j,z,h1,h2,h3,h4⟩:=hE0.own f (hsub.subset hf)
   obtain ⟨i,hi⟩:=List.getElem?_of_mem hr';by_cases eik:k=i
   ·subst eik
    rw [hr] at hi;obtain rfl:=Option.some.inj hi
    have hjt:j≠t:=fun e=>by
     subst e;have:=jyU hf h1 h2;omega
    refine ⟨kP r t x Z.now,List.mem_of_getElem? (List.getElem?_set_self hk),j,z,h1,h2,?_,h4⟩;rw [htk,List.getElem?_set_ne (fun e=>hjt e.symm)];exact h3
   ·exact ⟨r',List.mem_of_getElem? (i:=i) (by rw [List.getElem?_set_ne eik];exact hi),j,z,h1,h2,h3,h4⟩
  ·have hcons:∀(id u:Int),¬(e.run=id∧e.task=u)→zD id u ((e::l)++rest)=zD id u (l++rest):=fun id u g=>by
    have:(e.run==id&&e.task==u)=false:=by
     simp only [Bool.and_eq_false_iff,beq_eq_false_iff_ne,ne_eq];by_cases h3:e.run=id
     ·exact .inr fun h4=>g ⟨h3,h4⟩
     ·exact .inl h3
    simp [zD,List.filter_cons,this]
   rcases jcg hr' with rfl|⟨i,hik,hi⟩
   ·obtain ⟨z,hz,⟨rfl,rfl⟩|⟨hjt,rfl⟩⟩:=hgs j w hw
    ·simp at hst
    ·have:=hE0.one r (List.mem_of_getElem? hr) j _ hz hst
     rw [hcons _ _ (fun g=>hjt (by have:=g.2;omega))] at this
     exact this
   ·have:=hE0.one r' (List.mem_of_getElem? hi) j w hw hst
    rw [hcons _ _ (fun g=>by
     have e1:r.id=r'.id:=hrid.trans g.1;exact hik (jp8 h.rns.ids hi hr e1.symm))] at this
    exact this
 have hready:cS 2 r.tasks≤cS 2 (kP r t x Z.now).tasks+1:=by
  simp only [cS,qB,vN,List.length_map,hlenT]
  have h1:∀n,((List.range n).filter fun (j:Nat)=>stT r.tasks (j:Int)==2).length≤((List.range n).filter fun (j:Nat)=>stT (kP r t x Z.now).tasks (j:Int)==2).length+if t<n then 1 else 0:=fun n=>by
   induction n with
   |zero=>simp
   |succ n ih=>
    rw [List.range_succ,List.filter_append,List.filter_append,List.length_append,List.length_append];by_cases ent:n=t
    ·subst ent
     simp only [List.filter_cons,List.filter_nil];split<;>split<;>simp_all<;>omega
    ·have e3:stT (kP r t x Z.now).tasks (n:Int)=stT r.tasks (n:Int):=by
      simp only [stT,Int.toNat_natCast,htk,List.getElem?_set_ne (fun e=>ent e.symm)]
     simp only [List.filter_cons,List.filter_nil,e3];split<;>simp<;>split at ih<;>split<;>omega
  have:=h1 r.tasks.length;rw [if_pos ht] at this;exact this
 have t1:=qW (f:=kJ) (kP r t x Z.now) hr;have t2:=qW (f:=fun r:Rn=>cS 2 r.tasks) (kP r t x Z.now) hr
 have hlv:kJ (kP r t x Z.now)=kJ r:=by
  have:(kP r t x Z.now).state=r.state:=rfl;simp only [kJ,this,hlenT]
 have a1:=p1.length_eq;have a2:=p2.length_eq;rw [List.length_append] at a1 a2;rw [List.length_cons] at a1;have hroom:=h.room;rw [hH];refine ⟨h.now,h.seq,by rw [List.length_set];exact h.four,fun m hm'=>?_,hRn,hE.perm p2.symm,?_⟩
 ·rcases List.mem_or_eq_of_mem_set hm' with hm'|rfl
  ·exact h.sorted m hm'
  ·exact (h.sorted _ (List.mem_of_getElem? ha)).sublist (List.sublist_cons_self _ _)
 ·simp only [qr] at hroom⊢
  omega
theorem YdI.poll {y:Yd} (h:YdI y) (worker draw:Int):YdI (zV y worker draw):=by
 unfold zV;split
 ·exact h
 ·rename_i hc
  have hok:jC y=true:=by
   cases h:jC y with
   |true=>rfl
   |false=>exact absurd (.inl h) hc
  have hw:0≤worker∧worker≤99:=by
   refine Classical.byContradiction fun h=>hc (.inr h)
  have hh4:(worker.tmod 4).toNat<4:=by rw [Int.tmod_eq_emod_of_nonneg hw.1];omega
  have hI:=jth (yard_iff.1 hok) hh4 draw;have hZ:=h.pollZ hh4 draw;split
  ·exact hZ
  ·rename_i e l he
   generalize (worker.tmod 4).toNat=hm at*
   have ha:(Go.Proofs.YtmnpailnelmpiaaGreat.pollZ y hm draw).shelf[hm]?=some (e::l):=by
    rw [jiP] at he;cases hs:(Go.Proofs.YtmnpailnelmpiaaGreat.pollZ y hm draw).shelf[hm]? with
    |none=>rw [hs] at he;simp at he
    |some x=>rw [hs,Option.getD_some] at he;rw [he]
   generalize Go.Proofs.YtmnpailnelmpiaaGreat.pollZ y hm draw=Z at*;obtain ⟨k,t,r,x,hrk,hr,het,hx,hxs⟩:=jl6 (hI.frs _ ha e (by simp))
   rw [←hI.runs] at hr;have hrz2:runAt Z e.run=(k:Int):=by rw [←hrk];unfold runAt;rw [hI.runs]
   exact hZ.hand ha hrz2 hr het hx hxs
theorem YdI.do {y:Yd} (h:YdI y) (d:Dd):YdI (doY y d):=by
 unfold doY
 repeat' split
 ·exact h
 ·exact h.sub _ _
 ·exact h.poll _ _
 ·exact h.comp _ _ _
 ·exact h.fail _ _ _
 ·exact h.tick
 ·exact h.cancel _
 ·exact h.forget _
 ·exact h.rest
end Go.Proofs.YtmnpailnelmpiaaGreat
