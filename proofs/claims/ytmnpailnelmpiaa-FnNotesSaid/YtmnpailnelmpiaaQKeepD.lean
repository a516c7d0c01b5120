/- Parts. -/
import Derived.Test.YtmnpailnelmpiaaQKeepA
set_option linter.unusedSimpArgs false
set_option linter.unusedVariables false
namespace Go.Proofs.Ytmnpailnelmpiaa
open Go.RowKit Go.Sort
theorem jdF {r:Rn} (h:RunOkP r) (t:Int) (hr:vS r t=true):jmp r (jK r t):=by
 obtain ⟨k,x,rfl,hx,hs,_⟩:=jb0 hr;rw [qJ hx hr];exact jp4 h hx hs
theorem jla {r:Rn} (h:RunOkP r) (h0:∀z∈r.tasks,z.state=1→z.tri=0) (t:Int) (hr:vS r t=true):jmp r (qV r t):=by
 obtain ⟨k,x,rfl,hx,hs,_⟩:=jb0 hr;rw [jha hx hr];exact jsV h hx hs h0
theorem jwB {y:Yd} (h:YdI y) {k:Nat} {t:Int} {r:Rn} (hr:y.runs[k]?=some r) (ht:0≤t) (hs:stT r.tasks t=3):vS r t=true:=by
 obtain ⟨n,rfl⟩:=Int.eq_ofNat_of_zero_le ht;cases hx:r.tasks[n]? with
 |none=>
  have:stT r.tasks (n:Int)=0:=by simp only [stT,Int.toNat_natCast,hx,Option.getD_none];rfl
  omega
 |some x=>
  rw [kq hx] at hs;exact jjH (h.rns.right r (List.mem_of_getElem? hr)) hx hs
theorem YdI.failK {y:Yd} (h:YdI y) (k t:Nat):YdI (failK y k t):=by
 unfold Go.Proofs.Ytmnpailnelmpiaa.failK;split
 ·rename_i hs
  cases hk:y.runs[k]? with
  |none=>
   rw [hk] at hs;simp [stT] at hs;cases hs
  |some r=>
   rw [hk,Option.getD_some] at hs;rw [Option.getD_some];exact h.turn hk (jdF (h.rns.right r (List.mem_of_getElem? hk)) _ (jwB h hk (Int.natCast_nonneg _) (by simpa using hs)))
 ·exact h
theorem joT {y:Yd} {id task:Int} {x:Tk} (h:zL y id task=some x):∃(k t:Nat) (r:Rn),runAt y id=k∧y.runs[k]?=some r∧r.id=id∧task=t∧r.tasks[t]?=some x:=by
 unfold zL at h;split at h
 ·cases h
 ·rename_i hneg
  obtain ⟨k,r,hrk,hr,hid,_⟩:=vB hneg;rw [hrk,Int.toNat_natCast,hr] at h;dsimp only at h;split at h
  ·rename_i h0
   obtain ⟨t,rfl⟩:=Int.eq_ofNat_of_zero_le h0;exact ⟨k,t,r,hrk,hr,hid,rfl,by simpa using h⟩
  ·cases h
theorem jsx {y:Yd} {id task tri:Int} (h:ja2 y id task tri=true):∃(k t:Nat) (r:Rn) (x:Tk),runAt y id=k∧y.runs[k]?=some r∧r.id=id∧task=t∧r.tasks[t]?=some x∧x.state=3∧x.tri=tri:=by
 unfold ja2 at h;cases ht:zL y id task with
 |none=>rw [ht] at h;simp at h
 |some x=>
  rw [ht] at h;simp only [Bool.and_eq_true,beq_iff_eq] at h;obtain ⟨k,t,r,h1,h2,h3,h4,h5⟩:=joT ht;exact ⟨k,t,r,x,h1,h2,h3,h4,h5,h.1,h.2⟩
theorem YdI.comp {y:Yd} (h:YdI y) (id task tri:Int):YdI (jiB y id task tri):=by
 unfold jiB;split
 ·rename_i hc
  obtain ⟨hok,hneg⟩:=jtu hc
  have hh:ja2 y id task tri=true:=by
   obtain ⟨hok,hneg⟩:=jtu hc;cases hq:ja2 y id task tri with
   |true=>rfl
   |false=>rw [jgE,if_neg (by rw [jdx hok];decide),if_neg hneg,if_pos hq] at hc;cases hc
  obtain ⟨k,t,r,x,hrk,hr,_,rfl,hx,hs,_⟩:=jsx hh;rw [hrk,Int.toNat_natCast,hr,Option.getD_some];have hR:=h.rns.right r (List.mem_of_getElem? hr);exact h.turn hr (jla hR (h.rns.tri r (List.mem_of_getElem? hr)) _ (jjH hR hx hs))
 ·exact h
theorem YdI.fail {y:Yd} (h:YdI y) (id task tri:Int):YdI (jiz y id task tri):=by
 unfold jiz;split
 ·rename_i hc
  have hh:ja2 y id task tri=true:=by
   obtain ⟨hok,hneg⟩:=jtu hc;cases hq:ja2 y id task tri with
   |true=>rfl
   |false=>rw [jgE,if_neg (by rw [jdx hok];decide),if_neg hneg,if_pos hq] at hc;cases hc
  obtain ⟨k,t,r,x,hrk,hr,_,rfl,hx,hs,_⟩:=jsx hh;rw [hrk,Int.toNat_natCast,hr,Option.getD_some];have hR:=h.rns.right r (List.mem_of_getElem? hr);exact h.turn hr (jdF hR _ (jjH hR hx hs))
 ·exact h
theorem YdI.restT {y:Yd} (h:YdI y) (k:Nat):∀t,YdI (restT y k t)
 |0=>h
 |t+1=>(YdI.restT h k t).failK k t
theorem YdI.restR {y:Yd} (h:YdI y):∀k,YdI (restR y k)
 |0=>h
 |k+1=>(YdI.restR h k).restT k _
theorem YdI.rest {y:Yd} (h:YdI y):YdI (jif y):=by
 unfold jif;split
 ·exact h.restR _
 ·exact h
def SubR (y z:Yd):Prop:=∀(k t:Nat) (r':Rn) (x:Tk),z.runs[k]?=some r'→r'.tasks[t]?=some x→x.state=3→∃r,y.runs[k]?=some r∧r.id=r'.id∧r.plan=r'.plan∧r.tasks[t]?=some x
theorem SubR.refl (y:Yd):SubR y y:=fun k t r x hr hx _=>⟨r,hr,rfl,rfl,hx⟩
theorem SubR.trans {x y z:Yd} (h:SubR x y) (h':SubR y z):SubR x z:=fun k t r u hr hu hs=>by
 obtain ⟨r1,h1,h2,h3,h4⟩:=h' k t r u hr hu hs;obtain ⟨r2,g1,g2,g3,g4⟩:=h k t r1 u h1 h4 hs;exact ⟨r2,g1,g2.trans h2,g3.trans h3,g4⟩
theorem SubR.failK (y:Yd) (k t:Nat):SubR y (failK y k t):=by
 unfold Go.Proofs.Ytmnpailnelmpiaa.failK;split
 ·intro j i r' x hr' hx hs
  rw [ja9,List.getElem?_set] at hr';by_cases e:k=j
  ·subst e
   rw [if_pos rfl] at hr';split at hr'
   ·rename_i hk
    obtain ⟨r,hr⟩:=je hk;rw [hr,Option.getD_some] at hr';obtain rfl:=Option.some.inj hr';have hi:=jc9 r t;exact ⟨r,hr,hi.1.symm,hi.2.symm,jiY hx hs⟩
   ·simp at hr'
  ·rw [if_neg e] at hr';exact ⟨r',hr',rfl,rfl,hx⟩
 ·exact .refl y
theorem jsL {y:Yd} (h:YdI y) {k t:Nat} {r':Rn} {x:Tk} (hr:(failK y k t).runs[k]?=some r') (hx:r'.tasks[t]?=some x):x.state≠3:=by
 intro hs;obtain ⟨r,h1,_,_,h4⟩:=SubR.failK y k t k t r' x hr hx hs;unfold Go.Proofs.Ytmnpailnelmpiaa.failK at hr;have hst:stT r.tasks (t:Int)=3:=by rw [kq h4,hs]
 rw [h1,Option.getD_some,hst,if_pos (by decide),ja9,List.getElem?_set_self (List.getElem?_eq_some_iff.1 h1).1] at hr
 obtain rfl:=Option.some.inj hr;have hR:=h.rns.right r (List.mem_of_getElem? h1);have hrb:=jjH hR h4 hs;rw [qJ h4 hrb,vM] at hx;have ht:=(List.getElem?_eq_some_iff.1 h4).1;split at hx
 ·dsimp only at hx
  rw [List.getElem?_set_self ht] at hx;have:=congrArg Tk.state (Option.some.inj hx);dsimp only at this;omega
 ·dsimp only at hx
  have e:r.tasks.length=(r.tasks.set t ⟨5,x.need,x.tri,0⟩).length:=by rw [List.length_set]
  rw [e] at hx;obtain ⟨u,hu,he⟩:=jdR hx;rw [List.getElem?_set_self ht] at hu;rw [←Option.some.inj hu] at he;have:=congrArg Tk.state he;simp [jx] at this;omega
theorem jxv {y:Yd} {r:Rn} {t:Nat} {x:Tk} (hr:r∈y.runs) (hx:r.tasks[t]?=some x) (hs:x.state=3) (hl:x.til≤y.now+1):[r.id,(t:Int),x.tri]∈qq y:=by
 have key:∀(ts:List Tk) (k j:Nat),ts[j]?=some x→[r.id,((k+j:Nat):Int),x.tri]∈zg y.now r k ts:=by
  intro ts
  induction ts with
  |nil=>intro k j h;simp at h
  |cons a ts ih=>
   intro k j h;rw [zg];cases j with
   |zero=>
    simp at h;subst h;refine List.mem_append.2 (.inl ?_)
    have:jce y.now r.id a k=some [r.id,(k:Int),a.tri]:=by
     rw [jce,if_pos];simp only [hs,beq_self_eq_true,Bool.true_and,decide_eq_true_eq];omega
    rw [this];simp
   |succ j=>
    refine List.mem_append.2 (.inr ?_);have:=ih (k+1) j (by simpa using h)
    rwa [show k+1+j=k+(j+1) by omega] at this
 have:=key r.tasks 0 t hx;rw [Nat.zero_add] at this;exact List.mem_flatMap.2 ⟨r,hr,this⟩
theorem jsM (y:Yd) (k t:Nat):(failK y k t).runs.map (·.id)=y.runs.map (·.id):=by
 unfold Go.Proofs.Ytmnpailnelmpiaa.failK;split
 ·rw [ja9]
  cases hr:y.runs[k]? with
  |none=>rw [List.set_eq_of_length_le (List.getElem?_eq_none_iff.1 hr)]
  |some r=>rw [Option.getD_some,jmD hr (jc9 _ _).1]
 ·rfl
theorem YdI.tickI {y:Yd} (h:YdI y):∀i,i≤(qq y).length→YdI (tickI y i)∧(tickI y i).runs.map (·.id)=y.runs.map (·.id)∧(tickI y i).now=y.now
 |0,_=>⟨h,rfl,rfl⟩
 |i+1,hi=>by
  obtain ⟨h1,h2,h3⟩:=YdI.tickI h i (by omega)
  obtain ⟨l,hl⟩:=je (show i<(qq y).length by omega)
  rw [jeL hl,jmx];refine ⟨h1.failK _ _,?_,?_⟩
  ·rw [←h2];exact jsM _ _ _
  ·rw [←h3]
   unfold Go.Proofs.Ytmnpailnelmpiaa.failK;split<;>rfl
theorem jny (y:Yd) (i:Nat):∀d:Nat,i+d≤(qq y).length→SubR (tickI y i) (tickI y (i+d)):=by
 intro d
 induction d with
 |zero=>intro _;exact .refl _
 |succ d ih=>
  intro h;obtain ⟨l,hl⟩:=je (show i+d<(qq y).length by omega)
  have h1:=ih (by omega)
  have e:tickI y (i+(d+1))=failK (tickI y (i+d)) (runAt (tickI y (i+d)) (l.headD 0)).toNat (l.tail.headD 0).toNat:=by
   rw [←Nat.add_assoc,jeL hl,jmx]
  rw [e];exact h1.trans (.failK _ _ _)
theorem jqH {y:Yd} (h:YdI y):∀r'∈(tickI y (qq y).length).runs,∀(t:Nat) (x:Tk),r'.tasks[t]?=some x→x.state=3→y.now+2≤x.til:=by
 intro r' hr' t x hx hs;refine Classical.byContradiction fun hlt=>?_
 obtain ⟨k,hk⟩:=List.getElem?_of_mem hr';have s0:=jny y 0 (qq y).length (by omega)
 rw [Nat.zero_add] at s0;obtain ⟨r,hr,hid,-,hx'⟩:=s0 k t r' x hk hx hs;have hr:y.runs[k]?=some r:=hr;obtain ⟨i,hi⟩:=List.getElem?_of_mem (jxv (List.mem_of_getElem? hr) hx' hs (by omega))
 have hil:=(List.getElem?_eq_some_iff.1 hi).1;have s1:=jny y (i+1) ((qq y).length-(i+1)) (by omega)
 rw [show i+1+((qq y).length-(i+1))=(qq y).length by omega] at s1
 obtain ⟨r1,hr1,hid1,-,hx1⟩:=s1 k t r' x hk hx hs;obtain ⟨hI,hids,-⟩:=h.tickI i (by omega)
 rw [jeL hi,jmx] at hr1
 obtain ⟨r2,hr2⟩:=je (show k<(tickI y i).runs.length by
  have:=congrArg List.length hids;simp only [List.length_map] at this;rw [this];exact (List.getElem?_eq_some_iff.1 hr).1)
 have hid2:r2.id=r.id:=by
  have e1:((tickI y i).runs.map (·.id))[k]?=some r2.id:=by rw [List.getElem?_map,hr2];rfl
  rw [hids,List.getElem?_map,hr] at e1;exact (Option.some.inj e1).symm
 have hat:=joI hI.rns.eight hI.rns.ids hr2;rw [hid2] at hat;have e1:([r.id,(t:Int),x.tri]:List Int).headD 0=r.id:=rfl;have e2:(([r.id,(t:Int),x.tri]:List Int).tail.headD 0).toNat=t:=by simp
 rw [e1,e2,hat,Int.toNat_natCast] at hr1;exact jsL hI hr1 hx1 hs
theorem YdI.tick {y:Yd} (h:YdI y):YdI (jg1 y):=by
 unfold jg1;split
 ·rename_i hc
  have hnow:y.now+1≤999999980:=by
   unfold jf8 at hc;split at hc
   ·cases hc
   ·split at hc
    ·cases hc
    ·omega
  obtain ⟨h1,h2,h3⟩:=h.tickI _ (Nat.le_refl _);have key:=jqH h;have hn:=h.now;generalize Go.Proofs.Ytmnpailnelmpiaa.tickI y (qq y).length=z at*
  exact ⟨⟨by dsimp only;omega,hnow⟩,h1.seq,h1.four,h1.sorted,⟨h1.rns.eight,h1.rns.right,h1.rns.ids,fun r hr t x hx hs=>by
   have k1:=key r hr t x hx hs;have k2:=h1.rns.til r hr t x hx hs;dsimp only;omega,h1.rns.tri⟩,h1.ens,h1.room⟩
 ·exact h
theorem jqF {y:Yd} {k:Nat} {r r2:Rn} (hr:y.runs[k]?=some r) (hn:vu r.tasks r2.tasks r2.tasks.length=[]) (h4:y.shelf.length=4):qi y k r2=jiV y k r2:=by
 obtain ⟨-,hs4⟩:=jyF r2.id;obtain ⟨l,hl⟩:=je (show shN r2.id<y.shelf.length by rw [h4];exact hs4)
 have e:y.shelf.set (shN r2.id) l=y.shelf:=by
  obtain ⟨h1,h2⟩:=List.getElem?_eq_some_iff.1 hl;rw [←h2];exact List.set_getElem_self h1
 rw [qi,jqs];simp only [hr,Option.getD_some,hn,hl,jkd,e,jiV]
theorem jr7 {r:Rn} (h:RunOkP r) (hs:r.state=1):jmp r (jcd r)∧vu r.tasks (jcd r).tasks (jcd r).tasks.length=[]:=by
 have e:jcd r=⟨r.id,r.plan,4,vi jx r.tasks r.tasks.length⟩:=by rw [jcd,if_pos (by simp [runOk_iff.2 h,hs])]
 have hst:=h.state;rw [hs] at hst
 obtain ⟨c4,c5,c6⟩:cS 4 r.tasks≠r.tasks.length∧cS 5 r.tasks=0∧cS 6 r.tasks=0:=by
  unfold jkV at hst;split at hst
  ·cases hst
  ·rename_i g
   split at hst
   ·cases hst
   ·split at hst
    ·cases hst
    ·split at hst
     ·rename_i g2;exact ⟨g,g2.1,g2.2⟩
     ·cases hst
 have hl:(vi jx r.tasks r.tasks.length).length=r.tasks.length:=zt
 have key:∀(j:Nat) (w:Tk),(vi jx r.tasks r.tasks.length)[j]?=some w→∃z,r.tasks[j]?=some z∧((z.state=4∧w=z)∨(z.state≠4∧w=⟨6,z.need,z.tri,0⟩)):=fun j w hw=>by
  obtain ⟨z,hz,rfl⟩:=jdR hw;have h5:z.state≠5:=jqu c5 hz;refine ⟨z,hz,?_⟩;by_cases h4:z.state=4
  ·exact .inl ⟨h4,by simp [jx,h4]⟩
  ·exact .inr ⟨h4,by simp [jx,h4,h5]⟩
 have hin:∀w∈vi jx r.tasks r.tasks.length,w.state=4∨w.state=6:=fun w hw=>by
  obtain ⟨j,hj⟩:=List.getElem?_of_mem hw;obtain ⟨z,_,⟨h1,rfl⟩|⟨_,rfl⟩⟩:=key j w hj
  ·exact .inl h1
  ·exact .inr rfl
 have hst4:∀b:Int,(stT (vi jx r.tasks r.tasks.length) b !=4)=(stT r.tasks b !=4):=by
  intro b;simp only [stT,vi,List.getElem?_mapIdx];cases hb:r.tasks[b.toNat]? with
  |none=>rfl
  |some z=>simp only [Option.map_some,Option.getD_some,if_pos (List.getElem?_eq_some_iff.1 hb).1,joe]
 have hN:=fun j=>jau (p:=r.plan) hst4 j
 have d4:cS 4 (vi jx r.tasks r.tasks.length)=cS 4 r.tasks:=by
  simp only [cS,ja4,vh,List.length_map,hl]
  congr 1
  refine List.filter_congr fun j _=>?_
  have:=hst4 (j:Int);cases h1:stT (vi jx r.tasks r.tasks.length) (j:Int)==4<;>cases h2:stT r.tasks (j:Int)==4<;>simp_all [bne]
 have d5:cS 5 (vi jx r.tasks r.tasks.length)=0:=jcl fun z hz=>by rcases hin z hz with g|g<;>omega
 have d1:cS 1 (vi jx r.tasks r.tasks.length)=0:=jcl fun z hz=>by rcases hin z hz with g|g<;>omega
 have d2:cS 2 (vi jx r.tasks r.tasks.length)=0:=jcl fun z hz=>by rcases hin z hz with g|g<;>omega
 have d3:cS 3 (vi jx r.tasks r.tasks.length)=0:=jcl fun z hz=>by rcases hin z hz with g|g<;>omega
 have hsum:=jba (fun z hz=>by rcases hin z hz with g|g<;>omega) _ (Nat.le_refl (vi jx r.tasks r.tasks.length).length)
 change cS 1 _+cS 2 _+cS 3 _+cS 4 _+cS 5 _+cS 6 _=_ at hsum;have hle:cS 4 r.tasks≤r.tasks.length:=by simp only [cS,ja4];exact jdC _ _ _
 have hnl:vu r.tasks (vi jx r.tasks r.tasks.length) (vi jx r.tasks r.tasks.length).length=[]:=jlr (fun z hz=>by rcases hin z hz with g|g<;>omega) _ (Nat.le_refl _)
 rw [e];refine ⟨⟨rfl,rfl,⟨h.id,h.plan,by dsimp only;rw [hl];exact h.len,fun j w hw=>?_,?_,by simp⟩,hl,fun j z w hz hw=>?_,?_⟩,hnl⟩
 ·dsimp only at hw⊢
  rw [taskB_iff,hN];obtain ⟨z,hz,⟨g1,rfl⟩|⟨g1,rfl⟩⟩:=key j w hw
  ·exact taskB_iff.1 (h.tasks j _ hz)
  ·have h3:=taskB_iff.1 (h.tasks j _ hz)
   exact ⟨by simp,h3.2.1,h3.2.2.1,rfl,by simp [vE]⟩
 ·dsimp only
  rw [jkV,if_neg (by omega),if_neg (by omega),if_pos ⟨d5,by omega,by omega⟩]
 ·obtain ⟨z',hz',⟨g1,rfl⟩|⟨g1,rfl⟩⟩:=key j w hw
  ·rw [hz] at hz'
   obtain rfl:=Option.some.inj hz';exact ⟨fun g=>by omega,fun g=>g,fun g=>by omega,fun _=>rfl,fun g=>⟨g,rfl⟩⟩
  ·rw [hz] at hz'
   obtain rfl:=Option.some.inj hz';exact ⟨fun _=>.inr rfl,fun _=>rfl,fun g=>by simp at g,fun g=>by simp at g,fun g=>by simp at g⟩
 ·have:=zT h
  dsimp only;rw [hnl,d2];have hlv:kH ⟨r.id,r.plan,4,vi jx r.tasks r.tasks.length⟩=0:=by simp [kH]
  rw [hlv,List.length_nil];omega
theorem YdI.cancel {y:Yd} (h:YdI y) (id:Int):YdI (vb y id):=by
 unfold vb;split
 ·rename_i hc
  unfold vo at hc;split at hc
  ·cases hc
  split at hc
  ·cases hc
  split at hc
  ·rename_i hneg hst
   obtain ⟨k,r,hrk,hr,-,-⟩:=vB hneg;rw [hrk,Int.toNat_natCast,hr,Option.getD_some] at hst⊢;obtain ⟨g1,g2⟩:=jr7 (h.rns.right r (List.mem_of_getElem? hr)) hst;rw [←jqF hr g2 h.four];exact h.turn hr g1
  ·cases hc
 ·exact h
theorem YdI.forget {y:Yd} (h:YdI y) (id:Int):YdI (je0 y id):=by
 unfold je0;split
 ·rename_i hc
  unfold je1 at hc;split at hc
  ·cases hc
  split at hc
  ·cases hc
  split at hc
  ·cases hc
  rename_i hneg hst;obtain ⟨k,r,hrk,hr,hid,-⟩:=vB hneg;rw [hrk,Int.toNat_natCast,hr,Option.getD_some] at hst;rw [hrk,Int.toNat_natCast];have hR:=h.rns.right r (List.mem_of_getElem? hr);have hfl:(y.shelf.map fun l=>l.filter (jkp id)).flatten=y.shelf.flatten.filter (jkp id):=by rw [List.filter_flatten]
  have hsub:∀x∈y.runs.eraseIdx k,x∈y.runs:=fun x hx=>List.mem_of_mem_eraseIdx hx
  have hne:∀x∈y.runs.eraseIdx k,x.id≠id:=fun x hx he=>by
   obtain ⟨j,hjk,hj⟩:=List.mem_eraseIdx_iff_getElem?.1 hx;exact hjk (joj h.rns.ids hj hr (he.trans hid.symm))
  have hstay:∀x∈y.runs,x.id≠id→x∈y.runs.eraseIdx k:=fun x hx he=>by
   obtain ⟨j,hj⟩:=List.getElem?_of_mem hx;refine List.mem_eraseIdx_iff_getElem?.2 ⟨j,fun e=>?_,hj⟩
   subst e;rw [hr] at hj;obtain rfl:=Option.some.inj hj;exact he hid
  have hr0:kH r=0:=by rw [kH,if_neg hst]
  have hc0:cS 2 r.tasks=0:=by have:=zT hR;omega
  have hE:EnsI (y.runs.eraseIdx k) y.seq (y.shelf.flatten.filter (jkp id)):=by
   refine ⟨fun e he=>h.ens.range e (List.mem_filter.1 he).1,(h.ens.apart).sublist ((List.filter_sublist).map _),fun e he=>?_,fun r' hr' t x hx hs=>?_⟩
   ·obtain ⟨he1,he2⟩:=List.mem_filter.1 he
    obtain ⟨r',hr',t,x,h1,h2,h3,h4⟩:=h.ens.own e he1;have:r'.id≠id:=by rw [←h1];simpa [jkp] using he2
    exact ⟨r',hstay r' hr' this,t,x,h1,h2,h3,h4⟩
   ·have hone:=h.ens.one r' (hsub r' hr') t x hx hs
    rw [←hone];simp only [zo,List.filter_filter]
    congr 1
    refine List.filter_congr fun e _=>?_
    have:=hne r' hr';by_cases g:e.run=r'.id
    ·simp [jkp,g,this]
    ·simp [g]
  have hlen:(y.shelf.flatten.filter (jkp id)).length≤y.shelf.flatten.length:=List.length_filter_le _ _
  have t1:∀f:Rn→Nat,qE f (y.runs.eraseIdx k)+f r=qE f y.runs:=fun f=>by
   obtain ⟨hk,e⟩:=List.getElem?_eq_some_iff.1 hr;have h1:y.runs=y.runs.take k++r::y.runs.drop (k+1):=by rw [←e];simp
   have h2:y.runs.eraseIdx k=y.runs.take k++y.runs.drop (k+1):=List.eraseIdx_eq_take_drop_succ _ _;rw [h2]
   conv=>rhs;rw [h1]
   simp only [qE,List.map_append,List.sum_append,List.map_cons,List.sum_cons];omega
  have t2:=t1 kH;have t3:=t1 fun r=>cS 2 r.tasks
  have hroom:=h.room;refine ⟨h.now,h.seq,by rw [List.length_map];exact h.four,fun l hl=>?_,⟨?_,fun r' hr'=>h.rns.right r' (hsub r' hr'),?_,fun r' hr'=>h.rns.til r' (hsub r' hr'),fun r' hr'=>h.rns.tri r' (hsub r' hr')⟩,by dsimp only;rw [hfl];exact hE,?_⟩
  ·obtain ⟨m,hm,rfl⟩:=List.mem_map.1 hl
   exact (h.sorted m hm).sublist List.filter_sublist
  ·have:=List.length_eraseIdx_le y.runs k
   have:=h.rns.eight;dsimp only;omega
  ·exact (h.rns.ids).sublist ((List.eraseIdx_sublist _ _).map _)
  ·dsimp only
   rw [hfl];simp only [jaI] at hroom⊢;omega
 ·exact h
end Go.Proofs.Ytmnpailnelmpiaa
