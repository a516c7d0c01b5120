/- Parts. -/
import Derived.Test.YtcehjhiglmifjaaGreatQDrawB
set_option linter.unusedSimpArgs false
set_option linter.unusedVariables false
set_option maxRecDepth 100000
namespace Go.Proofs.YtcehjhiglmifjaaGreat
open Go.RowKit Go.Sort
theorem juK (y:Yd) (k t:Nat):(failK y k t).now=y.now:=by unfold Go.Proofs.YtcehjhiglmifjaaGreat.failK;split<;>rfl
theorem jni (z:Yd) (k:Nat):∀t,(restT z k t).now=z.now
 |0=>rfl
 |t+1=>by rw [restT,juK,jni z k t]
theorem jnk (y:Yd):∀k,(restR y k).now=y.now
 |0=>rfl
 |k+1=>by rw [restR,jni,jnk y k]
theorem jnt (h:Nat):∀(vs:List Int) (z:Yd),(pollF h vs z).now=z.now
 |[],z=>rfl
 |v::vs,z=>by
  unfold pollF;split
  ·rw [jnt h vs];rfl
  ·rfl
theorem jru (y:Yd) (k:Int):(ze y k).now=y.now:=by unfold ze;split<;>rfl
theorem jns (y:Yd) (h:Nat) (d:Int):(pollZ y h d).now=y.now:=by rw [pollZ,jnt,jru]
theorem jBa (y:Yd) (d:Dd):(doY y d).now≤y.now+1:=by
 have h0:y.now≤y.now+1:=by omega
 unfold doY;split
 ·exact h0
 split
 ·unfold jeu;split<;>exact h0
 split
 ·unfold zQ
  split
  ·exact h0
  ·split
   ·rw [jns];exact h0
   ·change (pollZ _ _ _).now≤_
    rw [jns];exact h0
 split
 ·unfold jcF;split<;>exact h0
 split
 ·unfold jcD;split<;>exact h0
 split
 ·unfold vE
  split
  ·exact Int.le_refl _
  ·exact h0
 split
 ·unfold kQ;split<;>exact h0
 split
 ·unfold jau;split<;>exact h0
 ·unfold zG
  split
  ·rw [jnk];exact h0
  ·exact h0
theorem jlk (c:List UInt8):∀(n:Nat) {x:List Dd×Yd×Cu},(vz c n x).2.1.now≤x.2.1.now+n
 |0,x=>by rw [vz];omega
 |n+1,x=>by
  rw [vz];have h1:=jlk c n (x:=(x.1++[(qf c x.2.1 x.2.2).1],doY x.2.1 (qf c x.2.1 x.2.2).1,(qf c x.2.1 x.2.2).2));have h2:=jBa x.2.1 (qf c x.2.1 x.2.2).1;dsimp only at h1
  push_cast
  omega
theorem js4 {y:Yd} (h:YdI y) (hq:y.seq≤1000000000) (hn:y.now+1≤999999980):zE y=0:=by
 rw [zE,if_neg (by simp [zu (h.ok hq)]),if_neg (by omega)]
theorem jly {y:Yd} (hc:zE y=0):vE y=⟨y.now+1,(tickI y (kv y).length).seq,(tickI y (kv y).length).shelf,(tickI y (kv y).length).runs⟩:=by rw [vE,if_pos hc]
theorem jmS {y:Yd} (hc:zE y=0):SubR y (vE y):=by
 rw [jly hc];have:=jlx y 0 (kv y).length (by omega)
 rw [Nat.zero_add] at this;exact this
theorem jnS {now:Int} {r:Rn} {l:List Int}:∀(ts:List Tk) (k:Nat),l∈vY now r k ts→∃(j:Nat) (x:Tk),ts[j]?=some x∧x.state=3∧x.til≤now+1∧l=[r.id,((k+j:Nat):Int),x.tri]
 |[],k,h=>by simp [vY] at h
 |t::ts,k,h=>by
  rw [vY] at h;rcases List.mem_append.1 h with h|h
  ·unfold zR at h
   split at h
   ·rename_i hc
    simp only [Bool.and_eq_true,beq_iff_eq,decide_eq_true_eq] at hc;simp only [Option.toList,List.mem_singleton] at h;exact ⟨0,t,rfl,hc.1,by omega,by simpa using h⟩
   ·simp at h
  ·obtain ⟨j,x,h1,h2,h3,h4⟩:=jnS ts (k+1) h
   exact ⟨j+1,x,by simpa using h1,h2,h3,by rw [h4];congr 2;congr 1;omega⟩
theorem jsh {y:Yd} (h:YdI y) (hc:zE y=0) {l:List Int} (hl:l∈kv y):∃a b c:Int,l=[a,b,c]∧qK y a b c=true∧qK (vE y) a b c=false:=by
 obtain ⟨r,hr,hlr⟩:=List.mem_flatMap.1 hl;obtain ⟨j,x,hx,hs,htil,rfl⟩:=jnS _ 0 hlr;rw [Nat.zero_add];refine ⟨_,_,_,rfl,?_,?_⟩
 ·obtain ⟨k,hk⟩:=List.getElem?_of_mem hr
  have hat:=joC h.rns.eight h.rns.ids hk
  have ht:zF y r.id (j:Int)=some x:=by
   unfold zF;simp only [hat,Int.toNat_natCast,hk];simp [hx]
  simp [qK,ht,hs]
 ·refine Bool.eq_false_iff.2 fun hh=>?_
  obtain ⟨k,t,r',x',h1,h2,h3,h4,h5,h6,h7⟩:=jpz hh;obtain rfl:j=t:=by omega
  obtain ⟨r2,g1,g2,g3,g4⟩:=jmS hc k j r' x' h2 h5 h6;have e:r2=r:=jiI h.rns.ids (List.mem_of_getElem? g1) hr (by rw [g2,h3])
  subst e;rw [hx] at g4;obtain rfl:=Option.some.inj g4;have:=jmT h r' (by rw [jly hc] at h2;exact List.mem_of_getElem? h2) j x h5 h6
  omega
noncomputable def zN:Nat→Yd→Yd
 |0,y=>y
 |n+1,y=>vE (zN n y)
theorem joT {y:Yd} (h:YdI y) (hq:y.seq≤900000000) (hn:y.now≤900000000):∀n,n≤1000→YdI (zN n y)∧(zN n y).seq≤y.seq+2000*n∧(zN n y).now=y.now+n∧SubR y (zN n y)∧zE (zN n y)=0
 |0,_=>⟨h,by simp [zN],by simp [zN],.refl y,by rw [zN];exact js4 h (by omega) (by omega)⟩
 |n+1,hle=>by
  obtain ⟨h1,h2,h3,h4,h5⟩:=joT h hq hn n (by omega)
  have hs:=jp0 h1;have hI:=h1.tick;have hnow:(vE (zN n y)).now=(zN n y).now+1:=by rw [jly h5]
  have hS:=jmS h5;refine ⟨hI,?_,?_,h4.trans hS,?_⟩
  ·rw [zN];push_cast;omega
  ·rw [zN,hnow];push_cast;omega
  ·rw [zN];exact js4 hI (by omega) (by omega)
theorem jvG {y:Yd} (h:YdI y) (hq:y.seq≤900000000) (hn:y.now≤900000000):jpV (zN 20 y):=by
 intro k t r x hr hx hs;obtain ⟨h1,h2,h3,h4,h5⟩:=joT h hq hn 20 (by omega)
 obtain ⟨r2,g1,g2,g3,g4⟩:=h4 k t r x hr hx hs;have t1:=h.rns.til r2 (List.mem_of_getElem? g1) t x g4 hs;have t2:=h1.rns.til r (List.mem_of_getElem? hr) t x hx hs;obtain ⟨_,_,_,_,_,_,_,_,_,hw⟩:=jcb (h.rns.right r2 (List.mem_of_getElem? g1)).plan;rw [h3] at t2;omega
end Go.Proofs.YtcehjhiglmifjaaGreat
