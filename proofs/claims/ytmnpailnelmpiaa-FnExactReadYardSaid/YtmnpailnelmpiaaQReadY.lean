/- Parts. -/
import Derived.Test.YtmnpailnelmpiaaQReadQ
set_option linter.unusedSimpArgs false
set_option linter.unusedVariables false
namespace Go.Proofs.Ytmnpailnelmpiaa
open Go.RowKit Go.Sort
section
variable {σ:Type} {nx:σ→Int×σ} {bd:σ→Bool} {sb:σ→σ}
def rdSh (cap:Option Int) (nx:σ→Int×σ) (bd:σ→Bool) (sb:σ→σ) (s:σ):List En×σ:=
 kb bd (ji9 nx) (nx s).1.toNat ([],zb cap sb (nx s).1 (nx s).2)
def rdRn (ce ct:Option Int) (nx:σ→Int×σ) (bd:σ→Bool) (sb:σ→σ) (s:σ):Rn×σ:=
 let a:=nx s;let p:=rdPl ce nx bd sb a.2;let c:=nx p.2
 let t:=kb bd (jhw nx) p.1.tasks.toNat ([],zb ct sb p.1.tasks c.2)
 (⟨a.1,p.1,c.1,t.1⟩,t.2)
theorem jsK (x:En) (s s':σ) (h:RdSeq nx bd s (enI x) s'):ji9 nx s=(x,s'):=by
 obtain ⟨_,h1,_,h2,_,h3,_,h4,h5⟩:=h;rw [show s'=_ from h5,ji9]
 simp only [h1,h2,h3,h4]
theorem jrl (x:Tk) (s s':σ) (h:RdSeq nx bd s (tkI x) s'):jhw nx s=(x,s'):=by
 obtain ⟨_,h1,_,h2,_,h3,_,h4,h5⟩:=h;rw [show s'=_ from h5,jhw]
 simp only [h1,h2,h3,h4]
theorem jm2 {cap:Option Int} {l:List En} {s s':σ} (hc:∀c,cap=some c→(l.length:Int)≤c) (h:RdSeq nx bd s (shI l) s'):rdSh cap nx bd sb s=(l,s'):=by
 obtain ⟨_,e1,h2⟩:=h;have hr:=vz (rd:=ji9 nx) (pr:=enI) (by intro x;simp [enI]) (fun _=>True) (fun x s s' _ h=>jsK x s s' h) l [] _ s' (by simp) h2
 simp only [rdSh,e1,Int.toNat_natCast,jfy hc,hr,List.nil_append]
theorem jnj {ce ct:Option Int} {r:Rn} {s s':σ} (hn:r.plan.tasks=(r.tasks.length:Int)) (hc:∀c,ce=some c→(r.plan.edges.length:Int)≤c) (hd:∀c,ct=some c→(r.tasks.length:Int)≤c) (h:RdSeq nx bd s (rnI r) s'):rdRn ce ct nx bd sb s=(r,s'):=by
 obtain ⟨id,p,st,ts⟩:=r;obtain ⟨s1,h1,h2⟩:=RdSeq.split (l:=id::plI p) (m:=st::ts.flatMap tkI) h;obtain ⟨_,e1,h1⟩:=h1;obtain ⟨_,e2,h2⟩:=h2;dsimp only at hn hc hd;have hr:=vz (rd:=jhw nx) (pr:=tkI) (by intro x;simp [tkI]) (fun _=>True) (fun x s s' _ h=>jrl x s s' h) ts [] _ s' (by simp) h2
 have hd':∀c,ct=some c→p.tasks≤c:=by rw [hn];exact hd
 simp only [rdRn,e1,jnw hc h1,e2,jfy hd',hn,Int.toNat_natCast,List.nil_append];rw [hn] at hd';simp only [jfy hd',hr,List.nil_append]
def qZ {α:Type} (rd:σ→α×σ):Nat→List α×σ→List α×σ
 |0,s=>s
 |n+1,s=>qZ rd n (s.1++[(rd s.2).1],(rd s.2).2)
theorem jgf {α:Type} {rd:σ→α×σ} {pr:α→List Int} (ok:α→Prop) (h:∀x s s',ok x→RdSeq nx bd s (pr x) s'→rd s=(x,s')):
 ∀(l:List α) (acc:List α) (s s':σ),(∀x∈l,ok x)→RdSeq nx bd s (l.flatMap pr) s'→qZ rd l.length (acc,s)=(acc++l,s')
 |[],acc,s,s',_,h'=>by simp only [List.length_nil,qZ,List.append_nil];rw [show s'=s from h']
 |x::l,acc,s,s',ho,h'=>by
  rw [List.flatMap_cons] at h';obtain ⟨s1,h1,h2⟩:=h'.split;have e:=h x s s1 (ho x (by simp)) h1
  rw [List.length_cons,qZ,e,jgf ok h l _ s1 s' (fun z hz=>ho z (by simp [hz])) h2]
  simp
def rdYI (nx:σ→Int×σ) (bd:σ→Bool) (sb:σ→σ) (s:σ):Yd×σ:=
 let a:=nx s;let b:=nx a.2;let h:=qZ (rdSh none nx bd sb) 4 ([],b.2);let m:=nx h.2
 let r:=kb bd (rdRn none none nx bd sb) m.1.toNat ([],m.2)
 (⟨a.1,b.1,h.1,r.1⟩,r.2)
def rdYS (nx:σ→Int×σ) (bd:σ→Bool) (sb:σ→σ) (s:σ):Yd×σ:=
 let a:=nx s;let b:=nx a.2;let h:=kb bd (rdSh (some 80) nx bd sb) 4 ([],b.2);let m:=nx h.2
 let r:=kb bd (rdRn (some 31) (some 12) nx bd sb) m.1.toNat ([],zb (some 8) sb m.1 m.2)
 (⟨a.1,b.1,h.1,r.1⟩,r.2)
theorem jpy {r:Rn} (h:RunOkP r):r.plan.tasks=(r.tasks.length:Int)∧(r.plan.edges.length:Int)≤31∧(r.tasks.length:Int)≤12:=by
 obtain ⟨n,h1,h2,h3,h4,-⟩:=jnx h.plan;have:=h.len;refine ⟨by omega,by omega,by omega⟩
theorem jre {y:Yd} {s s':σ} (hk:YardOkP y) (h:RdSeq nx bd s (zw y) s'):rdYI nx bd sb s=(y,s'):=by
 obtain ⟨s1,h1,h2⟩:=RdSeq.split (l:=[y.now,y.seq]++y.shelf.flatMap shI) h;obtain ⟨s0,h0,h1⟩:=RdSeq.split (l:=[y.now,y.seq]) h1;obtain ⟨_,e1,_,e2,h0⟩:=h0;obtain ⟨_,e3,h2⟩:=h2;have a1:=jgf (rd:=rdSh none nx bd sb) (pr:=shI) (fun _=>True) (fun x s s' _ h=>jm2 (by simp) h) y.shelf [] s0 s1 (by simp) h1
 have a2:=vz (rd:=rdRn none none nx bd sb) (pr:=rnI) (by intro x;simp [rnI]) RunOkP (fun x s s' ho h=>jnj (jpy ho).1 (by simp) (by simp) h) y.runs [] _ s' hk.right h2
 rw [hk.four] at a1;rw [show s0=_ from h0] at a1
 simp only [rdYI,e1,e2,a1,List.nil_append,e3,Int.toNat_natCast,a2]
theorem jrd {y:Yd} {s s':σ} (hk:YardOkP y) (h:RdSeq nx bd s (zw y) s'):rdYS nx bd sb s=(y,s'):=by
 obtain ⟨s1,h1,h2⟩:=RdSeq.split (l:=[y.now,y.seq]++y.shelf.flatMap shI) h;obtain ⟨s0,h0,h1⟩:=RdSeq.split (l:=[y.now,y.seq]) h1;obtain ⟨_,e1,_,e2,h0⟩:=h0;obtain ⟨_,e3,h2⟩:=h2;have a1:=vz (rd:=rdSh (some 80) nx bd sb) (pr:=shI) (by intro x;simp [shI]) jbC (fun x s s' ho h=>jm2 (fun c hc=>by cases hc;have:=ho.most;omega) h) y.shelf [] s0 s1 hk.shelves h1
 have a2:=vz (rd:=rdRn (some 31) (some 12) nx bd sb) (pr:=rnI) (by intro x;simp [rnI]) RunOkP (fun x s s' ho h=>jnj (jpy ho).1 (fun c hc=>by cases hc;exact (jpy ho).2.1) (fun c hc=>by cases hc;exact (jpy ho).2.2) h) y.runs [] _ s' hk.right h2
 rw [hk.four] at a1;rw [show s0=_ from h0] at a1
 have h8:∀c,some (8:Int)=some c→(y.runs.length:Int)≤c:=fun c hc=>by cases hc;have:=hk.eight;omega
 simp only [rdYS,e1,e2,a1,List.nil_append,e3,jfy h8,Int.toNat_natCast,a2]
theorem kZ (hb:∀s,bd s=true→bd (nx s).2=true) {s:σ} (h:bd (nx s).2=false):bd s=false:=by
 cases hq:bd s with
 |false=>rfl
 |true=>rw [hb s hq] at h;cases h
theorem jq3 (hb:∀s,bd s=true→bd (nx s).2=true) (s:σ) (h:bd s=true):bd (ji9 nx s).2=true:=hb _ (hb _ (hb _ (hb _ h)))
theorem jmD (hb:∀s,bd s=true→bd (nx s).2=true) (s:σ) (h:bd s=true):bd (jhw nx s).2=true:=hb _ (hb _ (hb _ (hb _ h)))
theorem jog (hb:∀s,bd s=true→bd (nx s).2=true) (s:σ) (h:bd s=true):bd (jhT nx s).2=true:=hb _ (hb _ h)
theorem jqp (hb:∀s,bd s=true→bd (nx s).2=true) (s:σ) (h:bd (ji9 nx s).2=false):RdSeq nx bd s (enI (ji9 nx s).1) (ji9 nx s).2:=by
 have h4:=kZ hb h;have h3:=kZ hb h4;have h2:=kZ hb h3;have h1:=kZ hb h2;exact ⟨h1,rfl,h2,rfl,h3,rfl,h4,rfl,rfl⟩
theorem jo9 (hb:∀s,bd s=true→bd (nx s).2=true) (s:σ) (h:bd (jhw nx s).2=false):RdSeq nx bd s (tkI (jhw nx s).1) (jhw nx s).2:=by
 have h4:=kZ hb h;have h3:=kZ hb h4;have h2:=kZ hb h3;have h1:=kZ hb h2;exact ⟨h1,rfl,h2,rfl,h3,rfl,h4,rfl,rfl⟩
theorem jqr (hb:∀s,bd s=true→bd (nx s).2=true) (s:σ) (h:bd (jhT nx s).2=false):RdSeq nx bd s (edI (jhT nx s).1) (jhT nx s).2:=by
 have h2:=kZ hb h;have h1:=kZ hb h2;exact ⟨h1,rfl,h2,rfl,rfl⟩
theorem jaC {α:Type} {rd:σ→α×σ} {pr:α→List Int} (hbad:∀s,bd s=true→bd (rd s).2=true) (h:∀s,bd (rd s).2=false→RdSeq nx bd s (pr (rd s).1) (rd s).2) (hs:∀s,bd (sb s)=true)
 {cap:Option Int} {m:Int} {n:Nat} {s:σ} (hf:bd (kb bd rd n ([],zb cap sb m s)).2=false):∃l s',l.length=n∧kb bd rd n ([],zb cap sb m s)=(l,s')∧RdSeq nx bd s (l.flatMap pr) s':=by
 have hc:zb cap sb m s=s:=by
  unfold zb at hf⊢;split
  ·split
   ·rename_i c hq
    simp only [hq,if_true] at hf;rw [qy (by exact hs s)] at hf
    simp only at hf;rw [hs s] at hf;cases hf
   ·rfl
  ·rfl
 rw [hc] at hf⊢;obtain ⟨l,h1,h2,h3⟩:=jc5 hbad h n [] s hf;exact ⟨l,_,h1,Prod.ext (by rw [h2];simp) rfl,h3⟩
theorem vx {α:Type} {rd:σ→α×σ} (hbad:∀s,bd s=true→bd (rd s).2=true) {cap:Option Int} {m:Int} {n:Nat} {s:σ} (hs:∀s,bd (sb s)=true) (h:bd s=true) (acc:List α):bd (kb bd rd n (acc,zb cap sb m s)).2=true:=by
 have:bd (zb cap sb m s)=true:=by
  unfold zb;split
  ·split
   ·exact hs s
   ·exact h
  ·exact h
 rw [qy (by exact this)];exact this
theorem jm1 (hb:∀s,bd s=true→bd (nx s).2=true) (hs:∀s,bd (sb s)=true) (cap:Option Int) (s:σ) (h:bd s=true):bd (rdSh cap nx bd sb s).2=true:=vx (jq3 hb) hs (hb _ h) []
theorem jqV (hb:∀s,bd s=true→bd (nx s).2=true) (hs:∀s,bd (sb s)=true) (cap:Option Int) (s:σ) (h:bd s=true):bd (rdPl cap nx bd sb s).2=true:=vx (jog hb) hs (hb _ (hb _ (hb _ (hb _ (hb _ h))))) []
theorem jkr (hb:∀s,bd s=true→bd (nx s).2=true) (hs:∀s,bd (sb s)=true) (ce ct:Option Int) (s:σ) (h:bd s=true):bd (rdRn ce ct nx bd sb s).2=true:=vx (jmD hb) hs (hb _ (jqV hb hs ce _ (hb _ h))) []
theorem jki (hb:∀s,bd s=true→bd (nx s).2=true) (hs:∀s,bd (sb s)=true) (hn:∀s,0≤(nx s).1) (cap:Option Int) (s:σ) (h:bd (rdSh cap nx bd sb s).2=false):RdSeq nx bd s (shI (rdSh cap nx bd sb s).1) (rdSh cap nx bd sb s).2:=by
 obtain ⟨l,s',h1,h2,h3⟩:=jaC (jq3 hb) (jqp hb) hs h
 have h0:bd s=false:=by
  cases hq:bd s with
  |false=>rfl
  |true=>rw [jm1 hb hs cap s hq] at h;cases h
 rw [show rdSh cap nx bd sb s=(l,s') from h2]
 refine ⟨h0,?_,h3⟩;have:=hn s;dsimp only;omega
theorem jpH (hb:∀s,bd s=true→bd (nx s).2=true) (hs:∀s,bd (sb s)=true) (hn:∀s,0≤(nx s).1) (cap:Option Int) (s:σ) (h:bd (rdPl cap nx bd sb s).2=false):RdSeq nx bd s (plI (rdPl cap nx bd sb s).1) (rdPl cap nx bd sb s).2:=by
 obtain ⟨l,s',h1,h2,h3⟩:=jaC (jog hb) (jqr hb) hs (h:bd (kb bd (jhT nx) _ ([],zb cap sb _ _)).2=false)
 have h5:bd (nx (nx (nx (nx (nx s).2).2).2).2).2=false:=by
  cases hq:bd (nx (nx (nx (nx (nx s).2).2).2).2).2 with
  |false=>rfl
  |true=>exact absurd (vx (jog hb) hs hq []) (by rw [show bd (kb bd (jhT nx) _ ([],zb cap sb _ _)).2=false from h];decide)
 have h4:=kZ hb h5;have g3:=kZ hb h4;have g2:=kZ hb g3;have g1:=kZ hb g2;have g0:=kZ hb g1
 have e:rdPl cap nx bd sb s=(⟨(nx s).1,(nx (nx s).2).1,(nx (nx (nx s).2).2).1,(nx (nx (nx (nx s).2).2).2).1,l⟩,s'):=by
  simp only [rdPl,h2]
 rw [e];refine ⟨g0,rfl,g1,rfl,g2,rfl,g3,rfl,h4,?_,h3⟩;have:=hn (nx (nx (nx (nx s).2).2).2).2;dsimp only;omega
theorem jui (hb:∀s,bd s=true→bd (nx s).2=true) (hs:∀s,bd (sb s)=true) {cap:Option Int} {s:σ} (h:bd (rdPl cap nx bd sb s).2=false):bd s=false:=by
 cases hq:bd s with
 |false=>rfl
 |true=>rw [jqV hb hs cap s hq] at h;cases h
theorem jkq (hb:∀s,bd s=true→bd (nx s).2=true) (hs:∀s,bd (sb s)=true) (hn:∀s,0≤(nx s).1) (ce ct:Option Int) (s:σ) (h:bd (rdRn ce ct nx bd sb s).2=false):RdSeq nx bd s (rnI (rdRn ce ct nx bd sb s).1) (rdRn ce ct nx bd sb s).2:=by
 obtain ⟨l,s',h1,h2,h3⟩:=jaC (jmD hb) (jo9 hb) hs (h:bd (kb bd (jhw nx) _ ([],zb ct sb _ _)).2=false)
 have h5:bd (nx (rdPl ce nx bd sb (nx s).2).2).2=false:=by
  cases hq:bd (nx (rdPl ce nx bd sb (nx s).2).2).2 with
  |false=>rfl
  |true=>exact absurd (vx (jmD hb) hs hq []) (by rw [show bd (kb bd (jhw nx) _ ([],zb ct sb _ _)).2=false from h];decide)
 have h4:=kZ hb h5;have g3:=jui hb hs h4;have g2:=kZ hb g3;have hp:=jpH hb hs hn ce (nx s).2 h4
 have e:rdRn ce ct nx bd sb s=(⟨(nx s).1,(rdPl ce nx bd sb (nx s).2).1,(nx (rdPl ce nx bd sb (nx s).2).2).1,l⟩,s'):=by
  simp only [rdRn,h2]
 rw [e];exact RdSeq.app (l:=(nx s).1::plI (rdPl ce nx bd sb (nx s).2).1) ⟨g2,rfl,hp⟩ ⟨h4,rfl,h3⟩
theorem jo2 (hb:∀s,bd s=true→bd (nx s).2=true) (hs:∀s,bd (sb s)=true) (hn:∀s,0≤(nx s).1) (s:σ) (h:bd (rdYS nx bd sb s).2=false):RdSeq nx bd s (zw (rdYS nx bd sb s).1) (rdYS nx bd sb s).2:=by
 obtain ⟨l,s',h1,h2,h3⟩:=jaC (jkr hb hs _ _) (jkq hb hs hn _ _) hs (h:bd (kb bd (rdRn (some 31) (some 12) nx bd sb) _ ([],zb (some 8) sb _ _)).2=false)
 have h5:bd (nx (kb bd (rdSh (some 80) nx bd sb) 4 ([],(nx (nx s).2).2)).2).2=false:=by
  cases hq:bd (nx (kb bd (rdSh (some 80) nx bd sb) 4 ([],(nx (nx s).2).2)).2).2 with
  |false=>rfl
  |true=>exact absurd (vx (jkr hb hs _ _) hs hq []) (by rw [show bd (kb bd (rdRn (some 31) (some 12) nx bd sb) _ ([],zb (some 8) sb _ _)).2=false from h];decide)
 have h4:=kZ hb h5;obtain ⟨S,k1,k2,k3⟩:=jc5 (jm1 hb hs _) (jki hb hs hn _) 4 [] _ h4
 have g3:bd (nx (nx s).2).2=false:=by
  cases hq:bd (nx (nx s).2).2 with
  |false=>rfl
  |true=>rw [qy (by exact hq)] at h4;simp only at h4;rw [hq] at h4;cases h4
 have g2:=kZ hb g3;have g1:=kZ hb g2
 have e:rdYS nx bd sb s=(⟨(nx s).1,(nx (nx s).2).1,S,l⟩,s'):=by
  simp only [rdYS,h2,k2,List.nil_append]
 rw [e];refine RdSeq.app (RdSeq.app (l:=[(nx s).1,(nx (nx s).2).1]) ⟨g1,rfl,g2,rfl,rfl⟩ k3) ⟨h4,?_,h3⟩;have:=hn (kb bd (rdSh (some 80) nx bd sb) 4 ([],(nx (nx s).2).2)).2;dsimp only;omega
theorem jm6 (hN:∀s,qG (nx s).1):∀(l:List Int) (s s':σ),RdSeq nx bd s l s'→∀n∈l,qG n
 |[],_,_,_=>by simp
 |x::l,s,s',⟨_,h2,h3⟩=>fun n hn=>by
  rcases List.mem_cons.1 hn with rfl|hn
  ·rw [←h2];exact hN s
  ·exact jm6 hN l _ _ h3 n hn
theorem jeT {α:Type} {rd:σ→α×σ} {pr:α→List Int} (hbad:∀s,bd s=true→bd (rd s).2=true) (h:∀s,bd (rd s).2=false→RdSeq nx bd s (pr (rd s).1) (rd s).2):
 ∀(n:Nat) (acc:List α) (s:σ),bd (qZ rd n (acc,s)).2=false→bd s=false∧∃l,l.length=n∧(qZ rd n (acc,s)).1=acc++l∧RdSeq nx bd s (l.flatMap pr) (qZ rd n (acc,s)).2
 |0,acc,s,hb=>⟨hb,[],rfl,by simp [qZ],rfl⟩
 |n+1,acc,s,hb=>by
  rw [qZ] at hb⊢;obtain ⟨h1,l,e1,e2,e3⟩:=jeT hbad h n (acc++[(rd s).1]) (rd s).2 hb;refine ⟨?_,(rd s).1::l,by simp [e1],by rw [e2];simp,by rw [List.flatMap_cons];exact (h s h1).app e3⟩
  cases hq:bd s with
  |false=>rfl
  |true=>rw [hbad s hq] at h1;cases h1
theorem jo3 (hb:∀s,bd s=true→bd (nx s).2=true) (hs:∀s,bd (sb s)=true) (hn:∀s,0≤(nx s).1) (s:σ) (h:bd (rdYI nx bd sb s).2=false):RdSeq nx bd s (zw (rdYI nx bd sb s).1) (rdYI nx bd sb s).2:=by
 obtain ⟨l,s',h1,h2,h3⟩:=jaC (cap:=none) (m:=0) (sb:=sb) (jkr hb hs _ _) (jkq hb hs hn _ _) hs (h:bd (kb bd (rdRn none none nx bd sb) _ ([],zb none sb 0 _)).2=false)
 have h5:bd (nx (qZ (rdSh none nx bd sb) 4 ([],(nx (nx s).2).2)).2).2=false:=by
  cases hq:bd (nx (qZ (rdSh none nx bd sb) 4 ([],(nx (nx s).2).2)).2).2 with
  |false=>rfl
  |true=>exact absurd (vx (cap:=none) (m:=0) (sb:=sb) (jkr hb hs none none) hs hq []) (by rw [show bd (kb bd (rdRn none none nx bd sb) _ ([],zb none sb 0 _)).2=false from h];decide)
 have h4:=kZ hb h5;obtain ⟨g3,S,k1,k2,k3⟩:=jeT (jm1 hb hs _) (jki hb hs hn _) 4 [] _ h4;have g2:=kZ hb g3;have g1:=kZ hb g2;have h2':kb bd (rdRn none none nx bd sb) (nx (qZ (rdSh none nx bd sb) 4 ([],(nx (nx s).2).2)).2).1.toNat ([],(nx (qZ (rdSh none nx bd sb) 4 ([],(nx (nx s).2).2)).2).2)=(l,s'):=h2
 have e:rdYI nx bd sb s=(⟨(nx s).1,(nx (nx s).2).1,S,l⟩,s'):=by
  simp only [rdYI,h2',k2,List.nil_append]
 rw [e];refine RdSeq.app (RdSeq.app (l:=[(nx s).1,(nx (nx s).2).1]) ⟨g1,rfl,g2,rfl,rfl⟩ k3) ⟨h4,?_,h3⟩;have:=hn (qZ (rdSh none nx bd sb) 4 ([],(nx (nx s).2).2)).2;dsimp only;omega
end
abbrev ydZ:Yd:=⟨0,0,[],[]⟩
structure jk3 (t:ByteArray) (y:Yd):Prop where
 ok:YardOkP y
 nums:∀n∈zw y,qG n
 txt:t=kB (zw y)
open Classical in
noncomputable def jaf (t:ByteArray):Yd×Bool:=if h:∃y,jk3 t y then (h.choose,true) else (ydZ,false)
abbrev nI (L:List Int):=rdYI (kE L) (·.2) (fun s=>(s.1,true)) (0,false)
abbrev nS (t:ByteArray):=rdYS (kh t) (·.2) (fun s=>(s.1,true)) (0,false)
noncomputable def ve (t:ByteArray):Yd×Bool:=match rvF t.size t.data.toList with
 |none=>(ydZ,false)
 |some L=>if (nI L).2.2=true∨jG (nI L).1=false∨jae (nI L).1≠t then (ydZ,false) else ((nI L).1,true)
noncomputable def qI (t:ByteArray):Yd×Bool:=if 60000<t.size then (ydZ,false)
 else if (nS t).2.2=true∨(nS t).2.1≠(t.size:Int)∨jG (nS t).1=false then (ydZ,false) else ((nS t).1,true)
theorem yd_I {t:ByteArray} {y:Yd} (h:jk3 t y):ve t=(y,true):=by
 obtain ⟨h1,h2,h3⟩:=h;have hr:rvF t.size t.data.toList=some (zw y):=by subst h3;exact jgJ _ _ h2 (Nat.le_refl _)
 have hb:=jre (sb:=fun s:Nat×Bool=>(s.1,true)) h1 (jg4 (L:=zw y) (zw y) (rest:=[]) (lo:=0) (by simp))
 have hy:jae y=t:=by rw [jae,if_pos (jaV h1)];exact h3.symm
 simp only [ve,hr,nI,hb,jaV h1];rw [if_neg];rintro (g|g|g)
 ·cases g
 ·cases g
 ·exact g hy
theorem jpQ (L:List Int) (s:Nat×Bool) (h:s.2=true):(kE L s).2.2=true:=by
 unfold kE;split
 ·exact h
 ·rfl
theorem jpP (t:ByteArray) (s:Int×Bool) (h:s.2=true):(kh t s).2.2=true:=by
 unfold kh;rw [if_pos h];exact h
theorem jg5 {L:List Int} (h:∀n∈L,qG n) (s:Nat×Bool):qG (kE L s).1:=by
 unfold kE;split
 ·rename_i v hv;exact h v (List.mem_of_getElem? hv)
 ·exact ⟨Int.le_refl _,by show (0:Int)≤_;omega⟩
theorem yd_S {t:ByteArray} {y:Yd} (h:jk3 t y):qI t=(y,true):=by
 obtain ⟨h1,h2,h3⟩:=h;have hs:=jg2 (t:=t) (zw y) (rest:=[]) (k:=0) h2 (by subst h3;simp [jeD])
 have e0:(((0:Nat):Int),false)=((0:Int),false):=rfl;rw [e0] at hs;have hb:=jrd (sb:=fun s:Int×Bool=>(s.1,true)) h1 hs
 have hy:jae y=t:=by rw [jae,if_pos (jaV h1)];exact h3.symm
 have hl:=joZ y;have hz:t.size=(kG (zw y)).length:=by rw [h3,jc1]
 rw [hy] at hl;simp only [qI,if_neg (show¬60000<t.size by omega),nS,hb,jaV h1]
 rw [if_neg];rintro (g|g|g)
 ·cases g
 ·exact g (by omega)
 ·cases g
theorem jgm {t:ByteArray}:∀(xs:List Int) (k:Nat) (s':Int×Bool),RdSeq (kh t) (fun s:Int×Bool=>s.2) ((k:Int),false) xs s'→s'.2=false→∃k':Nat,s'.1=(k':Int)∧t.data.toList.drop k=kG xs++t.data.toList.drop k'
 |[],k,s',h,_=>⟨k,by rw [show s'=_ from h],by simp [kG]⟩
 |x::xs,k,s',⟨_,h2,h3⟩,hb=>by
  by_cases hneg:(vAt t (k:Int)).2<0
  ·have e:kh t ((k:Int),false)=(0,((k:Int),true)):=by simp only [kh,Bool.false_eq_true,if_false,if_pos hneg]
   rw [e] at h3;cases xs with
   |nil=>rw [show s'=_ from h3] at hb;cases hb
   |cons y ys=>obtain ⟨h4,-⟩:=h3;cases h4
  ·have e:kh t ((k:Int),false)=((vAt t (k:Int)).1,((vAt t (k:Int)).2,false)):=by simp only [kh,Bool.false_eq_true,if_false,if_neg hneg]
   rw [e] at h2 h3
   have hv:vAt t (k:Int)=match vS (t.data.toList.drop k) with
    |some (v,m)=>((v:Int),(k:Int)+(m:Int))
    |none=>(0,-1):=by rw [vAt,if_neg (by omega),Int.toNat_natCast];rfl
   cases hh:vS (t.data.toList.drop k) with
   |none=>rw [hv,hh] at hneg;exact absurd (by show (-1:Int)<0;omega) hneg
   |some p=>
    obtain ⟨v,m⟩:=p;obtain ⟨h4,q,h5,rfl⟩:=qN hh;rw [hv,hh] at h2 h3;have e3:(k:Int)+((kS v).length:Int)=((k+(kS v).length:Nat):Int):=by omega
    simp only [e3] at h2 h3;obtain ⟨k',g1,g2⟩:=jgm xs _ s' h3 hb;refine ⟨k',g1,?_⟩;rw [←List.drop_drop,h5,List.drop_left] at g2;rw [h5,g2,←h2,zd,jai h4,List.append_assoc]
theorem jnt (t:ByteArray):ve t=jaf t:=by
 unfold jaf;split
 ·rename_i h;exact yd_I h.choose_spec
 ·rename_i h
  unfold ve;split
  ·rfl
  ·rename_i L hL
   obtain ⟨-,hin⟩:=jet _ _ _ hL;split
   ·rfl
   ·rename_i hc
    refine absurd ⟨(nI L).1,?_⟩ h
    have hb:(nI L).2.2=false:=by
     cases hq:(nI L).2.2 with
     |false=>rfl
     |true=>exact absurd (.inl hq) hc
    have hk:jG (nI L).1=true:=by
     cases hq:jG (nI L).1 with
     |true=>rfl
     |false=>exact absurd (.inr (.inl hq)) hc
    have hy:jae (nI L).1=t:=Classical.byContradiction fun g=>hc (.inr (.inr g))
    have htr:=jo3 (nx:=kE L) (bd:=fun s:Nat×Bool=>s.2) (sb:=fun s=>(s.1,true)) (jpQ L) (fun _=>rfl) (fun s=>(jg5 hin s).1) (0,false) hb
    refine ⟨yard_iff.1 hk,jm6 (jg5 hin) _ _ _ htr,?_⟩;rw [←hy,jae,if_pos hk]
theorem jg3 (t:ByteArray) (s:Int×Bool):qG (kh t s).1:=by
 have h0:qG 0:=⟨Int.le_refl _,by show (0:Int)≤_;omega⟩
 unfold kh;split
 ·exact h0
 ·split
  ·exact h0
  ·rw [vAt]
   split
   ·exact h0
   ·cases hv:vS (t.data.toList.drop s.1.toNat) with
    |none=>exact h0
    |some p=>
     obtain ⟨v,m⟩:=p;obtain ⟨h1,-⟩:=qN hv;exact ⟨by dsimp only;omega,by dsimp only;omega⟩
theorem jns (t:ByteArray):qI t=jaf t:=by
 unfold jaf;split
 ·rename_i h;exact yd_S h.choose_spec
 ·rename_i h
  unfold qI;split
  ·rfl
  ·split
   ·rfl
   ·rename_i hc
    refine absurd ⟨(nS t).1,?_⟩ h
    have hb:(nS t).2.2=false:=by
     cases hq:(nS t).2.2 with
     |false=>rfl
     |true=>exact absurd (.inl hq) hc
    have hk:jG (nS t).1=true:=by
     cases hq:jG (nS t).1 with
     |true=>rfl
     |false=>exact absurd (.inr (.inr hq)) hc
    have hz:(nS t).2.1=(t.size:Int):=Classical.byContradiction fun g=>hc (.inr (.inl g))
    have htr:=jo2 (nx:=kh t) (bd:=fun s:Int×Bool=>s.2) (sb:=fun s=>(s.1,true)) (jpP t) (fun _=>rfl) (fun s=>(jg3 t s).1) (0,false) hb
    obtain ⟨k',g1,g2⟩:=jgm (t:=t) _ 0 _ htr hb
    have hk':k'=t.size:=by
     have:(k':Int)=(t.size:Int):=by rw [←g1];exact hz
     omega
    have hs:t.data.toList.length=t.size:=by rw [Array.length_toList];rfl
    rw [List.drop_zero,List.drop_eq_nil_of_le (by omega),List.append_nil] at g2
    refine ⟨yard_iff.1 hk,jm6 (jg3 t) _ _ _ htr,?_⟩
    apply ByteArray.ext
    apply Array.toList_inj.1
    rw [g2,jeD]
end Go.Proofs.Ytmnpailnelmpiaa
