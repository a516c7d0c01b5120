/- Parts. -/
import Derived.Test.YtmnpailnelmpiaaGreatQReadQ
set_option linter.unusedSimpArgs false
set_option linter.unusedVariables false
namespace Go.Proofs.YtmnpailnelmpiaaGreat
open Go.RowKit Go.Sort
section
variable {σ:Type} {nx:σ→Int×σ} {bd:σ→Bool} {sb:σ→σ}
def rdSh (cap:Option Int) (nx:σ→Int×σ) (bd:σ→Bool) (sb:σ→σ) (s:σ):List En×σ:=
 kX bd (jqm nx) (nx s).1.toNat ([],jbA cap sb (nx s).1 (nx s).2)
def rdRn (ce ct:Option Int) (nx:σ→Int×σ) (bd:σ→Bool) (sb:σ→σ) (s:σ):Rn×σ:=
 let a:=nx s;let p:=rdPl ce nx bd sb a.2;let c:=nx p.2
 let t:=kX bd (jn3 nx) p.1.tasks.toNat ([],jbA ct sb p.1.tasks c.2)
 (⟨a.1,p.1,c.1,t.1⟩,t.2)
theorem jC0 (x:En) (s s':σ) (h:RdSeq nx bd s (enI x) s'):jqm nx s=(x,s'):=by
 obtain ⟨_,h1,_,h2,_,h3,_,h4,h5⟩:=h;rw [show s'=_ from h5,jqm]
 simp only [h1,h2,h3,h4]
theorem jBr (x:Tk) (s s':σ) (h:RdSeq nx bd s (tkI x) s'):jn3 nx s=(x,s'):=by
 obtain ⟨_,h1,_,h2,_,h3,_,h4,h5⟩:=h;rw [show s'=_ from h5,jn3]
 simp only [h1,h2,h3,h4]
theorem jvv {cap:Option Int} {l:List En} {s s':σ} (hc:∀c,cap=some c→(l.length:Int)≤c) (h:RdSeq nx bd s (shI l) s'):rdSh cap nx bd sb s=(l,s'):=by
 obtain ⟨_,e1,h2⟩:=h;have hr:=jaT (rd:=jqm nx) (pr:=enI) (by intro x;simp [enI]) (fun _=>True) (fun x s s' _ h=>jC0 x s s' h) l [] _ s' (by simp) h2
 simp only [rdSh,e1,Int.toNat_natCast,jk6 hc,hr,List.nil_append]
theorem jvR {ce ct:Option Int} {r:Rn} {s s':σ} (hn:r.plan.tasks=(r.tasks.length:Int)) (hc:∀c,ce=some c→(r.plan.edges.length:Int)≤c) (hd:∀c,ct=some c→(r.tasks.length:Int)≤c) (h:RdSeq nx bd s (rnI r) s'):rdRn ce ct nx bd sb s=(r,s'):=by
 obtain ⟨id,p,st,ts⟩:=r;obtain ⟨s1,h1,h2⟩:=RdSeq.split (l:=id::plI p) (m:=st::ts.flatMap tkI) h;obtain ⟨_,e1,h1⟩:=h1;obtain ⟨_,e2,h2⟩:=h2;dsimp only at hn hc hd;have hr:=jaT (rd:=jn3 nx) (pr:=tkI) (by intro x;simp [tkI]) (fun _=>True) (fun x s s' _ h=>jBr x s s' h) ts [] _ s' (by simp) h2
 have hd':∀c,ct=some c→p.tasks≤c:=by rw [hn];exact hd
 simp only [rdRn,e1,jCb hc h1,e2,jk6 hd',hn,Int.toNat_natCast,List.nil_append];rw [hn] at hd';simp only [jk6 hd',hr,List.nil_append]
def jao {α:Type} (rd:σ→α×σ):Nat→List α×σ→List α×σ
 |0,s=>s
 |n+1,s=>jao rd n (s.1++[(rd s.2).1],(rd s.2).2)
theorem jmd {α:Type} {rd:σ→α×σ} {pr:α→List Int} (ok:α→Prop) (h:∀x s s',ok x→RdSeq nx bd s (pr x) s'→rd s=(x,s')):
 ∀(l:List α) (acc:List α) (s s':σ),(∀x∈l,ok x)→RdSeq nx bd s (l.flatMap pr) s'→jao rd l.length (acc,s)=(acc++l,s')
 |[],acc,s,s',_,h'=>by simp only [List.length_nil,jao,List.append_nil];rw [show s'=s from h']
 |x::l,acc,s,s',ho,h'=>by
  rw [List.flatMap_cons] at h';obtain ⟨s1,h1,h2⟩:=h'.split;have e:=h x s s1 (ho x (by simp)) h1
  rw [List.length_cons,jao,e,jmd ok h l _ s1 s' (fun z hz=>ho z (by simp [hz])) h2]
  simp
def rdYI (nx:σ→Int×σ) (bd:σ→Bool) (sb:σ→σ) (s:σ):Yd×σ:=
 let a:=nx s;let b:=nx a.2;let h:=jao (rdSh none nx bd sb) 4 ([],b.2);let m:=nx h.2
 let r:=kX bd (rdRn none none nx bd sb) m.1.toNat ([],m.2)
 (⟨a.1,b.1,h.1,r.1⟩,r.2)
def rdYS (nx:σ→Int×σ) (bd:σ→Bool) (sb:σ→σ) (s:σ):Yd×σ:=
 let a:=nx s;let b:=nx a.2;let h:=kX bd (rdSh (some 80) nx bd sb) 4 ([],b.2);let m:=nx h.2
 let r:=kX bd (rdRn (some 31) (some 12) nx bd sb) m.1.toNat ([],jbA (some 8) sb m.1 m.2)
 (⟨a.1,b.1,h.1,r.1⟩,r.2)
theorem jyW {r:Rn} (h:RunOkP r):r.plan.tasks=(r.tasks.length:Int)∧(r.plan.edges.length:Int)≤31∧(r.tasks.length:Int)≤12:=by
 obtain ⟨n,h1,h2,h3,h4,-⟩:=jiQ h.plan;have:=h.len;refine ⟨by omega,by omega,by omega⟩
theorem jBi {y:Yd} {s s':σ} (hk:YardOkP y) (h:RdSeq nx bd s (jbs y) s'):rdYI nx bd sb s=(y,s'):=by
 obtain ⟨s1,h1,h2⟩:=RdSeq.split (l:=[y.now,y.seq]++y.shelf.flatMap shI) h;obtain ⟨s0,h0,h1⟩:=RdSeq.split (l:=[y.now,y.seq]) h1;obtain ⟨_,e1,_,e2,h0⟩:=h0;obtain ⟨_,e3,h2⟩:=h2;have a1:=jmd (rd:=rdSh none nx bd sb) (pr:=shI) (fun _=>True) (fun x s s' _ h=>jvv (by simp) h) y.shelf [] s0 s1 (by simp) h1
 have a2:=jaT (rd:=rdRn none none nx bd sb) (pr:=rnI) (by intro x;simp [rnI]) RunOkP (fun x s s' ho h=>jvR (jyW ho).1 (by simp) (by simp) h) y.runs [] _ s' hk.right h2
 rw [hk.four] at a1;rw [show s0=_ from h0] at a1
 simp only [rdYI,e1,e2,a1,List.nil_append,e3,Int.toNat_natCast,a2]
theorem jBh {y:Yd} {s s':σ} (hk:YardOkP y) (h:RdSeq nx bd s (jbs y) s'):rdYS nx bd sb s=(y,s'):=by
 obtain ⟨s1,h1,h2⟩:=RdSeq.split (l:=[y.now,y.seq]++y.shelf.flatMap shI) h;obtain ⟨s0,h0,h1⟩:=RdSeq.split (l:=[y.now,y.seq]) h1;obtain ⟨_,e1,_,e2,h0⟩:=h0;obtain ⟨_,e3,h2⟩:=h2;have a1:=jaT (rd:=rdSh (some 80) nx bd sb) (pr:=shI) (by intro x;simp [shI]) je6 (fun x s s' ho h=>jvv (fun c hc=>by cases hc;have:=ho.most;omega) h) y.shelf [] s0 s1 hk.shelves h1
 have a2:=jaT (rd:=rdRn (some 31) (some 12) nx bd sb) (pr:=rnI) (by intro x;simp [rnI]) RunOkP (fun x s s' ho h=>jvR (jyW ho).1 (fun c hc=>by cases hc;exact (jyW ho).2.1) (fun c hc=>by cases hc;exact (jyW ho).2.2) h) y.runs [] _ s' hk.right h2
 rw [hk.four] at a1;rw [show s0=_ from h0] at a1
 have h8:∀c,some (8:Int)=some c→(y.runs.length:Int)≤c:=fun c hc=>by cases hc;have:=hk.eight;omega
 simp only [rdYS,e1,e2,a1,List.nil_append,e3,jk6 h8,Int.toNat_natCast,a2]
theorem vE (hb:∀s,bd s=true→bd (nx s).2=true) {s:σ} (h:bd (nx s).2=false):bd s=false:=by
 cases hq:bd s with
 |false=>rfl
 |true=>rw [hb s hq] at h;cases h
theorem jAY (hb:∀s,bd s=true→bd (nx s).2=true) (s:σ) (h:bd s=true):bd (jqm nx s).2=true:=hb _ (hb _ (hb _ (hb _ h)))
theorem juZ (hb:∀s,bd s=true→bd (nx s).2=true) (s:σ) (h:bd s=true):bd (jn3 nx s).2=true:=hb _ (hb _ (hb _ (hb _ h)))
theorem jxk (hb:∀s,bd s=true→bd (nx s).2=true) (s:σ) (h:bd s=true):bd (joE nx s).2=true:=hb _ (hb _ h)
theorem jzZ (hb:∀s,bd s=true→bd (nx s).2=true) (s:σ) (h:bd (jqm nx s).2=false):RdSeq nx bd s (enI (jqm nx s).1) (jqm nx s).2:=by
 have h4:=vE hb h;have h3:=vE hb h4;have h2:=vE hb h3;have h1:=vE hb h2;exact ⟨h1,rfl,h2,rfl,h3,rfl,h4,rfl,rfl⟩
theorem jyr (hb:∀s,bd s=true→bd (nx s).2=true) (s:σ) (h:bd (jn3 nx s).2=false):RdSeq nx bd s (tkI (jn3 nx s).1) (jn3 nx s).2:=by
 have h4:=vE hb h;have h3:=vE hb h4;have h2:=vE hb h3;have h1:=vE hb h2;exact ⟨h1,rfl,h2,rfl,h3,rfl,h4,rfl,rfl⟩
theorem jz1 (hb:∀s,bd s=true→bd (nx s).2=true) (s:σ) (h:bd (joE nx s).2=false):RdSeq nx bd s (edI (joE nx s).1) (joE nx s).2:=by
 have h2:=vE hb h;have h1:=vE hb h2;exact ⟨h1,rfl,h2,rfl,rfl⟩
theorem jdq {α:Type} {rd:σ→α×σ} {pr:α→List Int} (hbad:∀s,bd s=true→bd (rd s).2=true) (h:∀s,bd (rd s).2=false→RdSeq nx bd s (pr (rd s).1) (rd s).2) (hs:∀s,bd (sb s)=true)
 {cap:Option Int} {m:Int} {n:Nat} {s:σ} (hf:bd (kX bd rd n ([],jbA cap sb m s)).2=false):∃l s',l.length=n∧kX bd rd n ([],jbA cap sb m s)=(l,s')∧RdSeq nx bd s (l.flatMap pr) s':=by
 have hc:jbA cap sb m s=s:=by
  unfold jbA at hf⊢;split
  ·split
   ·rename_i c hq
    simp only [hq,if_true] at hf;rw [zy (by exact hs s)] at hf
    simp only at hf;rw [hs s] at hf;cases hf
   ·rfl
  ·rfl
 rw [hc] at hf⊢;obtain ⟨l,h1,h2,h3⟩:=jhr hbad h n [] s hf;exact ⟨l,_,h1,Prod.ext (by rw [h2];simp) rfl,h3⟩
theorem jaS {α:Type} {rd:σ→α×σ} (hbad:∀s,bd s=true→bd (rd s).2=true) {cap:Option Int} {m:Int} {n:Nat} {s:σ} (hs:∀s,bd (sb s)=true) (h:bd s=true) (acc:List α):bd (kX bd rd n (acc,jbA cap sb m s)).2=true:=by
 have:bd (jbA cap sb m s)=true:=by
  unfold jbA;split
  ·split
   ·exact hs s
   ·exact h
  ·exact h
 rw [zy (by exact this)];exact this
theorem jvu (hb:∀s,bd s=true→bd (nx s).2=true) (hs:∀s,bd (sb s)=true) (cap:Option Int) (s:σ) (h:bd s=true):bd (rdSh cap nx bd sb s).2=true:=jaS (jAY hb) hs (hb _ h) []
theorem jAI (hb:∀s,bd s=true→bd (nx s).2=true) (hs:∀s,bd (sb s)=true) (cap:Option Int) (s:σ) (h:bd s=true):bd (rdPl cap nx bd sb s).2=true:=jaS (jxk hb) hs (hb _ (hb _ (hb _ (hb _ (hb _ h))))) []
theorem jrU (hb:∀s,bd s=true→bd (nx s).2=true) (hs:∀s,bd (sb s)=true) (ce ct:Option Int) (s:σ) (h:bd s=true):bd (rdRn ce ct nx bd sb s).2=true:=jaS (juZ hb) hs (hb _ (jAI hb hs ce _ (hb _ h))) []
theorem jrK (hb:∀s,bd s=true→bd (nx s).2=true) (hs:∀s,bd (sb s)=true) (hn:∀s,0≤(nx s).1) (cap:Option Int) (s:σ) (h:bd (rdSh cap nx bd sb s).2=false):RdSeq nx bd s (shI (rdSh cap nx bd sb s).1) (rdSh cap nx bd sb s).2:=by
 obtain ⟨l,s',h1,h2,h3⟩:=jdq (jAY hb) (jzZ hb) hs h
 have h0:bd s=false:=by
  cases hq:bd s with
  |false=>rfl
  |true=>rw [jvu hb hs cap s hq] at h;cases h
 rw [show rdSh cap nx bd sb s=(l,s') from h2]
 refine ⟨h0,?_,h3⟩;have:=hn s;dsimp only;omega
theorem jy9 (hb:∀s,bd s=true→bd (nx s).2=true) (hs:∀s,bd (sb s)=true) (hn:∀s,0≤(nx s).1) (cap:Option Int) (s:σ) (h:bd (rdPl cap nx bd sb s).2=false):RdSeq nx bd s (plI (rdPl cap nx bd sb s).1) (rdPl cap nx bd sb s).2:=by
 obtain ⟨l,s',h1,h2,h3⟩:=jdq (jxk hb) (jz1 hb) hs (h:bd (kX bd (joE nx) _ ([],jbA cap sb _ _)).2=false)
 have h5:bd (nx (nx (nx (nx (nx s).2).2).2).2).2=false:=by
  cases hq:bd (nx (nx (nx (nx (nx s).2).2).2).2).2 with
  |false=>rfl
  |true=>exact absurd (jaS (jxk hb) hs hq []) (by rw [show bd (kX bd (joE nx) _ ([],jbA cap sb _ _)).2=false from h];decide)
 have h4:=vE hb h5;have g3:=vE hb h4;have g2:=vE hb g3;have g1:=vE hb g2;have g0:=vE hb g1
 have e:rdPl cap nx bd sb s=(⟨(nx s).1,(nx (nx s).2).1,(nx (nx (nx s).2).2).1,(nx (nx (nx (nx s).2).2).2).1,l⟩,s'):=by
  simp only [rdPl,h2]
 rw [e];refine ⟨g0,rfl,g1,rfl,g2,rfl,g3,rfl,h4,?_,h3⟩;have:=hn (nx (nx (nx (nx s).2).2).2).2;dsimp only;omega
theorem jEP (hb:∀s,bd s=true→bd (nx s).2=true) (hs:∀s,bd (sb s)=true) {cap:Option Int} {s:σ} (h:bd (rdPl cap nx bd sb s).2=false):bd s=false:=by
 cases hq:bd s with
 |false=>rfl
 |true=>rw [jAI hb hs cap s hq] at h;cases h
theorem jrT (hb:∀s,bd s=true→bd (nx s).2=true) (hs:∀s,bd (sb s)=true) (hn:∀s,0≤(nx s).1) (ce ct:Option Int) (s:σ) (h:bd (rdRn ce ct nx bd sb s).2=false):RdSeq nx bd s (rnI (rdRn ce ct nx bd sb s).1) (rdRn ce ct nx bd sb s).2:=by
 obtain ⟨l,s',h1,h2,h3⟩:=jdq (juZ hb) (jyr hb) hs (h:bd (kX bd (jn3 nx) _ ([],jbA ct sb _ _)).2=false)
 have h5:bd (nx (rdPl ce nx bd sb (nx s).2).2).2=false:=by
  cases hq:bd (nx (rdPl ce nx bd sb (nx s).2).2).2 with
  |false=>rfl
  |true=>exact absurd (jaS (juZ hb) hs hq []) (by rw [show bd (kX bd (jn3 nx) _ ([],jbA ct sb _ _)).2=false from h];decide)
 have h4:=vE hb h5;have g3:=jEP hb hs h4;have g2:=vE hb g3;have hp:=jy9 hb hs hn ce (nx s).2 h4
 have e:rdRn ce ct nx bd sb s=(⟨(nx s).1,(rdPl ce nx bd sb (nx s).2).1,(nx (rdPl ce nx bd sb (nx s).2).2).1,l⟩,s'):=by
  simp only [rdRn,h2]
 rw [e];exact RdSeq.app (l:=(nx s).1::plI (rdPl ce nx bd sb (nx s).2).1) ⟨g2,rfl,hp⟩ ⟨h4,rfl,h3⟩
theorem jyb (hb:∀s,bd s=true→bd (nx s).2=true) (hs:∀s,bd (sb s)=true) (hn:∀s,0≤(nx s).1) (s:σ) (h:bd (rdYS nx bd sb s).2=false):RdSeq nx bd s (jbs (rdYS nx bd sb s).1) (rdYS nx bd sb s).2:=by
 obtain ⟨l,s',h1,h2,h3⟩:=jdq (jrU hb hs _ _) (jrT hb hs hn _ _) hs (h:bd (kX bd (rdRn (some 31) (some 12) nx bd sb) _ ([],jbA (some 8) sb _ _)).2=false)
 have h5:bd (nx (kX bd (rdSh (some 80) nx bd sb) 4 ([],(nx (nx s).2).2)).2).2=false:=by
  cases hq:bd (nx (kX bd (rdSh (some 80) nx bd sb) 4 ([],(nx (nx s).2).2)).2).2 with
  |false=>rfl
  |true=>exact absurd (jaS (jrU hb hs _ _) hs hq []) (by rw [show bd (kX bd (rdRn (some 31) (some 12) nx bd sb) _ ([],jbA (some 8) sb _ _)).2=false from h];decide)
 have h4:=vE hb h5;obtain ⟨S,k1,k2,k3⟩:=jhr (jvu hb hs _) (jrK hb hs hn _) 4 [] _ h4
 have g3:bd (nx (nx s).2).2=false:=by
  cases hq:bd (nx (nx s).2).2 with
  |false=>rfl
  |true=>rw [zy (by exact hq)] at h4;simp only at h4;rw [hq] at h4;cases h4
 have g2:=vE hb g3;have g1:=vE hb g2
 have e:rdYS nx bd sb s=(⟨(nx s).1,(nx (nx s).2).1,S,l⟩,s'):=by
  simp only [rdYS,h2,k2,List.nil_append]
 rw [e];refine RdSeq.app (RdSeq.app (l:=[(nx s).1,(nx (nx s).2).1]) ⟨g1,rfl,g2,rfl,rfl⟩ k3) ⟨h4,?_,h3⟩;have:=hn (kX bd (rdSh (some 80) nx bd sb) 4 ([],(nx (nx s).2).2)).2;dsimp only;omega
theorem jvz (hN:∀s,jcK (nx s).1):∀(l:List Int) (s s':σ),RdSeq nx bd s l s'→∀n∈l,jcK n
 |[],_,_,_=>by simp
 |x::l,s,s',⟨_,h2,h3⟩=>fun n hn=>by
  rcases List.mem_cons.1 hn with rfl|hn
  ·rw [←h2];exact hN s
  ·exact jvz hN l _ _ h3 n hn
theorem jkc {α:Type} {rd:σ→α×σ} {pr:α→List Int} (hbad:∀s,bd s=true→bd (rd s).2=true) (h:∀s,bd (rd s).2=false→RdSeq nx bd s (pr (rd s).1) (rd s).2):
 ∀(n:Nat) (acc:List α) (s:σ),bd (jao rd n (acc,s)).2=false→bd s=false∧∃l,l.length=n∧(jao rd n (acc,s)).1=acc++l∧RdSeq nx bd s (l.flatMap pr) (jao rd n (acc,s)).2
 |0,acc,s,hb=>⟨hb,[],rfl,by simp [jao],rfl⟩
 |n+1,acc,s,hb=>by
  rw [jao] at hb⊢;obtain ⟨h1,l,e1,e2,e3⟩:=jkc hbad h n (acc++[(rd s).1]) (rd s).2 hb;refine ⟨?_,(rd s).1::l,by simp [e1],by rw [e2];simp,by rw [List.flatMap_cons];exact (h s h1).app e3⟩
  cases hq:bd s with
  |false=>rfl
  |true=>rw [hbad s hq] at h1;cases h1
theorem jyc (hb:∀s,bd s=true→bd (nx s).2=true) (hs:∀s,bd (sb s)=true) (hn:∀s,0≤(nx s).1) (s:σ) (h:bd (rdYI nx bd sb s).2=false):RdSeq nx bd s (jbs (rdYI nx bd sb s).1) (rdYI nx bd sb s).2:=by
 obtain ⟨l,s',h1,h2,h3⟩:=jdq (cap:=none) (m:=0) (sb:=sb) (jrU hb hs _ _) (jrT hb hs hn _ _) hs (h:bd (kX bd (rdRn none none nx bd sb) _ ([],jbA none sb 0 _)).2=false)
 have h5:bd (nx (jao (rdSh none nx bd sb) 4 ([],(nx (nx s).2).2)).2).2=false:=by
  cases hq:bd (nx (jao (rdSh none nx bd sb) 4 ([],(nx (nx s).2).2)).2).2 with
  |false=>rfl
  |true=>exact absurd (jaS (cap:=none) (m:=0) (sb:=sb) (jrU hb hs none none) hs hq []) (by rw [show bd (kX bd (rdRn none none nx bd sb) _ ([],jbA none sb 0 _)).2=false from h];decide)
 have h4:=vE hb h5;obtain ⟨g3,S,k1,k2,k3⟩:=jkc (jvu hb hs _) (jrK hb hs hn _) 4 [] _ h4;have g2:=vE hb g3;have g1:=vE hb g2;have h2':kX bd (rdRn none none nx bd sb) (nx (jao (rdSh none nx bd sb) 4 ([],(nx (nx s).2).2)).2).1.toNat ([],(nx (jao (rdSh none nx bd sb) 4 ([],(nx (nx s).2).2)).2).2)=(l,s'):=h2
 have e:rdYI nx bd sb s=(⟨(nx s).1,(nx (nx s).2).1,S,l⟩,s'):=by
  simp only [rdYI,h2',k2,List.nil_append]
 rw [e];refine RdSeq.app (RdSeq.app (l:=[(nx s).1,(nx (nx s).2).1]) ⟨g1,rfl,g2,rfl,rfl⟩ k3) ⟨h4,?_,h3⟩;have:=hn (jao (rdSh none nx bd sb) 4 ([],(nx (nx s).2).2)).2;dsimp only;omega
end
abbrev ydZ:Yd:=⟨0,0,[],[]⟩
structure jpW (t:ByteArray) (y:Yd):Prop where
 ok:YardOkP y
 nums:∀n∈jbs y,jcK n
 txt:t=jsR (jbs y)
open Classical in
noncomputable def vH (t:ByteArray):Yd×Bool:=if h:∃y,jpW t y then (h.choose,true) else (ydZ,false)
abbrev nI (L:List Int):=rdYI (jai L) (·.2) (fun s=>(s.1,true)) (0,false)
abbrev nS (t:ByteArray):=rdYS (vC t) (·.2) (fun s=>(s.1,true)) (0,false)
noncomputable def jat (t:ByteArray):Yd×Bool:=match rvF t.size t.data.toList with
 |none=>(ydZ,false)
 |some L=>if (nI L).2.2=true∨jB (nI L).1=false∨zr (nI L).1≠t then (ydZ,false) else ((nI L).1,true)
noncomputable def zM (t:ByteArray):Yd×Bool:=if 60000<t.size then (ydZ,false)
 else if (nS t).2.2=true∨(nS t).2.1≠(t.size:Int)∨jB (nS t).1=false then (ydZ,false) else ((nS t).1,true)
theorem yd_I {t:ByteArray} {y:Yd} (h:jpW t y):jat t=(y,true):=by
 obtain ⟨h1,h2,h3⟩:=h;have hr:rvF t.size t.data.toList=some (jbs y):=by subst h3;exact jrM _ _ h2 (Nat.le_refl _)
 have hb:=jBi (sb:=fun s:Nat×Bool=>(s.1,true)) h1 (jr8 (L:=jbs y) (jbs y) (rest:=[]) (lo:=0) (by simp))
 have hy:zr y=t:=by rw [zr,if_pos (jaC h1)];exact h3.symm
 simp only [jat,hr,nI,hb,jaC h1];rw [if_neg];rintro (g|g|g)
 ·cases g
 ·cases g
 ·exact g hy
theorem jzk (L:List Int) (s:Nat×Bool) (h:s.2=true):(jai L s).2.2=true:=by
 unfold jai;split
 ·exact h
 ·rfl
theorem jzj (t:ByteArray) (s:Int×Bool) (h:s.2=true):(vC t s).2.2=true:=by
 unfold vC;rw [if_pos h];exact h
theorem jnt {L:List Int} (h:∀n∈L,jcK n) (s:Nat×Bool):jcK (jai L s).1:=by
 unfold jai;split
 ·rename_i v hv;exact h v (List.mem_of_getElem? hv)
 ·exact ⟨Int.le_refl _,by show (0:Int)≤_;omega⟩
theorem yd_S {t:ByteArray} {y:Yd} (h:jpW t y):zM t=(y,true):=by
 obtain ⟨h1,h2,h3⟩:=h;have hs:=jr7 (t:=t) (jbs y) (rest:=[]) (k:=0) h2 (by subst h3;simp [jod])
 have e0:(((0:Nat):Int),false)=((0:Int),false):=rfl;rw [e0] at hs;have hb:=jBh (sb:=fun s:Int×Bool=>(s.1,true)) h1 hs
 have hy:zr y=t:=by rw [zr,if_pos (jaC h1)];exact h3.symm
 have hl:=jmD y;have hz:t.size=(vl (jbs y)).length:=by rw [h3,jhm]
 rw [hy] at hl;simp only [zM,if_neg (show¬60000<t.size by omega),nS,hb,jaC h1]
 rw [if_neg];rintro (g|g|g)
 ·cases g
 ·exact g (by omega)
 ·cases g
theorem jmj {t:ByteArray}:∀(xs:List Int) (k:Nat) (s':Int×Bool),RdSeq (vC t) (fun s:Int×Bool=>s.2) ((k:Int),false) xs s'→s'.2=false→∃k':Nat,s'.1=(k':Int)∧t.data.toList.drop k=vl xs++t.data.toList.drop k'
 |[],k,s',h,_=>⟨k,by rw [show s'=_ from h],by simp [vl]⟩
 |x::xs,k,s',⟨_,h2,h3⟩,hb=>by
  by_cases hneg:(vAt t (k:Int)).2<0
  ·have e:vC t ((k:Int),false)=(0,((k:Int),true)):=by simp only [vC,Bool.false_eq_true,if_false,if_pos hneg]
   rw [e] at h3;cases xs with
   |nil=>rw [show s'=_ from h3] at hb;cases hb
   |cons y ys=>obtain ⟨h4,-⟩:=h3;cases h4
  ·have e:vC t ((k:Int),false)=((vAt t (k:Int)).1,((vAt t (k:Int)).2,false)):=by simp only [vC,Bool.false_eq_true,if_false,if_neg hneg]
   rw [e] at h2 h3
   have hv:vAt t (k:Int)=match jbt (t.data.toList.drop k) with
    |some (v,m)=>((v:Int),(k:Int)+(m:Int))
    |none=>(0,-1):=by rw [vAt,if_neg (by omega),Int.toNat_natCast];rfl
   cases hh:jbt (t.data.toList.drop k) with
   |none=>rw [hv,hh] at hneg;exact absurd (by show (-1:Int)<0;omega) hneg
   |some p=>
    obtain ⟨v,m⟩:=p;obtain ⟨h4,q,h5,rfl⟩:=zR hh;rw [hv,hh] at h2 h3;have e3:(k:Int)+((vq v).length:Int)=((k+(vq v).length:Nat):Int):=by omega
    simp only [e3] at h2 h3;obtain ⟨k',g1,g2⟩:=jmj xs _ s' h3 hb;refine ⟨k',g1,?_⟩;rw [←List.drop_drop,h5,List.drop_left] at g2;rw [h5,g2,←h2,jaL,jcN h4,List.append_assoc]
theorem jv0 (t:ByteArray):jat t=vH t:=by
 unfold vH;split
 ·rename_i h;exact yd_I h.choose_spec
 ·rename_i h
  unfold jat;split
  ·rfl
  ·rename_i L hL
   obtain ⟨-,hin⟩:=jmV _ _ _ hL;split
   ·rfl
   ·rename_i hc
    refine absurd ⟨(nI L).1,?_⟩ h
    have hb:(nI L).2.2=false:=by
     cases hq:(nI L).2.2 with
     |false=>rfl
     |true=>exact absurd (.inl hq) hc
    have hk:jB (nI L).1=true:=by
     cases hq:jB (nI L).1 with
     |true=>rfl
     |false=>exact absurd (.inr (.inl hq)) hc
    have hy:zr (nI L).1=t:=Classical.byContradiction fun g=>hc (.inr (.inr g))
    have htr:=jyc (nx:=jai L) (bd:=fun s:Nat×Bool=>s.2) (sb:=fun s=>(s.1,true)) (jzk L) (fun _=>rfl) (fun s=>(jnt hin s).1) (0,false) hb
    refine ⟨yard_iff.1 hk,jvz (jnt hin) _ _ _ htr,?_⟩;rw [←hy,zr,if_pos hk]
theorem jns (t:ByteArray) (s:Int×Bool):jcK (vC t s).1:=by
 have h0:jcK 0:=⟨Int.le_refl _,by show (0:Int)≤_;omega⟩
 unfold vC;split
 ·exact h0
 ·split
  ·exact h0
  ·rw [vAt]
   split
   ·exact h0
   ·cases hv:jbt (t.data.toList.drop s.1.toNat) with
    |none=>exact h0
    |some p=>
     obtain ⟨v,m⟩:=p;obtain ⟨h1,-⟩:=zR hv;exact ⟨by dsimp only;omega,by dsimp only;omega⟩
theorem jvZ (t:ByteArray):zM t=vH t:=by
 unfold vH;split
 ·rename_i h;exact yd_S h.choose_spec
 ·rename_i h
  unfold zM;split
  ·rfl
  ·split
   ·rfl
   ·rename_i hc
    refine absurd ⟨(nS t).1,?_⟩ h
    have hb:(nS t).2.2=false:=by
     cases hq:(nS t).2.2 with
     |false=>rfl
     |true=>exact absurd (.inl hq) hc
    have hk:jB (nS t).1=true:=by
     cases hq:jB (nS t).1 with
     |true=>rfl
     |false=>exact absurd (.inr (.inr hq)) hc
    have hz:(nS t).2.1=(t.size:Int):=Classical.byContradiction fun g=>hc (.inr (.inl g))
    have htr:=jyb (nx:=vC t) (bd:=fun s:Int×Bool=>s.2) (sb:=fun s=>(s.1,true)) (jzj t) (fun _=>rfl) (fun s=>(jns t s).1) (0,false) hb
    obtain ⟨k',g1,g2⟩:=jmj (t:=t) _ 0 _ htr hb
    have hk':k'=t.size:=by
     have:(k':Int)=(t.size:Int):=by rw [←g1];exact hz
     omega
    have hs:t.data.toList.length=t.size:=by rw [Array.length_toList];rfl
    rw [List.drop_zero,List.drop_eq_nil_of_le (by omega),List.append_nil] at g2
    refine ⟨yard_iff.1 hk,jvz (jns t) _ _ _ htr,?_⟩
    apply ByteArray.ext
    apply Array.toList_inj.1
    rw [g2,jod]
end Go.Proofs.YtmnpailnelmpiaaGreat
