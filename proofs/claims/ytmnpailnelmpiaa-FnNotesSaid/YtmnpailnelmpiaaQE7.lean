/- Parts. -/
import Derived.Test.YtmnpailnelmpiaaQE4h
import Derived.Test.YtmnpailnelmpiaaProg
import Derived.Laws.StructEq
set_option linter.unusedSimpArgs false
set_option linter.unusedVariables false
set_option maxHeartbeats 2000000
set_option maxRecDepth 100000
namespace Go.Proofs.Ytmnpailnelmpiaa
open Go.RowKit Go.Sort
section
variable {P:Program} {β:Nat} {s:St} {Q Q':Ex→St→Prop}
theorem jg8:∀{is:List Ins} {s:St} {K K':St→Prop},(∀s,K s→K' s)→jeF P β is s K→jeF P β is s K'
 |[],_,_,_,h,hk=>h _ hk
 |i::l,s,K,K',h,hk=>by
  simp only [jeF] at hk⊢;split
  ·rename_i hw;simp only [hw] at hk;exact jdE (fun s'=>jg8 h) hk
  ·rename_i hw;simp only [hw] at hk;exact jg8 h hk
  ·rename_i hw;simp only [hw] at hk
theorem zQ:∀{t:T} {l:List (Nat×List Lk)} {s:St} {K K':St→Prop},(∀s,K s→K' s)→vc P β t l s K→vc P β t l s K'
 |.done,_,_,_,_,h,hk=>h _ hk
 |.stop,_,_,_,_,_,_=>trivial
 |.pure p i t,l,s,K,K',h,hk=>by
  simp only [vc] at hk⊢;split
  ·rename_i hw;simp only [hw] at hk;exact jdE (fun s'=>zQ h) hk
  ·rename_i hw;simp only [hw] at hk;exact zQ h hk
  ·rename_i hw;simp only [hw] at hk
 |.alt i chk t r,l,s,K,K',h,hk=>by
  simp only [vc] at hk⊢;refine ⟨?_,zQ h hk.2⟩;have hk:=hk.1;split
  ·rename_i hw;simp only [hw] at hk;exact jdE (fun s' ⟨h1,h2⟩=>⟨h1,zQ h h2⟩) hk
  ·rename_i hw;simp only [hw] at hk;exact zQ h hk
  ·rename_i hw;simp only [hw] at hk
theorem jbW {n n':St→Prop} (hn:∀s,n s→n' s) (hQ:∀e s,Q e s→Q' e s):∀e s,Ex.thn n Q e s→Ex.thn n' Q' e s
 |.normal,_,h=>hn _ h
 |.exit _,_,h=>hQ _ _ h
 |.ret,_,h=>hQ _ _ h
theorem jvk {id:Nat} (hQ:∀e s,Q e s→Q' e s):∀e s,Ex.inBlk id Q e s→Ex.inBlk id Q' e s
 |.normal,_,h=>hQ _ _ h
 |.exit id',_,h=>by
  simp only [Ex.inBlk] at h⊢;by_cases e:id'=id
  ·rw [if_pos e] at h⊢;exact hQ _ _ h
  ·rw [if_neg e] at h⊢;exact hQ _ _ h
 |.ret,_,h=>hQ _ _ h
theorem qS:∀(c:C) {s:St} {Q Q':Ex→St→Prop},(∀e s,Q e s→Q' e s)→wpC P β c Q s→wpC P β c Q' s
 |.skip,_,_,_,h,hk=>h _ _ hk
 |.reg _,_,_,_,h,hk=>jg8 (fun _=>h _ _) hk
 |.dreg _,_,_,_,h,hk=>zQ (fun _=>h _ _) hk
 |.seq a b,s,Q,Q',h,hk=>by
  rw [jjs] at hk⊢;exact qS a (jbW (fun _=>qS b h) h) hk
 |.cond x a b,_,_,_,h,⟨t,h1,h2,h3⟩=>⟨t,h1,fun ht=>qS a h (h2 ht),fun ht=>qS b h (h3 ht)⟩
 |.blk id a,s,Q,Q',h,hk=>by
  rw [jvy] at hk⊢;exact qS a (jvk h) hk
 |.loop a,_,_,_,h,⟨ι,mk,J,μ,h1,h2⟩=>⟨ι,mk,J,μ,h1,fun i hi=>qS a (jbW (fun _ h=>h) h) (h2 i hi)⟩
 |.gh a,_,_,_,h,hk=>fun _ _ _ _ _ _ hr=>let ⟨s',F',h1,h2⟩:=hk _ _ _ _ _ _ hr;⟨s',F',h1,qS a h h2⟩
 |.exit _,_,_,_,h,hk=>h _ _ hk
 |.ret,_,_,_,h,hk=>h _ _ hk
theorem Wk.refl (s:St):Wk s s:=fun _ _ _ _ _ F h=>⟨F,h,fun g b hb=>⟨g,hb⟩⟩
theorem qB {a:C} {s:St} (J:St→Prop) (μ:St→Nat) (h:J s) (hr:∀s,J s→wpC P β a (Ex.thn (fun s'=>J s'∧μ s'<μ s) Q) s):wpC P β (.loop a) Q s:=by
 refine ⟨St,id,J,μ,⟨s,h,.refl s⟩,fun s hs=>qS a (jbW (fun s' ⟨h1,h2⟩=>⟨s',h1,.refl s',h2⟩) fun _ _ h=>h) (hr s hs)⟩
theorem jsa {p:Nat→Prop} (h:∃n,p n):∃n,p n∧∀m,p m→n≤m:=by
 obtain ⟨n,hn⟩:=h
 induction n using Nat.strongRecOn with
 |_ n ih=>
  by_cases hm:∃m,m<n∧p m
  ·obtain ⟨m,h1,h2⟩:=hm
   exact ih m h1 h2
  ·exact ⟨n,hn,fun m hp=>Nat.le_of_not_lt fun hlt=>hm ⟨m,hlt,hp⟩⟩
def rounds (P:Program) (β:Nat) (a:C) (Q:Ex→St→Prop):Nat→St→Prop
 |0,_=>False
 |n+1,s=>wpC P β a (Ex.thn (rounds P β a Q n) Q) s
open Classical in
theorem jqx {a:C} {n:Nat} (h:rounds P β a Q n s):wpC P β (.loop a) Q s:=by
 refine qB (fun s=>∃n,rounds P β a Q n s) (fun s=>if h:∃n,rounds P β a Q n s then Classical.choose (jsa h) else 0) ⟨n,h⟩ ?_
 intro s hs;obtain ⟨h1,h0⟩:=Classical.choose_spec (jsa hs)
 obtain ⟨m,hm⟩:∃m,Classical.choose (jsa hs)=m+1:=by
  cases hq:Classical.choose (jsa hs) with
  |zero=>rw [hq] at h1;exact h1.elim
  |succ m=>exact ⟨m,rfl⟩
 rw [hm] at h1;refine qS _ (jbW (fun s' h2=>⟨⟨m,h2⟩,?_⟩) fun _ _ h=>h) h1
 have h3:∃n,rounds P β a Q n s':=⟨m,h2⟩;have h4:=(Classical.choose_spec (jsa h3)).2 m h2;simp only [dif_pos hs,dif_pos h3,hm];omega
theorem ja6 {a:C} {s:St} (n:Nat) (h:wpC P β a (Ex.thn (rounds P β a Q n) Q) s):wpC P β (.loop a) Q s:=jqx (n:=n+1) h
theorem jwT (a:C) (n:Nat):rounds P β a Q (n+1) s=wpC P β a (Ex.thn (rounds P β a Q n) Q) s:=(rfl)
theorem jqC {t:Nat} {w:Bool} (h:s.t t=.c (.v undef)):qN s (some (t,w))=some false:=by
 simp only [qN,h];rfl
theorem jyO {t:Nat} {w:Bool} {d:Option Nat} {K:St→Prop} (i:I) (l:List Ins) (h:s.t t=.c (.v undef)):jeF P β (⟨d,some (t,w),i⟩::l) s K=jeF P β l (s.put d (.c (.v undef))) K:=by
 simp only [jeF,jqC h]
theorem rt_gu {t p:Nat} {w:Bool} {d:Option Nat} {l:List (Nat×List Lk)} {K:St→Prop} (i:I) (t':T) (h:s.t t=.c (.v undef)):vc P β (.pure p ⟨d,some (t,w),i⟩ t') l s K=vc P β t' l (s.put d (.c (.v undef))) K:=by
 simp only [vc,jqC h]
theorem ra_gu {t:Nat} {w:Bool} {d:Option Nat} {l:List (Nat×List Lk)} {K:St→Prop} (i:I) (chk:List Nat) (t' r:T) (h:s.t t=.c (.v undef)):vc P β (.alt ⟨d,some (t,w),i⟩ chk t' r) l s K=(vc P β t' l (s.put d (.c (.v undef))) K∧vc P β r l s K):=by
 simp only [vc,jqC h]
theorem jsl:IsD [] []=True:=by simp [IsD]
theorem juG (x:Value) (l:List Cell) (d:D) (ds:List D):IsD (.a (.v x)::l) (d::ds)=((d=.val x∨x=.slice none 0 0∧∃size ty,d=.sl size ty [])∧IsD l ds):=rfl
theorem jxB (x:Value) (l:List Cell) (ds:List D):IsD (.a (.v x)::l) (.val x::ds)=IsD l ds:=by rw [juG];simp
theorem isD_1 (x u:Value):IsD [.a (.v x)] [.val u]=(x=u):=by
 rw [juG];simp only [jsl];apply propext;constructor
 ·rintro ⟨h|⟨_,_,_,h⟩,_⟩
  ·cases h;rfl
  ·cases h
 ·rintro rfl;exact ⟨.inl rfl,trivial⟩
theorem jkg (l:List Cell) (size:Nat) (ty:TypeId) (ds:List D):IsD (.a (.v (.slice none 0 0))::l) (.sl size ty []::ds)=IsD l ds:=by rw [juG];simp
theorem jxC (d d':D) (η:jm) (l:List Cell) (ds:List D):IsD (.own d' η::l) (d::ds)=(d'=d∧IsD l ds):=(rfl)
def jrv (s:St):RT→AV→Prop
 |.c d,.c a=>kM s [a] fun cs _=>IsD cs [d]
 |.agg ds,.agg l=>kM s l fun cs _=>IsD cs ds
 |_,_=>False
theorem jy0 (d:D) (a:A0):jrv s (.c d) (.c a)=kM s [a] fun cs _=>IsD cs [d]:=(rfl)
theorem jui (ds:List D) (l:List A0):jrv s (.agg ds) (.agg l)=kM s l fun cs _=>IsD cs ds:=(rfl)
theorem ret_t (n:Nat) (rt:RT):jqv [.t n] rt s=jrv s rt (s.t n):=by
 apply propext
 simp only [jqv,jgK];cases h:s.t n with
 |c a=>cases rt<;>simp [jrv,zH,RT.flat]
 |agg l=>cases rt<;>simp [jrv,zH,RT.flat]
 |_=>cases rt<;>simp [jrv]
def jmH (s:St) (agg:Bool) (k:Nat) (rt:RT) (a:AV):Prop:=∃l,vQ s k l a∧(agg=true∨l.length=1)∧zH rt [(agg,l)]∧kM s ([(agg,l)].flatMap (·.2)) fun cs _=>IsD cs rt.flat
theorem juh (n k:Nat) (agg:Bool) (rt:RT):jqv [.cell n agg k] rt s=jmH s agg k rt (s.t n):=(rfl)
theorem jpl (k g c b:Nat) (agg:Bool) (rt:RT):jmH s agg k rt (.c (.bp g c b))=ldB (s.o g) g c b k fun l=>ldV agg l fun v=>jrv s rt v:=by
 apply propext
 simp only [jmH,vQ];cases ho:s.o g with
 |box b' ty cs=>
  simp only [ldB,Ob.box.injEq];constructor
  ·rintro ⟨l,⟨_,_,⟨rfl,rfl,rfl⟩,h2,rfl⟩,h3,h4,h5⟩
   refine ⟨rfl,h2,?_⟩;cases agg with
   |true=>cases rt<;>simp_all [ldV,jrv,zH,RT.flat]
   |false=>
    obtain ⟨a,ha⟩:=List.length_eq_one_iff.1 (by simpa using h3)
    rw [ha] at h4 h5⊢;cases rt<;>simp_all [ldV,jrv,zH,RT.flat]
  ·rintro ⟨rfl,h2,h3⟩
   refine ⟨_,⟨ty,cs,⟨rfl,rfl,rfl⟩,h2,rfl⟩,?_⟩;cases agg with
   |true=>cases rt<;>simp_all [ldV,jrv,zH,RT.flat]
   |false=>
    generalize jdS g c ((cs.drop c).take k)=l at h3⊢
    match l,h3 with
    |[a],h3=>cases rt<;>simp_all [ldV,jrv,zH,RT.flat]
 |_=>simp [ldB]
theorem ri_r (rs:List R) (K:AV→(Nat→Ob)→Prop):inlE rs K .ret s=jtI rs K s:=(rfl)
def retI (s:St) (K:AV→(Nat→Ob)→Prop):AV→Prop
 |.c a=>K (.c a) s.o
 |.agg l=>K (.agg l) s.o
 |_=>False
theorem jyZ (K:AV→(Nat→Ob)→Prop) (a:A0):retI s K (.c a)=K (.c a) s.o:=(rfl)
theorem jyY (n:Nat) (K:AV→(Nat→Ob)→Prop):jtI [.t n] K s=retI s K (s.t n):=by
 simp only [jtI,jgK];cases h:s.t n<;>simp [retI]
def jjM (s:St) (agg:Bool) (k:Nat) (K:AV→(Nat→Ob)→Prop) (a:AV):Prop:=∃l,vQ s k l a∧(agg=true∨l.length=1)∧(match [(agg,l)] with
 |[(true,l)]=>K (.agg l) s.o
 |[(false,[a])]=>K (.c a) s.o
 |[]=>K (.tup []) s.o
 |p::q::r=>K (.tup (p::q::r)) s.o
 |_=>False)
theorem jrs (n k:Nat) (agg:Bool) (K:AV→(Nat→Ob)→Prop):jtI [.cell n agg k] K s=jjM s agg k K (s.t n):=(rfl)
theorem jmG (k g c b:Nat) (agg:Bool) (K:AV→(Nat→Ob)→Prop):jjM s agg k K (.c (.bp g c b))=ldB (s.o g) g c b k fun l=>ldV agg l fun v=>K v s.o:=by
 apply propext
 simp only [jjM,vQ];cases ho:s.o g with
 |box b' ty cs=>
  simp only [ldB,Ob.box.injEq];constructor
  ·rintro ⟨l,⟨_,_,⟨rfl,rfl,rfl⟩,h2,rfl⟩,h3,h4⟩
   refine ⟨rfl,h2,?_⟩;cases agg with
   |true=>exact h4
   |false=>
    obtain ⟨a,ha⟩:=List.length_eq_one_iff.1 (by simpa using h3)
    rw [ha] at h4⊢;exact h4
  ·rintro ⟨rfl,h2,h3⟩
   refine ⟨_,⟨ty,cs,⟨rfl,rfl,rfl⟩,h2,rfl⟩,?_⟩;cases agg with
   |true=>exact ⟨.inl rfl,h3⟩
   |false=>
    generalize jdS g c ((cs.drop c).take k)=l at h3⊢
    match l,h3 with
    |[a],h3=>exact ⟨.inr rfl,h3⟩
 |_=>simp [ldB]
theorem jwr (args:List AV) (o:Nat→Ob) (n:Nat):(St.start args o).t n=(args[n]?).getD .unk:=(rfl)
theorem jws (args:List AV) (o:Nat→Ob):(St.start args o).o=o:=(rfl)
end
theorem jmr (n:Int) (h:-1000000000000000≤n) (h':n<1000000000000000):IntKind.i64.wrap n=n:=jg (by omega) (by omega)
attribute [go_sem_proc] Int.reduceBEq Int.reduceBNe Nat.reduceBNe Int.reduceAdd Int.reduceSub Int.reduceMul Int.reduceLE Int.reduceLT Int.reduceGE Int.reduceGT Int.reduceTMod Int.reduceTDiv Int.reduceNe Int.reduceNeg Int.reduceToNat Nat.reduceDiv Nat.reduceMod Nat.reducePow Int.reduceNegSucc
attribute [go_sem] Int.cast_ofNat_Int jyO rt_gu ra_gu jwT jsl isD_1 jxB jkg jxC jwr jws ri_r jyZ jyY jrs jmG ret_t juh jpl jy0 jui
section
variable {P:Program} {f:FuncId}
theorem jyg {w:World} {v1 v2:View} {xs:List Value} (h:vz w [v1,v2] xs):∃a b,xs=[a,b]∧ViewRel w v1 a∧ViewRel w v2 b:=by
 obtain ⟨a,_,rfl,h1,b,_,rfl,h2,h3⟩:=h;rw [show _=_ from h3]
 exact ⟨a,b,rfl,h1,h2⟩
theorem jyh {w:World} {v1:View} {xs:List Value} (h:vz w [v1] xs):∃a,xs=[a]∧ViewRel w v1 a:=by
 obtain ⟨a,_,rfl,h1,h3⟩:=h;rw [show _=_ from h3]
 exact ⟨a,rfl,h1⟩
theorem jrF {v1 v2:View} {u:Value} (hn:jmo P f) (h:∀w a b,ViewRel w v1 a→ViewRel w v2 b→Calls P f #[a,b] w fun e w'=>e=.returned u∧Below w.heap.size w w'):kl P f [v1,v2] (.c (.val u)):=by
 refine ⟨hn,fun w xs hv=>?_⟩
 obtain ⟨a,b,rfl,h1,h2⟩:=jyg hv;exact (h w a b h1 h2).mono fun e w' ⟨he,hb⟩=>⟨u,[],he,⟨rfl,rfl⟩,Fresh.nil _,hb⟩
theorem pure1 {v1:View} {u:Value} (hn:jmo P f) (h:∀w a,ViewRel w v1 a→Calls P f #[a] w fun e w'=>e=.returned u∧Below w.heap.size w w'):kl P f [v1] (.c (.val u)):=by
 refine ⟨hn,fun w xs hv=>?_⟩
 obtain ⟨a,rfl,h1⟩:=jyh hv;exact (h w a h1).mono fun e w' ⟨he,hb⟩=>⟨u,[],he,⟨rfl,rfl⟩,Fresh.nil _,hb⟩
theorem jrG {ds:List D} (hn:jmo P f) (h:∀w,Calls P f #[] w (jwb w ds)):kl P f [] (.agg ds):=by
 refine ⟨hn,fun w xs hv=>?_⟩
 rw [show xs=[] from hv]
 exact (h w).mono fun e w' h=>h
theorem jbU {w:World} {u a:Value} (h:ViewRel w (.c (.val u)) a):a=u:=by obtain ⟨S,h1,_⟩:=h;exact h1
end
attribute [go_sem] and_false false_and
def vT:jm
 |[]=>.slice none 0 0
 |_::_=>undef
def A0.sim:A0→A0→Prop
 |.v x,.v y=>x=y
 |.v x,.h _ _ _ y=>x=y∧x.oneCell'=true
 |.h _ _ _ x,.h _ _ _ y=>x=y
 |.bp _ c b,.bp _ c' b'=>c=c'∧b=b'
 |.ep _ _ _ i x,.ep _ _ _ i' x'=>i=i'∧x=x'
 |.hs _ _ _ x s l n,.hs _ _ _ y s' l' n'=>x=y∧s=s'∧l=l'∧n=n'
 |.ro d,.ro d'=>d=d'
 |.rp ds,.rp ds'=>ds=ds'
 |.un,.un=>True
 |_,_=>False
def simL:List A0→List A0→Prop
 |[],[]=>True
 |a::l,b::m=>a.sim b∧simL l m
 |_,_=>False
def AV.sim:AV→AV→Prop
 |.c a,.c b=>a.sim b
 |.agg l,.agg m=>simL l m
 |.fn f l,.fn f' m=>f=f'∧simL l m
 |.tup l,.tup m=>l=m
 |_,.unk=>True
 |_,_=>False
def Cell.sim:Cell→Cell→Prop
 |.a x,.a y=>x.sim y
 |.own d η,.own d' η'=>d=d'∧η=η'
 |.a (.v x),.own d η=>x=.slice none 0 0∧d.isSl=true∧d.cells=[]∧η=vT
 |_,_=>False
def simC:List Cell→List Cell→Prop
 |[],[]=>True
 |a::l,b::m=>a.sim b∧simC l m
 |_,_=>False
def Ob.sim:Ob→Ob→Prop
 |.loose d η,.loose d' η'=>d=d'∧η=η'
 |.box b ty cs,.box b' ty' cs'=>b=b'∧ty=ty'∧simC cs cs'
 |.none,.none=>True
 |_,_=>False
def nilOb:Ob→Prop
 |.loose d η=>d.isSl=true∧d.cells=[]∧η=vT
 |_=>False
def lkT:List (Nat×AV)→Nat→AV
 |[],_=>.unk
 |(k,v)::T,n=>if n=k then v else lkT T n
def lkO:List (Nat×Ob)→Nat→Ob
 |[],_=>.none
 |(k,v)::T,n=>if n=k then v else lkO T n
def St.of (T:List (Nat×AV)) (O:List (Nat×Ob)):St:=⟨lkT T,lkO O⟩
def jv1 (s:St):List (Nat×AV)→Prop
 |[]=>True
 |(n,v)::T=>(s.t n).sim v∧jv1 s T
def joq (s:St):List (Option Nat)→List (Nat×Ob)→Prop
 |[],[]=>True
 |some k::ks,(_,ob)::O=>(s.o k).sim ob∧joq s ks O
 |none::ks,(_,ob)::O=>nilOb ob∧joq s ks O
 |_,_=>False
def fp (F:Nat→List Nat):List (Option Nat)→List (Nat×Ob)→Nat→List Nat
 |k::ks,(g',_)::O,g=>if g=g' then (match k with|some k=>F k|none=>[]) else fp F ks O g
 |_,_,_=>[]
def jo3:List (Option Nat)→List Nat
 |[]=>[]
 |some k::ks=>k::jo3 ks
 |none::ks=>jo3 ks
def jh8:List Nat→Bool
 |[]=>true
 |k::ks=>!ks.contains k&&jh8 ks
section
variable {B N:Nat} {w0 w:World} {s:St} {a:Act} {F:Nat→List Nat}
theorem A0.sim.rel:∀{a b:A0} {u:Value},a.sim b→A0Rel B w a u→A0Rel B w b u
 |.v x,.v y,u,hh,hr=>by rw [show x=y from hh] at hr;exact hr
 |.v x,.h _ _ _ y,u,hh,hr=>by obtain ⟨h1,h2⟩:=hh;subst h1;exact ⟨hr,h2⟩
 |.h _ _ _ x,.h _ _ _ y,u,hh,hr=>by rw [show x=y from hh] at hr;exact hr
 |.bp _ c b,.bp _ c' b',u,hh,hr=>by obtain ⟨h1,h2⟩:=hh;subst h1 h2;exact hr
 |.ep _ _ _ i x,.ep _ _ _ i' x',u,hh,hr=>by obtain ⟨h1,h2⟩:=hh;subst h1 h2;exact hr
 |.hs _ _ _ x s l n,.hs _ _ _ y s' l' n',u,hh,hr=>by obtain ⟨h1,h2,h3,h4⟩:=hh;subst h1 h2 h3 h4;exact hr
 |.ro d,.ro d',u,hh,hr=>by rw [show d=d' from hh] at hr;exact hr
 |.rp ds,.rp ds',u,hh,hr=>by rw [show ds=ds' from hh] at hr;exact hr
 |.un,.un,_,_,hr=>hr
theorem simL.rel:∀{l m:List A0} {us:List Value},simL l m→A0RelL B w l us→A0RelL B w m us
 |[],[],_,_,hr=>hr
 |_::_,_::_,_,⟨h1,h2⟩,⟨u,us',e,h3,h4⟩=>⟨u,us',e,h1.rel h3,h2.rel h4⟩
theorem AV.sim.rel {v v':AV} {u:Value} (h:v.sim v') (hr:VRel B w v u):VRel B w v' u:=by
 cases v' with
 |unk=>trivial
 |c b=>cases v<;>first|exact A0.sim.rel h hr|exact h.elim
 |agg m=>cases v<;>first|(obtain ⟨us,e,h1⟩:=hr;exact ⟨us,e,simL.rel h h1⟩)|exact h.elim
 |fn f m=>cases v<;>first|(obtain ⟨us,e,h1⟩:=hr;obtain ⟨rfl,h2⟩:=h;exact ⟨us,e,h2.rel h1⟩)|exact h.elim
 |tup m=>cases v<;>first|(rw [show _=m from h] at hr;exact hr)|exact h.elim
theorem jr1 {d:D} (hs:d.isSl=true) (hc:d.cells=[]):(∃size ty,d=.sl size ty [])∧∀p,vT p=hdr w p d (.slice none 0 0):=by
 cases d with
 |val u=>cases hs
 |sl size ty cs=>
  obtain rfl:cs=[]:=hc;exact ⟨⟨_,_,rfl⟩,fun p=>by cases p<;>rfl⟩
theorem simC.rel:∀{cs cs':List Cell} {us:List Value} {S:List Nat},simC cs cs'→CRel B w cs us S→CRel B w cs' us S
 |[],[],_,_,_,hr=>hr
 |.a x::l,.a y::m,_,_,⟨h1,h2⟩,⟨u,us',e,h3,h4⟩=>⟨u,us',e,A0.sim.rel h1 h3,h2.rel h4⟩
 |.own d η::l,.own d' η'::m,_,_,⟨⟨h1,h1'⟩,h2⟩,⟨u,us',S1,S2,e,e',h3,h4,h5,h6⟩=>by
  subst h1 h1';exact ⟨u,us',S1,S2,e,e',h3,h4,h5,h2.rel h6⟩
 |.a (.v x)::l,.own d η::m,_,S,⟨⟨h1,h2,h3,h4⟩,h5⟩,⟨u,us',e,h6,h7⟩=>by
  subst h1 h4;obtain ⟨⟨size,ty,rfl⟩,k2⟩:=jr1 (w:=w) h2 h3;refine ⟨u,us',[],S,e,rfl,h2,?_,fun p=>?_,h5.rel h7⟩
  ·rw [show u=_ from h6];exact Rep.nil_ w size ty
  ·rw [show u=_ from h6];exact k2 p
theorem Ob.sim.rel {ob ob':Ob} {S:List Nat} (h:ob.sim ob') (hr:ORel B w ob S):ORel B w ob' S:=by
 cases ob<;>cases ob'<;>first|exact h.elim|skip
 ·exact hr
 ·obtain ⟨rfl,rfl⟩:=h;exact hr
 ·obtain ⟨rfl,rfl,h⟩:=h;obtain ⟨us,S1,h1,h2,h3⟩:=hr;exact ⟨us,S1,h1,h.rel h2,h3⟩
theorem nilOb.rel {ob:Ob} (h:nilOb ob):ORel B w ob []:=by
 cases ob with
 |loose d η=>
  obtain ⟨h1,h2,rfl⟩:=h;obtain ⟨⟨size,ty,rfl⟩,k2⟩:=jr1 (w:=w) h1 h2;exact ⟨h1,_,Rep.nil_ w size ty,k2⟩
 |_=>exact h.elim
theorem jdZ:∀{ks:List (Option Nat)} {O:List (Nat×Ob)} {g b:Nat},b∈fp F ks O g→∃k∈jo3 ks,b∈F k
 |[],_,_,_,h=>by simp [fp] at h
 |_::_,[],_,_,h=>by simp [fp] at h
 |k::ks,(g',ob)::O,g,b,h=>by
  simp only [fp] at h;split at h
  ·cases k with
   |some k=>exact ⟨k,by simp [jo3],h⟩
   |none=>simp at h
  ·obtain ⟨k',h1,h2⟩:=jdZ h
   exact ⟨k',by cases k<;>simp [jo3,h1],h2⟩
theorem jaF:∀{l:List Nat},jh8 l=true→l.Nodup
 |[],_=>List.nodup_nil
 |k::l,h=>by
  simp only [jh8,Bool.and_eq_true,Bool.not_eq_true',List.contains_eq_mem,decide_eq_false_iff_not] at h;exact List.nodup_cons.2 ⟨h.1,jaF h.2⟩
theorem juQ (hdj:∀g g',g≠g'→∀b∈F g,b∉F g'):∀{ks:List (Option Nat)} {O:List (Nat×Ob)},(jo3 ks).Nodup→∀g g',g≠g'→∀b∈fp F ks O g,b∉fp F ks O g'
 |[],_,_,_,_,_,b,h=>by simp [fp] at h
 |_::_,[],_,_,_,_,b,h=>by simp [fp] at h
 |k::ks,(g0,ob)::O,hn,g,g',hne,b,h=>by
  have hn':(jo3 ks).Nodup:=by cases k with
   |none=>exact hn
   |some k=>exact (List.nodup_cons.1 hn).2
  have key:∀{g g':Nat},g=g0→g'≠g0→b∈fp F (k::ks) ((g0,ob)::O) g→b∉fp F (k::ks) ((g0,ob)::O) g':=by
   intro g g' e hne' h h';simp only [fp,if_pos e] at h;simp only [fp,if_neg hne'] at h';cases k with
   |none=>simp at h
   |some k=>
    obtain ⟨k',h1,h2⟩:=jdZ h';have:k≠k':=fun e=>(List.nodup_cons.1 hn).1 (by rw [e];exact h1)
    exact hdj _ _ this b h h2
  by_cases e:g=g0
  ·exact key e (fun e'=>hne (e.trans e'.symm)) h
  ·by_cases e':g'=g0
   ·exact fun h'=>key e' e h' h
   ·simp only [fp,if_neg e] at h
    simp only [fp,if_neg e'];exact juQ hdj hn' g g' hne b h
theorem jsC (h:∀g,ORel B w (s.o g) (F g)):∀{ks:List (Option Nat)} {O:List (Nat×Ob)},joq s ks O→∀g,ORel B w (lkO O g) (fp F ks O g)
 |[],[],_,_=>rfl
 |[],_::_,hf,_=>hf.elim
 |some _::_,[],hf,_=>hf.elim
 |none::_,[],hf,_=>hf.elim
 |some k::ks,(g',ob)::O,⟨h1,h2⟩,g=>by
  simp only [lkO,fp];by_cases e:g=g'
  ·rw [if_pos e,if_pos e];exact h1.rel (h k)
  ·rw [if_neg e,if_neg e];exact jsC h h2 g
 |none::ks,(g',ob)::O,⟨h1,h2⟩,g=>by
  simp only [lkO,fp];by_cases e:g=g'
  ·rw [if_pos e,if_pos e];exact h1.rel
  ·rw [if_neg e,if_neg e];exact jsC h h2 g
theorem juP (h:∀g,Fresh B (F g)):∀(ks:List (Option Nat)) (O:List (Nat×Ob)) (g:Nat),Fresh B (fp F ks O g)
 |[],_,_=>Fresh.nil _
 |_::_,[],_=>Fresh.nil _
 |k::ks,(g',ob)::O,g=>by
  simp only [fp];split
  ·cases k with
   |some k=>exact h k
   |none=>exact Fresh.nil _
  ·exact juP h ks O g
theorem juT (h:∀n,VRel B w (s.t n) (a.tmps.getD n undef)):∀{T:List (Nat×AV)},jv1 s T→∀n,VRel B w (lkT T n) (a.tmps.getD n undef)
 |[],_,_=>trivial
 |(k,v)::T,⟨h1,h2⟩,n=>by
  simp only [lkT];by_cases e:n=k
  ·rw [if_pos e];subst e;exact h1.rel (h n)
  ·rw [if_neg e];exact juT h h2 n
theorem jl (ks:List (Option Nat)) {T:List (Nat×AV)} {O:List (Nat×Ob)} (h:jv1 s T∧joq s ks O) (hn:jh8 (jo3 ks)=true:=by decide):Wk s (St.of T O):=
 fun B N w0 w a F hr=>⟨fp F ks O,⟨hr.below,hr.hB,hr.df,hr.sz,juT hr.sl h.1,jsC hr.ob h.2,juP hr.fr ks O,juQ hr.dj (jaF hn)⟩,
  fun g b hb=>by obtain ⟨k,_,h2⟩:=jdZ hb;exact ⟨k,h2⟩⟩
end
section
variable {P:Program} {β:Nat} {s:St} {Q:Ex→St→Prop}
theorem jq {ι:Type} {a:C} (mk:ι→St) (J:ι→Prop) (μ:ι→Nat) (i0:ι) (h0:J i0) (hw:Wk s (mk i0)) (hr:∀i,J i→wpC P β a (Ex.thn (fun s'=>∃i',J i'∧Wk s' (mk i')∧μ i'<μ i) Q) (mk i)):wpC P β (.loop a) Q s:=⟨ι,mk,J,μ,⟨i0,h0,hw⟩,hr⟩
theorem wp_gh {a:C} (s':St) (h:Wk s s') (hk:wpC P β a Q s'):wpC P β (.gh a) Q s:=fun _ _ _ _ _ _ hr=>let ⟨F',h1,_⟩:=h _ _ _ _ _ _ hr;⟨s',F',h1,hk⟩
end
section
variable {s:St}
theorem of_t (T:List (Nat×AV)) (O:List (Nat×Ob)) (n:Nat):(St.of T O).t n=lkT T n:=(rfl)
theorem of_o (T:List (Nat×AV)) (O:List (Nat×Ob)) (n:Nat):(St.of T O).o n=lkO O n:=(rfl)
theorem juy (k n:Nat) (v:AV) (T:List (Nat×AV)):lkT ((k,v)::T) n=if n=k then v else lkT T n:=(rfl)
theorem jxq (n:Nat):lkO [] n=.none:=(rfl)
theorem juz (k n:Nat) (v:Ob) (T:List (Nat×Ob)):lkO ((k,v)::T) n=if n=k then v else lkO T n:=(rfl)
theorem juU:jv1 s []=True:=(rfl)
theorem jsI (n:Nat) (v:AV) (T:List (Nat×AV)):jv1 s ((n,v)::T)=((s.t n).sim v∧jv1 s T):=(rfl)
theorem juV:joq s [] []=True:=(rfl)
theorem jzD (k g:Nat) (ob:Ob) (ks:List (Option Nat)) (O:List (Nat×Ob)):joq s (some k::ks) ((g,ob)::O)=((s.o k).sim ob∧joq s ks O):=(rfl)
theorem jzE (g:Nat) (ob:Ob) (ks:List (Option Nat)) (O:List (Nat×Ob)):joq s (none::ks) ((g,ob)::O)=(nilOb ob∧joq s ks O):=(rfl)
theorem jzp (d:D) (η:jm):nilOb (.loose d η)=(d.isSl=true∧d.cells=[]∧η=vT):=(rfl)
theorem nilH_:vT []=.slice none 0 0:=(rfl)
theorem sim_c (a b:A0):AV.sim (.c a) (.c b)=a.sim b:=(rfl)
theorem jww (l m:List A0):AV.sim (.agg l) (.agg m)=simL l m:=(rfl)
theorem jt5:simL [] []=True:=(rfl)
theorem jq4 (a b:A0) (l m:List A0):simL (a::l) (b::m)=(a.sim b∧simL l m):=(rfl)
theorem sim_v (x y:Value):A0.sim (.v x) (.v y)=(x=y):=(rfl)
theorem jyw (x y:Value) (g c:Nat) (p:List Nat):A0.sim (.v x) (.h g c p y)=(x=y∧x.oneCell'=true):=(rfl)
theorem sim_h (x y:Value) (g c g' c':Nat) (p p':List Nat):A0.sim (.h g c p x) (.h g' c' p' y)=(x=y):=(rfl)
theorem jyz (g c b g' c' b':Nat):A0.sim (.bp g c b) (.bp g' c' b')=(c=c'∧b=b'):=(rfl)
theorem jyy (g c g' c' sz lo n sz' lo' n':Nat) (p p':List Nat) (x x':Value):A0.sim (.hs g c p x sz lo n) (.hs g' c' p' x' sz' lo' n')=(x=x'∧sz=sz'∧lo=lo'∧n=n'):=(rfl)
theorem jyx (d d':D):A0.sim (.ro d) (.ro d')=(d=d'):=(rfl)
theorem jyv (x y:A0):Cell.sim (.a x) (.a y)=x.sim y:=by cases x<;>rfl
theorem jt3 (d d':D) (η η':jm):Cell.sim (.own d η) (.own d' η')=(d=d'∧η=η'):=(rfl)
theorem jt4 (x:Value) (d:D) (η:jm):Cell.sim (.a (.v x)) (.own d η)=(x=.slice none 0 0∧d.isSl=true∧d.cells=[]∧η=vT):=(rfl)
theorem jt6:simC [] []=True:=(rfl)
theorem jq5 (a b:Cell) (l m:List Cell):simC (a::l) (b::m)=(a.sim b∧simC l m):=(rfl)
theorem jyA (d d':D) (η η':jm):Ob.sim (.loose d η) (.loose d' η')=(d=d'∧η=η'):=(rfl)
theorem jyB (b ty b' ty':Nat) (cs cs':List Cell):Ob.sim (.box b ty cs) (.box b' ty' cs')=(b=b'∧ty=ty'∧simC cs cs'):=(rfl)
end
attribute [go_sem] of_t of_o juy jxq juz juU jsI juV jzD jzE jzp nilH_ sim_c jww jt5 jq4 sim_v jyw sim_h jyz jyy jyx jyv jt3 jt4 jt6 jq5 jyA jyB
section
variable {P:Program} {β:Nat} {s:St}
theorem jm5 (l:List Int):(jo l).len=l.length:=vx (enc:=fun n=>[iv n]) (fun _=>rfl) (by decide) _ _
theorem zy {l:List Int} {k:Nat} {x:Int} (h:l[k]?=some x):(jo l).elem k=[iv x]:=qz (enc:=fun n=>[iv n]) (fun _=>rfl) h
theorem jo5 (l:List Int):(jo l).isSl=true:=(rfl)
theorem joW (l:List Int):(jo l).size=1:=(rfl)
theorem jpk (l:List Int):(jo l).toRo=.ro (jo l):=(rfl)
theorem jmX (l:List Int) (g:Nat) (η:jm):(jo l).obj g η=[(g,.loose (jo l) η)]:=(rfl)
theorem jmT (l:List Int) (g c:Nat) (p:List Nat) (η:jm):(jo l).toOwn g c p η=.h g c p (η p):=(rfl)
theorem jkC (l:List Int):(jo l).cells=l.flatMap (fun n=>[iv n]):=(rfl)
theorem jb4 (l:List Ed):(jt l).len=l.length:=vx (enc:=jW) (fun _=>rfl) (by decide) _ _
theorem jB {l:List Ed} {k:Nat} {x:Ed} (h:l[k]?=some x):(jt l).elem k=jW x:=qz (enc:=jW) (fun _=>rfl) h
theorem jq1 (l:List Ed):(jt l).isSl=true:=(rfl)
theorem jqP (l:List Ed):(jt l).size=2:=(rfl)
theorem jpF (l:List Ed) (g:Nat) (η:jm):(jt l).obj g η=[(g,.loose (jt l) η)]:=(rfl)
theorem jpy (l:List Ed) (g c:Nat) (p:List Nat) (η:jm):(jt l).toOwn g c p η=.h g c p (η p):=(rfl)
theorem jma (l:List Ed):(jt l).cells=l.flatMap (jW):=(rfl)
theorem jpE (l:List En) (g:Nat) (η:jm):(jv l).obj g η=[(g,.loose (jv l) η)]:=(rfl)
theorem jpx (l:List En) (g c:Nat) (p:List Nat) (η:jm):(jv l).toOwn g c p η=.h g c p (η p):=(rfl)
theorem jl9 (l:List En):(jv l).cells=l.flatMap (jy):=(rfl)
theorem jpA (l:List Tk) (g:Nat) (η:jm):(jI l).obj g η=[(g,.loose (jI l) η)]:=(rfl)
theorem jpt (l:List Tk) (g c:Nat) (p:List Nat) (η:jm):(jI l).toOwn g c p η=.h g c p (η p):=(rfl)
theorem jl5 (l:List Tk):(jI l).cells=l.flatMap (ju):=(rfl)
theorem jpB (l:List Rn) (g:Nat) (η:jm):(jN l).obj g η=[(g,.loose (jN l) η)]:=(rfl)
theorem jpu (l:List Rn) (g c:Nat) (p:List Nat) (η:jm):(jN l).toOwn g c p η=.h g c p (η p):=(rfl)
theorem jl6 (l:List Rn):(jN l).cells=l.flatMap (jd):=(rfl)
theorem jrX (l:List (List En)) (g:Nat) (η:jm):(kL l).obj g η=[(g,.loose (kL l) η)]:=(rfl)
theorem jrU (l:List (List En)) (g c:Nat) (p:List Nat) (η:jm):(kL l).toOwn g c p η=.h g c p (η p):=(rfl)
theorem jnn (l:List (List En)):(kL l).cells=l.flatMap (fun es=>[jv es]):=(rfl)
theorem vY (l:List Nt):(jH l).len=l.length:=vx (enc:=jE) (fun _=>rfl) (by decide) _ _
theorem jdg {l:List Nt} {k:Nat} {x:Nt} (h:l[k]?=some x):(jH l).elem k=jE x:=qz (enc:=jE) (fun _=>rfl) h
theorem jqY (l:List Nt):(jH l).isSl=true:=(rfl)
theorem jqM (l:List Nt):(jH l).size=12:=(rfl)
theorem jrl (l:List Nt):(jH l).toRo=.ro (jH l):=(rfl)
theorem jpC (l:List Nt) (g:Nat) (η:jm):(jH l).obj g η=[(g,.loose (jH l) η)]:=(rfl)
theorem jpv (l:List Nt) (g c:Nat) (p:List Nat) (η:jm):(jH l).toOwn g c p η=.h g c p (η p):=(rfl)
theorem jl7 (l:List Nt):(jH l).cells=l.flatMap (jE):=(rfl)
theorem jmC (l:List Int) (e:Nat) (k:List D→Prop):slK (jo l) e 1 k=(joU=e∧k (l.flatMap (fun n=>[iv n]))):=by rw [show jo l=.sl 1 joU (l.flatMap (fun n=>[iv n])) from rfl,jq3];simp
theorem jnm (l:List Int):(l.flatMap (fun n=>[iv n])).length/1=l.length:=by rw [jG (enc:=fun n=>[iv n]) (size:=1) (fun _=>rfl)];exact Nat.mul_div_cancel _ (by decide)
theorem jmZ:D.sl 1 joU []=jo []:=rfl
theorem jks (l:List Int):kf (l.flatMap (fun n=>[iv n]))=true:=by
 induction l with
 |nil=>rfl
 |cons x l ih=>rw [List.flatMap_cons,va,ih];rfl
theorem jpb (l:List Ed) (e:Nat) (k:List D→Prop):slK (jt l) e 2 k=(tEd=e∧k (l.flatMap (jW))):=by rw [show jt l=.sl 2 tEd (l.flatMap (jW)) from rfl,jq3];simp
theorem jne (l:List Ed):D.sl 2 tEd (l.flatMap (jW))=jt l:=rfl
theorem jqc (l:List Ed):(l.flatMap (jW)).length/2=l.length:=by rw [jG (enc:=jW) (size:=2) (fun _=>rfl)];exact Nat.mul_div_cancel _ (by decide)
theorem jk:D.sl 2 tEd []=jt []:=rfl
theorem jjq (l:List Ed) (x:Ed):D.sl 2 tEd (l.flatMap (jW)++(jW) x)=jt (l++[x]):=by simp [jt]
theorem jlT (l:List Ed):kf (l.flatMap (jW))=true:=by
 induction l with
 |nil=>rfl
 |cons x l ih=>rw [List.flatMap_cons,va,ih];rfl
theorem jkr (l:List Ed) (r:List D):kf (jt l::r)=false:=(rfl)
theorem jmV (l:List Ed) (r:List D):jiy (jt l::r)=jiy r:=(rfl)
theorem jpa (l:List En) (e:Nat) (k:List D→Prop):slK (jv l) e 4 k=(tEn=e∧k (l.flatMap (jy))):=by rw [show jv l=.sl 4 tEn (l.flatMap (jy)) from rfl,jq3];simp
theorem jqb (l:List En):(l.flatMap (jy)).length/4=l.length:=by rw [jG (enc:=jy) (size:=4) (fun _=>rfl)];exact Nat.mul_div_cancel _ (by decide)
theorem jeV:D.sl 4 tEn []=jv []:=rfl
theorem jlS (l:List En):kf (l.flatMap (jy))=true:=by
 induction l with
 |nil=>rfl
 |cons x l ih=>rw [List.flatMap_cons,va,ih];rfl
theorem jkq (l:List En) (r:List D):kf (jv l::r)=false:=(rfl)
theorem jo6 (l:List Tk) (e:Nat) (k:List D→Prop):slK (jI l) e 4 k=(tTk=e∧k (l.flatMap (ju))):=by rw [show jI l=.sl 4 tTk (l.flatMap (ju)) from rfl,jq3];simp
theorem jp7 (l:List Tk):(l.flatMap (ju)).length/4=l.length:=by rw [jG (enc:=ju) (size:=4) (fun _=>rfl)];exact Nat.mul_div_cancel _ (by decide)
theorem jfY (l:List Tk):kf (l.flatMap (ju))=true:=by
 induction l with
 |nil=>rfl
 |cons x l ih=>rw [List.flatMap_cons,va,ih];rfl
theorem jmU (l:List Tk) (r:List D):jiy (jI l::r)=jiy r:=(rfl)
theorem jo7 (l:List Rn) (e:Nat) (k:List D→Prop):slK (jN l) e 8 k=(tRn=e∧k (l.flatMap (jd))):=by rw [show jN l=.sl 8 tRn (l.flatMap (jd)) from rfl,jq3];simp
theorem jp8 (l:List Rn):(l.flatMap (jd)).length/8=l.length:=by rw [jG (enc:=jd) (size:=8) (fun _=>rfl)];exact Nat.mul_div_cancel _ (by decide)
theorem jq2 (l:List (List En)) (e:Nat) (k:List D→Prop):slK (kL l) e 1 k=(jyd=e∧k (l.flatMap (fun es=>[jv es]))):=by rw [show kL l=.sl 1 jyd (l.flatMap (fun es=>[jv es])) from rfl,jq3];simp
theorem jsW (l:List (List En)):(l.flatMap (fun es=>[jv es])).length/1=l.length:=by rw [jG (enc:=fun es=>[jv es]) (size:=1) (fun _=>rfl)];exact Nat.mul_div_cancel _ (by decide)
theorem jo8 (l:List Nt) (e:Nat) (k:List D→Prop):slK (jH l) e 12 k=(tNt=e∧k (l.flatMap (jE))):=by rw [show jH l=.sl 12 tNt (l.flatMap (jE)) from rfl,jq3];simp
theorem jp9 (l:List Nt):(l.flatMap (jE)).length/12=l.length:=by rw [jG (enc:=jE) (size:=12) (fun _=>rfl)];exact Nat.mul_div_cancel _ (by decide)
theorem ji8:D.sl 12 tNt []=jH []:=rfl
theorem jqn (l:List Nt) (x:Nt):D.sl 12 tNt (l.flatMap (jE)++(jE) x)=jH (l++[x]):=by simp [jH]
theorem jpc (l:List Dd) (e:Nat) (k:List D→Prop):slK (jcw l) e 11 k=(tDd=e∧k (l.flatMap (jf))):=by rw [show jcw l=.sl 11 tDd (l.flatMap (jf)) from rfl,jq3];simp
theorem jqd (l:List Dd):(l.flatMap (jf)).length/11=l.length:=by rw [jG (enc:=jf) (size:=11) (fun _=>rfl)];exact Nat.mul_div_cancel _ (by decide)
theorem ji9:D.sl 11 tDd []=jcw []:=rfl
theorem jzh (u:Value) (l:List D):jiy (.val u::l)=(u.oneCell'&&jiy l):=(rfl)
theorem jup:jiy []=true:=(rfl)
theorem jlD (l:List Cell) (ds:List D):IsD (.a (.v (.slice none 0 0))::l) (jo []::ds)=IsD l ds:=jkg l _ _ ds
theorem jm7 (l:List Cell) (ds:List D):IsD (.a (.v (.slice none 0 0))::l) (jt []::ds)=IsD l ds:=jkg l _ _ ds
theorem jpV:Is s (.v (.slice none 0 0)) (jt [])=True:=jvV _ _
theorem jjd (l:List Int) (a b:Int):D.sl 1 joU (l.flatMap (fun n=>[iv n])++[iv a,iv b])=jo (l++[a,b]):=by simp [jo]
theorem ji {l:List Int} {k:Nat} {x:Int} (h:l[k]?=some x):((l.flatMap (fun n=>[iv n])).drop (k*1)).take 1=[iv x]:=zy h
theorem jj {l:List Int} {k:Nat} (h:k<l.length):k*1+1≤(l.flatMap (fun n=>[iv n])).length:=by rw [jG (enc:=fun n=>[iv n]) (size:=1) (fun _=>rfl)];omega
theorem jml {l:List Ed} {k:Nat} {x:Ed} (h:l[k]?=some x):((l.flatMap (jW)).drop (k*2)).take 2=jW x:=jB h
theorem jlF {l:List Ed} {k:Nat} (h:k<l.length):k*2+2≤(l.flatMap (jW)).length:=by rw [jG (enc:=jW) (size:=2) (fun _=>rfl)];omega
theorem jgT {l:List (List En)} {k:Nat} {x:List En} (h:l[k]?=some x):((l.flatMap (fun es=>[jv es])).drop (k*1)).take 1=[jv x]:=vm h
theorem jdV {l:List (List En)} {k:Nat} (h:k<l.length):k*1+1≤(l.flatMap (fun es=>[jv es])).length:=by rw [jG (enc:=fun es=>[jv es]) (size:=1) (fun _=>rfl)];omega
theorem jtr {l:List Nt} {k:Nat} {x:Nt} (h:l[k]?=some x):((l.flatMap (jE)).drop (k*12)).take 12=jE x:=jdg h
theorem jsu {l:List Nt} {k:Nat} (h:k<l.length):k*12+12≤(l.flatMap (jE)).length:=by rw [jG (enc:=jE) (size:=12) (fun _=>rfl)];omega
theorem jxo (g c:Nat) (p:List Nat) (η:jm) (i:Nat) (v:Value) (l:List D):jeW g c p η i (.val v::l)=.v v::jeW g c p η (i+1) l:=(rfl)
theorem jxp (g c:Nat) (p:List Nat) (η:jm) (i:Nat):jeW g c p η i []=[]:=(rfl)
end
attribute [go_sem] jxo jxp jpV jlD jm7 jks jmC jnm jkC jlT jpb jqc jma jkr jmV jlS jpa jqb jl9 jkq jfY jo6 jp7 jl5 jmU jo7 jp8 jl6 jq2 jsW jnn jo8 jp9 jl7 jpc jqd jzh jup Bool.and_false Bool.false_and Bool.and_true Bool.true_and jm5 jo5 joW jpk jmX jmT jb4 jq1 jqP jrn jpF jpy jpQ jq0 jqO jrm jpE jpx jpO jqW jqK jrj jpA jpt zU jqX jqL jrk jpB jpu jhw jt1 jtS jue jrX jrU vY jqY jqM jrl jpC jpv
abbrev Ni (n:Int):AV:=.c (.v (.int .i64 n))
abbrev Hd (g:Nat) (η:jm):AV:=.c (.h g 0 [] (η []))
abbrev Bx (g b:Nat):AV:=.c (.bp g 0 b)
abbrev Ro (d:D):AV:=.c (.ro d)
abbrev Bi (b ty:Nat) (ds:List D):Ob:=.box b ty (ds.map fun x=>.a x.toRo)
theorem juS (s t:Nat) (cs l:List D):kf (.sl s t cs::l)=false:=(rfl)
theorem jw8 (s t:Nat) (cs l:List D):jiy (.sl s t cs::l)=jiy l:=(rfl)
attribute [go_sem] juS jw8
theorem jzN {P:Program} {ty:Nat} {xs ys:List Value} {b:Bool} (h:∀w,(Op.equalIn 10000 ty (.agg xs.toArray) (.agg ys.toArray)).run P w=.ok b w) (hg:P.eqGuardType P.depth ty=false):EqR P .eql ty xs ys b:=fun w=>⟨by rw [run_eql_struct,h w];rfl,fun x y=>run_eqGuard_agg _ _ _ _ _ _ _ hg⟩
theorem jzM {P:Program} {ty:Nat} {xs ys:List Value} {b:Bool} (h:∀w,(Op.equalIn 10000 ty (.agg xs.toArray) (.agg ys.toArray)).run P w=.ok b w) (hg:P.eqGuardType P.depth ty=false):EqR P .neq ty xs ys (!b):=fun w=>⟨by rw [run_neq_struct,h w];rfl,fun x y=>run_eqGuard_agg _ _ _ _ _ _ _ hg⟩
theorem w_any:Nonempty World:=⟨default⟩
theorem joF {P:Program} {d:Option Nat} {s:St} {K:St→Prop} {op:BinOp} {ty:Nat} {l m:List A0} {xs ys:List Value} {b:Bool} (hx:ja8 l=some xs) (hy:ja8 m=some ys) (h:EqR P op ty xs ys b):jvn P d s K op ty (.agg l) (.agg m)=K (s.put d (.c (.v (.bool b)))):=by
 apply propext
 constructor
 ·rintro ⟨av,(⟨_,_,_,h1,_⟩|⟨l',m',xs',ys',b',h1,h2,h3,h4,h5,rfl⟩),h6⟩
  ·cases h1
  ·cases h1;cases h2
   rw [hx] at h3;rw [hy] at h4;cases h3;cases h4;obtain ⟨w⟩:=w_any;have e1:=(h w).1;rw [(h5 w).1] at e1;simp at e1;subst e1;exact h6
 ·intro hk
  exact ⟨_,.inr ⟨l,m,xs,ys,b,rfl,rfl,hx,hy,h,rfl⟩,hk⟩
theorem jv2 (w:World) (x y:Ed):(Op.equalIn 10000 103 (.agg #[.int .i64 x.src,.int .i64 x.dst]) (.agg #[.int .i64 y.src,.int .i64 y.dst])).run Try.prog w=.ok (decide (x=y)) w:=by
 have u3:=Try.underlying3;have a3:=Try.isAgg3;have z3:=Try.sizeOf3;rw [show (10000:Nat)=9999+1 from rfl,run_equalIn_agg w 9999 103 _ _ (by kernel_rfl) (by kernel_rfl)]
 simp only [Program.fieldsOf,Try.underlying103];obtain ⟨xsrc,xdst⟩:=x;obtain ⟨ysrc,ydst⟩:=y
 go_simp
 by_cases h0:xsrc=ysrc<;>by_cases h1:xdst=ydst<;>simp [h0,h1]
theorem jtd {d:Option Nat} {s:St} {K:St→Prop} (x y:Ed):jvn Try.prog d s K .eql 103 (.agg [.v (.int .i64 x.src),.v (.int .i64 x.dst)]) (.agg [.v (.int .i64 y.src),.v (.int .i64 y.dst)])=K (s.put d (.c (.v (.bool (decide (x=y)))))):=joF rfl rfl (jzN (fun w=>jv2 w x y) (by kernel_rfl))
theorem jtc {d:Option Nat} {s:St} {K:St→Prop} (x y:Ed):jvn Try.prog d s K .neq 103 (.agg [.v (.int .i64 x.src),.v (.int .i64 x.dst)]) (.agg [.v (.int .i64 y.src),.v (.int .i64 y.dst)])=K (s.put d (.c (.v (.bool (!decide (x=y)))))):=joF rfl rfl (jzM (fun w=>jv2 w x y) (by kernel_rfl))
attribute [go_sem] jtd jtc
def jcK:C:=iS [iA 1 (.box 24 5 (.t 0)),iA 2 (.alloc 24 [.int .i64 0,.int .i64 0,.int .i64 0,.int .i64 0,.slice none 0 0])] (iS [iA 3 (.bsl 103 2 0 [] []),iA 4 (iF 4 1),iA 5 (iL 4),iA 6 (.app 103 2 16 (.t 3) (.t 5)),iA 7 (iF 4 1),iC (.st 1 [some (2,103)] (.t 7) (.t 6))] (iS [iA 8 (iT 5 1),iC (.st 5 [none,none,none,none,some (2,103)] (.t 2) (.t 8))] .ret))
theorem jfi:fnC Try.prog Try.f174=some (jcK,[.cell 2 true 5],9):=by kernel_rfl
theorem jcq (p:Pl) (hb:p.edges.length≤4000000):kl Try.prog 174 [.agg (ja p)] (.agg (ja p)):=by
 refine jr Try.func174 jfi (by simp) ?_
 unfold jcK;have h1:p.edges.length≤maxLen:=by unfold maxLen;omega
 have h2:p.edges.length*16≤140737488355328:=by omega
 simp only [go_sem,ja,h1,h2,jne]
def jcY:C:=iS [iA 6 (iN 0)] (.seq (iS [iA 7 (iM 2),iA 8 (iM 1),iA 9 (iP .lss 3 7 8),iA 10 (iM 9),iB 11 10 false (iM 0),iB 12 10 false (iM 1),iB 13 10 false (iP .lss 3 11 12),iA 14 (.pick (.t 10) (.c (.bool true)) (.t 13))] (iD 14 (iS [iA 15 (iM 1),iA 6 (iM 15)] .ret) .skip)) (.seq (iS [iA 16 (iM 0),iA 17 (iM 2),iA 18 (iP .gtr 3 16 17)] (iD 18 (iS [iA 19 (iM 2),iA 6 (iM 19)] .ret) .skip)) (iS [iA 20 (iM 0),iA 6 (iM 20)] .ret)))
theorem jfw:fnC Try.prog Try.f141=some (jcY,[.t 6],21):=by kernel_rfl
def jaS:C:=iS [iA 4 (.mov (.c (.slice none 0 0)))] (iS [iA 8 (iM 0),iA 9 (.call 141 [.t 8,.c (.int .i64 0),.c (.int .i64 3)]),iA 0 (iM 9)] (.seq (iS [iA 10 (iM 1),iA 11 (iQ .lss 3 10 0)] (iD 11 (.reg [iA 1 (iN 0)]) .skip)) (iS [iA 12 (.bsl 3 1 0 [] []),iA 5 (iM 12)] (.seq (iS [iA 6 (iN 1)] (.blk 0 (.loop (.seq (iS [iA 13 (iM 6),iA 14 (iQ .lss 3 13 4)] (iD 14 .skip (.exit 0))) (.seq (.blk 1 (.reg [iA 17 (iM 5),iA 18 (iM 0),iA 19 (iM 6),iA 20 (iP .add 3 18 19),iA 21 (iQ .rem 3 20 4),iA 22 (.bsl 3 1 1 [none] [(0,1,.t 21)]),iA 23 (.app 3 1 8 (.t 17) (.t 22)),iA 5 (iM 23)])) (.reg [iA 15 (iM 6),iA 16 (iQ .add 3 15 1),iA 6 (iM 16)])))))) (iS [iA 24 (iM 1),iA 25 (iM 5),iA 26 (iG 25),iA 27 (iP .rem 3 24 26),iA 7 (iM 27)] (.seq (.dreg (T.pure 1 (iA 29 (iM 5)) (T.pure 2 (iA 30 (iM 7)) (T.pure 3 (iA 31 (.sl 1 (.t 29) (some (.t 30)) none)) (T.pure 5 (iA 33 (iM 5)) (T.pure 6 (iA 34 (iM 7)) (T.pure 7 (iA 35 (.sl 1 (.t 33) none (some (.t 34)))) (T.alt (iA 28 (.bsl 3 1 0 [] [])) [7,6,5,3,2,1] (T.alt (iA 32 (.app 3 1 8 (.t 28) (.t 31))) [7,6,5] (T.alt (iA 36 (.app 3 1 8 (.t 32) (.t 35))) [] (T.pure 9 (iA 4 (iM 36)) T.done) T.stop) T.stop) T.stop)))))))) .ret))))))
theorem jdl:fnC Try.prog Try.f162=some (jaS,[.t 4],37):=by kernel_rfl
def brI (n a b:Int):Int:=if b<a∨n<a then a else if n>b then b else n
theorem qx (n a b:Int):kl Try.prog 141 [.c (.val (.int .i64 n)),.c (.val (.int .i64 a)),.c (.val (.int .i64 b))] (.c (.val (.int .i64 (brI n a b)))):=by
 refine jr Try.func141 jfw (by simp) ?_
 unfold jcY;by_cases h1:b<a
 ·simp only [go_sem,h1]
  simp [brI,h1]
 ·by_cases h2:n<a
  ·simp only [go_sem,h1,h2]
   simp [brI,h1,h2]
  ·by_cases h3:b<n
   ·simp only [go_sem,h1,h2,h3]
    simp [brI,h1,h2,h3]
   ·simp only [go_sem,h1,h2,h3]
    simp [brI,h1,h2,h3]
def jju (home draw:Int):List Int:=
 let h:=brI home 0 3
 let k:=(if draw<0 then 0 else draw).tmod 3
 [(h+1+k.tmod 3).tmod 4,(h+1+(k+1).tmod 3).tmod 4,(h+1+(k+2).tmod 3).tmod 4]
theorem jzY (n:Int):brI n 0 3=0∨brI n 0 3=1∨brI n 0 3=2∨brI n 0 3=3:=by
 unfold brI;split
 ·omega
 ·split<;>omega
theorem jyj {n:Int} (h:0≤n):n.tmod 3=0∨n.tmod 3=1∨n.tmod 3=2:=by
 rw [Int.tmod_eq_emod_of_nonneg h];omega
theorem jvA (home draw h d:Int) (hh:brI home 0 3=h) (hd:(if draw<0 then 0 else draw)=d) (hk:0≤h∧h≤3):(d.tmod 3=0→jju home draw=[(h+1).tmod 4,(h+2).tmod 4,(h+3).tmod 4])∧(d.tmod 3=1→jju home draw=[(h+2).tmod 4,(h+3).tmod 4,(h+1).tmod 4])∧(d.tmod 3=2→jju home draw=[(h+3).tmod 4,(h+1).tmod 4,(h+2).tmod 4]):=by
 have e1:h+1+1=h+2:=by omega
 have e2:h+1+2=h+3:=by omega
 have e0:h+1+0=h+1:=by omega
 refine ⟨fun h3=>?_,fun h3=>?_,fun h3=>?_⟩<;>simp [jju,hh,hd,h3,e0,e1,e2]
theorem jzX (n:Int):0≤brI n 0 3∧brI n 0 3≤3:=by have:=jzY n;omega
theorem jgb (home draw:Int):kl Try.prog 162 [.c (.val (.int .i64 home)),.c (.val (.int .i64 draw))] (.c (jo (jju home draw))):=by
 refine jr Try.func162 jdl (by simp) ?_
 unfold jaS;simp only [go_sem];refine jb (qx home 0 3) (by simp only [go_sem]) fun η=>?_
 obtain ⟨d,hd,hdk⟩:∃d:Int,(if draw<0 then 0 else draw)=d∧0≤d:=⟨_,rfl,by split<;>omega⟩
 have hk:=jzX home;have hvl:=jvA home draw _ d rfl hd hk;have h3:=jyj hdk;generalize brI home 0 3=h at*;have w1:IntKind.i64.wrap (h+1)=h+1:=jmr _ (by omega) (by omega)
 have w2:IntKind.i64.wrap (h+2)=h+2:=jmr _ (by omega) (by omega)
 have w3:IntKind.i64.wrap (h+3)=h+3:=jmr _ (by omega) (by omega)
 obtain ⟨v0,v1,v2⟩:=hvl;by_cases hneg:draw<0
 ·rw [if_pos hneg] at hd
  subst hd;rw [v0 (by decide)]
  simp only [go_sem,hneg];intro η1;refine ja6 3 ?_;simp only [go_sem,jmr,w1,w2,w3,D.len,maxLen];intros;rfl
 ·rw [if_neg hneg] at hd
  subst hd;rcases h3 with h3|h3|h3
  ·rw [v0 h3]
   simp only [go_sem,hneg];intro η1;refine ja6 3 ?_;simp only [go_sem,jmr,w1,w2,w3,D.len,maxLen,h3];intros;rfl
  ·rw [v1 h3]
   simp only [go_sem,hneg];intro η1;refine ja6 3 ?_;simp only [go_sem,jmr,w1,w2,w3,D.len,maxLen,h3];intros;rfl
  ·rw [v2 h3]
   simp only [go_sem,hneg];intro η1;refine ja6 3 ?_;simp only [go_sem,jmr,w1,w2,w3,D.len,maxLen,h3];intros;rfl
end Go.Proofs.Ytmnpailnelmpiaa
