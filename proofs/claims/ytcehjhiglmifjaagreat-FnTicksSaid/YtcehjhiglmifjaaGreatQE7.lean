/- Parts. -/
import Derived.Test.YtcehjhiglmifjaaGreatQE4h
import Derived.Laws.StructEq
set_option linter.unusedSimpArgs false
set_option linter.unusedVariables false
set_option maxHeartbeats 2000000
set_option maxRecDepth 100000
namespace Go.Proofs.YtcehjhiglmifjaaGreat
open Go.RowKit Go.Sort
section
variable {P:Program} {β:Nat} {s:St} {Q Q':Ex→St→Prop}
theorem ji7:∀{is:List Ins} {s:St} {K K':St→Prop},(∀s,K s→K' s)→jgp P β is s K→jgp P β is s K'
 |[],_,_,_,h,hk=>h _ hk
 |i::l,s,K,K',h,hk=>by
  simp only [jgp] at hk⊢;split
  ·rename_i hw;simp only [hw] at hk;exact je9 (fun s'=>ji7 h) hk
  ·rename_i hw;simp only [hw] at hk;exact ji7 h hk
  ·rename_i hw;simp only [hw] at hk
theorem jbb:∀{t:T} {l:List (Nat×List Lk)} {s:St} {K K':St→Prop},(∀s,K s→K' s)→zc P β t l s K→zc P β t l s K'
 |.done,_,_,_,_,h,hk=>h _ hk
 |.stop,_,_,_,_,_,_=>trivial
 |.pure p i t,l,s,K,K',h,hk=>by
  simp only [zc] at hk⊢;split
  ·rename_i hw;simp only [hw] at hk;exact je9 (fun s'=>jbb h) hk
  ·rename_i hw;simp only [hw] at hk;exact jbb h hk
  ·rename_i hw;simp only [hw] at hk
 |.alt i chk t r,l,s,K,K',h,hk=>by
  simp only [zc] at hk⊢;refine ⟨?_,jbb h hk.2⟩;have hk:=hk.1;split
  ·rename_i hw;simp only [hw] at hk;exact je9 (fun s' ⟨h1,h2⟩=>⟨h1,jbb h h2⟩) hk
  ·rename_i hw;simp only [hw] at hk;exact jbb h hk
  ·rename_i hw;simp only [hw] at hk
theorem je3 {n n':St→Prop} (hn:∀s,n s→n' s) (hQ:∀e s,Q e s→Q' e s):∀e s,Ex.thn n Q e s→Ex.thn n' Q' e s
 |.normal,_,h=>hn _ h
 |.exit _,_,h=>hQ _ _ h
 |.ret,_,h=>hQ _ _ h
theorem jw9 {id:Nat} (hQ:∀e s,Q e s→Q' e s):∀e s,Ex.inBlk id Q e s→Ex.inBlk id Q' e s
 |.normal,_,h=>hQ _ _ h
 |.exit id',_,h=>by
  simp only [Ex.inBlk] at h⊢;by_cases e:id'=id
  ·rw [if_pos e] at h⊢;exact hQ _ _ h
  ·rw [if_neg e] at h⊢;exact hQ _ _ h
 |.ret,_,h=>hQ _ _ h
theorem zw:∀(c:C) {s:St} {Q Q':Ex→St→Prop},(∀e s,Q e s→Q' e s)→wpC P β c Q s→wpC P β c Q' s
 |.skip,_,_,_,h,hk=>h _ _ hk
 |.reg _,_,_,_,h,hk=>ji7 (fun _=>h _ _) hk
 |.dreg _,_,_,_,h,hk=>jbb (fun _=>h _ _) hk
 |.seq a b,s,Q,Q',h,hk=>by
  rw [joP] at hk⊢;exact zw a (je3 (fun _=>zw b h) h) hk
 |.cond x a b,_,_,_,h,⟨t,h1,h2,h3⟩=>⟨t,h1,fun ht=>zw a h (h2 ht),fun ht=>zw b h (h3 ht)⟩
 |.blk id a,s,Q,Q',h,hk=>by
  rw [jxm] at hk⊢;exact zw a (jw9 h) hk
 |.loop a,_,_,_,h,⟨ι,mk,J,μ,h1,h2⟩=>⟨ι,mk,J,μ,h1,fun i hi=>zw a (je3 (fun _ h=>h) h) (h2 i hi)⟩
 |.gh a,_,_,_,h,hk=>fun _ _ _ _ _ _ hr=>let ⟨s',F',h1,h2⟩:=hk _ _ _ _ _ _ hr;⟨s',F',h1,zw a h h2⟩
 |.exit _,_,_,_,h,hk=>h _ _ hk
 |.ret,_,_,_,h,hk=>h _ _ hk
theorem Wk.refl (s:St):Wk s s:=fun _ _ _ _ _ F h=>⟨F,h,fun g b hb=>⟨g,hb⟩⟩
theorem vB {a:C} {s:St} (J:St→Prop) (μ:St→Nat) (h:J s) (hr:∀s,J s→wpC P β a (Ex.thn (fun s'=>J s'∧μ s'<μ s) Q) s):wpC P β (.loop a) Q s:=by
 refine ⟨St,id,J,μ,⟨s,h,.refl s⟩,fun s hs=>zw a (je3 (fun s' ⟨h1,h2⟩=>⟨s',h1,.refl s',h2⟩) fun _ _ h=>h) (hr s hs)⟩
theorem juj {p:Nat→Prop} (h:∃n,p n):∃n,p n∧∀m,p m→n≤m:=by
 obtain ⟨n,hn⟩:=h
 induction n using Nat.strongRecOn with
 |_ n ih=>
  by_cases hm:∃m,m<n∧p m
  ·obtain ⟨m,h1,h2⟩:=hm
   exact ih m h1 h2
  ·exact ⟨n,hn,fun m hp=>Nat.le_of_not_lt fun hlt=>hm ⟨m,hlt,hp⟩⟩
def rounds (P:Program) (β:Nat) (a:C) (Q:Ex→St→Prop):Nat→St→Prop
 |0,_=>False
 |n+1,s=>wpC P β a (Ex.thn (rounds P β a Q n) Q) s
open Classical in
theorem jsT {a:C} {n:Nat} (h:rounds P β a Q n s):wpC P β (.loop a) Q s:=by
 refine vB (fun s=>∃n,rounds P β a Q n s) (fun s=>if h:∃n,rounds P β a Q n s then Classical.choose (juj h) else 0) ⟨n,h⟩ ?_
 intro s hs;obtain ⟨h1,h0⟩:=Classical.choose_spec (juj hs)
 obtain ⟨m,hm⟩:∃m,Classical.choose (juj hs)=m+1:=by
  cases hq:Classical.choose (juj hs) with
  |zero=>rw [hq] at h1;exact h1.elim
  |succ m=>exact ⟨m,rfl⟩
 rw [hm] at h1;refine zw _ (je3 (fun s' h2=>⟨⟨m,h2⟩,?_⟩) fun _ _ h=>h) h1
 have h3:∃n,rounds P β a Q n s':=⟨m,h2⟩;have h4:=(Classical.choose_spec (juj h3)).2 m h2;simp only [dif_pos hs,dif_pos h3,hm];omega
theorem zD {a:C} {s:St} (n:Nat) (h:wpC P β a (Ex.thn (rounds P β a Q n) Q) s):wpC P β (.loop a) Q s:=jsT (n:=n+1) h
theorem jyH (a:C) (n:Nat):rounds P β a Q (n+1) s=wpC P β a (Ex.thn (rounds P β a Q n) Q) s:=(rfl)
theorem jsW {t:Nat} {w:Bool} (h:s.t t=.c (.v undef)):vL s (some (t,w))=some false:=by
 simp only [vL,h];rfl
theorem jAw {t:Nat} {w:Bool} {d:Option Nat} {K:St→Prop} (i:I) (l:List Ins) (h:s.t t=.c (.v undef)):jgp P β (⟨d,some (t,w),i⟩::l) s K=jgp P β l (s.put d (.c (.v undef))) K:=by
 simp only [jgp,jsW h]
theorem rt_gu {t p:Nat} {w:Bool} {d:Option Nat} {l:List (Nat×List Lk)} {K:St→Prop} (i:I) (t':T) (h:s.t t=.c (.v undef)):zc P β (.pure p ⟨d,some (t,w),i⟩ t') l s K=zc P β t' l (s.put d (.c (.v undef))) K:=by
 simp only [zc,jsW h]
theorem ra_gu {t:Nat} {w:Bool} {d:Option Nat} {l:List (Nat×List Lk)} {K:St→Prop} (i:I) (chk:List Nat) (t' r:T) (h:s.t t=.c (.v undef)):zc P β (.alt ⟨d,some (t,w),i⟩ chk t' r) l s K=(zc P β t' l (s.put d (.c (.v undef))) K∧zc P β r l s K):=by
 simp only [zc,jsW h]
theorem jus:IsD [] []=True:=by simp [IsD]
theorem jze (x:Value) (l:List Cell) (d:D) (ds:List D):IsD (.a (.v x)::l) (d::ds)=((d=.val x∨x=.slice none 0 0∧∃size ty,d=.sl size ty [])∧IsD l ds):=rfl
theorem jzd (x:Value) (l:List Cell) (ds:List D):IsD (.a (.v x)::l) (.val x::ds)=IsD l ds:=by rw [jze];simp
theorem isD_1 (x u:Value):IsD [.a (.v x)] [.val u]=(x=u):=by
 rw [jze];simp only [jus];apply propext;constructor
 ·rintro ⟨h|⟨_,_,_,h⟩,_⟩
  ·cases h;rfl
  ·cases h
 ·rintro rfl;exact ⟨.inl rfl,trivial⟩
theorem jmk (l:List Cell) (size:Nat) (ty:TypeId) (ds:List D):IsD (.a (.v (.slice none 0 0))::l) (.sl size ty []::ds)=IsD l ds:=by rw [jze];simp
theorem jzf (d d':D) (η:js) (l:List Cell) (ds:List D):IsD (.own d' η::l) (d::ds)=(d'=d∧IsD l ds):=(rfl)
def jtK (s:St):RT→AV→Prop
 |.c d,.c a=>qA s [a] fun cs _=>IsD cs [d]
 |.agg ds,.agg l=>qA s l fun cs _=>IsD cs ds
 |_,_=>False
theorem jAJ (d:D) (a:A0):jtK s (.c d) (.c a)=qA s [a] fun cs _=>IsD cs [d]:=(rfl)
theorem jv9 (ds:List D) (l:List A0):jtK s (.agg ds) (.agg l)=qA s l fun cs _=>IsD cs ds:=(rfl)
theorem ret_t (n:Nat) (rt:RT):jxi [.t n] rt s=jtK s rt (s.t n):=by
 apply propext
 simp only [jxi,jhN];cases h:s.t n with
 |c a=>cases rt<;>simp [jtK,jay,RT.flat]
 |agg l=>cases rt<;>simp [jtK,jay,RT.flat]
 |_=>cases rt<;>simp [jtK]
def jo3 (s:St) (agg:Bool) (k:Nat) (rt:RT) (a:AV):Prop:=∃l,jac s k l a∧(agg=true∨l.length=1)∧jay rt [(agg,l)]∧qA s ([(agg,l)].flatMap (·.2)) fun cs _=>IsD cs rt.flat
theorem jv8 (n k:Nat) (agg:Bool) (rt:RT):jxi [.cell n agg k] rt s=jo3 s agg k rt (s.t n):=(rfl)
theorem jrP (k g c b:Nat) (agg:Bool) (rt:RT):jo3 s agg k rt (.c (.bp g c b))=ldB (s.o g) g c b k fun l=>ldV agg l fun v=>jtK s rt v:=by
 apply propext
 simp only [jo3,jac];cases ho:s.o g with
 |box b' ty cs=>
  simp only [ldB,Ob.box.injEq];constructor
  ·rintro ⟨l,⟨_,_,⟨rfl,rfl,rfl⟩,h2,rfl⟩,h3,h4,h5⟩
   refine ⟨rfl,h2,?_⟩;cases agg with
   |true=>cases rt<;>simp_all [ldV,jtK,jay,RT.flat]
   |false=>
    obtain ⟨a,ha⟩:=List.length_eq_one_iff.1 (by simpa using h3)
    rw [ha] at h4 h5⊢;cases rt<;>simp_all [ldV,jtK,jay,RT.flat]
  ·rintro ⟨rfl,h2,h3⟩
   refine ⟨_,⟨ty,cs,⟨rfl,rfl,rfl⟩,h2,rfl⟩,?_⟩;cases agg with
   |true=>cases rt<;>simp_all [ldV,jtK,jay,RT.flat]
   |false=>
    generalize jdr g c ((cs.drop c).take k)=l at h3⊢
    match l,h3 with
    |[a],h3=>cases rt<;>simp_all [ldV,jtK,jay,RT.flat]
 |_=>simp [ldB]
theorem ri_r (rs:List R) (K:AV→(Nat→Ob)→Prop):jCb rs K .ret s=jsQ rs K s:=(rfl)
theorem ri_n (rs:List R) (K:AV→(Nat→Ob)→Prop):jCb rs K .normal s=jsQ rs K s:=(rfl)
def retI (s:St) (K:AV→(Nat→Ob)→Prop):AV→Prop
 |.c a=>K (.c a) s.o
 |.agg l=>K (.agg l) s.o
 |_=>False
theorem jAI (K:AV→(Nat→Ob)→Prop) (a:A0):retI s K (.c a)=K (.c a) s.o:=(rfl)
theorem jAG (n:Nat) (K:AV→(Nat→Ob)→Prop):jsQ [.t n] K s=retI s K (s.t n):=by
 simp only [jsQ,jhN];cases h:s.t n<;>simp [retI]
theorem jAH (K:AV→(Nat→Ob)→Prop):jsQ [] K s=K (.tup []) s.o:=(rfl)
def jlO (s:St) (agg:Bool) (k:Nat) (K:AV→(Nat→Ob)→Prop) (a:AV):Prop:=∃l,jac s k l a∧(agg=true∨l.length=1)∧(match [(agg,l)] with
 |[(true,l)]=>K (.agg l) s.o
 |[(false,[a])]=>K (.c a) s.o
 |[]=>K (.tup []) s.o
 |p::q::r=>K (.tup (p::q::r)) s.o
 |_=>False)
theorem jtH (n k:Nat) (agg:Bool) (K:AV→(Nat→Ob)→Prop):jsQ [.cell n agg k] K s=jlO s agg k K (s.t n):=(rfl)
theorem jo2 (k g c b:Nat) (agg:Bool) (K:AV→(Nat→Ob)→Prop):jlO s agg k K (.c (.bp g c b))=ldB (s.o g) g c b k fun l=>ldV agg l fun v=>K v s.o:=by
 apply propext
 simp only [jlO,jac];cases ho:s.o g with
 |box b' ty cs=>
  simp only [ldB,Ob.box.injEq];constructor
  ·rintro ⟨l,⟨_,_,⟨rfl,rfl,rfl⟩,h2,rfl⟩,h3,h4⟩
   refine ⟨rfl,h2,?_⟩;cases agg with
   |true=>exact h4
   |false=>
    obtain ⟨a,ha⟩:=List.length_eq_one_iff.1 (by simpa using h3)
    rw [ha] at h4⊢;exact h4
  ·rintro ⟨rfl,h2,h3⟩
   refine ⟨_,⟨ty,cs,⟨rfl,rfl,rfl⟩,h2,rfl⟩,?_⟩;cases agg with
   |true=>exact ⟨.inl rfl,h3⟩
   |false=>
    generalize jdr g c ((cs.drop c).take k)=l at h3⊢
    match l,h3 with
    |[a],h3=>exact ⟨.inr rfl,h3⟩
 |_=>simp [ldB]
theorem jyh (args:List AV) (o:Nat→Ob) (n:Nat):(St.start args o).t n=(args[n]?).getD .unk:=(rfl)
theorem jyi (args:List AV) (o:Nat→Ob):(St.start args o).o=o:=(rfl)
end
theorem je0 (n:Int) (h:-1000000000000000≤n) (h':n<1000000000000000):IntKind.i64.wrap n=n:=jf (by omega) (by omega)
attribute [go_sem_proc] Int.reduceBEq Int.reduceBNe Nat.reduceBNe Int.reduceAdd Int.reduceSub Int.reduceMul Int.reduceLE Int.reduceLT Int.reduceGE Int.reduceGT Int.reduceTMod Int.reduceTDiv Int.reduceNe Int.reduceNeg Int.reduceToNat Nat.reduceDiv Nat.reduceMod Nat.reducePow Int.reduceNegSucc
attribute [go_sem] Int.cast_ofNat_Int jAw rt_gu ra_gu jyH jus isD_1 jzd jmk jzf jyh jyi ri_r ri_n jAI jAG jAH jtH jo2 ret_t jv8 jrP jAJ jv9
section
variable {P:Program} {f:FuncId}
theorem jzV {w:World} {v1 v2:View} {xs:List Value} (h:zC w [v1,v2] xs):∃a b,xs=[a,b]∧ViewRel w v1 a∧ViewRel w v2 b:=by
 obtain ⟨a,_,rfl,h1,b,_,rfl,h2,h3⟩:=h;rw [show _=_ from h3]
 exact ⟨a,b,rfl,h1,h2⟩
theorem jzW {w:World} {v1:View} {xs:List Value} (h:zC w [v1] xs):∃a,xs=[a]∧ViewRel w v1 a:=by
 obtain ⟨a,_,rfl,h1,h3⟩:=h;rw [show _=_ from h3]
 exact ⟨a,rfl,h1⟩
theorem jo8 {v1 v2:View} {u:Value} (hn:joL P f) (h:∀w a b,ViewRel w v1 a→ViewRel w v2 b→Calls P f #[a,b] w fun e w'=>e=.returned u∧Below w.heap.size w w'):kj P f [v1,v2] (.c (.val u)):=by
 refine ⟨hn,fun w xs hv=>?_⟩
 obtain ⟨a,b,rfl,h1,h2⟩:=jzV hv;exact (h w a b h1 h2).mono fun e w' ⟨he,hb⟩=>⟨u,[],he,⟨rfl,rfl⟩,Fresh.nil _,hb⟩
theorem jAS {v1:View} {u:Value} (hn:joL P f) (h:∀w a,ViewRel w v1 a→Calls P f #[a] w fun e w'=>e=.returned u∧Below w.heap.size w w'):kj P f [v1] (.c (.val u)):=by
 refine ⟨hn,fun w xs hv=>?_⟩
 obtain ⟨a,rfl,h1⟩:=jzW hv;exact (h w a h1).mono fun e w' ⟨he,hb⟩=>⟨u,[],he,⟨rfl,rfl⟩,Fresh.nil _,hb⟩
theorem jtT {ds:List D} (hn:joL P f) (h:∀w,Calls P f #[] w (jvy w ds)):kj P f [] (.agg ds):=by
 refine ⟨hn,fun w xs hv=>?_⟩
 rw [show xs=[] from hv]
 exact (h w).mono fun e w' h=>h
theorem jaH {w:World} {u a:Value} (h:ViewRel w (.c (.val u)) a):a=u:=by obtain ⟨S,h1,_⟩:=h;exact h1
end
attribute [go_sem] and_false false_and
def jcc:js
 |[]=>.slice none 0 0
 |_::_=>undef
def A0.sim:A0→A0→Prop
 |.v x,.v y=>x=y
 |.v x,.h _ _ _ y=>x=y∧x.oneCell'=true
 |.h _ _ _ x,.h _ _ _ y=>x=y
 |.bp _ c b,.bp _ c' b'=>c=c'∧b=b'
 |.ep _ _ _ i x,.ep _ _ _ i' x'=>i=i'∧x=x'
 |.hs _ _ _ x s l n,.hs _ _ _ y s' l' n'=>x=y∧s=s'∧l=l'∧n=n'
 |.ro d,.ro d'=>d=d'
 |.rp ds,.rp ds'=>ds=ds'
 |.un,.un=>True
 |_,_=>False
def simL:List A0→List A0→Prop
 |[],[]=>True
 |a::l,b::m=>a.sim b∧simL l m
 |_,_=>False
def AV.sim:AV→AV→Prop
 |.c a,.c b=>a.sim b
 |.agg l,.agg m=>simL l m
 |.fn f l,.fn f' m=>f=f'∧simL l m
 |.tup l,.tup m=>l=m
 |_,.unk=>True
 |_,_=>False
def Cell.sim:Cell→Cell→Prop
 |.a x,.a y=>x.sim y
 |.own d η,.own d' η'=>d=d'∧η=η'
 |.a (.v x),.own d η=>x=.slice none 0 0∧d.isSl=true∧d.cells=[]∧η=jcc
 |_,_=>False
def simC:List Cell→List Cell→Prop
 |[],[]=>True
 |a::l,b::m=>a.sim b∧simC l m
 |_,_=>False
def Ob.sim:Ob→Ob→Prop
 |.loose d η,.loose d' η'=>d=d'∧η=η'
 |.box b ty cs,.box b' ty' cs'=>b=b'∧ty=ty'∧simC cs cs'
 |.none,.none=>True
 |_,_=>False
def nilOb:Ob→Prop
 |.loose d η=>d.isSl=true∧d.cells=[]∧η=jcc
 |_=>False
def lkT:List (Nat×AV)→Nat→AV
 |[],_=>.unk
 |(k,v)::T,n=>if n=k then v else lkT T n
def lkO:List (Nat×Ob)→Nat→Ob
 |[],_=>.none
 |(k,v)::T,n=>if n=k then v else lkO T n
def St.of (T:List (Nat×AV)) (O:List (Nat×Ob)):St:=⟨lkT T,lkO O⟩
def jxN (s:St):List (Nat×AV)→Prop
 |[]=>True
 |(n,v)::T=>(s.t n).sim v∧jxN s T
def jqU (s:St):List (Option Nat)→List (Nat×Ob)→Prop
 |[],[]=>True
 |some k::ks,(_,ob)::O=>(s.o k).sim ob∧jqU s ks O
 |none::ks,(_,ob)::O=>nilOb ob∧jqU s ks O
 |_,_=>False
def fp (F:Nat→List Nat):List (Option Nat)→List (Nat×Ob)→Nat→List Nat
 |k::ks,(g',_)::O,g=>if g=g' then (match k with|some k=>F k|none=>[]) else fp F ks O g
 |_,_,_=>[]
def jry:List (Option Nat)→List Nat
 |[]=>[]
 |some k::ks=>k::jry ks
 |none::ks=>jry ks
def jj2:List Nat→Bool
 |[]=>true
 |k::ks=>!ks.contains k&&jj2 ks
section
variable {B N:Nat} {w0 w:World} {s:St} {a:Act} {F:Nat→List Nat}
theorem A0.sim.rel:∀{a b:A0} {u:Value},a.sim b→A0Rel B w a u→A0Rel B w b u
 |.v x,.v y,u,hh,hr=>by rw [show x=y from hh] at hr;exact hr
 |.v x,.h _ _ _ y,u,hh,hr=>by obtain ⟨h1,h2⟩:=hh;subst h1;exact ⟨hr,h2⟩
 |.h _ _ _ x,.h _ _ _ y,u,hh,hr=>by rw [show x=y from hh] at hr;exact hr
 |.bp _ c b,.bp _ c' b',u,hh,hr=>by obtain ⟨h1,h2⟩:=hh;subst h1 h2;exact hr
 |.ep _ _ _ i x,.ep _ _ _ i' x',u,hh,hr=>by obtain ⟨h1,h2⟩:=hh;subst h1 h2;exact hr
 |.hs _ _ _ x s l n,.hs _ _ _ y s' l' n',u,hh,hr=>by obtain ⟨h1,h2,h3,h4⟩:=hh;subst h1 h2 h3 h4;exact hr
 |.ro d,.ro d',u,hh,hr=>by rw [show d=d' from hh] at hr;exact hr
 |.rp ds,.rp ds',u,hh,hr=>by rw [show ds=ds' from hh] at hr;exact hr
 |.un,.un,_,_,hr=>hr
theorem simL.rel:∀{l m:List A0} {us:List Value},simL l m→A0RelL B w l us→A0RelL B w m us
 |[],[],_,_,hr=>hr
 |_::_,_::_,_,⟨h1,h2⟩,⟨u,us',e,h3,h4⟩=>⟨u,us',e,h1.rel h3,h2.rel h4⟩
theorem AV.sim.rel {v v':AV} {u:Value} (h:v.sim v') (hr:VRel B w v u):VRel B w v' u:=by
 cases v' with
 |unk=>trivial
 |c b=>cases v<;>first|exact A0.sim.rel h hr|exact h.elim
 |agg m=>cases v<;>first|(obtain ⟨us,e,h1⟩:=hr;exact ⟨us,e,simL.rel h h1⟩)|exact h.elim
 |fn f m=>cases v<;>first|(obtain ⟨us,e,h1⟩:=hr;obtain ⟨rfl,h2⟩:=h;exact ⟨us,e,h2.rel h1⟩)|exact h.elim
 |tup m=>cases v<;>first|(rw [show _=m from h] at hr;exact hr)|exact h.elim
theorem juc {d:D} (hs:d.isSl=true) (hc:d.cells=[]):(∃size ty,d=.sl size ty [])∧∀p,jcc p=hdr w p d (.slice none 0 0):=by
 cases d with
 |val u=>cases hs
 |sl size ty cs=>
  obtain rfl:cs=[]:=hc;exact ⟨⟨_,_,rfl⟩,fun p=>by cases p<;>rfl⟩
theorem simC.rel:∀{cs cs':List Cell} {us:List Value} {S:List Nat},simC cs cs'→CRel B w cs us S→CRel B w cs' us S
 |[],[],_,_,_,hr=>hr
 |.a x::l,.a y::m,_,_,⟨h1,h2⟩,⟨u,us',e,h3,h4⟩=>⟨u,us',e,A0.sim.rel h1 h3,h2.rel h4⟩
 |.own d η::l,.own d' η'::m,_,_,⟨⟨h1,h1'⟩,h2⟩,⟨u,us',S1,S2,e,e',h3,h4,h5,h6⟩=>by
  subst h1 h1';exact ⟨u,us',S1,S2,e,e',h3,h4,h5,h2.rel h6⟩
 |.a (.v x)::l,.own d η::m,_,S,⟨⟨h1,h2,h3,h4⟩,h5⟩,⟨u,us',e,h6,h7⟩=>by
  subst h1 h4;obtain ⟨⟨size,ty,rfl⟩,k2⟩:=juc (w:=w) h2 h3;refine ⟨u,us',[],S,e,rfl,h2,?_,fun p=>?_,h5.rel h7⟩
  ·rw [show u=_ from h6];exact Rep.nil_ w size ty
  ·rw [show u=_ from h6];exact k2 p
theorem Ob.sim.rel {ob ob':Ob} {S:List Nat} (h:ob.sim ob') (hr:ORel B w ob S):ORel B w ob' S:=by
 cases ob<;>cases ob'<;>first|exact h.elim|skip
 ·exact hr
 ·obtain ⟨rfl,rfl⟩:=h;exact hr
 ·obtain ⟨rfl,rfl,h⟩:=h;obtain ⟨us,S1,h1,h2,h3⟩:=hr;exact ⟨us,S1,h1,h.rel h2,h3⟩
theorem nilOb.rel {ob:Ob} (h:nilOb ob):ORel B w ob []:=by
 cases ob with
 |loose d η=>
  obtain ⟨h1,h2,rfl⟩:=h;obtain ⟨⟨size,ty,rfl⟩,k2⟩:=juc (w:=w) h1 h2;exact ⟨h1,_,Rep.nil_ w size ty,k2⟩
 |_=>exact h.elim
theorem jfs:∀{ks:List (Option Nat)} {O:List (Nat×Ob)} {g b:Nat},b∈fp F ks O g→∃k∈jry ks,b∈F k
 |[],_,_,_,h=>by simp [fp] at h
 |_::_,[],_,_,h=>by simp [fp] at h
 |k::ks,(g',ob)::O,g,b,h=>by
  simp only [fp] at h;split at h
  ·cases k with
   |some k=>exact ⟨k,by simp [jry],h⟩
   |none=>simp at h
  ·obtain ⟨k',h1,h2⟩:=jfs h
   exact ⟨k',by cases k<;>simp [jry,h1],h2⟩
theorem jbK:∀{l:List Nat},jj2 l=true→l.Nodup
 |[],_=>List.nodup_nil
 |k::l,h=>by
  simp only [jj2,Bool.and_eq_true,Bool.not_eq_true',List.contains_eq_mem,decide_eq_false_iff_not] at h;exact List.nodup_cons.2 ⟨h.1,jbK h.2⟩
theorem jwJ (hdj:∀g g',g≠g'→∀b∈F g,b∉F g'):∀{ks:List (Option Nat)} {O:List (Nat×Ob)},(jry ks).Nodup→∀g g',g≠g'→∀b∈fp F ks O g,b∉fp F ks O g'
 |[],_,_,_,_,_,b,h=>by simp [fp] at h
 |_::_,[],_,_,_,_,b,h=>by simp [fp] at h
 |k::ks,(g0,ob)::O,hn,g,g',hne,b,h=>by
  have hn':(jry ks).Nodup:=by cases k with
   |none=>exact hn
   |some k=>exact (List.nodup_cons.1 hn).2
  have key:∀{g g':Nat},g=g0→g'≠g0→b∈fp F (k::ks) ((g0,ob)::O) g→b∉fp F (k::ks) ((g0,ob)::O) g':=by
   intro g g' e hne' h h';simp only [fp,if_pos e] at h;simp only [fp,if_neg hne'] at h';cases k with
   |none=>simp at h
   |some k=>
    obtain ⟨k',h1,h2⟩:=jfs h';have:k≠k':=fun e=>(List.nodup_cons.1 hn).1 (by rw [e];exact h1)
    exact hdj _ _ this b h h2
  by_cases e:g=g0
  ·exact key e (fun e'=>hne (e.trans e'.symm)) h
  ·by_cases e':g'=g0
   ·exact fun h'=>key e' e h' h
   ·simp only [fp,if_neg e] at h
    simp only [fp,if_neg e'];exact jwJ hdj hn' g g' hne b h
theorem juC (h:∀g,ORel B w (s.o g) (F g)):∀{ks:List (Option Nat)} {O:List (Nat×Ob)},jqU s ks O→∀g,ORel B w (lkO O g) (fp F ks O g)
 |[],[],_,_=>rfl
 |[],_::_,hf,_=>hf.elim
 |some _::_,[],hf,_=>hf.elim
 |none::_,[],hf,_=>hf.elim
 |some k::ks,(g',ob)::O,⟨h1,h2⟩,g=>by
  simp only [lkO,fp];by_cases e:g=g'
  ·rw [if_pos e,if_pos e];exact h1.rel (h k)
  ·rw [if_neg e,if_neg e];exact juC h h2 g
 |none::ks,(g',ob)::O,⟨h1,h2⟩,g=>by
  simp only [lkO,fp];by_cases e:g=g'
  ·rw [if_pos e,if_pos e];exact h1.rel
  ·rw [if_neg e,if_neg e];exact juC h h2 g
theorem jwI (h:∀g,Fresh B (F g)):∀(ks:List (Option Nat)) (O:List (Nat×Ob)) (g:Nat),Fresh B (fp F ks O g)
 |[],_,_=>Fresh.nil _
 |_::_,[],_=>Fresh.nil _
 |k::ks,(g',ob)::O,g=>by
  simp only [fp];split
  ·cases k with
   |some k=>exact h k
   |none=>exact Fresh.nil _
  ·exact jwI h ks O g
theorem jwM (h:∀n,VRel B w (s.t n) (a.tmps.getD n undef)):∀{T:List (Nat×AV)},jxN s T→∀n,VRel B w (lkT T n) (a.tmps.getD n undef)
 |[],_,_=>trivial
 |(k,v)::T,⟨h1,h2⟩,n=>by
  simp only [lkT];by_cases e:n=k
  ·rw [if_pos e];subst e;exact h1.rel (h n)
  ·rw [if_neg e];exact jwM h h2 n
theorem jg (ks:List (Option Nat)) {T:List (Nat×AV)} {O:List (Nat×Ob)} (h:jxN s T∧jqU s ks O) (hn:jj2 (jry ks)=true:=by decide):Wk s (St.of T O):=
 fun B N w0 w a F hr=>⟨fp F ks O,⟨hr.below,hr.hB,hr.df,hr.sz,jwM hr.sl h.1,juC hr.ob h.2,jwI hr.fr ks O,jwJ hr.dj (jbK hn)⟩,
  fun g b hb=>by obtain ⟨k,_,h2⟩:=jfs hb;exact ⟨k,h2⟩⟩
end
section
variable {P:Program} {β:Nat} {s:St} {Q:Ex→St→Prop}
theorem jn {ι:Type} {a:C} (mk:ι→St) (J:ι→Prop) (μ:ι→Nat) (i0:ι) (h0:J i0) (hw:Wk s (mk i0)) (hr:∀i,J i→wpC P β a (Ex.thn (fun s'=>∃i',J i'∧Wk s' (mk i')∧μ i'<μ i) Q) (mk i)):wpC P β (.loop a) Q s:=⟨ι,mk,J,μ,⟨i0,h0,hw⟩,hr⟩
theorem wp_gh {a:C} (s':St) (h:Wk s s') (hk:wpC P β a Q s'):wpC P β (.gh a) Q s:=fun _ _ _ _ _ _ hr=>let ⟨F',h1,_⟩:=h _ _ _ _ _ _ hr;⟨s',F',h1,hk⟩
end
section
variable {s:St}
theorem of_t (T:List (Nat×AV)) (O:List (Nat×Ob)) (n:Nat):(St.of T O).t n=lkT T n:=(rfl)
theorem of_o (T:List (Nat×AV)) (O:List (Nat×Ob)) (n:Nat):(St.of T O).o n=lkO O n:=(rfl)
theorem jws (k n:Nat) (v:AV) (T:List (Nat×AV)):lkT ((k,v)::T) n=if n=k then v else lkT T n:=(rfl)
theorem jy3 (n:Nat):lkO [] n=.none:=(rfl)
theorem jwt (k n:Nat) (v:Ob) (T:List (Nat×Ob)):lkO ((k,v)::T) n=if n=k then v else lkO T n:=(rfl)
theorem jwN:jxN s []=True:=(rfl)
theorem juG (n:Nat) (v:AV) (T:List (Nat×AV)):jxN s ((n,v)::T)=((s.t n).sim v∧jxN s T):=(rfl)
theorem jwO:jqU s [] []=True:=(rfl)
theorem jBv (k g:Nat) (ob:Ob) (ks:List (Option Nat)) (O:List (Nat×Ob)):jqU s (some k::ks) ((g,ob)::O)=((s.o k).sim ob∧jqU s ks O):=(rfl)
theorem jBw (g:Nat) (ob:Ob) (ks:List (Option Nat)) (O:List (Nat×Ob)):jqU s (none::ks) ((g,ob)::O)=(nilOb ob∧jqU s ks O):=(rfl)
theorem jBb (d:D) (η:js):nilOb (.loose d η)=(d.isSl=true∧d.cells=[]∧η=jcc):=(rfl)
theorem nilH_:jcc []=.slice none 0 0:=(rfl)
theorem sim_c (a b:A0):AV.sim (.c a) (.c b)=a.sim b:=(rfl)
theorem jyl (l m:List A0):AV.sim (.agg l) (.agg m)=simL l m:=(rfl)
theorem jAh (f f':Nat) (l m:List A0):AV.sim (.fn f l) (.fn f' m)=(f=f'∧simL l m):=(rfl)
theorem jvW:simL [] []=True:=(rfl)
theorem jtm (a b:A0) (l m:List A0):simL (a::l) (b::m)=(a.sim b∧simL l m):=(rfl)
theorem sim_v (x y:Value):A0.sim (.v x) (.v y)=(x=y):=(rfl)
theorem jAd (x y:Value) (g c:Nat) (p:List Nat):A0.sim (.v x) (.h g c p y)=(x=y∧x.oneCell'=true):=(rfl)
theorem sim_h (x y:Value) (g c g' c':Nat) (p p':List Nat):A0.sim (.h g c p x) (.h g' c' p' y)=(x=y):=(rfl)
theorem jAj (g c b g' c' b':Nat):A0.sim (.bp g c b) (.bp g' c' b')=(c=c'∧b=b'):=(rfl)
theorem jAi (g c i g' c' i':Nat) (p p':List Nat) (x x':Value):A0.sim (.ep g c p i x) (.ep g' c' p' i' x')=(i=i'∧x=x'):=(rfl)
theorem jAg (g c g' c' sz lo n sz' lo' n':Nat) (p p':List Nat) (x x':Value):A0.sim (.hs g c p x sz lo n) (.hs g' c' p' x' sz' lo' n')=(x=x'∧sz=sz'∧lo=lo'∧n=n'):=(rfl)
theorem jAf (d d':D):A0.sim (.ro d) (.ro d')=(d=d'):=(rfl)
theorem jAe (d d':List D):A0.sim (.rp d) (.rp d')=(d=d'):=(rfl)
theorem jAc (x y:A0):Cell.sim (.a x) (.a y)=x.sim y:=by cases x<;>rfl
theorem jvU (d d':D) (η η':js):Cell.sim (.own d η) (.own d' η')=(d=d'∧η=η'):=(rfl)
theorem jvV (x:Value) (d:D) (η:js):Cell.sim (.a (.v x)) (.own d η)=(x=.slice none 0 0∧d.isSl=true∧d.cells=[]∧η=jcc):=(rfl)
theorem jvX:simC [] []=True:=(rfl)
theorem jtn (a b:Cell) (l m:List Cell):simC (a::l) (b::m)=(a.sim b∧simC l m):=(rfl)
theorem jAk (d d':D) (η η':js):Ob.sim (.loose d η) (.loose d' η')=(d=d'∧η=η'):=(rfl)
theorem jAl (b ty b' ty':Nat) (cs cs':List Cell):Ob.sim (.box b ty cs) (.box b' ty' cs')=(b=b'∧ty=ty'∧simC cs cs'):=(rfl)
end
attribute [go_sem] of_t of_o jws jy3 jwt jwN juG jwO jBv jBw jBb nilH_ sim_c jyl jAh jvW jtm sim_v jAd sim_h jAj jAi jAg jAf jAe jAc jvU jvV jvX jtn jAk jAl
section
variable {P:Program} {β:Nat} {s:St}
theorem jeE (l:List Int):(jh l).len=l.length:=jaO (enc:=fun n=>[iv n]) (fun _=>rfl) (by decide) _ _
theorem jcE {l:List Int} {k:Nat} {x:Int} (h:l[k]?=some x):(jh l).elem k=[iv x]:=zJ (enc:=fun n=>[iv n]) (fun _=>rfl) h
theorem jrz (l:List Int):(jh l).isSl=true:=(rfl)
theorem jrt (l:List Int):(jh l).size=1:=(rfl)
theorem jrO (l:List Int):(jh l).toRo=.ro (jh l):=(rfl)
theorem jpl (l:List Int) (g:Nat) (η:js):(jh l).obj g η=[(g,.loose (jh l) η)]:=(rfl)
theorem jph (l:List Int) (g c:Nat) (p:List Nat) (η:js):(jh l).toOwn g c p η=.h g c p (η p):=(rfl)
theorem jmE (l:List Int):(jh l).cells=l.flatMap (fun n=>[iv n]):=(rfl)
theorem jdk (l:List Ed):(jy l).len=l.length:=jaO (enc:=jO) (fun _=>rfl) (by decide) _ _
theorem jx {l:List Ed} {k:Nat} {x:Ed} (h:l[k]?=some x):(jy l).elem k=jO x:=zJ (enc:=jO) (fun _=>rfl) h
theorem jtk (l:List Ed):(jy l).isSl=true:=(rfl)
theorem js9 (l:List Ed):(jy l).size=2:=(rfl)
theorem jr8 (l:List Ed) (g:Nat) (η:js):(jy l).obj g η=[(g,.loose (jy l) η)]:=(rfl)
theorem jr2 (l:List Ed) (g c:Nat) (p:List Nat) (η:js):(jy l).toOwn g c p η=.h g c p (η p):=(rfl)
theorem joq (l:List Ed):(jy l).cells=l.flatMap (jO):=(rfl)
theorem jr7 (l:List En) (g:Nat) (η:js):(jm l).obj g η=[(g,.loose (jm l) η)]:=(rfl)
theorem jr1 (l:List En) (g c:Nat) (p:List Nat) (η:js):(jm l).toOwn g c p η=.h g c p (η p):=(rfl)
theorem jop (l:List En):(jm l).cells=l.flatMap (jk):=(rfl)
theorem jr4 (l:List Tk) (g:Nat) (η:js):(jB l).obj g η=[(g,.loose (jB l) η)]:=(rfl)
theorem jrY (l:List Tk) (g c:Nat) (p:List Nat) (η:js):(jB l).toOwn g c p η=.h g c p (η p):=(rfl)
theorem jom (l:List Tk):(jB l).cells=l.flatMap (jo):=(rfl)
theorem jr5 (l:List Rn) (g:Nat) (η:js):(jK l).obj g η=[(g,.loose (jK l) η)]:=(rfl)
theorem jrZ (l:List Rn) (g c:Nat) (p:List Nat) (η:js):(jK l).toOwn g c p η=.h g c p (η p):=(rfl)
theorem jon (l:List Rn):(jK l).cells=l.flatMap (jd):=(rfl)
theorem jub (l:List (List En)) (g:Nat) (η:js):(ku l).obj g η=[(g,.loose (ku l) η)]:=(rfl)
theorem jt6 (l:List (List En)) (g c:Nat) (p:List Nat) (η:js):(ku l).toOwn g c p η=.h g c p (η p):=(rfl)
theorem jpM (l:List (List En)):(ku l).cells=l.flatMap (fun es=>[jm es]):=(rfl)
theorem joX (l:List Int) (e:Nat) (k:List D→Prop):slK (jh l) e 1 k=(jgn=e∧k (l.flatMap (fun n=>[iv n]))):=by rw [show jh l=.sl 1 jgn (l.flatMap (fun n=>[iv n])) from rfl,jvT];simp
theorem jpL (l:List Int):(l.flatMap (fun n=>[iv n])).length/1=l.length:=by rw [jH (enc:=fun n=>[iv n]) (size:=1) (fun _=>rfl)];exact Nat.mul_div_cancel _ (by decide)
theorem jpn:D.sl 1 jgn []=jh []:=rfl
theorem jfv (l:List Int):kb (l.flatMap (fun n=>[iv n]))=true:=by
 induction l with
 |nil=>rfl
 |cons x l ih=>rw [List.flatMap_cons,vx,ih];rfl
theorem jrE (l:List Ed) (e:Nat) (k:List D→Prop):slK (jy l) e 2 k=(tEd=e∧k (l.flatMap (jO))):=by rw [show jy l=.sl 2 tEd (l.flatMap (jO)) from rfl,jvT];simp
theorem jjx (l:List Ed):D.sl 2 tEd (l.flatMap (jO))=jy l:=rfl
theorem jsC (l:List Ed):(l.flatMap (jO)).length/2=l.length:=by rw [jH (enc:=jO) (size:=2) (fun _=>rfl)];exact Nat.mul_div_cancel _ (by decide)
theorem km:D.sl 2 tEd []=jy []:=rfl
theorem jsL (l:List Ed) (x:Ed):D.sl 2 tEd (l.flatMap (jO)++(jO) x)=jy (l++[x]):=by simp [jy]
theorem job (l:List Ed):kb (l.flatMap (jO))=true:=by
 induction l with
 |nil=>rfl
 |cons x l ih=>rw [List.flatMap_cons,vx,ih];rfl
theorem jmt (l:List Ed) (r:List D):kb (jy l::r)=false:=(rfl)
theorem jpk (l:List Ed) (r:List D):jjm (jy l::r)=jjm r:=(rfl)
theorem jrD (l:List En) (e:Nat) (k:List D→Prop):slK (jm l) e 4 k=(tEn=e∧k (l.flatMap (jk))):=by rw [show jm l=.sl 4 tEn (l.flatMap (jk)) from rfl,jvT];simp
theorem jpD (l:List En):D.sl 4 tEn (l.flatMap (jk))=jm l:=rfl
theorem jsB (l:List En):(l.flatMap (jk)).length/4=l.length:=by rw [jH (enc:=jk) (size:=4) (fun _=>rfl)];exact Nat.mul_div_cancel _ (by decide)
theorem jdf:D.sl 4 tEn []=jm []:=rfl
theorem jaP (l:List En):kb (l.flatMap (jk))=true:=by
 induction l with
 |nil=>rfl
 |cons x l ih=>rw [List.flatMap_cons,vx,ih];rfl
theorem jms (l:List En) (r:List D):kb (jm l::r)=false:=(rfl)
theorem jpj (l:List En) (r:List D):jjm (jm l::r)=jjm r:=(rfl)
theorem jrA (l:List Tk) (e:Nat) (k:List D→Prop):slK (jB l) e 4 k=(tTk=e∧k (l.flatMap (jo))):=by rw [show jB l=.sl 4 tTk (l.flatMap (jo)) from rfl,jvT];simp
theorem jsy (l:List Tk):(l.flatMap (jo)).length/4=l.length:=by rw [jH (enc:=jo) (size:=4) (fun _=>rfl)];exact Nat.mul_div_cancel _ (by decide)
theorem jhz (l:List Tk):kb (l.flatMap (jo))=true:=by
 induction l with
 |nil=>rfl
 |cons x l ih=>rw [List.flatMap_cons,vx,ih];rfl
theorem jpi (l:List Tk) (r:List D):jjm (jB l::r)=jjm r:=(rfl)
theorem jrB (l:List Rn) (e:Nat) (k:List D→Prop):slK (jK l) e 8 k=(tRn=e∧k (l.flatMap (jd))):=by rw [show jK l=.sl 8 tRn (l.flatMap (jd)) from rfl,jvT];simp
theorem jsz (l:List Rn):(l.flatMap (jd)).length/8=l.length:=by rw [jH (enc:=jd) (size:=8) (fun _=>rfl)];exact Nat.mul_div_cancel _ (by decide)
theorem jtl (l:List (List En)) (e:Nat) (k:List D→Prop):slK (ku l) e 1 k=(jrs=e∧k (l.flatMap (fun es=>[jm es]))):=by rw [show ku l=.sl 1 jrs (l.flatMap (fun es=>[jm es])) from rfl,jvT];simp
theorem juX (l:List (List En)):(l.flatMap (fun es=>[jm es])).length/1=l.length:=by rw [jH (enc:=fun es=>[jm es]) (size:=1) (fun _=>rfl)];exact Nat.mul_div_cancel _ (by decide)
theorem jrF (l:List Dd) (e:Nat) (k:List D→Prop):slK (jdQ l) e 11 k=(tDd=e∧k (l.flatMap (jp))):=by rw [show jdQ l=.sl 11 tDd (l.flatMap (jp)) from rfl,jvT];simp
theorem jsD (l:List Dd):(l.flatMap (jp)).length/11=l.length:=by rw [jH (enc:=jp) (size:=11) (fun _=>rfl)];exact Nat.mul_div_cancel _ (by decide)
theorem jk2:D.sl 11 tDd []=jdQ []:=rfl
theorem jA3 (u:Value) (l:List D):jjm (.val u::l)=(u.oneCell'&&jjm l):=(rfl)
theorem jwk:jjm []=true:=(rfl)
theorem jnZ (l:List Cell) (ds:List D):IsD (.a (.v (.slice none 0 0))::l) (jh []::ds)=IsD l ds:=jmk l _ _ ds
theorem jpt (l:List Cell) (ds:List D):IsD (.a (.v (.slice none 0 0))::l) (jm []::ds)=IsD l ds:=jmk l _ _ ds
theorem jsl:Is s (.v (.slice none 0 0)) (jy [])=True:=jxH _ _
theorem jsm (l:List Int) (a b:Int):D.sl 1 jgn (l.flatMap (fun n=>[iv n])++[iv a,iv b])=jh (l++[a,b]):=by simp [jh]
theorem jj {l:List Int} {k:Nat} {x:Int} (h:l[k]?=some x):((l.flatMap (fun n=>[iv n])).drop (k*1)).take 1=[iv x]:=jcE h
theorem ji {l:List Int} {k:Nat} (h:k<l.length):k*1+1≤(l.flatMap (fun n=>[iv n])).length:=by rw [jH (enc:=fun n=>[iv n]) (size:=1) (fun _=>rfl)];omega
theorem joD {l:List Ed} {k:Nat} {x:Ed} (h:l[k]?=some x):((l.flatMap (jO)).drop (k*2)).take 2=jO x:=jx h
theorem jn1 {l:List Ed} {k:Nat} (h:k<l.length):k*2+2≤(l.flatMap (jO)).length:=by rw [jH (enc:=jO) (size:=2) (fun _=>rfl)];omega
theorem jbJ {l:List (List En)} {k:Nat} {x:List En} (h:l[k]?=some x):((l.flatMap (fun es=>[jm es])).drop (k*1)).take 1=[jm x]:=kO h
theorem jaM {l:List (List En)} {k:Nat} (h:k<l.length):k*1+1≤(l.flatMap (fun es=>[jm es])).length:=by rw [jH (enc:=fun es=>[jm es]) (size:=1) (fun _=>rfl)];omega
theorem jy1 (g c:Nat) (p:List Nat) (η:js) (i:Nat) (v:Value) (l:List D):jgH g c p η i (.val v::l)=.v v::jgH g c p η (i+1) l:=(rfl)
theorem jy2 (g c:Nat) (p:List Nat) (η:js) (i:Nat):jgH g c p η i []=[]:=(rfl)
end
attribute [go_sem] jy1 jy2 jsl jnZ jpt jfv joX jpL jmE job jrE jsC joq jmt jpk jaP jrD jsB jop jms jpj jhz jrA jsy jom jpi jrB jsz jon jtl juX jpM jrF jsD jA3 jwk Bool.and_false Bool.false_and Bool.and_true Bool.true_and jeE jrz jrt jrO jpl jph jdk jtk js9 jtF jr8 jr2 jdj jtj js8 jne jr7 jr1 jdi jtg js5 jtD jr4 jrY vf jth js6 jtE jr5 jrZ jas jvS jvL jv5 jub jt6
abbrev Ni (n:Int):AV:=.c (.v (.int .i64 n))
abbrev Hd (g:Nat) (η:js):AV:=.c (.h g 0 [] (η []))
abbrev Bx (g b:Nat):AV:=.c (.bp g 0 b)
abbrev Ro (d:D):AV:=.c (.ro d)
abbrev Bi (b ty:Nat) (ds:List D):Ob:=.box b ty (ds.map fun x=>.a x.toRo)
theorem jwL (s t:Nat) (cs l:List D):kb (.sl s t cs::l)=false:=(rfl)
theorem jyU (s t:Nat) (cs l:List D):jjm (.sl s t cs::l)=jjm l:=(rfl)
attribute [go_sem] jwL jyU
theorem jBD {P:Program} {ty:Nat} {xs ys:List Value} {b:Bool} (h:∀w,(Op.equalIn 10000 ty (.agg xs.toArray) (.agg ys.toArray)).run P w=.ok b w) (hg:P.eqGuardType P.depth ty=false):EqR P .eql ty xs ys b:=fun w=>⟨by rw [run_eql_struct,h w];rfl,fun x y=>run_eqGuard_agg _ _ _ _ _ _ _ hg⟩
theorem juM {P:Program} {ty:Nat} {xs ys:List Value} {b:Bool} (h:∀w,(Op.equalIn 10000 ty (.agg xs.toArray) (.agg ys.toArray)).run P w=.ok b w) (hg:P.eqGuardType P.depth ty=false):EqR P .neq ty xs ys (!b):=fun w=>⟨by rw [run_neq_struct,h w];rfl,fun x y=>run_eqGuard_agg _ _ _ _ _ _ _ hg⟩
theorem w_any:Nonempty World:=⟨default⟩
theorem jiL {P:Program} {d:Option Nat} {s:St} {K:St→Prop} {op:BinOp} {ty:Nat} {l m:List A0} {xs ys:List Value} {b:Bool} (hx:jce l=some xs) (hy:jce m=some ys) (h:EqR P op ty xs ys b):jxc P d s K op ty (.agg l) (.agg m)=K (s.put d (.c (.v (.bool b)))):=by
 apply propext
 constructor
 ·rintro ⟨av,(⟨_,_,_,h1,_⟩|⟨l',m',xs',ys',b',h1,h2,h3,h4,h5,rfl⟩),h6⟩
  ·cases h1
  ·cases h1;cases h2
   rw [hx] at h3;rw [hy] at h4;cases h3;cases h4;obtain ⟨w⟩:=w_any;have e1:=(h w).1;rw [(h5 w).1] at e1;simp at e1;subst e1;exact h6
 ·intro hk
  exact ⟨_,.inr ⟨l,m,xs,ys,b,rfl,rfl,hx,hy,h,rfl⟩,hk⟩
theorem jxO (w:World) (x y:Ed):(Op.equalIn 10000 161 (.agg #[.int .i64 x.src,.int .i64 x.dst]) (.agg #[.int .i64 y.src,.int .i64 y.dst])).run Tryz.prog w=.ok (decide (x=y)) w:=by
 have u3:=Tryz.underlying3;have a3:=Tryz.isAgg3;have z3:=Tryz.sizeOf3;rw [show (10000:Nat)=9999+1 from rfl,run_equalIn_agg w 9999 161 _ _ (by kernel_rfl) (by kernel_rfl)]
 simp only [Program.fieldsOf,Tryz.underlying161];obtain ⟨xsrc,xdst⟩:=x;obtain ⟨ysrc,ydst⟩:=y
 go_simp
 by_cases h0:xsrc=ysrc<;>by_cases h1:xdst=ydst<;>simp [h0,h1]
theorem jvj {d:Option Nat} {s:St} {K:St→Prop} (x y:Ed):jxc Tryz.prog d s K .eql 161 (.agg [.v (.int .i64 x.src),.v (.int .i64 x.dst)]) (.agg [.v (.int .i64 y.src),.v (.int .i64 y.dst)])=K (s.put d (.c (.v (.bool (decide (x=y)))))):=jiL rfl rfl (jBD (fun w=>jxO w x y) (by kernel_rfl))
theorem jvi {d:Option Nat} {s:St} {K:St→Prop} (x y:Ed):jxc Tryz.prog d s K .neq 161 (.agg [.v (.int .i64 x.src),.v (.int .i64 x.dst)]) (.agg [.v (.int .i64 y.src),.v (.int .i64 y.dst)])=K (s.put d (.c (.v (.bool (!decide (x=y)))))):=jiL rfl rfl (juM (fun w=>jxO w x y) (by kernel_rfl))
attribute [go_sem] jvj jvi
theorem jBG (w:World) (x y:En):(Op.equalIn 10000 44 (.agg #[.int .i64 x.prio,.int .i64 x.seq,.int .i64 x.run,.int .i64 x.task]) (.agg #[.int .i64 y.prio,.int .i64 y.seq,.int .i64 y.run,.int .i64 y.task])).run Tryz.prog w=.ok (decide (x=y)) w:=by
 have u3:=Tryz.underlying3;have a3:=Tryz.isAgg3;have z3:=Tryz.sizeOf3;rw [show (10000:Nat)=9999+1 from rfl,run_equalIn_agg w 9999 44 _ _ (by kernel_rfl) (by kernel_rfl)]
 simp only [Program.fieldsOf,Tryz.underlying44];obtain ⟨xprio,xseq,xrun,xtask⟩:=x;obtain ⟨yprio,yseq,yrun,ytask⟩:=y
 go_simp
 by_cases h0:xprio=yprio<;>by_cases h1:xseq=yseq<;>by_cases h2:xrun=yrun<;>by_cases h3:xtask=ytask<;>simp [h0,h1,h2,h3]
theorem jvh {d:Option Nat} {s:St} {K:St→Prop} (x y:En):jxc Tryz.prog d s K .neq 44 (.agg [.v (.int .i64 x.prio),.v (.int .i64 x.seq),.v (.int .i64 x.run),.v (.int .i64 x.task)]) (.agg [.v (.int .i64 y.prio),.v (.int .i64 y.seq),.v (.int .i64 y.run),.v (.int .i64 y.task)])=K (s.put d (.c (.v (.bool (!decide (x=y)))))):=jiL rfl rfl (juM (fun w=>jBG w x y) (by kernel_rfl))
attribute [go_sem] jvh
theorem jBF (w:World) (x y:Tk):(Op.equalIn 10000 46 (.agg #[.int .i64 x.state,.int .i64 x.need,.int .i64 x.tri,.int .i64 x.til]) (.agg #[.int .i64 y.state,.int .i64 y.need,.int .i64 y.tri,.int .i64 y.til])).run Tryz.prog w=.ok (decide (x=y)) w:=by
 have u3:=Tryz.underlying3;have a3:=Tryz.isAgg3;have z3:=Tryz.sizeOf3;rw [show (10000:Nat)=9999+1 from rfl,run_equalIn_agg w 9999 46 _ _ (by kernel_rfl) (by kernel_rfl)]
 simp only [Program.fieldsOf,Tryz.underlying46];obtain ⟨xstate,xneed,xtri,xtil⟩:=x;obtain ⟨ystate,yneed,ytri,ytil⟩:=y
 go_simp
 by_cases h0:xstate=ystate<;>by_cases h1:xneed=yneed<;>by_cases h2:xtri=ytri<;>by_cases h3:xtil=ytil<;>simp [h0,h1,h2,h3]
theorem jvg {d:Option Nat} {s:St} {K:St→Prop} (x y:Tk):jxc Tryz.prog d s K .neq 46 (.agg [.v (.int .i64 x.state),.v (.int .i64 x.need),.v (.int .i64 x.tri),.v (.int .i64 x.til)]) (.agg [.v (.int .i64 y.state),.v (.int .i64 y.need),.v (.int .i64 y.tri),.v (.int .i64 y.til)])=K (s.put d (.c (.v (.bool (!decide (x=y)))))):=jiL rfl rfl (juM (fun w=>jBF w x y) (by kernel_rfl))
attribute [go_sem] jvg
def jd9:C:=iS [iA 2 (iN 0)] (iS [iA 4 (iM 0),iA 5 (.call 159 [.t 4]),iA 3 (iM 5)] (.seq (iS [iA 6 (iM 3),iA 7 (.bin .eql 9 (.t 6) (.c (.string ⟨⟨[]⟩⟩)))] (iD 7 (iS [iA 2 (iN 0)] .ret) .skip)) (iS [iA 8 (iM 3),iA 9 (.call 195 [.t 8]),iA 10 (iQ .rem 3 9 4),iA 2 (iM 10)] .ret)))
theorem jg2:fnC Tryz.prog Tryz.f170=some (jd9,[.t 2],11):=by kernel_rfl
def jel:C:=iS [iA 2 (iN 0)] (iS [iA 4 (iM 0),iA 5 (.call 153 [.t 4]),iA 3 (iM 5)] (.seq (iS [iA 6 (iM 3),iA 7 (.bin .eql 9 (.t 6) (.c (.string ⟨⟨[]⟩⟩)))] (iD 7 (iS [iA 2 (iN 0)] .ret) .skip)) (iS [iA 8 (iM 3),iA 9 (.call 98 [.t 8]),iA 10 (iQ .rem 3 9 4),iA 2 (iM 10)] .ret)))
theorem jhe:fnC Tryz.prog Tryz.f165=some (jel,[.t 2],11):=by kernel_rfl
def jd6:C:=iS [iA 2 (.mov (.c (.string ⟨⟨[]⟩⟩)))] (.seq (iS [iA 4 (iM 0),iA 5 (.call 68 [.t 4,.c (.int .i64 0),.c (.int .i64 1000000000)]),iA 6 (iU 5)] (iD 6 (iS [iA 2 (.mov (.c (.string ⟨⟨[]⟩⟩)))] .ret) .skip)) (iS [iA 7 (.bsl 5 1 0 [] []),iA 3 (iM 7)] (.seq (.blk 0 (.loop (.seq (iS [iA 8 (iM 0),iA 9 (iQ .gtr 3 8 127)] (iD 9 .skip (.exit 0))) (.blk 1 (iS [iA 10 (iM 3),iA 11 (iM 0),iA 12 (iQ .rem 3 11 128),iA 13 (.bin .add 3 (.c (.int .i64 128)) (.t 12)),iA 14 (.cv (.num .u8) 0 (.t 13)),iA 15 (.bsl 5 1 1 [none] [(0,1,.t 14)]),iA 16 (.app 5 1 1 (.t 10) (.t 15)),iA 3 (iM 16)] (.reg [iA 17 (iM 0),iA 18 (iQ .quo 3 17 128),iA 0 (iM 18)])))))) (iS [iA 19 (iM 3),iA 20 (iM 0),iA 21 (.cv (.num .u8) 0 (.t 20)),iA 22 (.bsl 5 1 1 [none] [(0,1,.t 21)]),iA 23 (.app 5 1 1 (.t 19) (.t 22)),iA 24 (.cv .text 5 (.t 23)),iA 2 (iM 24)] .ret))))
theorem jgZ:fnC Tryz.prog Tryz.f159=some (jd6,[.t 2],25):=by kernel_rfl
def jeh:C:=iS [iA 2 (.mov (.c (.string ⟨⟨[]⟩⟩)))] (.seq (iS [iA 4 (iM 0),iA 5 (.call 62 [.t 4,.c (.int .i64 0),.c (.int .i64 1000000000)]),iA 6 (iU 5)] (iD 6 (iS [iA 2 (.mov (.c (.string ⟨⟨[]⟩⟩)))] .ret) .skip)) (iS [iA 3 (.mov (.c (.slice none 0 0)))] (.seq (.blk 0 (.loop (.seq (iS [iA 7 (iM 0),iA 8 (iQ .geq 3 7 128)] (iD 8 .skip (.exit 0))) (.blk 1 (iS [iA 9 (iM 3),iA 10 (iM 0),iA 11 (iQ .rem 3 10 128),iA 12 (iQ .add 3 11 128),iA 13 (.cv (.num .u8) 0 (.t 12)),iA 14 (.bsl 5 1 1 [none] [(0,1,.t 13)]),iA 15 (.app 5 1 1 (.t 9) (.t 14)),iA 3 (iM 15)] (.reg [iA 16 (iM 0),iA 17 (iQ .quo 3 16 128),iA 0 (iM 17)])))))) (iS [iA 18 (iM 3),iA 19 (iM 0),iA 20 (.cv (.num .u8) 0 (.t 19)),iA 21 (.bsl 5 1 1 [none] [(0,1,.t 20)]),iA 22 (.app 5 1 1 (.t 18) (.t 21)),iA 23 (.cv .text 5 (.t 22)),iA 2 (iM 23)] .ret))))
theorem jha:fnC Tryz.prog Tryz.f153=some (jeh,[.t 2],24):=by kernel_rfl
def jcP:C:=iS [iA 2 (iN 0)] (iS [iA 3 (iN 4294967295)] (.seq (iS [iA 4 (iN 0)] (.blk 0 (.loop (.seq (iS [iA 7 (iM 4),iA 8 (iM 0),iA 9 (.len true (.t 8)),iA 10 (iP .lss 3 7 9)] (iD 10 .skip (.exit 0))) (.seq (.blk 1 (iS [iA 13 (iM 3),iA 14 (iM 0),iA 15 (iM 4),iA 16 (.sidx (.t 14) (.t 15)),iA 17 (.cv (.num .i64) 0 (.t 16)),iA 18 (iP .xor 3 13 17),iA 3 (iM 18)] (iS [iA 5 (iN 0)] (.blk 2 (.loop (.seq (iS [iA 19 (iM 5),iA 20 (iQ .lss 3 19 8)] (iD 20 .skip (.exit 2))) (.seq (.blk 3 (iS [iA 23 (iM 3),iA 24 (iQ .rem 3 23 2),iA 25 (iQ .eql 3 24 1),iA 6 (iM 25)] (iS [iA 26 (iM 3),iA 27 (iQ .quo 3 26 2),iA 3 (iM 27)] (iS [iA 28 (iM 6)] (iD 28 (.reg [iA 29 (iM 3),iA 30 (iQ .xor 3 29 3988292384),iA 3 (iM 30)]) .skip))))) (.reg [iA 21 (iM 5),iA 22 (iQ .add 3 21 1),iA 5 (iM 22)])))))))) (.reg [iA 11 (iM 4),iA 12 (iQ .add 3 11 1),iA 4 (iM 12)])))))) (iS [iA 31 (iM 3),iA 32 (iQ .xor 3 31 4294967295),iA 2 (iM 32)] .ret)))
theorem jjJ:fnC Tryz.prog Tryz.f195=some (jcP,[.t 2],33):=by kernel_rfl
def jou:C:=iS [iA 2 (iN 0)] (iS [iA 3 (iN 4294967295)] (.seq (iS [iA 4 (iN 0)] (.blk 0 (.loop (.seq (iS [iA 7 (iM 4),iA 8 (iM 0),iA 9 (.len true (.t 8)),iA 10 (iP .lss 3 7 9)] (iD 10 .skip (.exit 0))) (.seq (.blk 1 (iS [iA 13 (iM 3),iA 14 (iM 0),iA 15 (iM 4),iA 16 (.sidx (.t 14) (.t 15)),iA 17 (.cv (.num .i64) 0 (.t 16)),iA 18 (iP .xor 3 13 17),iA 3 (iM 18)] (iS [iA 5 (iN 0)] (.blk 2 (.loop (.seq (iS [iA 19 (iM 5),iA 20 (iQ .lss 3 19 8)] (iD 20 .skip (.exit 2))) (.seq (.blk 3 (iS [iA 23 (iM 3),iA 24 (iQ .rem 3 23 2),iA 25 (iQ .eql 3 24 1),iA 6 (iM 25)] (iS [iA 26 (iM 3),iA 27 (iQ .quo 3 26 2),iA 3 (iM 27)] (iS [iA 28 (iM 6)] (iD 28 (.reg [iA 29 (iM 3),iA 30 (iQ .xor 3 29 3988292384),iA 3 (iM 30)]) .skip))))) (.reg [iA 21 (iM 5),iA 22 (iQ .add 3 21 1),iA 5 (iM 22)])))))))) (.reg [iA 11 (iM 4),iA 12 (iQ .add 3 11 1),iA 4 (iM 12)])))))) (iS [iA 31 (iM 3),iA 32 (iQ .xor 3 31 4294967295),iA 2 (iM 32)] .ret)))
theorem jjP:fnC Tryz.prog Tryz.f98=some (jou,[.t 2],33):=by kernel_rfl
def jhA:C:=iS [iA 6 (iO false)] (iS [iA 7 (iM 0),iA 8 (iM 1),iA 9 (iP .geq 3 7 8),iA 10 (iM 9),iB 11 10 true (iM 0),iB 12 10 true (iM 2),iB 13 10 true (iP .leq 3 11 12),iA 14 (.pick (.t 10) (.t 13) (.c (.bool false))),iA 6 (iM 14)] .ret)
theorem jjH:fnC Tryz.prog Tryz.f68=some (jhA,[.t 6],15):=by kernel_rfl
def jf6:C:=iS [iA 6 (iO false)] (iS [iA 7 (iM 0),iA 8 (iM 1),iA 9 (iP .geq 3 7 8),iA 10 (iM 9),iB 11 10 true (iM 0),iB 12 10 true (iM 2),iB 13 10 true (iP .leq 3 11 12),iA 14 (.pick (.t 10) (.t 13) (.c (.bool false))),iA 6 (iM 14)] .ret)
theorem jia:fnC Tryz.prog Tryz.f62=some (jf6,[.t 6],15):=by kernel_rfl
theorem jL (a b c:Int):kj Tryz.prog 68 [.c (.val (.int .i64 a)),.c (.val (.int .i64 b)),.c (.val (.int .i64 c))] (.c (.val (.bool (decide (b≤a∧a≤c))))):=by
 refine jq Tryz.func68 jjH (by simp) ?_
 unfold jhA;by_cases h:b≤a
 ·simp only [go_sem,h]
 ·simp only [go_sem,h]
theorem jE (a b c:Int):kj Tryz.prog 62 [.c (.val (.int .i64 a)),.c (.val (.int .i64 b)),.c (.val (.int .i64 c))] (.c (.val (.bool (decide (b≤a∧a≤c))))):=by
 refine jq Tryz.func62 jia (by simp) ?_
 unfold jf6;by_cases h:b≤a
 ·simp only [go_sem,h]
 ·simp only [go_sem,h]
def jhn (v:Nat):List UInt8:=if v<128 then [UInt8.ofNat v] else UInt8.ofNat (128+v%128)::jhn (v/128)
termination_by v
decreasing_by omega
theorem jlu (v:Nat):(jhn v).length≤v+1:=by
 induction v using Nat.strongRecOn with
 |_ v ih=>
  unfold jhn;split
  ·simp
  ·have:=ih (v/128) (by omega)
   simp only [List.length_cons];omega
def jrp (n:Int):ByteArray:=if 0≤n∧n≤1000000000 then ⟨(jhn n.toNat).toArray⟩ else ⟨#[]⟩
theorem jw7 {v:Nat} (h:v<256):D.val (.int .u8 (IntKind.u8.wrap (v:Int)))=qX (UInt8.ofNat v):=by
 have:IntKind.u8.wrap (v:Int)=v:=IntWalk.u8_in _ (by omega)
 rw [this];simp [qX,Nat.mod_eq_of_lt h]
theorem jlz (v:Nat):Int.tdiv (v:Int) 128=((v/128:Nat):Int):=rfl
theorem jlw (v:Nat):Int.tmod (v:Int) 128=((v%128:Nat):Int):=rfl
theorem js1 {n:Nat} (h:n≤1000000000):jrp (n:Int)=⟨(jhn n).toArray⟩:=by simp [jrp];omega
theorem jkb (n:Int):kj Tryz.prog 159 [.c (.val (.int .i64 n))] (.c (.val (.string (jrp n)))):=by
 refine jq Tryz.func159 jgZ (by simp) ?_
 unfold jd6;simp only [go_sem];refine jc (jL n 0 1000000000) (by simp only [go_sem]) fun η=>?_
 by_cases h:0≤n∧n≤1000000000
 ·obtain ⟨n,rfl⟩:=Int.eq_ofNat_of_zero_le h.1
  have hn:n≤1000000000:=by omega
  rw [js1 hn];simp only [go_sem,h];intro η1;have hl0:=jlu n;refine vB (fun s=>∃(l:List UInt8) (v:Nat) (g:Nat) (η:js),l++jhn v=jhn n∧v≤n∧(g=700∨g=1600)∧s.t 0=.c (.v (.int .i64 v))∧s.t 3=.c (.h g 0 [] (η []))∧s.o g=.loose (.sl 1 5 (l.map qX)) η) (fun s=>s.n 0) ?_ ?_
  ·exact ⟨[],n,700,η1,rfl,Nat.le_refl _,.inl rfl,by simp only [go_sem],by simp only [go_sem],by simp only [go_sem]⟩
  ·rintro s ⟨l,v,g,η,hl,hv,hg,h0,h3,ho⟩
   have hll:l.length≤1000000001:=by have:=congrArg List.length hl;simp only [List.length_append] at this;omega
   by_cases hlt:128≤v
   ·have hlt':(127:Int)<v:=by omega
    have hw:IntKind.i64.wrap (128+((v%128:Nat):Int))=((128+v%128:Nat):Int):=by rw [jf (by omega) (by omega)];omega
    have hw2:IntKind.i64.wrap ((v/128:Nat):Int)=((v/128:Nat):Int):=jf (by omega) (by omega)
    have hb:=jw7 (v:=128+v%128) (by omega)
    have e':l++jhn v=(l++[UInt8.ofNat (128+v%128)])++jhn (v/128):=by rw [jhn,if_neg (by omega)];simp
    rcases hg with rfl|rfl
    ·simp only [go_sem,h0,h3,ho,hlt',jlz,jlw,hw,hw2]
     intro η2;refine ⟨by simp [maxLen];try omega,by simp;try omega,fun η3=>⟨⟨_,v/128,1600,η3,e'.symm.trans hl,by omega,.inr rfl,rfl,rfl,by simp only [go_sem,hb,List.map_append]⟩,?_⟩⟩
     rw [jev (k:=.i64) (n:=((v/128:Nat):Int)) (by simp only [go_sem]),jev h0];omega
    ·simp only [go_sem,h0,h3,ho,hlt',jlz,jlw,hw,hw2]
     intro η2;refine ⟨by simp [maxLen];try omega,by simp;try omega,fun η3=>⟨⟨_,v/128,1600,η3,e'.symm.trans hl,by omega,.inr rfl,rfl,rfl,by simp only [go_sem,hb,List.map_append]⟩,?_⟩⟩
     rw [jev (k:=.i64) (n:=((v/128:Nat):Int)) (by simp only [go_sem]),jev h0];omega
   ·have hlt':¬(127:Int)<v:=by omega
    have hb:=jw7 (v:=v) (by omega)
    have e':l++jhn v=l++[UInt8.ofNat v]:=by rw [jhn,if_pos (by omega)]
    have hvl:jhn n=l++[UInt8.ofNat v]:=by rw [←hl,e']
    rcases hg with rfl|rfl
    ·simp only [go_sem,h0,h3,ho,hlt']
     intro η2;refine ⟨by simp [maxLen];try omega,by simp;try omega,fun η3=>jiK (bs:=jhn n) rfl rfl (by rw [hvl];simp only [go_sem,hb,List.map_append]) ?_⟩
     simp only [go_sem]
    ·simp only [go_sem,h0,h3,ho,hlt']
     intro η2;refine ⟨by simp [maxLen];try omega,by simp;try omega,fun η3=>jiK (bs:=jhn n) rfl rfl (by rw [hvl];simp only [go_sem,hb,List.map_append]) ?_⟩
     simp only [go_sem]
 ·simp only [go_sem,h]
  simp [jrp,h]
theorem jki (n:Int):kj Tryz.prog 153 [.c (.val (.int .i64 n))] (.c (.val (.string (jrp n)))):=by
 refine jq Tryz.func153 jha (by simp) ?_
 unfold jeh;simp only [go_sem];refine jc (jE n 0 1000000000) (by simp only [go_sem]) fun η=>?_
 by_cases h:0≤n∧n≤1000000000
 ·obtain ⟨n,rfl⟩:=Int.eq_ofNat_of_zero_le h.1
  have hn:n≤1000000000:=by omega
  rw [js1 hn];simp only [go_sem,h];have hl0:=jlu n;refine vB (fun s=>∃(l:List UInt8) (v:Nat),l++jhn v=jhn n∧v≤n∧s.t 0=.c (.v (.int .i64 v))∧((l=[]∧s.t 3=.c (.v (.slice none 0 0)))∨∃η,s.t 3=.c (.h 1500 0 [] (η []))∧s.o 1500=.loose (.sl 1 5 (l.map qX)) η)) (fun s=>s.n 0) ?_ ?_
  ·exact ⟨[],n,rfl,Nat.le_refl _,by simp only [go_sem],.inl ⟨rfl,by simp only [go_sem]⟩⟩
  ·rintro s ⟨l,v,hl,hv,h0,hg⟩
   have hll:l.length≤1000000001:=by have:=congrArg List.length hl;simp only [List.length_append] at this;omega
   by_cases hlt:128≤v
   ·have hlt':(128:Int)≤v:=by omega
    have hw:IntKind.i64.wrap (((v%128:Nat):Int)+128)=((128+v%128:Nat):Int):=by rw [jf (by omega) (by omega)];omega
    have hw2:IntKind.i64.wrap ((v/128:Nat):Int)=((v/128:Nat):Int):=jf (by omega) (by omega)
    have hb:=jw7 (v:=128+v%128) (by omega)
    have e':l++jhn v=(l++[UInt8.ofNat (128+v%128)])++jhn (v/128):=by rw [jhn,if_neg (by omega)];simp
    rcases hg with ⟨rfl,h3⟩|⟨η,h3,ho⟩
    ·simp only [go_sem,h0,h3,List.length_nil,hlt',maxLen,jlz,jlw,hw,hw2]
     intro η2;intro η3;refine ⟨⟨_,v/128,e'.symm.trans hl,by omega,rfl,.inr ⟨η3,rfl,by simp only [go_sem,hb,List.map_append]⟩⟩,?_⟩
     rw [jev (k:=.i64) (n:=((v/128:Nat):Int)) (by simp only [go_sem]),jev h0];omega
    ·simp only [go_sem,h0,h3,ho,hlt',jlz,jlw,hw,hw2]
     intro η2;refine ⟨by simp [maxLen];try omega,by simp;try omega,fun η3=>⟨⟨_,v/128,e'.symm.trans hl,by omega,rfl,.inr ⟨η3,rfl,by simp only [go_sem,hb,List.map_append]⟩⟩,?_⟩⟩
     rw [jev (k:=.i64) (n:=((v/128:Nat):Int)) (by simp only [go_sem]),jev h0];omega
   ·have hlt':¬(128:Int)≤v:=by omega
    have hb:=jw7 (v:=v) (by omega)
    have e':l++jhn v=l++[UInt8.ofNat v]:=by rw [jhn,if_pos (by omega)]
    have hvl:jhn n=l++[UInt8.ofNat v]:=by rw [←hl,e']
    rcases hg with ⟨rfl,h3⟩|⟨η,h3,ho⟩
    ·simp only [go_sem,h0,h3,List.length_nil,hlt',maxLen]
     intro η2 η3;refine jiK (bs:=jhn n) rfl rfl (by rw [hvl];simp only [go_sem,hb,List.map_append]) ?_
     simp only [go_sem]
    ·simp only [go_sem,h0,h3,ho,hlt']
     intro η2;refine ⟨by simp [maxLen];try omega,by simp;try omega,fun η3=>jiK (bs:=jhn n) rfl rfl (by rw [hvl];simp only [go_sem,hb,List.map_append]) ?_⟩
     simp only [go_sem]
 ·simp only [go_sem,h]
  simp [jrp,h]
def jro (a b:Int):Int:=IntKind.i64.wrap ((BitVec.ofInt 64 a^^^BitVec.ofInt 64 b).toNat)
theorem jvA (a b:Int):IntKind.i64.wrap ((BitVec.ofInt 64 a^^^BitVec.ofInt 64 b).toNat)=jro a b:=rfl
def jkH (c:Int):Int:=if (c.tmod 2==1)=true then jro (IntKind.i64.wrap (c.tdiv 2)) 3988292384 else IntKind.i64.wrap (c.tdiv 2)
def jnW:Nat→Int→Int
 |0,c=>c
 |n+1,c=>jkH (jnW n c)
def jxo (c:Int) (b:UInt8):Int:=jnW 8 (jro c (IntKind.i64.wrap b.toNat))
def jzQ (b:ByteArray):Int:=jro (b.data.toList.foldl jxo 4294967295) 4294967295
theorem jss {α β:Type} (f:β→α→β) (c:β) {l:List α} {k:Nat} {x:α} (h:l[k]?=some x):(l.take (k+1)).foldl f c=f ((l.take k).foldl f c) x:=by
 rw [List.take_add_one,h];simp
theorem jsZ {P:Program} (b:ByteArray) (hb:b.size<9223372036854775807):wpC P 0 jcP (jxx [.t 2] (.c (.val (.int .i64 (jzQ b))))) (St.init [.c (.val (.string b))]):=by
 unfold jcP;simp only [go_sem];refine vB (fun s=>∃k:Nat,k≤b.size∧s.t 0=.c (.v (.string b))∧s.t 4=.c (.v (.int .i64 k))∧s.t 3=.c (.v (.int .i64 ((b.data.toList.take k).foldl jxo 4294967295)))) (fun s=>b.size-s.n 4) ?_ ?_
 ·exact ⟨0,Nat.zero_le _,by simp only [go_sem],by simp only [go_sem]<;>rfl,by simp only [go_sem]<;>rfl⟩
 ·rintro s ⟨k,hk,h0,h4,h3⟩
  by_cases hlt:k<b.size
  ·have hlt':(k:Int)<b.size:=by omega
   obtain ⟨u,hu⟩:∃u,b[k]?=some u:=⟨b[k],by simp [hlt]⟩
   have hu':b.data.toList[k]?=some u:=by
    rw [←hu,getElem?_pos b k hlt];simp only [Array.getElem?_toList];exact getElem?_pos b.data k hlt
   have hw4:IntKind.i64.wrap ((k:Int)+1)=((k+1:Nat):Int):=jf (by omega) (by omega)
   simp only [go_sem,h0,h3,h4,hlt',jvA];refine ⟨u,hu,?_⟩;refine vB (fun s=>∃j:Nat,j≤8∧s.t 0=.c (.v (.string b))∧s.t 4=.c (.v (.int .i64 k))∧s.t 5=.c (.v (.int .i64 j))∧s.t 3=.c (.v (.int .i64 (jnW j (jro ((b.data.toList.take k).foldl jxo 4294967295) (IntKind.i64.wrap u.toNat)))))) (fun s=>8-s.n 5) ?_ ?_
   ·exact ⟨0,Nat.zero_le _,by simp only [go_sem,h0],by simp only [go_sem,h4],by simp only [go_sem]<;>rfl,by simp only [go_sem]<;>rfl⟩
   ·rintro s' ⟨j,hj,h0',h4',h5',h3'⟩
    by_cases hj':j<8
    ·have hj2:(j:Int)<8:=by omega
     have hw:IntKind.i64.wrap ((j:Int)+1)=((j+1:Nat):Int):=jf (by omega) (by omega)
     cases hodd:(jnW j (jro ((b.data.toList.take k).foldl jxo 4294967295) (IntKind.i64.wrap u.toNat))).tmod 2==1 with
     |true=>
      simp only [go_sem,h0',h4',h5',h3',hj2,hodd,hw,jvA];exact ⟨⟨j+1,by omega,rfl,by simp only [jnW,jkH,hodd,↓reduceIte];rfl⟩,by rw [jev (k:=.i64) (n:=((j+1:Nat):Int)) (by simp only [go_sem]),jev h5'];omega⟩
     |false=>
      simp only [go_sem,h0',h4',h5',h3',hj2,hodd,hw,jvA];exact ⟨⟨j+1,by omega,rfl,by simp only [jnW,jkH,hodd,Bool.false_eq_true,↓reduceIte]⟩,by rw [jev (k:=.i64) (n:=((j+1:Nat):Int)) (by simp only [go_sem]),jev h5'];omega⟩
    ·have hj2:¬(j:Int)<8:=by omega
     have hj8:j=8:=by omega
     subst hj8;simp only [go_sem,h0',h4',h5',h3',hj2,hw4];exact ⟨⟨k+1,by omega,rfl,by rw [jss _ _ hu'];rfl⟩,by rw [jev (k:=.i64) (n:=((k+1:Nat):Int)) (by simp only [go_sem]),jev h4];omega⟩
  ·have hlt':¬(k:Int)<b.size:=by omega
   have hkk:b.data.toList.take k=b.data.toList:=List.take_of_length_le (by simp only [Array.length_toList];exact Nat.le_of_not_lt hlt)
   simp only [go_sem,h0,h3,h4,hlt',jvA,hkk];rfl
theorem jnu (b:ByteArray) (hb:b.size<9223372036854775807):kj Tryz.prog 195 [.c (.val (.string b))] (.c (.val (.int .i64 (jzQ b)))):=
 jq Tryz.func195 jjJ (by simp) (jsZ b hb)
theorem jnB (b:ByteArray) (hb:b.size<9223372036854775807):kj Tryz.prog 98 [.c (.val (.string b))] (.c (.val (.int .i64 (jzQ b)))):=
 jq Tryz.func98 jjP (by simp) (jsZ b hb)
def jck (n:Int):Int:=if ((jrp n).toList==ByteArray.toList ⟨⟨[]⟩⟩)=true then 0 else (jzQ (jrp n)).tmod 4
theorem jkF (n:Int):(jrp n).size<9223372036854775807:=by
 unfold jrp;split
 ·have:=jlu n.toNat
  show (jhn n.toNat).toArray.size<_;simp only [List.size_toArray];omega
 ·decide
theorem jdK (n:Int):kj Tryz.prog 170 [.c (.val (.int .i64 n))] (.c (.val (.int .i64 (jck n)))):=by
 refine jq Tryz.func170 jg2 (by simp) ?_
 unfold jd9;simp only [go_sem];refine jc (jkb n) (by simp only [go_sem]) fun η=>?_
 cases he:(jrp n).toList==ByteArray.toList ⟨⟨[]⟩⟩ with
 |true=>
  simp only [go_sem,he];simp only [jck,he,if_true]
 |false=>
  simp only [go_sem,he];refine jc (jnu _ (jkF n)) (by simp only [go_sem]) fun η=>?_
  simp only [go_sem];simp only [jck,he,Bool.false_eq_true,if_false]
theorem jdN (n:Int):kj Tryz.prog 165 [.c (.val (.int .i64 n))] (.c (.val (.int .i64 (jck n)))):=by
 refine jq Tryz.func165 jhe (by simp) ?_
 unfold jel;simp only [go_sem];refine jc (jki n) (by simp only [go_sem]) fun η=>?_
 cases he:(jrp n).toList==ByteArray.toList ⟨⟨[]⟩⟩ with
 |true=>
  simp only [go_sem,he];simp only [jck,he,if_true]
 |false=>
  simp only [go_sem,he];refine jc (jnB _ (jkF n)) (by simp only [go_sem]) fun η=>?_
  simp only [go_sem];simp only [jck,he,Bool.false_eq_true,if_false]
def jd3:C:=iS [iA 1 (.box 49 5 (.t 0)),iA 2 (.alloc 49 [.int .i64 0,.int .i64 0,.int .i64 0,.int .i64 0,.slice none 0 0])] (iS [iA 3 (.bsl 161 2 0 [] []),iA 4 (iF 4 1),iA 5 (iL 4),iA 6 (.app 161 2 16 (.t 3) (.t 5)),iA 7 (iF 4 1),iC (.st 1 [some (2,161)] (.t 7) (.t 6))] (iS [iA 8 (iT 5 1),iC (.st 5 [none,none,none,none,some (2,161)] (.t 2) (.t 8))] .ret))
theorem jgW:fnC Tryz.prog Tryz.f168=some (jd3,[.cell 2 true 5],9):=by kernel_rfl
def jc1:C:=iS [iA 1 (.box 49 5 (.t 0)),iA 2 (.alloc 49 [.int .i64 0,.int .i64 0,.int .i64 0,.int .i64 0,.slice none 0 0])] (iS [iA 3 (iF 4 1),iA 4 (iL 3),iA 5 (.app 161 2 16 (.c (.slice none 0 0)) (.t 4)),iA 6 (iF 4 1),iC (.st 1 [some (2,161)] (.t 6) (.t 5))] (iS [iA 7 (iT 5 1),iC (.st 5 [none,none,none,none,some (2,161)] (.t 2) (.t 7))] .ret))
theorem jfM:fnC Tryz.prog Tryz.f163=some (jc1,[.cell 2 true 5],8):=by kernel_rfl
theorem jdJ (p:Pl) (hb:p.edges.length≤4000000):kj Tryz.prog 168 [.agg (ja p)] (.agg (ja p)):=by
 refine jq Tryz.func168 jgW (by simp) ?_
 unfold jd3;have h1:p.edges.length≤maxLen:=by unfold maxLen;omega
 have h2:p.edges.length*16≤140737488355328:=by omega
 simp only [go_sem,ja,h1,h2,jjx]
theorem jcs (p:Pl) (hb:p.edges.length≤4000000):kj Tryz.prog 163 [.agg (ja p)] (.agg (ja p)):=by
 refine jq Tryz.func163 jfM (by simp) ?_
 unfold jc1;have h1:p.edges.length≤maxLen:=by unfold maxLen;omega
 have h2:p.edges.length*16≤140737488355328:=by omega
 simp only [go_sem,ja,h1,h2,jjx]
def jed:C:=iS [iA 6 (iN 0)] (.seq (iS [iA 7 (iM 2),iA 8 (iM 1),iA 9 (iP .lss 3 7 8),iA 10 (iM 9),iB 11 10 false (iM 0),iB 12 10 false (iM 1),iB 13 10 false (iP .lss 3 11 12),iA 14 (.pick (.t 10) (.c (.bool true)) (.t 13))] (iD 14 (iS [iA 15 (iM 1),iA 6 (iM 15)] .ret) .skip)) (.seq (iS [iA 16 (iM 0),iA 17 (iM 2),iA 18 (iP .gtr 3 16 17)] (iD 18 (iS [iA 19 (iM 2),iA 6 (iM 19)] .ret) .skip)) (iS [iA 20 (iM 0),iA 6 (iM 20)] .ret)))
theorem jg6:fnC Tryz.prog Tryz.f134=some (jed,[.t 6],21):=by kernel_rfl
def jeo:C:=iS [iA 6 (iN 0)] (.seq (iS [iA 7 (iM 2),iA 8 (iM 1),iA 9 (iP .lss 3 7 8),iA 10 (iM 9),iB 11 10 false (iM 0),iB 12 10 false (iM 1),iB 13 10 false (iP .lss 3 11 12),iA 14 (.pick (.t 10) (.c (.bool true)) (.t 13))] (iD 14 (iS [iA 15 (iM 1),iA 6 (iM 15)] .ret) .skip)) (iS [iA 16 (iM 0),iA 17 (iM 2),iA 18 (.mm false (.t 16) (.t 17)),iA 6 (iM 18)] .ret))
theorem jhh:fnC Tryz.prog Tryz.f83=some (jeo,[.t 6],19):=by kernel_rfl
def jbW:C:=iS [iA 4 (.mov (.c (.slice none 0 0)))] (iS [iA 8 (iM 0),iA 9 (.call 134 [.t 8,.c (.int .i64 0),.c (.int .i64 3)]),iA 0 (iM 9)] (.seq (iS [iA 10 (iM 1),iA 11 (iQ .lss 3 10 0)] (iD 11 (.reg [iA 1 (iN 0)]) .skip)) (iS [iA 12 (.bsl 3 1 0 [] []),iA 5 (iM 12)] (.seq (iS [iA 6 (iN 1)] (.blk 0 (.loop (.seq (iS [iA 13 (iM 6),iA 14 (iQ .lss 3 13 4)] (iD 14 .skip (.exit 0))) (.seq (.blk 1 (.reg [iA 17 (iM 5),iA 18 (iM 0),iA 19 (iM 6),iA 20 (iP .add 3 18 19),iA 21 (iQ .rem 3 20 4),iA 22 (.bsl 3 1 1 [none] [(0,1,.t 21)]),iA 23 (.app 3 1 8 (.t 17) (.t 22)),iA 5 (iM 23)])) (.reg [iA 15 (iM 6),iA 16 (iQ .add 3 15 1),iA 6 (iM 16)])))))) (iS [iA 24 (iM 1),iA 25 (iM 5),iA 26 (iG 25),iA 27 (iP .rem 3 24 26),iA 7 (iM 27)] (.seq (.dreg (T.pure 1 (iA 29 (iM 5)) (T.pure 2 (iA 30 (iM 7)) (T.pure 3 (iA 31 (.sl 1 (.t 29) (some (.t 30)) none)) (T.pure 5 (iA 33 (iM 5)) (T.pure 6 (iA 34 (iM 7)) (T.pure 7 (iA 35 (.sl 1 (.t 33) none (some (.t 34)))) (T.alt (iA 28 (.bsl 3 1 0 [] [])) [7,6,5,3,2,1] (T.alt (iA 32 (.app 3 1 8 (.t 28) (.t 31))) [7,6,5] (T.alt (iA 36 (.app 3 1 8 (.t 32) (.t 35))) [] (T.pure 9 (iA 4 (iM 36)) T.done) T.stop) T.stop) T.stop)))))))) .ret))))))
theorem jeL:fnC Tryz.prog Tryz.f69=some (jbW,[.t 4],37):=by kernel_rfl
def jb2:C:=iS [iA 4 (.mov (.c (.slice none 0 0)))] (iS [iA 7 (iM 0),iA 8 (.call 83 [.t 7,.c (.int .i64 0),.c (.int .i64 3)]),iA 0 (iM 8)] (iS [iA 5 (.mov (.c (.slice none 0 0)))] (.seq (iS [iA 6 (iN 0)] (.blk 0 (.loop (.seq (iS [iA 9 (iM 6),iA 10 (iQ .lss 3 9 3)] (iD 10 .skip (.exit 0))) (.seq (.blk 1 (.reg [iA 13 (iM 5),iA 14 (iM 0),iA 15 (iQ .add 3 14 1),iA 16 (iM 1),iA 17 (.mm true (.t 16) (.c (.int .i64 0))),iA 18 (iQ .rem 3 17 3),iA 19 (iM 6),iA 20 (iP .add 3 18 19),iA 21 (iQ .rem 3 20 3),iA 22 (iP .add 3 15 21),iA 23 (iQ .rem 3 22 4),iA 24 (.bsl 3 1 1 [none] [(0,1,.t 23)]),iA 25 (.app 3 1 8 (.t 13) (.t 24)),iA 5 (iM 25)])) (.reg [iA 11 (iM 6),iA 12 (iQ .add 3 11 1),iA 6 (iM 12)])))))) (iS [iA 26 (iM 5),iA 4 (iM 26)] .ret))))
theorem jeR:fnC Tryz.prog Tryz.f19=some (jb2,[.t 4],27):=by kernel_rfl
def brI (n a b:Int):Int:=if b<a∨n<a then a else if n>b then b else n
theorem vt (n a b:Int):kj Tryz.prog 134 [.c (.val (.int .i64 n)),.c (.val (.int .i64 a)),.c (.val (.int .i64 b))] (.c (.val (.int .i64 (brI n a b)))):=by
 refine jq Tryz.func134 jg6 (by simp) ?_
 unfold jed;by_cases h1:b<a
 ·simp only [go_sem,h1]
  simp [brI,h1]
 ·by_cases h2:n<a
  ·simp only [go_sem,h1,h2]
   simp [brI,h1,h2]
  ·by_cases h3:b<n
   ·simp only [go_sem,h1,h2,h3]
    simp [brI,h1,h2,h3]
   ·simp only [go_sem,h1,h2,h3]
    simp [brI,h1,h2,h3]
theorem jko (n a b:Int):kj Tryz.prog 83 [.c (.val (.int .i64 n)),.c (.val (.int .i64 a)),.c (.val (.int .i64 b))] (.c (.val (.int .i64 (brI n a b)))):=by
 refine jq Tryz.func83 jhh (by simp) ?_
 unfold jeo;by_cases h1:b<a
 ·simp only [go_sem,h1]
  simp [brI,h1]
 ·by_cases h2:n<a
  ·simp only [go_sem,h1,h2]
   simp [brI,h1,h2]
  ·simp only [go_sem,h1,h2]
   simp only [brI,h1,h2,or_self,if_false]
def jhK (home draw:Int):List Int:=
 let h:=brI home 0 3
 let k:=(if draw<0 then 0 else draw).tmod 3
 [(h+1+k.tmod 3).tmod 4,(h+1+(k+1).tmod 3).tmod 4,(h+1+(k+2).tmod 3).tmod 4]
theorem jBR (n:Int):brI n 0 3=0∨brI n 0 3=1∨brI n 0 3=2∨brI n 0 3=3:=by
 unfold brI;split
 ·omega
 ·split<;>omega
theorem jyc {n:Int} (h:0≤n):n.tmod 3=0∨n.tmod 3=1∨n.tmod 3=2:=by
 rw [Int.tmod_eq_emod_of_nonneg h];omega
theorem js0 (home draw h d:Int) (hh:brI home 0 3=h) (hd:(if draw<0 then 0 else draw)=d) (hk:0≤h∧h≤3):(d.tmod 3=0→jhK home draw=[(h+1).tmod 4,(h+2).tmod 4,(h+3).tmod 4])∧(d.tmod 3=1→jhK home draw=[(h+2).tmod 4,(h+3).tmod 4,(h+1).tmod 4])∧(d.tmod 3=2→jhK home draw=[(h+3).tmod 4,(h+1).tmod 4,(h+2).tmod 4]):=by
 have e1:h+1+1=h+2:=by omega
 have e2:h+1+2=h+3:=by omega
 have e0:h+1+0=h+1:=by omega
 refine ⟨fun h3=>?_,fun h3=>?_,fun h3=>?_⟩<;>simp [jhK,hh,hd,h3,e0,e1,e2]
theorem jxW (n:Int):0≤brI n 0 3∧brI n 0 3≤3:=by have:=jBR n;omega
theorem jhP (home draw:Int):kj Tryz.prog 69 [.c (.val (.int .i64 home)),.c (.val (.int .i64 draw))] (.c (jh (jhK home draw))):=by
 refine jq Tryz.func69 jeL (by simp) ?_
 unfold jbW;simp only [go_sem];refine jc (vt home 0 3) (by simp only [go_sem]) fun η=>?_
 obtain ⟨d,hd,hdk⟩:∃d:Int,(if draw<0 then 0 else draw)=d∧0≤d:=⟨_,rfl,by split<;>omega⟩
 have hk:=jxW home;have hvl:=js0 home draw _ d rfl hd hk;have h3:=jyc hdk;generalize brI home 0 3=h at*;have w1:IntKind.i64.wrap (h+1)=h+1:=je0 _ (by omega) (by omega)
 have w2:IntKind.i64.wrap (h+2)=h+2:=je0 _ (by omega) (by omega)
 have w3:IntKind.i64.wrap (h+3)=h+3:=je0 _ (by omega) (by omega)
 obtain ⟨v0,v1,v2⟩:=hvl;by_cases hneg:draw<0
 ·rw [if_pos hneg] at hd
  subst hd;rw [v0 (by decide)]
  simp only [go_sem,hneg];intro η1;refine zD 3 ?_;simp only [go_sem,je0,w1,w2,w3,D.len,maxLen];intros;rfl
 ·rw [if_neg hneg] at hd
  subst hd;rcases h3 with h3|h3|h3
  ·rw [v0 h3]
   simp only [go_sem,hneg];intro η1;refine zD 3 ?_;simp only [go_sem,je0,w1,w2,w3,D.len,maxLen,h3];intros;rfl
  ·rw [v1 h3]
   simp only [go_sem,hneg];intro η1;refine zD 3 ?_;simp only [go_sem,je0,w1,w2,w3,D.len,maxLen,h3];intros;rfl
  ·rw [v2 h3]
   simp only [go_sem,hneg];intro η1;refine zD 3 ?_;simp only [go_sem,je0,w1,w2,w3,D.len,maxLen,h3];intros;rfl
theorem jhQ (home draw:Int):kj Tryz.prog 19 [.c (.val (.int .i64 home)),.c (.val (.int .i64 draw))] (.c (jh (jhK home draw))):=by
 refine jq Tryz.func19 jeR (by simp) ?_
 unfold jb2;simp only [go_sem];refine jc (jko home 0 3) (by simp only [go_sem]) fun η=>?_
 obtain ⟨d,hd,hdk⟩:∃d:Int,(if draw<0 then 0 else draw)=d∧0≤d:=⟨_,rfl,by split<;>omega⟩
 have hk:=jxW home;have hvl:=js0 home draw _ d rfl hd hk;have h3:=jyc hdk;generalize brI home 0 3=h at*;have w1:IntKind.i64.wrap (h+1)=h+1:=je0 _ (by omega) (by omega)
 have w0:IntKind.i64.wrap (h+1+0)=h+1:=by rw [je0 _ (by omega) (by omega)];omega
 have w2:IntKind.i64.wrap (h+1+1)=h+2:=by rw [je0 _ (by omega) (by omega)];omega
 have w3:IntKind.i64.wrap (h+1+2)=h+3:=by rw [je0 _ (by omega) (by omega)];omega
 obtain ⟨v0,v1,v2⟩:=hvl;rcases h3 with h3|h3|h3
 ·rw [v0 h3]
  simp only [go_sem];refine zD 3 ?_;simp only [go_sem,je0,w0,w1,w2,w3,D.len,maxLen,hd,h3];intros;rfl
 ·rw [v1 h3]
  simp only [go_sem];refine zD 3 ?_;simp only [go_sem,je0,w0,w1,w2,w3,D.len,maxLen,hd,h3];intros;rfl
 ·rw [v2 h3]
  simp only [go_sem];refine zD 3 ?_;simp only [go_sem,je0,w0,w1,w2,w3,D.len,maxLen,hd,h3];intros;rfl
end Go.Proofs.YtcehjhiglmifjaaGreat
