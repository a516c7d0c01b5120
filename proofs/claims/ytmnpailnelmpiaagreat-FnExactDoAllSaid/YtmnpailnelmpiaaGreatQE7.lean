/- Parts. -/
import Derived.Test.YtmnpailnelmpiaaGreatQE4h
import Derived.Test.YtmnpailnelmpiaaGreatProg
set_option linter.unusedSimpArgs false
set_option linter.unusedVariables false
set_option maxHeartbeats 2000000
set_option maxRecDepth 100000
namespace Go.Proofs.YtmnpailnelmpiaaGreat
open Go.RowKit Go.Sort
section
variable {P:Program} {β:Nat} {s:St} {Q Q':Ex→St→Prop}
theorem jii:∀{is:List Ins} {s:St} {K K':St→Prop},(∀s,K s→K' s)→jfG P β is s K→jfG P β is s K'
 |[],_,_,_,h,hk=>h _ hk
 |i::l,s,K,K',h,hk=>by
  simp only [jfG] at hk⊢;split
  ·rename_i hw;simp only [hw] at hk;exact jev (fun s'=>jii h) hk
  ·rename_i hw;simp only [hw] at hk;exact jii h hk
  ·rename_i hw;simp only [hw] at hk
theorem jaW:∀{t:T} {l:List (Nat×List Lk)} {s:St} {K K':St→Prop},(∀s,K s→K' s)→zd P β t l s K→zd P β t l s K'
 |.done,_,_,_,_,h,hk=>h _ hk
 |.stop,_,_,_,_,_,_=>trivial
 |.pure p i t,l,s,K,K',h,hk=>by
  simp only [zd] at hk⊢;split
  ·rename_i hw;simp only [hw] at hk;exact jev (fun s'=>jaW h) hk
  ·rename_i hw;simp only [hw] at hk;exact jaW h hk
  ·rename_i hw;simp only [hw] at hk
 |.alt i chk t r,l,s,K,K',h,hk=>by
  simp only [zd] at hk⊢;refine ⟨?_,jaW h hk.2⟩;have hk:=hk.1;split
  ·rename_i hw;simp only [hw] at hk;exact jev (fun s' ⟨h1,h2⟩=>⟨h1,jaW h h2⟩) hk
  ·rename_i hw;simp only [hw] at hk;exact jaW h hk
  ·rename_i hw;simp only [hw] at hk
theorem jhI {n n':St→Prop} (hn:∀s,n s→n' s) (hQ:∀e s,Q e s→Q' e s):∀e s,Ex.thn n Q e s→Ex.thn n' Q' e s
 |.normal,_,h=>hn _ h
 |.exit _,_,h=>hQ _ _ h
 |.ret,_,h=>hQ _ _ h
theorem jwm {id:Nat} (hQ:∀e s,Q e s→Q' e s):∀e s,Ex.inBlk id Q e s→Ex.inBlk id Q' e s
 |.normal,_,h=>hQ _ _ h
 |.exit id',_,h=>by
  simp only [Ex.inBlk] at h⊢;by_cases e:id'=id
  ·rw [if_pos e] at h⊢;exact hQ _ _ h
  ·rw [if_neg e] at h⊢;exact hQ _ _ h
 |.ret,_,h=>hQ _ _ h
theorem zQ:∀(c:C) {s:St} {Q Q':Ex→St→Prop},(∀e s,Q e s→Q' e s)→wpC P β c Q s→wpC P β c Q' s
 |.skip,_,_,_,h,hk=>h _ _ hk
 |.reg _,_,_,_,h,hk=>jii (fun _=>h _ _) hk
 |.dreg _,_,_,_,h,hk=>jaW (fun _=>h _ _) hk
 |.seq a b,s,Q,Q',h,hk=>by
  rw [jrx] at hk⊢;exact zQ a (jhI (fun _=>zQ b h) h) hk
 |.cond x a b,_,_,_,h,⟨t,h1,h2,h3⟩=>⟨t,h1,fun ht=>zQ a h (h2 ht),fun ht=>zQ b h (h3 ht)⟩
 |.blk id a,s,Q,Q',h,hk=>by
  rw [jwy] at hk⊢;exact zQ a (jwm h) hk
 |.loop a,_,_,_,h,⟨ι,mk,J,μ,h1,h2⟩=>⟨ι,mk,J,μ,h1,fun i hi=>zQ a (jhI (fun _ h=>h) h) (h2 i hi)⟩
 |.gh a,_,_,_,h,hk=>fun _ _ _ _ _ _ hr=>let ⟨s',F',h1,h2⟩:=hk _ _ _ _ _ _ hr;⟨s',F',h1,zQ a h h2⟩
 |.exit _,_,_,_,h,hk=>h _ _ hk
 |.ret,_,_,_,h,hk=>h _ _ hk
theorem Wk.refl (s:St):Wk s s:=fun _ _ _ _ _ F h=>⟨F,h,fun g b hb=>⟨g,hb⟩⟩
theorem vD {a:C} {s:St} (J:St→Prop) (μ:St→Nat) (h:J s) (hr:∀s,J s→wpC P β a (Ex.thn (fun s'=>J s'∧μ s'<μ s) Q) s):wpC P β (.loop a) Q s:=by
 refine ⟨St,id,J,μ,⟨s,h,.refl s⟩,fun s hs=>zQ a (jhI (fun s' ⟨h1,h2⟩=>⟨s',h1,.refl s',h2⟩) fun _ _ h=>h) (hr s hs)⟩
theorem jti {p:Nat→Prop} (h:∃n,p n):∃n,p n∧∀m,p m→n≤m:=by
 obtain ⟨n,hn⟩:=h
 induction n using Nat.strongRecOn with
 |_ n ih=>
  by_cases hm:∃m,m<n∧p m
  ·obtain ⟨m,h1,h2⟩:=hm
   exact ih m h1 h2
  ·exact ⟨n,hn,fun m hp=>Nat.le_of_not_lt fun hlt=>hm ⟨m,hlt,hp⟩⟩
def rounds (P:Program) (β:Nat) (a:C) (Q:Ex→St→Prop):Nat→St→Prop
 |0,_=>False
 |n+1,s=>wpC P β a (Ex.thn (rounds P β a Q n) Q) s
open Classical in
theorem jry {a:C} {n:Nat} (h:rounds P β a Q n s):wpC P β (.loop a) Q s:=by
 refine vD (fun s=>∃n,rounds P β a Q n s) (fun s=>if h:∃n,rounds P β a Q n s then Classical.choose (jti h) else 0) ⟨n,h⟩ ?_
 intro s hs;obtain ⟨h1,h0⟩:=Classical.choose_spec (jti hs)
 obtain ⟨m,hm⟩:∃m,Classical.choose (jti hs)=m+1:=by
  cases hq:Classical.choose (jti hs) with
  |zero=>rw [hq] at h1;exact h1.elim
  |succ m=>exact ⟨m,rfl⟩
 rw [hm] at h1;refine zQ _ (jhI (fun s' h2=>⟨⟨m,h2⟩,?_⟩) fun _ _ h=>h) h1
 have h3:∃n,rounds P β a Q n s':=⟨m,h2⟩;have h4:=(Classical.choose_spec (jti h3)).2 m h2;simp only [dif_pos hs,dif_pos h3,hm];omega
theorem zB {a:C} {s:St} (n:Nat) (h:wpC P β a (Ex.thn (rounds P β a Q n) Q) s):wpC P β (.loop a) Q s:=jry (n:=n+1) h
theorem jxO (a:C) (n:Nat):rounds P β a Q (n+1) s=wpC P β a (Ex.thn (rounds P β a Q n) Q) s:=(rfl)
theorem jrB {t:Nat} {w:Bool} (h:s.t t=.c (.v undef)):vN s (some (t,w))=some false:=by
 simp only [vN,h];rfl
theorem jzO {t:Nat} {w:Bool} {d:Option Nat} {K:St→Prop} (i:I) (l:List Ins) (h:s.t t=.c (.v undef)):jfG P β (⟨d,some (t,w),i⟩::l) s K=jfG P β l (s.put d (.c (.v undef))) K:=by
 simp only [jfG,jrB h]
theorem rt_gu {t p:Nat} {w:Bool} {d:Option Nat} {l:List (Nat×List Lk)} {K:St→Prop} (i:I) (t':T) (h:s.t t=.c (.v undef)):zd P β (.pure p ⟨d,some (t,w),i⟩ t') l s K=zd P β t' l (s.put d (.c (.v undef))) K:=by
 simp only [zd,jrB h]
theorem ra_gu {t:Nat} {w:Bool} {d:Option Nat} {l:List (Nat×List Lk)} {K:St→Prop} (i:I) (chk:List Nat) (t' r:T) (h:s.t t=.c (.v undef)):zd P β (.alt ⟨d,some (t,w),i⟩ chk t' r) l s K=(zd P β t' l (s.put d (.c (.v undef))) K∧zd P β r l s K):=by
 simp only [zd,jrB h]
theorem jtr:IsD [] []=True:=by simp [IsD]
theorem jyp (x:Value) (l:List Cell) (d:D) (ds:List D):IsD (.a (.v x)::l) (d::ds)=((d=.val x∨x=.slice none 0 0∧∃size ty,d=.sl size ty [])∧IsD l ds):=rfl
theorem jyo (x:Value) (l:List Cell) (ds:List D):IsD (.a (.v x)::l) (.val x::ds)=IsD l ds:=by rw [jyp];simp
theorem isD_1 (x u:Value):IsD [.a (.v x)] [.val u]=(x=u):=by
 rw [jyp];simp only [jtr];apply propext;constructor
 ·rintro ⟨h|⟨_,_,_,h⟩,_⟩
  ·cases h;rfl
  ·cases h
 ·rintro rfl;exact ⟨.inl rfl,trivial⟩
theorem jlo (l:List Cell) (size:Nat) (ty:TypeId) (ds:List D):IsD (.a (.v (.slice none 0 0))::l) (.sl size ty []::ds)=IsD l ds:=by rw [jyp];simp
theorem jyq (d d':D) (η:jp) (l:List Cell) (ds:List D):IsD (.own d' η::l) (d::ds)=(d'=d∧IsD l ds):=(rfl)
def jsI (s:St):RT→AV→Prop
 |.c d,.c a=>kK s [a] fun cs _=>IsD cs [d]
 |.agg ds,.agg l=>kK s l fun cs _=>IsD cs ds
 |_,_=>False
theorem jz1 (d:D) (a:A0):jsI s (.c d) (.c a)=kK s [a] fun cs _=>IsD cs [d]:=(rfl)
theorem jvm (ds:List D) (l:List A0):jsI s (.agg ds) (.agg l)=kK s l fun cs _=>IsD cs ds:=(rfl)
theorem ret_t (n:Nat) (rt:RT):jww [.t n] rt s=jsI s rt (s.t n):=by
 apply propext
 simp only [jww,jil];cases h:s.t n with
 |c a=>cases rt<;>simp [jsI,jaq,RT.flat]
 |agg l=>cases rt<;>simp [jsI,jaq,RT.flat]
 |_=>cases rt<;>simp [jsI]
def jnM (s:St) (agg:Bool) (k:Nat) (rt:RT) (a:AV):Prop:=∃l,zP s k l a∧(agg=true∨l.length=1)∧jaq rt [(agg,l)]∧kK s ([(agg,l)].flatMap (·.2)) fun cs _=>IsD cs rt.flat
theorem jvl (n k:Nat) (agg:Bool) (rt:RT):jww [.cell n agg k] rt s=jnM s agg k rt (s.t n):=(rfl)
theorem jql (k g c b:Nat) (agg:Bool) (rt:RT):jnM s agg k rt (.c (.bp g c b))=ldB (s.o g) g c b k fun l=>ldV agg l fun v=>jsI s rt v:=by
 apply propext
 simp only [jnM,zP];cases ho:s.o g with
 |box b' ty cs=>
  simp only [ldB,Ob.box.injEq];constructor
  ·rintro ⟨l,⟨_,_,⟨rfl,rfl,rfl⟩,h2,rfl⟩,h3,h4,h5⟩
   refine ⟨rfl,h2,?_⟩;cases agg with
   |true=>cases rt<;>simp_all [ldV,jsI,jaq,RT.flat]
   |false=>
    obtain ⟨a,ha⟩:=List.length_eq_one_iff.1 (by simpa using h3)
    rw [ha] at h4 h5⊢;cases rt<;>simp_all [ldV,jsI,jaq,RT.flat]
  ·rintro ⟨rfl,h2,h3⟩
   refine ⟨_,⟨ty,cs,⟨rfl,rfl,rfl⟩,h2,rfl⟩,?_⟩;cases agg with
   |true=>cases rt<;>simp_all [ldV,jsI,jaq,RT.flat]
   |false=>
    generalize jd0 g c ((cs.drop c).take k)=l at h3⊢
    match l,h3 with
    |[a],h3=>cases rt<;>simp_all [ldV,jsI,jaq,RT.flat]
 |_=>simp [ldB]
theorem ri_r (rs:List R) (K:AV→(Nat→Ob)→Prop):jBy rs K .ret s=jxb rs K s:=(rfl)
theorem ri_n (rs:List R) (K:AV→(Nat→Ob)→Prop):jBy rs K .normal s=jxb rs K s:=(rfl)
def retI (s:St) (K:AV→(Nat→Ob)→Prop):AV→Prop
 |.c a=>K (.c a) s.o
 |.agg l=>K (.agg l) s.o
 |_=>False
theorem jz0 (K:AV→(Nat→Ob)→Prop) (a:A0):retI s K (.c a)=K (.c a) s.o:=(rfl)
theorem jzY (n:Nat) (K:AV→(Nat→Ob)→Prop):jxb [.t n] K s=retI s K (s.t n):=by
 simp only [jxb,jil];cases h:s.t n<;>simp [retI]
theorem jzZ (K:AV→(Nat→Ob)→Prop):jxb [] K s=K (.tup []) s.o:=(rfl)
def jkS (s:St) (agg:Bool) (k:Nat) (K:AV→(Nat→Ob)→Prop) (a:AV):Prop:=∃l,zP s k l a∧(agg=true∨l.length=1)∧(match [(agg,l)] with
 |[(true,l)]=>K (.agg l) s.o
 |[(false,[a])]=>K (.c a) s.o
 |[]=>K (.tup []) s.o
 |p::q::r=>K (.tup (p::q::r)) s.o
 |_=>False)
theorem jsG (n k:Nat) (agg:Bool) (K:AV→(Nat→Ob)→Prop):jxb [.cell n agg k] K s=jkS s agg k K (s.t n):=(rfl)
theorem jnL (k g c b:Nat) (agg:Bool) (K:AV→(Nat→Ob)→Prop):jkS s agg k K (.c (.bp g c b))=ldB (s.o g) g c b k fun l=>ldV agg l fun v=>K v s.o:=by
 apply propext
 simp only [jkS,zP];cases ho:s.o g with
 |box b' ty cs=>
  simp only [ldB,Ob.box.injEq];constructor
  ·rintro ⟨l,⟨_,_,⟨rfl,rfl,rfl⟩,h2,rfl⟩,h3,h4⟩
   refine ⟨rfl,h2,?_⟩;cases agg with
   |true=>exact h4
   |false=>
    obtain ⟨a,ha⟩:=List.length_eq_one_iff.1 (by simpa using h3)
    rw [ha] at h4⊢;exact h4
  ·rintro ⟨rfl,h2,h3⟩
   refine ⟨_,⟨ty,cs,⟨rfl,rfl,rfl⟩,h2,rfl⟩,?_⟩;cases agg with
   |true=>exact ⟨.inl rfl,h3⟩
   |false=>
    generalize jd0 g c ((cs.drop c).take k)=l at h3⊢
    match l,h3 with
    |[a],h3=>exact ⟨.inr rfl,h3⟩
 |_=>simp [ldB]
theorem jxq (args:List AV) (o:Nat→Ob) (n:Nat):(St.start args o).t n=(args[n]?).getD .unk:=(rfl)
theorem jxr (args:List AV) (o:Nat→Ob):(St.start args o).o=o:=(rfl)
end
theorem jem (n:Int) (h:-1000000000000000≤n) (h':n<1000000000000000):IntKind.i64.wrap n=n:=jo (by omega) (by omega)
attribute [go_sem_proc] Int.reduceBEq Int.reduceBNe Nat.reduceBNe Int.reduceAdd Int.reduceSub Int.reduceMul Int.reduceLE Int.reduceLT Int.reduceGE Int.reduceGT Int.reduceTMod Int.reduceTDiv Int.reduceNe Int.reduceNeg Int.reduceToNat Nat.reduceDiv Nat.reduceMod Nat.reducePow Int.reduceNegSucc
attribute [go_sem] Int.cast_ofNat_Int jzO rt_gu ra_gu jxO jtr isD_1 jyo jlo jyq jxq jxr ri_r ri_n jz0 jzY jzZ jsG jnL ret_t jvl jql jz1 jvm
section
variable {P:Program} {f:FuncId}
theorem jzf {w:World} {v1 v2:View} {xs:List Value} (h:zA w [v1,v2] xs):∃a b,xs=[a,b]∧ViewRel w v1 a∧ViewRel w v2 b:=by
 obtain ⟨a,_,rfl,h1,b,_,rfl,h2,h3⟩:=h;rw [show _=_ from h3]
 exact ⟨a,b,rfl,h1,h2⟩
theorem jrF {w:World} {v1:View} {xs:List Value} (h:zA w [v1] xs):∃a,xs=[a]∧ViewRel w v1 a:=by
 obtain ⟨a,_,rfl,h1,h3⟩:=h;rw [show _=_ from h3]
 exact ⟨a,rfl,h1⟩
theorem jfQ {v1 v2:View} {u:Value} (hn:jgy P f) (h:∀w a b,ViewRel w v1 a→ViewRel w v2 b→Calls P f #[a,b] w fun e w'=>e=.returned u∧Below w.heap.size w w'):ka P f [v1,v2] (.c (.val u)):=by
 refine ⟨hn,fun w xs hv=>?_⟩
 obtain ⟨a,b,rfl,h1,h2⟩:=jzf hv;exact (h w a b h1 h2).mono fun e w' ⟨he,hb⟩=>⟨u,[],he,⟨rfl,rfl⟩,Fresh.nil _,hb⟩
theorem jAg {v1:View} {u:Value} (hn:jgy P f) (h:∀w a,ViewRel w v1 a→Calls P f #[a] w fun e w'=>e=.returned u∧Below w.heap.size w w'):ka P f [v1] (.c (.val u)):=by
 refine ⟨hn,fun w xs hv=>?_⟩
 obtain ⟨a,rfl,h1⟩:=jrF hv;exact (h w a h1).mono fun e w' ⟨he,hb⟩=>⟨u,[],he,⟨rfl,rfl⟩,Fresh.nil _,hb⟩
theorem jvt {v1:View} {ds:List D} (hn:jgy P f) (h:∀w a,ViewRel w v1 a→Calls P f #[a] w (jg2 w ds)):ka P f [v1] (.agg ds):=by
 refine ⟨hn,fun w xs hv=>?_⟩
 obtain ⟨a,rfl,h1⟩:=jrF hv;exact (h w a h1).mono fun e w' h=>h
theorem jvs {v1:View} {d:D} (hn:jgy P f) (h:∀w a,ViewRel w v1 a→Calls P f #[a] w (jg0 w d)):ka P f [v1] (.c d):=by
 refine ⟨hn,fun w xs hv=>?_⟩
 obtain ⟨a,rfl,h1⟩:=jrF hv;exact (h w a h1).mono fun e w' h=>h
theorem vE {w:World} {u a:Value} (h:ViewRel w (.c (.val u)) a):a=u:=by obtain ⟨S,h1,_⟩:=h;exact h1
end
def jei (o:Nat→Ob):A0→Prop
 |.h g c _ x=>(o g=.none∧c=0)∨∃b ty cs,o g=.box b ty cs∧cs[c]?=some (.a (.v x))
 |_=>True
def jfF (o:Nat→Ob) (l:List A0):Prop:=∀a∈l,jei o a
theorem jsT {s:St} {l:List A0} {g c:Nat} {d:D} {η:jp} (h:jfF s.o l) (ho:(s.o g).own c=some (d,η)):jfF (s.rm g c).o l:=by
 intro a ha;have h1:=h a ha;cases a with
 |h g' c' p x=>
  by_cases hg:g'=g
  ·subst hg
   rcases h1 with ⟨h2,_⟩|⟨b,ty,cs,h2,h3⟩
   ·rw [h2] at ho;simp [Ob.own] at ho
   ·right
    rw [h2,jn2] at ho;refine ⟨b,ty,rmC cs c cs[c]?,?_,?_⟩
    ·show (if g'=g' then (s.o g').rm c else s.o g')=_
     rw [if_pos rfl,h2];rfl
    ·by_cases hc:c=c'
     ·subst hc;rw [h3] at ho;simp [jx0] at ho
     ·cases hq:cs[c]? with
      |none=>simpa [rmC] using h3
      |some y=>
       cases y with
       |a y=>simpa [rmC] using h3
       |own d0 η0=>simp only [rmC];rw [List.getElem?_set_ne hc];exact h3
  ·have e:(s.rm g c).o g'=s.o g':=by
    show (if g'=g then _ else s.o g')=_
    rw [if_neg hg]
   simp only [jei,e];exact h1
 |_=>trivial
theorem jdQ:∀{l:List A0} {s:St} {l0:List A0} {K:List Cell→St→Prop},jfF s.o l0→kK s l K→kK s l fun cs s1=>K cs s1∧jfF s1.o (l0++l)
 |[],s,l0,K,h,hk=>⟨hk,by rw [List.append_nil];exact h⟩
 |x::l,s,l0,K,h,hk=>by
  have plain:∀a:A0,(∀o,jei o a)→kK s l (fun cs s'=>K (.a a::cs) s')→kK s l (fun cs s'=>K (.a a::cs) s'∧jfF s'.o (l0++a::l)):=fun a ha hk=>by
   have:=jdQ (l0:=l0++[a]) (fun b hb=>by rcases List.mem_append.1 hb with hb|hb;exact h b hb;simp at hb;subst hb;exact ha _) hk
   exact vt (fun cs s1 ⟨h1,h2⟩=>⟨h1,by simpa using h2⟩) this
  cases x with
  |h g c p x=>
   obtain ⟨rfl,d,η,h1,h2,h3⟩:=hk;refine ⟨rfl,d,η,h1,h2,?_⟩
   have hp:jei (s.rm g c).o (.h g c [] x):=by
    have e:(s.rm g c).o g=(s.o g).rm c:=by show (if g=g then _ else _)=_;rw [if_pos rfl]
    simp only [jei,e];cases hob:s.o g with
    |none=>rw [hob] at h1;simp [Ob.own] at h1
    |loose d0 η0=>
     rw [hob] at h1;cases c with
     |succ c=>simp [Ob.own] at h1
     |zero=>left;exact ⟨rfl,rfl⟩
    |box b ty cs=>
     rw [hob,jn2] at h1;right;cases hq:cs[c]? with
     |none=>rw [hq] at h1;simp [jx0] at h1
     |some y=>
      cases y with
      |a y=>rw [hq] at h1;simp [jx0] at h1
      |own d0 η0=>
       rw [hq] at h1;simp [jx0] at h1;obtain ⟨rfl,rfl⟩:=h1;refine ⟨b,ty,_,rfl,?_⟩;simp only [rmC,hq];rw [List.getElem?_set_self (List.getElem?_eq_some_iff.1 hq).1,h2]
   have:=jdQ (l0:=l0++[.h g c [] x]) (s:=s.rm g c) (fun b hb=>by rcases List.mem_append.1 hb with hb|hb;exact jsT h h1 b hb;simp at hb;subst hb;exact hp) h3
   exact vt (fun cs s1 ⟨h1,h2⟩=>⟨h1,by simpa using h2⟩) this
  |v x=>exact ⟨hk.1,plain _ (fun _=>trivial) hk.2⟩
  |ro x=>exact ⟨hk.1,plain _ (fun _=>trivial) hk.2⟩
  |rp x=>exact ⟨hk.1,plain _ (fun _=>trivial) hk.2⟩
  |bp x y z=>exact ⟨hk.1,plain _ (fun _=>trivial) hk.2⟩
  |ep x y z i j=>exact ⟨hk.1,plain _ (fun _=>trivial) hk.2⟩
  |un=>exact ⟨hk.1,plain _ (fun _=>trivial) hk.2⟩
  |hs=>exact ⟨hk.1,plain _ (fun _=>trivial) hk.2⟩
def jgY (ob:Ob) (c:Nat) (d:D) (η:jp):Ob:=match ob with
 |.box b ty cs=>.box b ty (cs.set c (.own d η))
 |_=>.loose d η
def jgw (o:Nat→Ob):List A0→List D→(Nat→jp)→Nat→Ob
 |.h g c _ _::l,d::ds,η=>jgw (fun k=>if k=g then jgY (o g) c d (η 0) else o k) l ds fun i=>η (i+1)
 |_::l,_::ds,η=>jgw o l ds fun i=>η (i+1)
 |_,_,_=>o
def zp:List A0→(Nat→jp)→Prop
 |.h _ _ _ x::l,η=>η 0 []=x∧zp l fun i=>η (i+1)
 |_::l,η=>zp l fun i=>η (i+1)
 |[],_=>True
def jgz:List A0→List D→Prop
 |.h _ _ _ _::l,d::ds=>d.isSl=true∧jgz l ds
 |.v x::l,d::ds=>d=.val x∧jgz l ds
 |[],[]=>True
 |_,_=>False
section
variable {B N:Nat} {w w' w0:World} {s:St} {a:Act} {F:Nat→List Nat} {P:Program} {f:FuncId}
theorem CRel.back {η:jp} {d:D} {u:Value} {S1:List Nat} (hs:d.isSl=true) (hr:Rep w true d u S1) (hη:∀p,η p=hdr w p d u):∀{cs:List Cell} {us:List Value} {S:List Nat} {c:Nat},CRel B w cs us S→(S++S1).Nodup→cs[c]?=some (.a (.v u))→
 ∃S',CRel B w (cs.set c (.own d η)) us S'∧S'.Nodup∧∀b,b∈S'↔b∈S∨b∈S1
 |[],_,_,_,_,_,h=>by simp at h
 |.a x::cs,us,S,0,⟨u',us',h1,h2,h3⟩,hnd,h=>by
  simp at h;subst h;subst h1;have h2:u'=u:=h2;subst h2;exact ⟨S1++S,⟨u',us',S1,S,rfl,rfl,hs,hr,hη,h3⟩,(List.perm_append_comm.nodup_iff).1 hnd,fun b=>by simp [or_comm]⟩
 |.a x::cs,us,S,c+1,⟨u',us',h1,h2,h3⟩,hnd,h=>by
  obtain ⟨S',k1,k2,k3⟩:=CRel.back hs hr hη h3 hnd (by simpa using h)
  exact ⟨S',⟨u',us',h1,h2,k1⟩,k2,k3⟩
 |.own d0 η0::cs,us,S,0,hr0,hnd,h=>by simp at h
 |.own d0 η0::cs,us,S,c+1,⟨u',us',T1,T2,h1,h2,h3,h4,h5,h6⟩,hnd,h=>by
  subst h2;rw [List.append_assoc] at hnd;have hn:=List.nodup_append.1 hnd;obtain ⟨S',k1,k2,k3⟩:=CRel.back hs hr hη h6 hn.2.1 (by simpa using h)
  refine ⟨T1++S',⟨u',us',T1,S',h1,rfl,h3,h4,h5,k1⟩,List.nodup_append.2 ⟨hn.1,k2,fun x hx y hy e=>hn.2.2 x hx y (by rw [List.mem_append];exact (k3 y).1 hy) e⟩,fun b=>?_⟩
  rw [List.mem_append,List.mem_append,k3];constructor
  ·rintro (h|h|h)<;>simp [h]
  ·rintro ((h|h)|h)<;>simp [h]
theorem back1 {o:Nat→Ob} (h:RelF B w0 0 (.only o) Act.bare w F) {g c:Nat} {x:Value} {d:D} {S:List Nat} (hp:jei o (.h g c [] x)) (hs:d.isSl=true) (hr:Rep w true d x S) (hF:Fresh B S) (hd:∀k,∀b∈S,b∉F k):
 ∃F' η,η []=x∧RelF B w0 0 (.only fun k=>if k=g then jgY (o g) c d η else o k) Act.bare w F'∧∀k b,b∈F' k→b∈F k∨b∈S:=by
 have hog:=h.ob g;have hη:(fun q=>hdr w q d x) []=x:=zm hs
 rcases hp with ⟨h1,rfl⟩|⟨b,ty,cs,h1,h2⟩
 ·have:=h.setO (g:=g) (ob:=.loose d (fun q=>hdr w q d x)) (S:=S) ⟨hs,x,hr,fun _=>rfl⟩ hF (fun g' _ b hb=>hd g' b hb)
  refine ⟨fun k=>if k=g then S else F k,fun q=>hdr w q d x,hη,?_,fun k b hb=>?_⟩
  ·have e:jgY (o g) 0 d (fun q=>hdr w q d x)=.loose d (fun q=>hdr w q d x):=by rw [h1];rfl
   rw [e];exact this
  ·have hb:b∈(if k=g then S else F k):=hb
   split at hb
   ·exact .inr hb
   ·exact .inl hb
 ·have hog':ORel B w (.box b ty cs) (F g):=by rw [←h1];exact hog
  obtain ⟨us,S1,k1,k2,k3⟩:=hog';have hfg:=h.fr g;rw [k3] at hfg;have hn:=List.nodup_cons.1 hfg.1;have hdg:∀b'∈S,b'∉b::S1:=fun b' hb' hh=>hd g b' hb' (by rw [k3];exact hh)
  obtain ⟨S',m1,m2,m3⟩:=CRel.back (η:=fun q=>hdr w q d x) hs hr (fun _=>rfl) k2 (List.nodup_append.2 ⟨hn.2,hF.1,fun y hy z hz e=>hdg z hz (by rw [←e];simp [hy])⟩) h2
  have:=h.setO (g:=g) (ob:=.box b ty (cs.set c (.own d (fun q=>hdr w q d x)))) (S:=b::S') ⟨us,S',k1,m1,rfl⟩ ⟨List.nodup_cons.2 ⟨fun hb=>by
   rcases (m3 b).1 hb with h|h
   ·exact hn.1 h
   ·exact hdg b h (by simp),m2⟩,fun y hy=>by
   rcases List.mem_cons.1 hy with rfl|hy
   ·exact hfg.2 y (by simp)
   ·rcases (m3 y).1 hy with h|h
    ·exact hfg.2 y (by simp [h])
    ·exact hF.2 y h⟩ (fun g' hg' y hy=>by
   rcases List.mem_cons.1 hy with rfl|hy
   ·exact fun hh=>h.dj g' g hg' y hh (by rw [k3];simp)
   ·rcases (m3 y).1 hy with h'|h'
    ·exact fun hh=>h.dj g' g hg' y hh (by rw [k3];simp [h'])
    ·exact hd g' y h')
  refine ⟨fun k=>if k=g then b::S' else F k,fun q=>hdr w q d x,hη,?_,fun k y hy=>?_⟩
  ·have e:jgY (o g) c d (fun q=>hdr w q d x)=.box b ty (cs.set c (.own d (fun q=>hdr w q d x))):=by rw [h1];rfl
   rw [e];exact this
  ·have hy2:y∈(if k=g then b::S' else F k):=hy
   clear hy;by_cases e:k=g
   ·rw [if_pos e] at hy2
    subst e;rcases List.mem_cons.1 hy2 with rfl|hy
    ·exact .inl (by rw [k3];simp)
    ·rcases (m3 y).1 hy with h|h
     ·exact .inl (by rw [k3];simp [h])
     ·exact .inr h
   ·rw [if_neg e] at hy2;exact .inl hy2
theorem jnT {o:Nat→Ob} {l:List A0} {g c:Nat} {d:D} {η:jp} (h:jfF o l) (hno:∀a∈l,∀(g' c':Nat) (p:List Nat) (x:Value),a=.h g' c' p x→(g',c')≠(g,c)) (hbox:∀a∈l,∀c' p x,a=.h g c' p x→o g≠.none):jfF (fun k=>if k=g then jgY (o g) c d η else o k) l:=by
 intro a ha;have h1:=h a ha;cases a with
 |h g' c' p x=>
  by_cases hg:g'=g
  ·subst hg
   rcases h1 with ⟨h2,_⟩|⟨b,ty,cs,h2,h3⟩
   ·exact absurd h2 (hbox _ ha _ _ _ rfl)
   ·right
    refine ⟨b,ty,cs.set c (.own d η),?_,?_⟩
    ·show (if g'=g' then _ else _)=_
     rw [if_pos rfl,h2];rfl
    ·have hc:c≠c':=fun e=>hno _ ha _ _ _ _ rfl (by rw [e])
     rw [List.getElem?_set_ne hc];exact h3
  ·simp only [jei,if_neg hg];exact h1
 |_=>trivial
def joJ:List A0→Prop
 |[]=>True
 |.h g c _ _::l=>(∀a∈l,∀g' c' p x,a=.h g' c' p x→(g',c')≠(g,c))∧joJ l
 |_::l=>joJ l
theorem jlM:∀{l:List A0} {ds:List D} {us:List Value} {S:List Nat} {o:Nat→Ob} {F:Nat→List Nat},RelF B w0 0 (.only o) Act.bare w F→A0RelL B w l us→jgz l ds→jfF o l→joJ l→(∀a∈l,∀g c p x,a=.h g c p x→p=[]∧(o g=.none→∀b∈l,∀c' p' x',b=.h g c' p' x'→c'=c))→RepL w true ds us S→Fresh B S→(∀k,∀b∈S,b∉F k)→
 ∃F' η,zp l η∧RelF B w0 0 (.only (jgw o l ds η)) Act.bare w F'
 |[],[],us,S,o,F,h,_,_,_,_,_,_,_,_=>⟨F,fun _ _=>undef,trivial,h⟩
 |[],_::_,_,_,_,_,_,_,h,_,_,_,_,_,_=>h.elim
 |.h g c p x::l,[],_,_,_,_,_,_,h,_,_,_,_,_,_=>h.elim
 |.v x::l,[],_,_,_,_,_,_,h,_,_,_,_,_,_=>h.elim
 |.h g c p x::l,d::ds,us,S,o,F,h,⟨u,us',hu,h2,h3⟩,⟨h4,h5⟩,hp,⟨ha1,ha2⟩,hnone,⟨v,vs',S1,S2,e1,e2,r1,r2⟩,hF,hd=>by
  subst hu e2;cases e1;have hux:u=x:=h2.1;subst hux;have hq:=hnone (.h g c p u) (by simp) g c p u rfl
  obtain ⟨rfl,hn1⟩:=hq;obtain ⟨F1,η0,k1,k2,k3⟩:=back1 (d:=d) h (hp (.h g c [] u) (by simp)) h4 r1 hF.left (fun k b hb=>hd k b (by simp [hb]))
  have hbox:∀a∈l,∀c' p' x',a=.h g c' p' x'→o g≠.none:=fun a ha c' p' x' e hh=>by
   have:=hn1 hh a (by simp [ha]) c' p' x' e
   exact ha1 a ha g c' p' x' e (by rw [this])
  obtain ⟨F2,η,k4,k5⟩:=jlM (us:=us') (S:=S2) k2 h3 h5 (jnT (fun a ha=>hp a (by simp [ha])) ha1 hbox) ha2 (fun a ha g' c' p' x' e=>by
   obtain ⟨e1,e2⟩:=hnone a (by simp [ha]) g' c' p' x' e
   refine ⟨e1,fun hh b hb c'' p'' x'' eb=>?_⟩
   by_cases hg:g'=g
   ·subst hg
    rw [if_pos rfl] at hh;exfalso;cases ho:o g'<;>rw [ho] at hh<;>cases hh
   ·rw [if_neg hg] at hh
    exact e2 hh b (by simp [hb]) c'' p'' x'' eb) r2 hF.right (fun k b hb hh=>by
   rcases k3 k b hh with h'|h'
   ·exact hd k b (by simp [hb]) h'
   ·exact hF.apart b h' hb)
  refine ⟨F2,fun i=>match i with|0=>η0|i+1=>η i,⟨k1,k4⟩,k5⟩
 |.v x::l,d::ds,us,S,o,F,h,⟨u,us',hu,h2,h3⟩,⟨h4,h5⟩,hp,ha,hnone,⟨v,vs',S1,S2,e1,e2,r1,r2⟩,hF,hd=>by
  subst hu e2;cases e1
  obtain ⟨F2,η,k4,k5⟩:=jlM (us:=us') (S:=S2) h h3 h5 (fun a ha=>hp a (by simp [ha])) ha (fun a ha g' c' p' x' e=>by
   obtain ⟨e1,e2⟩:=hnone a (by simp [ha]) g' c' p' x' e
   exact ⟨e1,fun hh b hb=>e2 hh b (by simp [hb])⟩) r2 hF.right (fun k b hb=>hd k b (by simp [hb]))
  exact ⟨F2,fun i=>match i with|0=>fun _=>undef|i+1=>η i,k4,k5⟩
 |.ro _::_,_,_,_,_,_,_,_,h,_,_,_,_,_,_=>h.elim
 |.rp _::_,_,_,_,_,_,_,_,h,_,_,_,_,_,_=>h.elim
 |.bp _ _ _::_,_,_,_,_,_,_,_,h,_,_,_,_,_,_=>h.elim
 |.ep _ _ _ _ _::_,_,_,_,_,_,_,_,h,_,_,_,_,_,_=>h.elim
 |.un::_,_,_,_,_,_,_,_,h,_,_,_,_,_,_=>h.elim
 |.hs _ _ _ _ _ _ _::_,_,_,_,_,_,_,_,h,_,_,_,_,_,_=>h.elim
def NoPath:List A0→Prop
 |[]=>True
 |.h _ _ p _::l=>p=[]∧NoPath l
 |_::l=>NoPath l
theorem NoPath.all {l:List A0} (h:NoPath l):∀a∈l,∀g c p x,a=.h g c p x→p=[]:=by
 induction l with
 |nil=>intro a ha;cases ha
 |cons y l ih=>
  intro a ha g c p x e;rcases List.mem_cons.1 ha with ha|ha
  ·subst ha;subst e;exact h.1
  ·have h':NoPath l:=by cases y<;>first|exact h|exact h.2
   exact ih h' a ha g c p x e
theorem jnS {o:Nat→Ob} {l:List A0} (h:jfF o l) (hp:NoPath l):∀a∈l,∀g c p x,a=.h g c p x→p=[]∧(o g=.none→∀b∈l,∀c' p' x',b=.h g c' p' x'→c'=c):=by
 intro a ha g c p x e;refine ⟨hp.all a ha g c p x e,fun hn b hb c' p' x' e'=>?_⟩
 have h1:=h a ha;have h2:=h b hb;subst e e';rcases h1 with ⟨_,rfl⟩|⟨_,_,_,k,_⟩
 ·rcases h2 with ⟨_,rfl⟩|⟨_,_,_,k,_⟩
  ·rfl
  ·rw [hn] at k;cases k
 ·rw [hn] at k;cases k
theorem vT:∀{l:List A0} {s:St} {K:List Cell→St→Prop},kK s l K→kK (.only s.o) l fun cs s1=>K cs ⟨s.t,s1.o⟩
 |[],s,K,hk=>hk
 |.h g c p x::l,s,K,⟨h1,d,η,h2,h3,h4⟩=>⟨h1,d,η,h2,h3,vT h4⟩
 |.v _::l,s,K,⟨h1,h2⟩=>⟨h1,vT h2⟩
 |.ro _::l,s,K,⟨h1,h2⟩=>⟨h1,vT h2⟩
 |.rp _::l,s,K,⟨h1,h2⟩=>⟨h1,vT h2⟩
 |.bp _ _ _::l,s,K,⟨h1,h2⟩=>⟨h1,vT h2⟩
 |.ep _ _ _ _ _::l,s,K,⟨h1,h2⟩=>⟨h1,vT h2⟩
 |.un::l,s,K,⟨h1,h2⟩=>⟨h1,vT h2⟩
 |.hs _ _ _ _ _ _ _::l,s,K,⟨h1,h2⟩=>⟨h1,vT h2⟩
theorem jmx {l:List A0} {ds ds':List D} {us:List Value} {v r:Value} {args:Array Value} {Kr:(Nat→Ob)→Prop} (hal:jgz l ds') (hap:joJ l) (hnp:NoPath l) (ho:RelF B w 0 (.only s.o) Act.bare w F) (hus:A0RelL B w l us)
 (hc:∀S,RepL w true ds us S→Fresh B S→Calls P f args w fun e w'=>e=.returned r∧RepL w' true ds' us S∧Only S w w') (hr:r.oneCell'=true)
 (hk:kK s l fun cs s1=>IsD cs ds∧∀η,zp l η→Kr (jgw s1.o l ds' η)):
 Calls P f args w fun e w'=>∃v rt o' S F',e=.returned v∧RelF B w 0 (.only o') Act.bare w' F'∧jg1 w' rt v S∧Fresh B S∧(∀g,∀b∈S,b∉F' g)∧(rt=.c (.val r)∧Kr o'):=by
 have hk2:=jdQ (l0:=[]) (by intro a ha;cases ha) (vT hk)
 obtain ⟨cs,s1,S,F1,⟨⟨k1,k2⟩,k3⟩,k4,k5,k6,k7,_⟩:=jay ho hus hk2;have hrep:=jiD k4 k1;have hB:B≤w.heap.size:=Nat.le_trans ho.hB ho.below.size;refine (hc S hrep k6).mono fun e w' ⟨he,hrep',hon⟩=>?_
 have hb:Below B w w':=hon.below k6.2 hB;have k5':RelF B w 0 s1 Act.bare w' F1:=k5.world' hb fun g b hb'=>hon.block b ((k5.ob g).lt b hb') fun hh=>k7 g b hh hb'
 have k5'':RelF B w 0 (.only s1.o) Act.bare w' F1:=⟨k5'.below,k5'.hB,rfl,rfl,fun _=>trivial,k5'.ob,k5'.fr,k5'.dj⟩
 have hus':A0RelL B w' l us:=hus.mono hb;obtain ⟨F2,η,m1,m2⟩:=jlM k5'' hus' hal (by simpa using k3) hap (jnS (by simpa using k3) hnp) hrep' k6 (fun k b hb=>k7 k b hb)
 exact ⟨r,.c (.val r),_,[],F2,he,m2,⟨rfl,rfl⟩,Fresh.nil _,by simp,rfl,k2 η m1⟩
theorem jmb {β:Nat} {d:Option Nat} {gd:Option (Nat×Bool)} {x y:X} {l:List A0} {ds ds':List D} {k r:Int} {K:St→Prop} (hn:jgy P f)
 (hc:∀(B:Nat) (w:World) (v:Value) (S:List Nat),AggRep w true ds v S→Fresh B S→Calls P f #[v,.int .i64 k] w fun e w'=>e=.returned (.int .i64 r)∧AggRep w' true ds' v S∧Only S w w')
 (hx:s.ev x=.agg l) (hy:s.ev y=.c (.v (.int .i64 k))) (hal:jgz l ds') (hap:joJ l) (hnp:NoPath l)
 (hk:kK s l fun cs s1=>IsD cs ds∧∀η,zp l η→K (St.put ⟨s.t,jgw s1.o l ds' η⟩ d (.c (.v (.int .i64 r))))):
 qV P β ⟨d,gd,.call f [x,y]⟩ s K:=by
 refine jbc (R:=fun rt o'=>rt=.c (.val (.int .i64 r))∧K (St.put ⟨s.t,o'⟩ d (.c (.v (.int .i64 r))))) ⟨hn,fun B w F xs ho hv=>?_⟩ (fun rt o' ⟨h1,h2⟩ η=>by subst h1;exact h2)
 simp only [List.map_cons,List.map_nil,hx,hy] at hv;obtain ⟨v,xs',rfl,⟨us,hve,hus⟩,hv2⟩:=hv;subst hve;obtain ⟨kv,xs'',rfl,hkv,hv3⟩:=hv2;obtain rfl:xs''=[]:=hv3;obtain rfl:kv=.int .i64 k:=hkv;refine jmx (s:=s) (F:=F) (ds':=ds') (r:=.int .i64 r) (Kr:=fun o'=>K (St.put ⟨s.t,o'⟩ d (.c (.v (.int .i64 r))))) (v:=.agg us.toArray) hal hap hnp ho hus (fun S hrep hF=>?_) rfl hk
 refine (hc B w (.agg us.toArray) S ⟨us,rfl,hrep⟩ hF).mono fun e w' ⟨he,⟨us',e',hrep'⟩,hon⟩=>⟨he,?_,hon⟩
 have:us=us':=by simpa using e'
 subst this;exact hrep'
theorem jqf {β:Nat} {d:Option Nat} {gd:Option (Nat×Bool)} {x y:X} {a:A0} {dd dd':D} {k r:Int} {K:St→Prop} (hn:jgy P f)
 (hc:∀(B:Nat) (w:World) (v:Value) (S:List Nat),Rep w true dd v S→Fresh B S→Calls P f #[v,.int .i64 k] w fun e w'=>e=.returned (.int .i64 r)∧Rep w' true dd' v S∧Only S w w')
 (hx:s.ev x=.c a) (hy:s.ev y=.c (.v (.int .i64 k))) (hal:jgz [a] [dd']) (hap:joJ [a]) (hnp:NoPath [a])
 (hk:kK s [a] fun cs s1=>IsD cs [dd]∧∀η,zp [a] η→K (St.put ⟨s.t,jgw s1.o [a] [dd'] η⟩ d (.c (.v (.int .i64 r))))):
 qV P β ⟨d,gd,.call f [x,y]⟩ s K:=by
 refine jbc (R:=fun rt o'=>rt=.c (.val (.int .i64 r))∧K (St.put ⟨s.t,o'⟩ d (.c (.v (.int .i64 r))))) ⟨hn,fun B w F xs ho hv=>?_⟩ (fun rt o' ⟨h1,h2⟩ η=>by subst h1;exact h2)
 simp only [List.map_cons,List.map_nil,hx,hy] at hv;obtain ⟨v,xs',rfl,hva,hv2⟩:=hv;obtain ⟨kv,xs'',rfl,hkv,hv3⟩:=hv2;obtain rfl:xs''=[]:=hv3;obtain rfl:kv=.int .i64 k:=hkv;refine jmx (s:=s) (F:=F) (ds:=[dd]) (ds':=[dd']) (us:=[v]) (r:=.int .i64 r) (Kr:=fun o'=>K (St.put ⟨s.t,o'⟩ d (.c (.v (.int .i64 r))))) (v:=v) hal hap hnp ho ⟨v,[],rfl,hva,rfl⟩ (fun S hrep hF=>?_) rfl hk
 obtain ⟨v1,vs',S1,S2,e1,rfl,h1,h2⟩:=hrep;cases e1;obtain rfl:S2=[]:=h2.2;simp only [List.append_nil] at hF⊢;refine (hc B w v S1 h1 hF).mono fun e w' ⟨he,hrep',hon⟩=>⟨he,?_,hon⟩
 have:=RepL.cons_ hrep' (RepL.nil_ (w:=w') (own:=true));simpa using this
end
def NoLoc (g c:Nat):List A0→Prop
 |[]=>True
 |.h g' c' _ _::l=>¬(g'=g∧c'=c)∧NoLoc g c l
 |_::l=>NoLoc g c l
def ApartN:List A0→Prop
 |[]=>True
 |.h g c _ _::l=>NoLoc g c l∧ApartN l
 |_::l=>ApartN l
theorem NoLoc.all {g c:Nat} {l:List A0} (h:NoLoc g c l):∀a∈l,∀g' c' p x,a=.h g' c' p x→(g',c')≠(g,c):=by
 induction l with
 |nil=>intro a ha;cases ha
 |cons y l ih=>
  intro a ha g' c' p x e;rcases List.mem_cons.1 ha with ha|ha
  ·subst ha;subst e
   intro e2;simp only [Prod.mk.injEq] at e2;exact h.1 e2
  ·have h':NoLoc g c l:=by cases y<;>first|exact h|exact h.2
   exact ih h' a ha g' c' p x e
theorem ApartN.apart:∀{l:List A0},ApartN l→joJ l
 |[],_=>trivial
 |.h _ _ _ _::_,h=>⟨h.1.all,ApartN.apart h.2⟩
 |.v _::l,h=>ApartN.apart (l:=l) h
 |.ro _::l,h=>ApartN.apart (l:=l) h
 |.rp _::l,h=>ApartN.apart (l:=l) h
 |.bp _ _ _::l,h=>ApartN.apart (l:=l) h
 |.ep _ _ _ _ _::l,h=>ApartN.apart (l:=l) h
 |.un::l,h=>ApartN.apart (l:=l) h
 |.hs _ _ _ _ _ _ _::l,h=>ApartN.apart (l:=l) h
def jte (s:St) (d:Option Nat) (K:St→Prop) (l:List A0) (ds ds':List D) (r:Int):Prop:=(jgz l ds'∧ApartN l∧NoPath l)∧kK s l fun cs s1=>IsD cs ds∧∀η,zp l η→K (St.put ⟨s.t,jgw s1.o l ds' η⟩ d (.c (.v (.int .i64 r))))
def jya (s:St) (d:Option Nat) (K:St→Prop) (ds ds':List D) (k r:Int) (x y:AV):Prop:=match x,y with
 |.agg l,.c (.v (.int .i64 k'))=>k'=k∧jte s d K l ds ds' r
 |_,_=>False
def jx9 (s:St) (d:Option Nat) (K:St→Prop) (dd dd':D) (k r:Int) (x y:AV):Prop:=match x,y with
 |.c a,.c (.v (.int .i64 k'))=>k'=k∧jte s d K [a] [dd] [dd'] r
 |_,_=>False
section
variable {P:Program} {f:FuncId} {s:St} {β:Nat} {d:Option Nat} {gd:Option (Nat×Bool)} {x y:X} {k r:Int} {K:St→Prop}
theorem jph {ds ds':List D} (hn:jgy P f)
 (hc:∀(B:Nat) (w:World) (v:Value) (S:List Nat),AggRep w true ds v S→Fresh B S→Calls P f #[v,.int .i64 k] w fun e w'=>e=.returned (.int .i64 r)∧AggRep w' true ds' v S∧Only S w w')
 (h:jya s d K ds ds' k r (s.ev x) (s.ev y)):qV P β ⟨d,gd,.call f [x,y]⟩ s K:=by
 unfold jya at h;split at h
 ·rename_i l k' hx hy
  obtain ⟨rfl,⟨h1,h2,h3⟩,h4⟩:=h;exact jmb hn hc hx hy h1 h2.apart h3 h4
 ·exact h.elim
theorem jwR {dd dd':D} (hn:jgy P f)
 (hc:∀(B:Nat) (w:World) (v:Value) (S:List Nat),Rep w true dd v S→Fresh B S→Calls P f #[v,.int .i64 k] w fun e w'=>e=.returned (.int .i64 r)∧Rep w' true dd' v S∧Only S w w')
 (h:jx9 s d K dd dd' k r (s.ev x) (s.ev y)):qV P β ⟨d,gd,.call f [x,y]⟩ s K:=by
 unfold jx9 at h;split at h
 ·rename_i a k' hx hy
  obtain ⟨rfl,⟨h1,h2,h3⟩,h4⟩:=h;exact jqf hn hc hx hy h1 h2.apart h3 h4
 ·exact h.elim
theorem jAA (l:List A0) (ds ds':List D) (k':Int):jya s d K ds ds' k r (.agg l) (.c (.v (.int .i64 k')))=(k'=k∧jte s d K l ds ds' r):=(rfl)
theorem jAz (a:A0) (dd dd':D) (k':Int):jx9 s d K dd dd' k r (.c a) (.c (.v (.int .i64 k')))=(k'=k∧jte s d K [a] [dd] [dd'] r):=(rfl)
theorem jAB (l:List A0) (ds ds':List D):jte s d K l ds ds' r=((jgz l ds'∧ApartN l∧NoPath l)∧kK s l fun cs s1=>IsD cs ds∧∀η,zp l η→K (St.put ⟨s.t,jgw s1.o l ds' η⟩ d (.c (.v (.int .i64 r))))):=(rfl)
end
theorem jy8 (g c:Nat) (p:List Nat) (x:Value) (l:List A0) (d:D) (ds:List D):jgz (.h g c p x::l) (d::ds)=(d.isSl=true∧jgz l ds):=(rfl)
theorem jy6 (x:Value) (l:List A0) (d:D) (ds:List D):jgz (.v x::l) (d::ds)=(d=.val x∧jgz l ds):=(rfl)
theorem jy7:jgz [] []=True:=(rfl)
theorem jy4 (g c:Nat) (p:List Nat) (x:Value) (l:List A0):ApartN (.h g c p x::l)=(NoLoc g c l∧ApartN l):=(rfl)
theorem jy2 (x:Value) (l:List A0):ApartN (.v x::l)=ApartN l:=(rfl)
theorem jy3:ApartN []=True:=(rfl)
theorem jx5 (g' c' g c:Nat) (p:List Nat) (x:Value) (l:List A0):NoLoc g' c' (.h g c p x::l)=(¬(g=g'∧c=c')∧NoLoc g' c' l):=(rfl)
theorem jx4 (g' c':Nat):NoLoc g' c' []=True:=(rfl)
theorem jvF (g c:Nat) (p:List Nat) (x:Value) (l:List A0):NoPath (.h g c p x::l)=(p=[]∧NoPath l):=(rfl)
theorem jvD (x:Value) (l:List A0):NoPath (.v x::l)=NoPath l:=(rfl)
theorem jvE:NoPath []=True:=(rfl)
attribute [go_sem] jAA jAz jAB jy8 jy6 jy7 jy4 jy2 jy3 jx5 jx4 jvF jvD jvE and_false false_and
theorem jBi (o:Nat→Ob) (g c:Nat) (p:List Nat) (x:Value) (l:List A0) (d:D) (ds:List D) (η:Nat→jp):jgw o (.h g c p x::l) (d::ds) η=jgw (fun k=>if k=g then jgY (o g) c d (η 0) else o k) l ds fun i=>η (i+1):=(rfl)
theorem jBg (o:Nat→Ob) (x:Value) (l:List A0) (d:D) (ds:List D) (η:Nat→jp):jgw o (.v x::l) (d::ds) η=jgw o l ds fun i=>η (i+1):=(rfl)
theorem jBh (o:Nat→Ob) (η:Nat→jp):jgw o [] [] η=o:=(rfl)
theorem jrp (b ty:Nat) (cs:List Cell) (c:Nat) (d:D) (η:jp):jgY (.box b ty cs) c d η=.box b ty (cs.set c (.own d η)):=(rfl)
theorem joE (c:Nat) (d:D) (η:jp):jgY .none c d η=.loose d η:=(rfl)
theorem jyz (g c:Nat) (p:List Nat) (x:Value) (l:List A0) (η:Nat→jp):zp (.h g c p x::l) η=(η 0 []=x∧zp l fun i=>η (i+1)):=(rfl)
theorem jyx (x:Value) (l:List A0) (η:Nat→jp):zp (.v x::l) η=zp l fun i=>η (i+1):=(rfl)
theorem jyy (η:Nat→jp):zp [] η=True:=(rfl)
attribute [go_sem] jBi jBg jBh jrp joE jyz jyx jyy
def jdB:C:=iS [iA 6 (iN 0)] (.seq (iS [iA 7 (iM 2),iA 8 (iM 1),iA 9 (iP .lss 3 7 8),iA 10 (iM 9),iB 11 10 false (iM 0),iB 12 10 false (iM 1),iB 13 10 false (iP .lss 3 11 12),iA 14 (.pick (.t 10) (.c (.bool true)) (.t 13))] (iD 14 (iS [iA 15 (iM 1),iA 6 (iM 15)] .ret) .skip)) (.seq (iS [iA 16 (iM 0),iA 17 (iM 2),iA 18 (iP .gtr 3 16 17)] (iD 18 (iS [iA 19 (iM 2),iA 6 (iM 19)] .ret) .skip)) (iS [iA 20 (iM 0),iA 6 (iM 20)] .ret)))
theorem jgj:fnC Tryz.prog Tryz.f261=some (jdB,[.t 6],21):=by kernel_rfl
def jdL:C:=iS [iA 6 (iN 0)] (.seq (iS [iA 7 (iM 2),iA 8 (iM 1),iA 9 (iP .lss 3 7 8),iA 10 (iM 9),iB 11 10 false (iM 0),iB 12 10 false (iM 1),iB 13 10 false (iP .lss 3 11 12),iA 14 (.pick (.t 10) (.c (.bool true)) (.t 13))] (iD 14 (iS [iA 15 (iM 1),iA 6 (iM 15)] .ret) .skip)) (iS [iA 16 (iM 0),iA 17 (iM 2),iA 18 (.mm false (.t 16) (.t 17)),iA 6 (iM 18)] .ret))
theorem jgt:fnC Tryz.prog Tryz.f276=some (jdL,[.t 6],19):=by kernel_rfl
def jbD:C:=iS [iA 4 (.mov (.c (.slice none 0 0)))] (iS [iA 8 (iM 0),iA 9 (.call 261 [.t 8,.c (.int .i64 0),.c (.int .i64 3)]),iA 0 (iM 9)] (.seq (iS [iA 10 (iM 1),iA 11 (iQ .lss 3 10 0)] (iD 11 (.reg [iA 1 (iN 0)]) .skip)) (iS [iA 12 (.bsl 3 1 0 [] []),iA 5 (iM 12)] (.seq (iS [iA 6 (iN 1)] (.blk 0 (.loop (.seq (iS [iA 13 (iM 6),iA 14 (iQ .lss 3 13 4)] (iD 14 .skip (.exit 0))) (.seq (.blk 1 (.reg [iA 17 (iM 5),iA 18 (iM 0),iA 19 (iM 6),iA 20 (iP .add 3 18 19),iA 21 (iQ .rem 3 20 4),iA 22 (.bsl 3 1 1 [none] [(0,1,.t 21)]),iA 23 (.app 3 1 8 (.t 17) (.t 22)),iA 5 (iM 23)])) (.reg [iA 15 (iM 6),iA 16 (iQ .add 3 15 1),iA 6 (iM 16)])))))) (iS [iA 24 (iM 1),iA 25 (iM 5),iA 26 (iG 25),iA 27 (iP .rem 3 24 26),iA 7 (iM 27)] (.seq (.dreg (T.pure 1 (iA 29 (iM 5)) (T.pure 2 (iA 30 (iM 7)) (T.pure 3 (iA 31 (.sl 1 (.t 29) (some (.t 30)) none)) (T.pure 5 (iA 33 (iM 5)) (T.pure 6 (iA 34 (iM 7)) (T.pure 7 (iA 35 (.sl 1 (.t 33) none (some (.t 34)))) (T.alt (iA 28 (.bsl 3 1 0 [] [])) [7,6,5,3,2,1] (T.alt (iA 32 (.app 3 1 8 (.t 28) (.t 31))) [7,6,5] (T.alt (iA 36 (.app 3 1 8 (.t 32) (.t 35))) [] (T.pure 9 (iA 4 (iM 36)) T.done) T.stop) T.stop) T.stop)))))))) .ret))))))
theorem jd8:fnC Tryz.prog Tryz.f191=some (jbD,[.t 4],37):=by kernel_rfl
def jbG:C:=iS [iA 4 (.mov (.c (.slice none 0 0)))] (iS [iA 7 (iM 0),iA 8 (.call 276 [.t 7,.c (.int .i64 0),.c (.int .i64 3)]),iA 0 (iM 8)] (iS [iA 5 (.mov (.c (.slice none 0 0)))] (.seq (iS [iA 6 (iN 0)] (.blk 0 (.loop (.seq (iS [iA 9 (iM 6),iA 10 (iQ .lss 3 9 3)] (iD 10 .skip (.exit 0))) (.seq (.blk 1 (.reg [iA 13 (iM 5),iA 14 (iM 0),iA 15 (iQ .add 3 14 1),iA 16 (iM 1),iA 17 (.mm true (.t 16) (.c (.int .i64 0))),iA 18 (iQ .rem 3 17 3),iA 19 (iM 6),iA 20 (iP .add 3 18 19),iA 21 (iQ .rem 3 20 3),iA 22 (iP .add 3 15 21),iA 23 (iQ .rem 3 22 4),iA 24 (.bsl 3 1 1 [none] [(0,1,.t 23)]),iA 25 (.app 3 1 8 (.t 13) (.t 24)),iA 5 (iM 25)])) (.reg [iA 11 (iM 6),iA 12 (iQ .add 3 11 1),iA 6 (iM 12)])))))) (iS [iA 26 (iM 5),iA 4 (iM 26)] .ret))))
theorem jeb:fnC Tryz.prog Tryz.f216=some (jbG,[.t 4],27):=by kernel_rfl
def brI (n a b:Int):Int:=if b<a∨n<a then a else if n>b then b else n
theorem jju (n a b:Int):ka Tryz.prog 261 [.c (.val (.int .i64 n)),.c (.val (.int .i64 a)),.c (.val (.int .i64 b))] (.c (.val (.int .i64 (brI n a b)))):=by
 refine jr Tryz.func261 jgj (by simp) ?_
 unfold jdB;by_cases h1:b<a
 ·simp only [go_sem,h1]
  simp [brI,h1]
 ·by_cases h2:n<a
  ·simp only [go_sem,h1,h2]
   simp [brI,h1,h2]
  ·by_cases h3:b<n
   ·simp only [go_sem,h1,h2,h3]
    simp [brI,h1,h2,h3]
   ·simp only [go_sem,h1,h2,h3]
    simp [brI,h1,h2,h3]
theorem jjC (n a b:Int):ka Tryz.prog 276 [.c (.val (.int .i64 n)),.c (.val (.int .i64 a)),.c (.val (.int .i64 b))] (.c (.val (.int .i64 (brI n a b)))):=by
 refine jr Tryz.func276 jgt (by simp) ?_
 unfold jdL;by_cases h1:b<a
 ·simp only [go_sem,h1]
  simp [brI,h1]
 ·by_cases h2:n<a
  ·simp only [go_sem,h1,h2]
   simp [brI,h1,h2]
  ·simp only [go_sem,h1,h2]
   simp only [brI,h1,h2,or_self,if_false]
def jg3 (home draw:Int):List Int:=
 let h:=brI home 0 3
 let k:=(if draw<0 then 0 else draw).tmod 3
 [(h+1+k.tmod 3).tmod 4,(h+1+(k+1).tmod 3).tmod 4,(h+1+(k+2).tmod 3).tmod 4]
theorem jBc (n:Int):brI n 0 3=0∨brI n 0 3=1∨brI n 0 3=2∨brI n 0 3=3:=by
 unfold brI;split
 ·omega
 ·split<;>omega
theorem jxk {n:Int} (h:0≤n):n.tmod 3=0∨n.tmod 3=1∨n.tmod 3=2:=by
 rw [Int.tmod_eq_emod_of_nonneg h];omega
theorem jrG (home draw h d:Int) (hh:brI home 0 3=h) (hd:(if draw<0 then 0 else draw)=d) (hk:0≤h∧h≤3):(d.tmod 3=0→jg3 home draw=[(h+1).tmod 4,(h+2).tmod 4,(h+3).tmod 4])∧(d.tmod 3=1→jg3 home draw=[(h+2).tmod 4,(h+3).tmod 4,(h+1).tmod 4])∧(d.tmod 3=2→jg3 home draw=[(h+3).tmod 4,(h+1).tmod 4,(h+2).tmod 4]):=by
 have e1:h+1+1=h+2:=by omega
 have e2:h+1+2=h+3:=by omega
 have e0:h+1+0=h+1:=by omega
 refine ⟨fun h3=>?_,fun h3=>?_,fun h3=>?_⟩<;>simp [jg3,hh,hd,h3,e0,e1,e2]
theorem jw5 (n:Int):0≤brI n 0 3∧brI n 0 3≤3:=by have:=jBc n;omega
theorem jg5 (home draw:Int):ka Tryz.prog 191 [.c (.val (.int .i64 home)),.c (.val (.int .i64 draw))] (.c (jh (jg3 home draw))):=by
 refine jr Tryz.func191 jd8 (by simp) ?_
 unfold jbD;simp only [go_sem];refine jc (jju home 0 3) (by simp only [go_sem]) fun η=>?_
 obtain ⟨d,hd,hdk⟩:∃d:Int,(if draw<0 then 0 else draw)=d∧0≤d:=⟨_,rfl,by split<;>omega⟩
 have hk:=jw5 home;have hvl:=jrG home draw _ d rfl hd hk;have h3:=jxk hdk;generalize brI home 0 3=h at*;have w1:IntKind.i64.wrap (h+1)=h+1:=jem _ (by omega) (by omega)
 have w2:IntKind.i64.wrap (h+2)=h+2:=jem _ (by omega) (by omega)
 have w3:IntKind.i64.wrap (h+3)=h+3:=jem _ (by omega) (by omega)
 obtain ⟨v0,v1,v2⟩:=hvl;by_cases hneg:draw<0
 ·rw [if_pos hneg] at hd
  subst hd;rw [v0 (by decide)]
  simp only [go_sem,hneg];intro η1;refine zB 3 ?_;simp only [go_sem,jem,w1,w2,w3,D.len,maxLen];intros;rfl
 ·rw [if_neg hneg] at hd
  subst hd;rcases h3 with h3|h3|h3
  ·rw [v0 h3]
   simp only [go_sem,hneg];intro η1;refine zB 3 ?_;simp only [go_sem,jem,w1,w2,w3,D.len,maxLen,h3];intros;rfl
  ·rw [v1 h3]
   simp only [go_sem,hneg];intro η1;refine zB 3 ?_;simp only [go_sem,jem,w1,w2,w3,D.len,maxLen,h3];intros;rfl
  ·rw [v2 h3]
   simp only [go_sem,hneg];intro η1;refine zB 3 ?_;simp only [go_sem,jem,w1,w2,w3,D.len,maxLen,h3];intros;rfl
theorem jg6 (home draw:Int):ka Tryz.prog 216 [.c (.val (.int .i64 home)),.c (.val (.int .i64 draw))] (.c (jh (jg3 home draw))):=by
 refine jr Tryz.func216 jeb (by simp) ?_
 unfold jbG;simp only [go_sem];refine jc (jjC home 0 3) (by simp only [go_sem]) fun η=>?_
 obtain ⟨d,hd,hdk⟩:∃d:Int,(if draw<0 then 0 else draw)=d∧0≤d:=⟨_,rfl,by split<;>omega⟩
 have hk:=jw5 home;have hvl:=jrG home draw _ d rfl hd hk;have h3:=jxk hdk;generalize brI home 0 3=h at*;have w1:IntKind.i64.wrap (h+1)=h+1:=jem _ (by omega) (by omega)
 have w0:IntKind.i64.wrap (h+1+0)=h+1:=by rw [jem _ (by omega) (by omega)];omega
 have w2:IntKind.i64.wrap (h+1+1)=h+2:=by rw [jem _ (by omega) (by omega)];omega
 have w3:IntKind.i64.wrap (h+1+2)=h+3:=by rw [jem _ (by omega) (by omega)];omega
 obtain ⟨v0,v1,v2⟩:=hvl;rcases h3 with h3|h3|h3
 ·rw [v0 h3]
  simp only [go_sem];refine zB 3 ?_;simp only [go_sem,jem,w0,w1,w2,w3,D.len,maxLen,hd,h3];intros;rfl
 ·rw [v1 h3]
  simp only [go_sem];refine zB 3 ?_;simp only [go_sem,jem,w0,w1,w2,w3,D.len,maxLen,hd,h3];intros;rfl
 ·rw [v2 h3]
  simp only [go_sem];refine zB 3 ?_;simp only [go_sem,jem,w0,w1,w2,w3,D.len,maxLen,hd,h3];intros;rfl
end Go.Proofs.YtmnpailnelmpiaaGreat
