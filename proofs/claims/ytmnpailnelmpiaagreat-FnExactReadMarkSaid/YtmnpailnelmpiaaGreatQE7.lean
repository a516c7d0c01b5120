/- Parts. -/
import Derived.Test.YtmnpailnelmpiaaGreatQMarkB
set_option linter.unusedSimpArgs false
set_option linter.unusedVariables false
set_option maxRecDepth 100000
namespace Go.Proofs.YtmnpailnelmpiaaGreat
open Go.RowKit Go.Sort
section
variable {P:Program} {β:Nat} {s:St} {Q Q':Ex→St→Prop}
theorem jj9:∀{is:List Ins} {s:St} {K K':St→Prop},(∀s,K s→K' s)→jhk P β is s K→jhk P β is s K'
 |[],_,_,_,h,hk=>h _ hk
 |i::l,s,K,K',h,hk=>by
  simp only [jhk] at hk⊢;split
  ·rename_i hw;simp only [hw] at hk;exact jfS (fun s'=>jj9 h) hk
  ·rename_i hw;simp only [hw] at hk;exact jj9 h hk
  ·rename_i hw;simp only [hw] at hk
theorem jbH:∀{t:T} {l:List (Nat×List Lk)} {s:St} {K K':St→Prop},(∀s,K s→K' s)→zH P β t l s K→zH P β t l s K'
 |.done,_,_,_,_,h,hk=>h _ hk
 |.stop,_,_,_,_,_,_=>trivial
 |.pure p i t,l,s,K,K',h,hk=>by
  simp only [zH] at hk⊢;split
  ·rename_i hw;simp only [hw] at hk;exact jfS (fun s'=>jbH h) hk
  ·rename_i hw;simp only [hw] at hk;exact jbH h hk
  ·rename_i hw;simp only [hw] at hk
 |.alt i chk t r,l,s,K,K',h,hk=>by
  simp only [zH] at hk⊢;refine ⟨?_,jbH h hk.2⟩;have hk:=hk.1;split
  ·rename_i hw;simp only [hw] at hk;exact jfS (fun s' ⟨h1,h2⟩=>⟨h1,jbH h h2⟩) hk
  ·rename_i hw;simp only [hw] at hk;exact jbH h hk
  ·rename_i hw;simp only [hw] at hk
theorem jfO {n n':St→Prop} (hn:∀s,n s→n' s) (hQ:∀e s,Q e s→Q' e s):∀e s,Ex.thn n Q e s→Ex.thn n' Q' e s
 |.normal,_,h=>hn _ h
 |.exit _,_,h=>hQ _ _ h
 |.ret,_,h=>hQ _ _ h
theorem jAb {id:Nat} (hQ:∀e s,Q e s→Q' e s):∀e s,Ex.inBlk id Q e s→Ex.inBlk id Q' e s
 |.normal,_,h=>hQ _ _ h
 |.exit id',_,h=>by
  simp only [Ex.inBlk] at h⊢;by_cases e:id'=id
  ·rw [if_pos e] at h⊢;exact hQ _ _ h
  ·rw [if_neg e] at h⊢;exact hQ _ _ h
 |.ret,_,h=>hQ _ _ h
theorem zX:∀(c:C) {s:St} {Q Q':Ex→St→Prop},(∀e s,Q e s→Q' e s)→wpC P β c Q s→wpC P β c Q' s
 |.skip,_,_,_,h,hk=>h _ _ hk
 |.reg _,_,_,_,h,hk=>jj9 (fun _=>h _ _) hk
 |.dreg _,_,_,_,h,hk=>jbH (fun _=>h _ _) hk
 |.seq a b,s,Q,Q',h,hk=>by
  rw [jpY] at hk⊢;exact zX a (jfO (fun _=>zX b h) h) hk
 |.cond x a b,_,_,_,h,⟨t,h1,h2,h3⟩=>⟨t,h1,fun ht=>zX a h (h2 ht),fun ht=>zX b h (h3 ht)⟩
 |.blk id a,s,Q,Q',h,hk=>by
  rw [jAo] at hk⊢;exact zX a (jAb h) hk
 |.loop a,_,_,_,h,⟨ι,mk,J,μ,h1,h2⟩=>⟨ι,mk,J,μ,h1,fun i hi=>zX a (jfO (fun _ h=>h) h) (h2 i hi)⟩
 |.gh a,_,_,_,h,hk=>fun _ _ _ _ _ _ hr=>let ⟨s',F',h1,h2⟩:=hk _ _ _ _ _ _ hr;⟨s',F',h1,zX a h h2⟩
 |.exit _,_,_,_,h,hk=>h _ _ hk
 |.ret,_,_,_,h,hk=>h _ _ hk
theorem Wk.refl (s:St):Wk s s:=fun _ _ _ _ _ F h=>⟨F,h,fun g b hb=>⟨g,hb⟩⟩
theorem vI {a:C} {s:St} (J:St→Prop) (μ:St→Nat) (h:J s) (hr:∀s,J s→wpC P β a (Ex.thn (fun s'=>J s'∧μ s'<μ s) Q) s):wpC P β (.loop a) Q s:=by
 refine ⟨St,id,J,μ,⟨s,h,.refl s⟩,fun s hs=>zX a (jfO (fun s' ⟨h1,h2⟩=>⟨s',h1,.refl s',h2⟩) fun _ _ h=>h) (hr s hs)⟩
theorem jwA {p:Nat→Prop} (h:∃n,p n):∃n,p n∧∀m,p m→n≤m:=by
 obtain ⟨n,hn⟩:=h
 induction n using Nat.strongRecOn with
 |_ n ih=>
  by_cases hm:∃m,m<n∧p m
  ·obtain ⟨m,h1,h2⟩:=hm
   exact ih m h1 h2
  ·exact ⟨n,hn,fun m hp=>Nat.le_of_not_lt fun hlt=>hm ⟨m,hlt,hp⟩⟩
def rounds (P:Program) (β:Nat) (a:C) (Q:Ex→St→Prop):Nat→St→Prop
 |0,_=>False
 |n+1,s=>wpC P β a (Ex.thn (rounds P β a Q n) Q) s
open Classical in
theorem juE {a:C} {n:Nat} (h:rounds P β a Q n s):wpC P β (.loop a) Q s:=by
 refine vI (fun s=>∃n,rounds P β a Q n s) (fun s=>if h:∃n,rounds P β a Q n s then Classical.choose (jwA h) else 0) ⟨n,h⟩ ?_
 intro s hs;obtain ⟨h1,h0⟩:=Classical.choose_spec (jwA hs)
 obtain ⟨m,hm⟩:∃m,Classical.choose (jwA hs)=m+1:=by
  cases hq:Classical.choose (jwA hs) with
  |zero=>rw [hq] at h1;exact h1.elim
  |succ m=>exact ⟨m,rfl⟩
 rw [hm] at h1;refine zX _ (jfO (fun s' h2=>⟨⟨m,h2⟩,?_⟩) fun _ _ h=>h) h1
 have h3:∃n,rounds P β a Q n s':=⟨m,h2⟩;have h4:=(Classical.choose_spec (jwA h3)).2 m h2;simp only [dif_pos hs,dif_pos h3,hm];omega
theorem vg {a:C} {s:St} (n:Nat) (h:wpC P β a (Ex.thn (rounds P β a Q n) Q) s):wpC P β (.loop a) Q s:=juE (n:=n+1) h
theorem jB0 (a:C) (n:Nat):rounds P β a Q (n+1) s=wpC P β a (Ex.thn (rounds P β a Q n) Q) s:=(rfl)
theorem juH {t:Nat} {w:Bool} (h:s.t t=.c (.v undef)):zl s (some (t,w))=some false:=by
 simp only [zl,h];rfl
theorem jEf {t:Nat} {w:Bool} {d:Option Nat} {K:St→Prop} (i:I) (l:List Ins) (h:s.t t=.c (.v undef)):jhk P β (⟨d,some (t,w),i⟩::l) s K=jhk P β l (s.put d (.c (.v undef))) K:=by
 simp only [jhk,juH h]
theorem rt_gu {t p:Nat} {w:Bool} {d:Option Nat} {l:List (Nat×List Lk)} {K:St→Prop} (i:I) (t':T) (h:s.t t=.c (.v undef)):zH P β (.pure p ⟨d,some (t,w),i⟩ t') l s K=zH P β t' l (s.put d (.c (.v undef))) K:=by
 simp only [zH,juH h]
theorem ra_gu {t:Nat} {w:Bool} {d:Option Nat} {l:List (Nat×List Lk)} {K:St→Prop} (i:I) (chk:List Nat) (t' r:T) (h:s.t t=.c (.v undef)):zH P β (.alt ⟨d,some (t,w),i⟩ chk t' r) l s K=(zH P β t' l (s.put d (.c (.v undef))) K∧zH P β r l s K):=by
 simp only [zH,juH h]
theorem jwI:IsD [] []=True:=by simp [IsD]
theorem jzA (x:Value) (l:List Cell) (d:D) (ds:List D):IsD (.a (.v x)::l) (d::ds)=((d=.val x∨x=.slice none 0 0∧∃size ty,d=.sl size ty [])∧IsD l ds):=rfl
theorem jCF (x:Value) (l:List Cell) (ds:List D):IsD (.a (.v x)::l) (.val x::ds)=IsD l ds:=by rw [jzA];simp
theorem isD_1 (x u:Value):IsD [.a (.v x)] [.val u]=(x=u):=by
 rw [jzA];simp only [jwI];apply propext;constructor
 ·rintro ⟨h|⟨_,_,_,h⟩,_⟩
  ·cases h;rfl
  ·cases h
 ·rintro rfl;exact ⟨.inl rfl,trivial⟩
theorem jga (l:List Cell) (size:Nat) (ty:TypeId) (ds:List D):IsD (.a (.v (.slice none 0 0))::l) (.sl size ty []::ds)=IsD l ds:=by rw [jzA];simp
theorem jCG (d d':D) (η:jq) (l:List Cell) (ds:List D):IsD (.own d' η::l) (d::ds)=(d'=d∧IsD l ds):=(rfl)
def jvV (s:St):RT→AV→Prop
 |.c d,.c a=>kL s [a] fun cs _=>IsD cs [d]
 |.agg ds,.agg l=>kL s l fun cs _=>IsD cs ds
 |_,_=>False
theorem jEw (d:D) (a:A0):jvV s (.c d) (.c a)=kL s [a] fun cs _=>IsD cs [d]:=(rfl)
theorem jyY (ds:List D) (l:List A0):jvV s (.agg ds) (.agg l)=kL s l fun cs _=>IsD cs ds:=(rfl)
theorem ret_t (n:Nat) (rt:RT):juB [.t n] rt s=jvV s rt (s.t n):=by
 apply propext
 simp only [juB,jkd];cases h:s.t n with
 |c a=>cases rt<;>simp [jvV,ja7,RT.flat]
 |agg l=>cases rt<;>simp [jvV,ja7,RT.flat]
 |_=>cases rt<;>simp [jvV]
def jql (s:St) (agg:Bool) (k:Nat) (rt:RT) (a:AV):Prop:=∃l,jaB s k l a∧(agg=true∨l.length=1)∧ja7 rt [(agg,l)]∧kL s ([(agg,l)].flatMap (·.2)) fun cs _=>IsD cs rt.flat
theorem jyX (n k:Nat) (agg:Bool) (rt:RT):juB [.cell n agg k] rt s=jql s agg k rt (s.t n):=(rfl)
theorem jtl (k g c b:Nat) (agg:Bool) (rt:RT):jql s agg k rt (.c (.bp g c b))=ldB (s.o g) g c b k fun l=>ldV agg l fun v=>jvV s rt v:=by
 apply propext
 simp only [jql,jaB];cases ho:s.o g with
 |box b' ty cs=>
  simp only [ldB,Ob.box.injEq];constructor
  ·rintro ⟨l,⟨_,_,⟨rfl,rfl,rfl⟩,h2,rfl⟩,h3,h4,h5⟩
   refine ⟨rfl,h2,?_⟩;cases agg with
   |true=>cases rt<;>simp_all [ldV,jvV,ja7,RT.flat]
   |false=>
    obtain ⟨a,ha⟩:=List.length_eq_one_iff.1 (by simpa using h3)
    rw [ha] at h4 h5⊢;cases rt<;>simp_all [ldV,jvV,ja7,RT.flat]
  ·rintro ⟨rfl,h2,h3⟩
   refine ⟨_,⟨ty,cs,⟨rfl,rfl,rfl⟩,h2,rfl⟩,?_⟩;cases agg with
   |true=>cases rt<;>simp_all [ldV,jvV,ja7,RT.flat]
   |false=>
    generalize jfl g c ((cs.drop c).take k)=l at h3⊢
    match l,h3 with
    |[a],h3=>cases rt<;>simp_all [ldV,jvV,ja7,RT.flat]
 |_=>simp [ldB]
theorem ri_r (rs:List R) (K:AV→(Nat→Ob)→Prop):jGe rs K .ret s=jBe rs K s:=(rfl)
theorem ri_n (rs:List R) (K:AV→(Nat→Ob)→Prop):jGe rs K .normal s=jBe rs K s:=(rfl)
def retI (s:St) (K:AV→(Nat→Ob)→Prop):AV→Prop
 |.c a=>K (.c a) s.o
 |.agg l=>K (.agg l) s.o
 |_=>False
theorem jEv (K:AV→(Nat→Ob)→Prop) (a:A0):retI s K (.c a)=K (.c a) s.o:=(rfl)
theorem jEr (n:Nat) (K:AV→(Nat→Ob)→Prop):jBe [.t n] K s=retI s K (s.t n):=by
 simp only [jBe,jkd];cases h:s.t n<;>simp [retI]
theorem jEs (K:AV→(Nat→Ob)→Prop):jBe [] K s=K (.tup []) s.o:=(rfl)
def jm1 (s:St) (agg:Bool) (k:Nat) (K:AV→(Nat→Ob)→Prop) (a:AV):Prop:=∃l,jaB s k l a∧(agg=true∨l.length=1)∧(match [(agg,l)] with
 |[(true,l)]=>K (.agg l) s.o
 |[(false,[a])]=>K (.c a) s.o
 |[]=>K (.tup []) s.o
 |p::q::r=>K (.tup (p::q::r)) s.o
 |_=>False)
theorem jvT (n k:Nat) (agg:Bool) (K:AV→(Nat→Ob)→Prop):jBe [.cell n agg k] K s=jm1 s agg k K (s.t n):=(rfl)
theorem jqk (k g c b:Nat) (agg:Bool) (K:AV→(Nat→Ob)→Prop):jm1 s agg k K (.c (.bp g c b))=ldB (s.o g) g c b k fun l=>ldV agg l fun v=>K v s.o:=by
 apply propext
 simp only [jm1,jaB];cases ho:s.o g with
 |box b' ty cs=>
  simp only [ldB,Ob.box.injEq];constructor
  ·rintro ⟨l,⟨_,_,⟨rfl,rfl,rfl⟩,h2,rfl⟩,h3,h4⟩
   refine ⟨rfl,h2,?_⟩;cases agg with
   |true=>exact h4
   |false=>
    obtain ⟨a,ha⟩:=List.length_eq_one_iff.1 (by simpa using h3)
    rw [ha] at h4⊢;exact h4
  ·rintro ⟨rfl,h2,h3⟩
   refine ⟨_,⟨ty,cs,⟨rfl,rfl,rfl⟩,h2,rfl⟩,?_⟩;cases agg with
   |true=>exact ⟨.inl rfl,h3⟩
   |false=>
    generalize jfl g c ((cs.drop c).take k)=l at h3⊢
    match l,h3 with
    |[a],h3=>exact ⟨.inr rfl,h3⟩
 |_=>simp [ldB]
theorem jBw (args:List AV) (o:Nat→Ob) (n:Nat):(St.start args o).t n=(args[n]?).getD .unk:=(rfl)
theorem jBx (args:List AV) (o:Nat→Ob):(St.start args o).o=o:=(rfl)
end
theorem jfI (n:Int) (h:-1000000000000000≤n) (h':n<1000000000000000):IntKind.i64.wrap n=n:=jj (by omega) (by omega)
attribute [go_sem_proc] Int.reduceBEq Int.reduceBNe Nat.reduceBNe Int.reduceAdd Int.reduceSub Int.reduceMul Int.reduceLE Int.reduceLT Int.reduceGE Int.reduceGT Int.reduceTMod Int.reduceTDiv Int.reduceNe Int.reduceNeg Int.reduceToNat Nat.reduceDiv Nat.reduceMod Nat.reducePow Int.reduceNegSucc
attribute [go_sem] Int.cast_ofNat_Int jEf rt_gu ra_gu jB0 jwI isD_1 jCF jga jCG jBw jBx ri_r ri_n jEv jEr jEs jvT jqk ret_t jyX jtl jEw jyY
section
variable {P:Program} {f:FuncId}
theorem jDA {w:World} {v1 v2:View} {xs:List Value} (h:jag w [v1,v2] xs):∃a b,xs=[a,b]∧ViewRel w v1 a∧ViewRel w v2 b:=by
 obtain ⟨a,_,rfl,h1,b,_,rfl,h2,h3⟩:=h;rw [show _=_ from h3]
 exact ⟨a,b,rfl,h1,h2⟩
theorem juL {w:World} {v1:View} {xs:List Value} (h:jag w [v1] xs):∃a,xs=[a]∧ViewRel w v1 a:=by
 obtain ⟨a,_,rfl,h1,h3⟩:=h;rw [show _=_ from h3]
 exact ⟨a,rfl,h1⟩
theorem jhw {v1 v2:View} {u:Value} (hn:jih P f) (h:∀w a b,ViewRel w v1 a→ViewRel w v2 b→Calls P f #[a,b] w fun e w'=>e=.returned u∧Below w.heap.size w w'):jZ P f [v1,v2] (.c (.val u)):=by
 refine ⟨hn,fun w xs hv=>?_⟩
 obtain ⟨a,b,rfl,h1,h2⟩:=jDA hv;exact (h w a b h1 h2).mono fun e w' ⟨he,hb⟩=>⟨u,[],he,⟨rfl,rfl⟩,Fresh.nil _,hb⟩
theorem jEL {v1:View} {u:Value} (hn:jih P f) (h:∀w a,ViewRel w v1 a→Calls P f #[a] w fun e w'=>e=.returned u∧Below w.heap.size w w'):jZ P f [v1] (.c (.val u)):=by
 refine ⟨hn,fun w xs hv=>?_⟩
 obtain ⟨a,rfl,h1⟩:=juL hv;exact (h w a h1).mono fun e w' ⟨he,hb⟩=>⟨u,[],he,⟨rfl,rfl⟩,Fresh.nil _,hb⟩
theorem jy7 {v1:View} {ds:List D} (hn:jih P f) (h:∀w a,ViewRel w v1 a→Calls P f #[a] w (jiO w ds)):jZ P f [v1] (.agg ds):=by
 refine ⟨hn,fun w xs hv=>?_⟩
 obtain ⟨a,rfl,h1⟩:=juL hv;exact (h w a h1).mono fun e w' h=>h
theorem jy6 {v1:View} {d:D} (hn:jih P f) (h:∀w a,ViewRel w v1 a→Calls P f #[a] w (jiM w d)):jZ P f [v1] (.c d):=by
 refine ⟨hn,fun w xs hv=>?_⟩
 obtain ⟨a,rfl,h1⟩:=juL hv;exact (h w a h1).mono fun e w' h=>h
theorem vv {w:World} {u a:Value} (h:ViewRel w (.c (.val u)) a):a=u:=by obtain ⟨S,h1,_⟩:=h;exact h1
end
def jfC (o:Nat→Ob):A0→Prop
 |.h g c _ x=>(o g=.none∧c=0)∨∃b ty cs,o g=.box b ty cs∧cs[c]?=some (.a (.v x))
 |_=>True
def jhj (o:Nat→Ob) (l:List A0):Prop:=∀a∈l,jfC o a
theorem jv8 {s:St} {l:List A0} {g c:Nat} {d:D} {η:jq} (h:jhj s.o l) (ho:(s.o g).own c=some (d,η)):jhj (s.rm g c).o l:=by
 intro a ha;have h1:=h a ha;cases a with
 |h g' c' p x=>
  by_cases hg:g'=g
  ·subst hg
   rcases h1 with ⟨h2,_⟩|⟨b,ty,cs,h2,h3⟩
   ·rw [h2] at ho;simp [Ob.own] at ho
   ·right
    rw [h2,jqE] at ho;refine ⟨b,ty,rmC cs c cs[c]?,?_,?_⟩
    ·show (if g'=g' then (s.o g').rm c else s.o g')=_
     rw [if_pos rfl,h2];rfl
    ·by_cases hc:c=c'
     ·subst hc;rw [h3] at ho;simp [jCg] at ho
     ·cases hq:cs[c]? with
      |none=>simpa [rmC] using h3
      |some y=>
       cases y with
       |a y=>simpa [rmC] using h3
       |own d0 η0=>simp only [rmC];rw [List.getElem?_set_ne hc];exact h3
  ·have e:(s.rm g c).o g'=s.o g':=by
    show (if g'=g then _ else s.o g')=_
    rw [if_neg hg]
   simp only [jfC,e];exact h1
 |_=>trivial
theorem jfb:∀{l:List A0} {s:St} {l0:List A0} {K:List Cell→St→Prop},jhj s.o l0→kL s l K→kL s l fun cs s1=>K cs s1∧jhj s1.o (l0++l)
 |[],s,l0,K,h,hk=>⟨hk,by rw [List.append_nil];exact h⟩
 |x::l,s,l0,K,h,hk=>by
  have plain:∀a:A0,(∀o,jfC o a)→kL s l (fun cs s'=>K (.a a::cs) s')→kL s l (fun cs s'=>K (.a a::cs) s'∧jhj s'.o (l0++a::l)):=fun a ha hk=>by
   have:=jfb (l0:=l0++[a]) (fun b hb=>by rcases List.mem_append.1 hb with hb|hb;exact h b hb;simp at hb;subst hb;exact ha _) hk
   exact vU (fun cs s1 ⟨h1,h2⟩=>⟨h1,by simpa using h2⟩) this
  cases x with
  |h g c p x=>
   obtain ⟨rfl,d,η,h1,h2,h3⟩:=hk;refine ⟨rfl,d,η,h1,h2,?_⟩
   have hp:jfC (s.rm g c).o (.h g c [] x):=by
    have e:(s.rm g c).o g=(s.o g).rm c:=by show (if g=g then _ else _)=_;rw [if_pos rfl]
    simp only [jfC,e];cases hob:s.o g with
    |none=>rw [hob] at h1;simp [Ob.own] at h1
    |loose d0 η0=>
     rw [hob] at h1;cases c with
     |succ c=>simp [Ob.own] at h1
     |zero=>left;exact ⟨rfl,rfl⟩
    |box b ty cs=>
     rw [hob,jqE] at h1;right;cases hq:cs[c]? with
     |none=>rw [hq] at h1;simp [jCg] at h1
     |some y=>
      cases y with
      |a y=>rw [hq] at h1;simp [jCg] at h1
      |own d0 η0=>
       rw [hq] at h1;simp [jCg] at h1;obtain ⟨rfl,rfl⟩:=h1;refine ⟨b,ty,_,rfl,?_⟩;simp only [rmC,hq];rw [List.getElem?_set_self (List.getElem?_eq_some_iff.1 hq).1,h2]
   have:=jfb (l0:=l0++[.h g c [] x]) (s:=s.rm g c) (fun b hb=>by rcases List.mem_append.1 hb with hb|hb;exact jv8 h h1 b hb;simp at hb;subst hb;exact hp) h3
   exact vU (fun cs s1 ⟨h1,h2⟩=>⟨h1,by simpa using h2⟩) this
  |v x=>exact ⟨hk.1,plain _ (fun _=>trivial) hk.2⟩
  |ro x=>exact ⟨hk.1,plain _ (fun _=>trivial) hk.2⟩
  |rp x=>exact ⟨hk.1,plain _ (fun _=>trivial) hk.2⟩
  |bp x y z=>exact ⟨hk.1,plain _ (fun _=>trivial) hk.2⟩
  |ep x y z i j=>exact ⟨hk.1,plain _ (fun _=>trivial) hk.2⟩
  |un=>exact ⟨hk.1,plain _ (fun _=>trivial) hk.2⟩
  |hs=>exact ⟨hk.1,plain _ (fun _=>trivial) hk.2⟩
def jiL (ob:Ob) (c:Nat) (d:D) (η:jq):Ob:=match ob with
 |.box b ty cs=>.box b ty (cs.set c (.own d η))
 |_=>.loose d η
def jif (o:Nat→Ob):List A0→List D→(Nat→jq)→Nat→Ob
 |.h g c _ _::l,d::ds,η=>jif (fun k=>if k=g then jiL (o g) c d (η 0) else o k) l ds fun i=>η (i+1)
 |_::l,_::ds,η=>jif o l ds fun i=>η (i+1)
 |_,_,_=>o
def zW:List A0→(Nat→jq)→Prop
 |.h _ _ _ x::l,η=>η 0 []=x∧zW l fun i=>η (i+1)
 |_::l,η=>zW l fun i=>η (i+1)
 |[],_=>True
def jii:List A0→List D→Prop
 |.h _ _ _ _::l,d::ds=>d.isSl=true∧jii l ds
 |.v x::l,d::ds=>d=.val x∧jii l ds
 |[],[]=>True
 |_,_=>False
section
variable {B N:Nat} {w w' w0:World} {s:St} {a:Act} {F:Nat→List Nat} {P:Program} {f:FuncId}
theorem CRel.back {η:jq} {d:D} {u:Value} {S1:List Nat} (hs:d.isSl=true) (hr:Rep w true d u S1) (hη:∀p,η p=hdr w p d u):∀{cs:List Cell} {us:List Value} {S:List Nat} {c:Nat},CRel B w cs us S→(S++S1).Nodup→cs[c]?=some (.a (.v u))→
 ∃S',CRel B w (cs.set c (.own d η)) us S'∧S'.Nodup∧∀b,b∈S'↔b∈S∨b∈S1
 |[],_,_,_,_,_,h=>by simp at h
 |.a x::cs,us,S,0,⟨u',us',h1,h2,h3⟩,hnd,h=>by
  simp at h;subst h;subst h1;have h2:u'=u:=h2;subst h2;exact ⟨S1++S,⟨u',us',S1,S,rfl,rfl,hs,hr,hη,h3⟩,(List.perm_append_comm.nodup_iff).1 hnd,fun b=>by simp [or_comm]⟩
 |.a x::cs,us,S,c+1,⟨u',us',h1,h2,h3⟩,hnd,h=>by
  obtain ⟨S',k1,k2,k3⟩:=CRel.back hs hr hη h3 hnd (by simpa using h)
  exact ⟨S',⟨u',us',h1,h2,k1⟩,k2,k3⟩
 |.own d0 η0::cs,us,S,0,hr0,hnd,h=>by simp at h
 |.own d0 η0::cs,us,S,c+1,⟨u',us',T1,T2,h1,h2,h3,h4,h5,h6⟩,hnd,h=>by
  subst h2;rw [List.append_assoc] at hnd;have hn:=List.nodup_append.1 hnd;obtain ⟨S',k1,k2,k3⟩:=CRel.back hs hr hη h6 hn.2.1 (by simpa using h)
  refine ⟨T1++S',⟨u',us',T1,S',h1,rfl,h3,h4,h5,k1⟩,List.nodup_append.2 ⟨hn.1,k2,fun x hx y hy e=>hn.2.2 x hx y (by rw [List.mem_append];exact (k3 y).1 hy) e⟩,fun b=>?_⟩
  rw [List.mem_append,List.mem_append,k3];constructor
  ·rintro (h|h|h)<;>simp [h]
  ·rintro ((h|h)|h)<;>simp [h]
theorem back1 {o:Nat→Ob} (h:RelF B w0 0 (.only o) Act.bare w F) {g c:Nat} {x:Value} {d:D} {S:List Nat} (hp:jfC o (.h g c [] x)) (hs:d.isSl=true) (hr:Rep w true d x S) (hF:Fresh B S) (hd:∀k,∀b∈S,b∉F k):
 ∃F' η,η []=x∧RelF B w0 0 (.only fun k=>if k=g then jiL (o g) c d η else o k) Act.bare w F'∧∀k b,b∈F' k→b∈F k∨b∈S:=by
 have hog:=h.ob g;have hη:(fun q=>hdr w q d x) []=x:=zT hs
 rcases hp with ⟨h1,rfl⟩|⟨b,ty,cs,h1,h2⟩
 ·have:=h.setO (g:=g) (ob:=.loose d (fun q=>hdr w q d x)) (S:=S) ⟨hs,x,hr,fun _=>rfl⟩ hF (fun g' _ b hb=>hd g' b hb)
  refine ⟨fun k=>if k=g then S else F k,fun q=>hdr w q d x,hη,?_,fun k b hb=>?_⟩
  ·have e:jiL (o g) 0 d (fun q=>hdr w q d x)=.loose d (fun q=>hdr w q d x):=by rw [h1];rfl
   rw [e];exact this
  ·have hb:b∈(if k=g then S else F k):=hb
   split at hb
   ·exact .inr hb
   ·exact .inl hb
 ·have hog':ORel B w (.box b ty cs) (F g):=by rw [←h1];exact hog
  obtain ⟨us,S1,k1,k2,k3⟩:=hog';have hfg:=h.fr g;rw [k3] at hfg;have hn:=List.nodup_cons.1 hfg.1;have hdg:∀b'∈S,b'∉b::S1:=fun b' hb' hh=>hd g b' hb' (by rw [k3];exact hh)
  obtain ⟨S',m1,m2,m3⟩:=CRel.back (η:=fun q=>hdr w q d x) hs hr (fun _=>rfl) k2 (List.nodup_append.2 ⟨hn.2,hF.1,fun y hy z hz e=>hdg z hz (by rw [←e];simp [hy])⟩) h2
  have:=h.setO (g:=g) (ob:=.box b ty (cs.set c (.own d (fun q=>hdr w q d x)))) (S:=b::S') ⟨us,S',k1,m1,rfl⟩ ⟨List.nodup_cons.2 ⟨fun hb=>by
   rcases (m3 b).1 hb with h|h
   ·exact hn.1 h
   ·exact hdg b h (by simp),m2⟩,fun y hy=>by
   rcases List.mem_cons.1 hy with rfl|hy
   ·exact hfg.2 y (by simp)
   ·rcases (m3 y).1 hy with h|h
    ·exact hfg.2 y (by simp [h])
    ·exact hF.2 y h⟩ (fun g' hg' y hy=>by
   rcases List.mem_cons.1 hy with rfl|hy
   ·exact fun hh=>h.dj g' g hg' y hh (by rw [k3];simp)
   ·rcases (m3 y).1 hy with h'|h'
    ·exact fun hh=>h.dj g' g hg' y hh (by rw [k3];simp [h'])
    ·exact hd g' y h')
  refine ⟨fun k=>if k=g then b::S' else F k,fun q=>hdr w q d x,hη,?_,fun k y hy=>?_⟩
  ·have e:jiL (o g) c d (fun q=>hdr w q d x)=.box b ty (cs.set c (.own d (fun q=>hdr w q d x))):=by rw [h1];rfl
   rw [e];exact this
  ·have hy2:y∈(if k=g then b::S' else F k):=hy
   clear hy;by_cases e:k=g
   ·rw [if_pos e] at hy2
    subst e;rcases List.mem_cons.1 hy2 with rfl|hy
    ·exact .inl (by rw [k3];simp)
    ·rcases (m3 y).1 hy with h|h
     ·exact .inl (by rw [k3];simp [h])
     ·exact .inr h
   ·rw [if_neg e] at hy2;exact .inl hy2
theorem jqt {o:Nat→Ob} {l:List A0} {g c:Nat} {d:D} {η:jq} (h:jhj o l) (hno:∀a∈l,∀(g' c':Nat) (p:List Nat) (x:Value),a=.h g' c' p x→(g',c')≠(g,c)) (hbox:∀a∈l,∀c' p x,a=.h g c' p x→o g≠.none):jhj (fun k=>if k=g then jiL (o g) c d η else o k) l:=by
 intro a ha;have h1:=h a ha;cases a with
 |h g' c' p x=>
  by_cases hg:g'=g
  ·subst hg
   rcases h1 with ⟨h2,_⟩|⟨b,ty,cs,h2,h3⟩
   ·exact absurd h2 (hbox _ ha _ _ _ rfl)
   ·right
    refine ⟨b,ty,cs.set c (.own d η),?_,?_⟩
    ·show (if g'=g' then _ else _)=_
     rw [if_pos rfl,h2];rfl
    ·have hc:c≠c':=fun e=>hno _ ha _ _ _ _ rfl (by rw [e])
     rw [List.getElem?_set_ne hc];exact h3
  ·simp only [jfC,if_neg hg];exact h1
 |_=>trivial
def jrr:List A0→Prop
 |[]=>True
 |.h g c _ _::l=>(∀a∈l,∀g' c' p x,a=.h g' c' p x→(g',c')≠(g,c))∧jrr l
 |_::l=>jrr l
theorem jn0:∀{l:List A0} {ds:List D} {us:List Value} {S:List Nat} {o:Nat→Ob} {F:Nat→List Nat},RelF B w0 0 (.only o) Act.bare w F→A0RelL B w l us→jii l ds→jhj o l→jrr l→(∀a∈l,∀g c p x,a=.h g c p x→p=[]∧(o g=.none→∀b∈l,∀c' p' x',b=.h g c' p' x'→c'=c))→RepL w true ds us S→Fresh B S→(∀k,∀b∈S,b∉F k)→
 ∃F' η,zW l η∧RelF B w0 0 (.only (jif o l ds η)) Act.bare w F'
 |[],[],us,S,o,F,h,_,_,_,_,_,_,_,_=>⟨F,fun _ _=>undef,trivial,h⟩
 |[],_::_,_,_,_,_,_,_,h,_,_,_,_,_,_=>h.elim
 |.h g c p x::l,[],_,_,_,_,_,_,h,_,_,_,_,_,_=>h.elim
 |.v x::l,[],_,_,_,_,_,_,h,_,_,_,_,_,_=>h.elim
 |.h g c p x::l,d::ds,us,S,o,F,h,⟨u,us',hu,h2,h3⟩,⟨h4,h5⟩,hp,⟨ha1,ha2⟩,hnone,⟨v,vs',S1,S2,e1,e2,r1,r2⟩,hF,hd=>by
  subst hu e2;cases e1;have hux:u=x:=h2.1;subst hux;have hq:=hnone (.h g c p u) (by simp) g c p u rfl
  obtain ⟨rfl,hn1⟩:=hq;obtain ⟨F1,η0,k1,k2,k3⟩:=back1 (d:=d) h (hp (.h g c [] u) (by simp)) h4 r1 hF.left (fun k b hb=>hd k b (by simp [hb]))
  have hbox:∀a∈l,∀c' p' x',a=.h g c' p' x'→o g≠.none:=fun a ha c' p' x' e hh=>by
   have:=hn1 hh a (by simp [ha]) c' p' x' e
   exact ha1 a ha g c' p' x' e (by rw [this])
  obtain ⟨F2,η,k4,k5⟩:=jn0 (us:=us') (S:=S2) k2 h3 h5 (jqt (fun a ha=>hp a (by simp [ha])) ha1 hbox) ha2 (fun a ha g' c' p' x' e=>by
   obtain ⟨e1,e2⟩:=hnone a (by simp [ha]) g' c' p' x' e
   refine ⟨e1,fun hh b hb c'' p'' x'' eb=>?_⟩
   by_cases hg:g'=g
   ·subst hg
    rw [if_pos rfl] at hh;exfalso;cases ho:o g'<;>rw [ho] at hh<;>cases hh
   ·rw [if_neg hg] at hh
    exact e2 hh b (by simp [hb]) c'' p'' x'' eb) r2 hF.right (fun k b hb hh=>by
   rcases k3 k b hh with h'|h'
   ·exact hd k b (by simp [hb]) h'
   ·exact hF.apart b h' hb)
  refine ⟨F2,fun i=>match i with|0=>η0|i+1=>η i,⟨k1,k4⟩,k5⟩
 |.v x::l,d::ds,us,S,o,F,h,⟨u,us',hu,h2,h3⟩,⟨h4,h5⟩,hp,ha,hnone,⟨v,vs',S1,S2,e1,e2,r1,r2⟩,hF,hd=>by
  subst hu e2;cases e1
  obtain ⟨F2,η,k4,k5⟩:=jn0 (us:=us') (S:=S2) h h3 h5 (fun a ha=>hp a (by simp [ha])) ha (fun a ha g' c' p' x' e=>by
   obtain ⟨e1,e2⟩:=hnone a (by simp [ha]) g' c' p' x' e
   exact ⟨e1,fun hh b hb=>e2 hh b (by simp [hb])⟩) r2 hF.right (fun k b hb=>hd k b (by simp [hb]))
  exact ⟨F2,fun i=>match i with|0=>fun _=>undef|i+1=>η i,k4,k5⟩
 |.ro _::_,_,_,_,_,_,_,_,h,_,_,_,_,_,_=>h.elim
 |.rp _::_,_,_,_,_,_,_,_,h,_,_,_,_,_,_=>h.elim
 |.bp _ _ _::_,_,_,_,_,_,_,_,h,_,_,_,_,_,_=>h.elim
 |.ep _ _ _ _ _::_,_,_,_,_,_,_,_,h,_,_,_,_,_,_=>h.elim
 |.un::_,_,_,_,_,_,_,_,h,_,_,_,_,_,_=>h.elim
 |.hs _ _ _ _ _ _ _::_,_,_,_,_,_,_,_,h,_,_,_,_,_,_=>h.elim
def NoPath:List A0→Prop
 |[]=>True
 |.h _ _ p _::l=>p=[]∧NoPath l
 |_::l=>NoPath l
theorem NoPath.all {l:List A0} (h:NoPath l):∀a∈l,∀g c p x,a=.h g c p x→p=[]:=by
 induction l with
 |nil=>intro a ha;cases ha
 |cons y l ih=>
  intro a ha g c p x e;rcases List.mem_cons.1 ha with ha|ha
  ·subst ha;subst e;exact h.1
  ·have h':NoPath l:=by cases y<;>first|exact h|exact h.2
   exact ih h' a ha g c p x e
theorem jqs {o:Nat→Ob} {l:List A0} (h:jhj o l) (hp:NoPath l):∀a∈l,∀g c p x,a=.h g c p x→p=[]∧(o g=.none→∀b∈l,∀c' p' x',b=.h g c' p' x'→c'=c):=by
 intro a ha g c p x e;refine ⟨hp.all a ha g c p x e,fun hn b hb c' p' x' e'=>?_⟩
 have h1:=h a ha;have h2:=h b hb;subst e e';rcases h1 with ⟨_,rfl⟩|⟨_,_,_,k,_⟩
 ·rcases h2 with ⟨_,rfl⟩|⟨_,_,_,k,_⟩
  ·rfl
  ·rw [hn] at k;cases k
 ·rw [hn] at k;cases k
theorem zt:∀{l:List A0} {s:St} {K:List Cell→St→Prop},kL s l K→kL (.only s.o) l fun cs s1=>K cs ⟨s.t,s1.o⟩
 |[],s,K,hk=>hk
 |.h g c p x::l,s,K,⟨h1,d,η,h2,h3,h4⟩=>⟨h1,d,η,h2,h3,zt h4⟩
 |.v _::l,s,K,⟨h1,h2⟩=>⟨h1,zt h2⟩
 |.ro _::l,s,K,⟨h1,h2⟩=>⟨h1,zt h2⟩
 |.rp _::l,s,K,⟨h1,h2⟩=>⟨h1,zt h2⟩
 |.bp _ _ _::l,s,K,⟨h1,h2⟩=>⟨h1,zt h2⟩
 |.ep _ _ _ _ _::l,s,K,⟨h1,h2⟩=>⟨h1,zt h2⟩
 |.un::l,s,K,⟨h1,h2⟩=>⟨h1,zt h2⟩
 |.hs _ _ _ _ _ _ _::l,s,K,⟨h1,h2⟩=>⟨h1,zt h2⟩
theorem joX {l:List A0} {ds ds':List D} {us:List Value} {v r:Value} {args:Array Value} {Kr:(Nat→Ob)→Prop} (hal:jii l ds') (hap:jrr l) (hnp:NoPath l) (ho:RelF B w 0 (.only s.o) Act.bare w F) (hus:A0RelL B w l us)
 (hc:∀S,RepL w true ds us S→Fresh B S→Calls P f args w fun e w'=>e=.returned r∧RepL w' true ds' us S∧Only S w w') (hr:r.oneCell'=true)
 (hk:kL s l fun cs s1=>IsD cs ds∧∀η,zW l η→Kr (jif s1.o l ds' η)):
 Calls P f args w fun e w'=>∃v rt o' S F',e=.returned v∧RelF B w 0 (.only o') Act.bare w' F'∧jiN w' rt v S∧Fresh B S∧(∀g,∀b∈S,b∉F' g)∧(rt=.c (.val r)∧Kr o'):=by
 have hk2:=jfb (l0:=[]) (by intro a ha;cases ha) (zt hk)
 obtain ⟨cs,s1,S,F1,⟨⟨k1,k2⟩,k3⟩,k4,k5,k6,k7,_⟩:=jbf ho hus hk2;have hrep:=jkB k4 k1;have hB:B≤w.heap.size:=Nat.le_trans ho.hB ho.below.size;refine (hc S hrep k6).mono fun e w' ⟨he,hrep',hon⟩=>?_
 have hb:Below B w w':=hon.below k6.2 hB;have k5':RelF B w 0 s1 Act.bare w' F1:=k5.world' hb fun g b hb'=>hon.block b ((k5.ob g).lt b hb') fun hh=>k7 g b hh hb'
 have k5'':RelF B w 0 (.only s1.o) Act.bare w' F1:=⟨k5'.below,k5'.hB,rfl,rfl,fun _=>trivial,k5'.ob,k5'.fr,k5'.dj⟩
 have hus':A0RelL B w' l us:=hus.mono hb;obtain ⟨F2,η,m1,m2⟩:=jn0 k5'' hus' hal (by simpa using k3) hap (jqs (by simpa using k3) hnp) hrep' k6 (fun k b hb=>k7 k b hb)
 exact ⟨r,.c (.val r),_,[],F2,he,m2,⟨rfl,rfl⟩,Fresh.nil _,by simp,rfl,k2 η m1⟩
theorem jox {β:Nat} {d:Option Nat} {gd:Option (Nat×Bool)} {x y:X} {l:List A0} {ds ds':List D} {k r:Int} {K:St→Prop} (hn:jih P f)
 (hc:∀(B:Nat) (w:World) (v:Value) (S:List Nat),AggRep w true ds v S→Fresh B S→Calls P f #[v,.int .i64 k] w fun e w'=>e=.returned (.int .i64 r)∧AggRep w' true ds' v S∧Only S w w')
 (hx:s.ev x=.agg l) (hy:s.ev y=.c (.v (.int .i64 k))) (hal:jii l ds') (hap:jrr l) (hnp:NoPath l)
 (hk:kL s l fun cs s1=>IsD cs ds∧∀η,zW l η→K (St.put ⟨s.t,jif s1.o l ds' η⟩ d (.c (.v (.int .i64 r))))):
 vp P β ⟨d,gd,.call f [x,y]⟩ s K:=by
 refine jb3 (R:=fun rt o'=>rt=.c (.val (.int .i64 r))∧K (St.put ⟨s.t,o'⟩ d (.c (.v (.int .i64 r))))) ⟨hn,fun B w F xs ho hv=>?_⟩ (fun rt o' ⟨h1,h2⟩ η=>by subst h1;exact h2)
 simp only [List.map_cons,List.map_nil,hx,hy] at hv;obtain ⟨v,xs',rfl,⟨us,hve,hus⟩,hv2⟩:=hv;subst hve;obtain ⟨kv,xs'',rfl,hkv,hv3⟩:=hv2;obtain rfl:xs''=[]:=hv3;obtain rfl:kv=.int .i64 k:=hkv;refine joX (s:=s) (F:=F) (ds':=ds') (r:=.int .i64 r) (Kr:=fun o'=>K (St.put ⟨s.t,o'⟩ d (.c (.v (.int .i64 r))))) (v:=.agg us.toArray) hal hap hnp ho hus (fun S hrep hF=>?_) rfl hk
 refine (hc B w (.agg us.toArray) S ⟨us,rfl,hrep⟩ hF).mono fun e w' ⟨he,⟨us',e',hrep'⟩,hon⟩=>⟨he,?_,hon⟩
 have:us=us':=by simpa using e'
 subst this;exact hrep'
theorem jtg {β:Nat} {d:Option Nat} {gd:Option (Nat×Bool)} {x y:X} {a:A0} {dd dd':D} {k r:Int} {K:St→Prop} (hn:jih P f)
 (hc:∀(B:Nat) (w:World) (v:Value) (S:List Nat),Rep w true dd v S→Fresh B S→Calls P f #[v,.int .i64 k] w fun e w'=>e=.returned (.int .i64 r)∧Rep w' true dd' v S∧Only S w w')
 (hx:s.ev x=.c a) (hy:s.ev y=.c (.v (.int .i64 k))) (hal:jii [a] [dd']) (hap:jrr [a]) (hnp:NoPath [a])
 (hk:kL s [a] fun cs s1=>IsD cs [dd]∧∀η,zW [a] η→K (St.put ⟨s.t,jif s1.o [a] [dd'] η⟩ d (.c (.v (.int .i64 r))))):
 vp P β ⟨d,gd,.call f [x,y]⟩ s K:=by
 refine jb3 (R:=fun rt o'=>rt=.c (.val (.int .i64 r))∧K (St.put ⟨s.t,o'⟩ d (.c (.v (.int .i64 r))))) ⟨hn,fun B w F xs ho hv=>?_⟩ (fun rt o' ⟨h1,h2⟩ η=>by subst h1;exact h2)
 simp only [List.map_cons,List.map_nil,hx,hy] at hv;obtain ⟨v,xs',rfl,hva,hv2⟩:=hv;obtain ⟨kv,xs'',rfl,hkv,hv3⟩:=hv2;obtain rfl:xs''=[]:=hv3;obtain rfl:kv=.int .i64 k:=hkv;refine joX (s:=s) (F:=F) (ds:=[dd]) (ds':=[dd']) (us:=[v]) (r:=.int .i64 r) (Kr:=fun o'=>K (St.put ⟨s.t,o'⟩ d (.c (.v (.int .i64 r))))) (v:=v) hal hap hnp ho ⟨v,[],rfl,hva,rfl⟩ (fun S hrep hF=>?_) rfl hk
 obtain ⟨v1,vs',S1,S2,e1,rfl,h1,h2⟩:=hrep;cases e1;obtain rfl:S2=[]:=h2.2;simp only [List.append_nil] at hF⊢;refine (hc B w v S1 h1 hF).mono fun e w' ⟨he,hrep',hon⟩=>⟨he,?_,hon⟩
 have:=RepL.cons_ hrep' (RepL.nil_ (w:=w') (own:=true));simpa using this
end
def NoLoc (g c:Nat):List A0→Prop
 |[]=>True
 |.h g' c' _ _::l=>¬(g'=g∧c'=c)∧NoLoc g c l
 |_::l=>NoLoc g c l
def ApartN:List A0→Prop
 |[]=>True
 |.h g c _ _::l=>NoLoc g c l∧ApartN l
 |_::l=>ApartN l
theorem NoLoc.all {g c:Nat} {l:List A0} (h:NoLoc g c l):∀a∈l,∀g' c' p x,a=.h g' c' p x→(g',c')≠(g,c):=by
 induction l with
 |nil=>intro a ha;cases ha
 |cons y l ih=>
  intro a ha g' c' p x e;rcases List.mem_cons.1 ha with ha|ha
  ·subst ha;subst e
   intro e2;simp only [Prod.mk.injEq] at e2;exact h.1 e2
  ·have h':NoLoc g c l:=by cases y<;>first|exact h|exact h.2
   exact ih h' a ha g' c' p x e
theorem ApartN.apart:∀{l:List A0},ApartN l→jrr l
 |[],_=>trivial
 |.h _ _ _ _::_,h=>⟨h.1.all,ApartN.apart h.2⟩
 |.v _::l,h=>ApartN.apart (l:=l) h
 |.ro _::l,h=>ApartN.apart (l:=l) h
 |.rp _::l,h=>ApartN.apart (l:=l) h
 |.bp _ _ _::l,h=>ApartN.apart (l:=l) h
 |.ep _ _ _ _ _::l,h=>ApartN.apart (l:=l) h
 |.un::l,h=>ApartN.apart (l:=l) h
 |.hs _ _ _ _ _ _ _::l,h=>ApartN.apart (l:=l) h
def jwu (s:St) (d:Option Nat) (K:St→Prop) (l:List A0) (ds ds':List D) (r:Int):Prop:=(jii l ds'∧ApartN l∧NoPath l)∧kL s l fun cs s1=>IsD cs ds∧∀η,zW l η→K (St.put ⟨s.t,jif s1.o l ds' η⟩ d (.c (.v (.int .i64 r))))
def jCr (s:St) (d:Option Nat) (K:St→Prop) (ds ds':List D) (k r:Int) (x y:AV):Prop:=match x,y with
 |.agg l,.c (.v (.int .i64 k'))=>k'=k∧jwu s d K l ds ds' r
 |_,_=>False
def jCq (s:St) (d:Option Nat) (K:St→Prop) (dd dd':D) (k r:Int) (x y:AV):Prop:=match x,y with
 |.c a,.c (.v (.int .i64 k'))=>k'=k∧jwu s d K [a] [dd] [dd'] r
 |_,_=>False
section
variable {P:Program} {f:FuncId} {s:St} {β:Nat} {d:Option Nat} {gd:Option (Nat×Bool)} {x y:X} {k r:Int} {K:St→Prop}
theorem jnv {ds ds':List D} (hn:jih P f)
 (hc:∀(B:Nat) (w:World) (v:Value) (S:List Nat),AggRep w true ds v S→Fresh B S→Calls P f #[v,.int .i64 k] w fun e w'=>e=.returned (.int .i64 r)∧AggRep w' true ds' v S∧Only S w w')
 (h:jCr s d K ds ds' k r (s.ev x) (s.ev y)):vp P β ⟨d,gd,.call f [x,y]⟩ s K:=by
 unfold jCr at h;split at h
 ·rename_i l k' hx hy
  obtain ⟨rfl,⟨h1,h2,h3⟩,h4⟩:=h;exact jox hn hc hx hy h1 h2.apart h3 h4
 ·exact h.elim
theorem jAO {dd dd':D} (hn:jih P f)
 (hc:∀(B:Nat) (w:World) (v:Value) (S:List Nat),Rep w true dd v S→Fresh B S→Calls P f #[v,.int .i64 k] w fun e w'=>e=.returned (.int .i64 r)∧Rep w' true dd' v S∧Only S w w')
 (h:jCq s d K dd dd' k r (s.ev x) (s.ev y)):vp P β ⟨d,gd,.call f [x,y]⟩ s K:=by
 unfold jCq at h;split at h
 ·rename_i a k' hx hy
  obtain ⟨rfl,⟨h1,h2,h3⟩,h4⟩:=h;exact jtg hn hc hx hy h1 h2.apart h3 h4
 ·exact h.elim
theorem jFb (l:List A0) (ds ds':List D) (k':Int):jCr s d K ds ds' k r (.agg l) (.c (.v (.int .i64 k')))=(k'=k∧jwu s d K l ds ds' r):=(rfl)
theorem jFa (a:A0) (dd dd':D) (k':Int):jCq s d K dd dd' k r (.c a) (.c (.v (.int .i64 k')))=(k'=k∧jwu s d K [a] [dd] [dd'] r):=(rfl)
theorem jFc (l:List A0) (ds ds':List D):jwu s d K l ds ds' r=((jii l ds'∧ApartN l∧NoPath l)∧kL s l fun cs s1=>IsD cs ds∧∀η,zW l η→K (St.put ⟨s.t,jif s1.o l ds' η⟩ d (.c (.v (.int .i64 r))))):=(rfl)
end
theorem jDq (g c:Nat) (p:List Nat) (x:Value) (l:List A0) (d:D) (ds:List D):jii (.h g c p x::l) (d::ds)=(d.isSl=true∧jii l ds):=(rfl)
theorem jDo (x:Value) (l:List A0) (d:D) (ds:List D):jii (.v x::l) (d::ds)=(d=.val x∧jii l ds):=(rfl)
theorem jDp:jii [] []=True:=(rfl)
theorem jDm (g c:Nat) (p:List Nat) (x:Value) (l:List A0):ApartN (.h g c p x::l)=(NoLoc g c l∧ApartN l):=(rfl)
theorem jDk (x:Value) (l:List A0):ApartN (.v x::l)=ApartN l:=(rfl)
theorem jDl:ApartN []=True:=(rfl)
theorem jCl (g' c' g c:Nat) (p:List Nat) (x:Value) (l:List A0):NoLoc g' c' (.h g c p x::l)=(¬(g=g'∧c=c')∧NoLoc g' c' l):=(rfl)
theorem jCk (g' c':Nat):NoLoc g' c' []=True:=(rfl)
theorem jzn (g c:Nat) (p:List Nat) (x:Value) (l:List A0):NoPath (.h g c p x::l)=(p=[]∧NoPath l):=(rfl)
theorem jzl (x:Value) (l:List A0):NoPath (.v x::l)=NoPath l:=(rfl)
theorem jzm:NoPath []=True:=(rfl)
attribute [go_sem] jFb jFa jFc jDq jDo jDp jDm jDk jDl jCl jCk jzn jzl jzm and_false false_and
theorem jFY (o:Nat→Ob) (g c:Nat) (p:List Nat) (x:Value) (l:List A0) (d:D) (ds:List D) (η:Nat→jq):jif o (.h g c p x::l) (d::ds) η=jif (fun k=>if k=g then jiL (o g) c d (η 0) else o k) l ds fun i=>η (i+1):=(rfl)
theorem jFW (o:Nat→Ob) (x:Value) (l:List A0) (d:D) (ds:List D) (η:Nat→jq):jif o (.v x::l) (d::ds) η=jif o l ds fun i=>η (i+1):=(rfl)
theorem jFX (o:Nat→Ob) (η:Nat→jq):jif o [] [] η=o:=(rfl)
theorem jus (b ty:Nat) (cs:List Cell) (c:Nat) (d:D) (η:jq):jiL (.box b ty cs) c d η=.box b ty (cs.set c (.own d η)):=(rfl)
theorem jrm (c:Nat) (d:D) (η:jq):jiL .none c d η=.loose d η:=(rfl)
theorem jCQ (g c:Nat) (p:List Nat) (x:Value) (l:List A0) (η:Nat→jq):zW (.h g c p x::l) η=(η 0 []=x∧zW l fun i=>η (i+1)):=(rfl)
theorem jCO (x:Value) (l:List A0) (η:Nat→jq):zW (.v x::l) η=zW l fun i=>η (i+1):=(rfl)
theorem jCP (η:Nat→jq):zW [] η=True:=(rfl)
attribute [go_sem] jFY jFW jFX jus jrm jCQ jCO jCP
def jeA:jq
 |[]=>.slice none 0 0
 |_::_=>undef
def A0.sim:A0→A0→Prop
 |.v x,.v y=>x=y
 |.v x,.h _ _ _ y=>x=y∧x.oneCell'=true
 |.h _ _ _ x,.h _ _ _ y=>x=y
 |.bp _ c b,.bp _ c' b'=>c=c'∧b=b'
 |.ep _ _ _ i x,.ep _ _ _ i' x'=>i=i'∧x=x'
 |.hs _ _ _ x s l n,.hs _ _ _ y s' l' n'=>x=y∧s=s'∧l=l'∧n=n'
 |.ro d,.ro d'=>d=d'
 |.rp ds,.rp ds'=>ds=ds'
 |.un,.un=>True
 |_,_=>False
def simL:List A0→List A0→Prop
 |[],[]=>True
 |a::l,b::m=>a.sim b∧simL l m
 |_,_=>False
def AV.sim:AV→AV→Prop
 |.c a,.c b=>a.sim b
 |.agg l,.agg m=>simL l m
 |.fn f l,.fn f' m=>f=f'∧simL l m
 |.tup l,.tup m=>l=m
 |_,.unk=>True
 |_,_=>False
def Cell.sim:Cell→Cell→Prop
 |.a x,.a y=>x.sim y
 |.own d η,.own d' η'=>d=d'∧η=η'
 |.a (.v x),.own d η=>x=.slice none 0 0∧d.isSl=true∧d.cells=[]∧η=jeA
 |_,_=>False
def simC:List Cell→List Cell→Prop
 |[],[]=>True
 |a::l,b::m=>a.sim b∧simC l m
 |_,_=>False
def Ob.sim:Ob→Ob→Prop
 |.loose d η,.loose d' η'=>d=d'∧η=η'
 |.box b ty cs,.box b' ty' cs'=>b=b'∧ty=ty'∧simC cs cs'
 |.none,.none=>True
 |_,_=>False
def nilOb:Ob→Prop
 |.loose d η=>d.isSl=true∧d.cells=[]∧η=jeA
 |_=>False
def lkT:List (Nat×AV)→Nat→AV
 |[],_=>.unk
 |(k,v)::T,n=>if n=k then v else lkT T n
def lkO:List (Nat×Ob)→Nat→Ob
 |[],_=>.none
 |(k,v)::T,n=>if n=k then v else lkO T n
def St.of (T:List (Nat×AV)) (O:List (Nat×Ob)):St:=⟨lkT T,lkO O⟩
def jAW (s:St):List (Nat×AV)→Prop
 |[]=>True
 |(n,v)::T=>(s.t n).sim v∧jAW s T
def jsp (s:St):List (Option Nat)→List (Nat×Ob)→Prop
 |[],[]=>True
 |some k::ks,(_,ob)::O=>(s.o k).sim ob∧jsp s ks O
 |none::ks,(_,ob)::O=>nilOb ob∧jsp s ks O
 |_,_=>False
def fp (F:Nat→List Nat):List (Option Nat)→List (Nat×Ob)→Nat→List Nat
 |k::ks,(g',_)::O,g=>if g=g' then (match k with|some k=>F k|none=>[]) else fp F ks O g
 |_,_,_=>[]
def js2:List (Option Nat)→List Nat
 |[]=>[]
 |some k::ks=>k::js2 ks
 |none::ks=>js2 ks
def jlj:List Nat→Bool
 |[]=>true
 |k::ks=>!ks.contains k&&jlj ks
section
variable {B N:Nat} {w0 w:World} {s:St} {a:Act} {F:Nat→List Nat}
theorem A0.sim.rel:∀{a b:A0} {u:Value},a.sim b→A0Rel B w a u→A0Rel B w b u
 |.v x,.v y,u,hh,hr=>by rw [show x=y from hh] at hr;exact hr
 |.v x,.h _ _ _ y,u,hh,hr=>by obtain ⟨h1,h2⟩:=hh;subst h1;exact ⟨hr,h2⟩
 |.h _ _ _ x,.h _ _ _ y,u,hh,hr=>by rw [show x=y from hh] at hr;exact hr
 |.bp _ c b,.bp _ c' b',u,hh,hr=>by obtain ⟨h1,h2⟩:=hh;subst h1 h2;exact hr
 |.ep _ _ _ i x,.ep _ _ _ i' x',u,hh,hr=>by obtain ⟨h1,h2⟩:=hh;subst h1 h2;exact hr
 |.hs _ _ _ x s l n,.hs _ _ _ y s' l' n',u,hh,hr=>by obtain ⟨h1,h2,h3,h4⟩:=hh;subst h1 h2 h3 h4;exact hr
 |.ro d,.ro d',u,hh,hr=>by rw [show d=d' from hh] at hr;exact hr
 |.rp ds,.rp ds',u,hh,hr=>by rw [show ds=ds' from hh] at hr;exact hr
 |.un,.un,_,_,hr=>hr
theorem simL.rel:∀{l m:List A0} {us:List Value},simL l m→A0RelL B w l us→A0RelL B w m us
 |[],[],_,_,hr=>hr
 |_::_,_::_,_,⟨h1,h2⟩,⟨u,us',e,h3,h4⟩=>⟨u,us',e,h1.rel h3,h2.rel h4⟩
theorem AV.sim.rel {v v':AV} {u:Value} (h:v.sim v') (hr:VRel B w v u):VRel B w v' u:=by
 cases v' with
 |unk=>trivial
 |c b=>cases v<;>first|exact A0.sim.rel h hr|exact h.elim
 |agg m=>cases v<;>first|(obtain ⟨us,e,h1⟩:=hr;exact ⟨us,e,simL.rel h h1⟩)|exact h.elim
 |fn f m=>cases v<;>first|(obtain ⟨us,e,h1⟩:=hr;obtain ⟨rfl,h2⟩:=h;exact ⟨us,e,h2.rel h1⟩)|exact h.elim
 |tup m=>cases v<;>first|(rw [show _=m from h] at hr;exact hr)|exact h.elim
theorem jwp {d:D} (hs:d.isSl=true) (hc:d.cells=[]):(∃size ty,d=.sl size ty [])∧∀p,jeA p=hdr w p d (.slice none 0 0):=by
 cases d with
 |val u=>cases hs
 |sl size ty cs=>
  obtain rfl:cs=[]:=hc;exact ⟨⟨_,_,rfl⟩,fun p=>by cases p<;>rfl⟩
theorem simC.rel:∀{cs cs':List Cell} {us:List Value} {S:List Nat},simC cs cs'→CRel B w cs us S→CRel B w cs' us S
 |[],[],_,_,_,hr=>hr
 |.a x::l,.a y::m,_,_,⟨h1,h2⟩,⟨u,us',e,h3,h4⟩=>⟨u,us',e,A0.sim.rel h1 h3,h2.rel h4⟩
 |.own d η::l,.own d' η'::m,_,_,⟨⟨h1,h1'⟩,h2⟩,⟨u,us',S1,S2,e,e',h3,h4,h5,h6⟩=>by
  subst h1 h1';exact ⟨u,us',S1,S2,e,e',h3,h4,h5,h2.rel h6⟩
 |.a (.v x)::l,.own d η::m,_,S,⟨⟨h1,h2,h3,h4⟩,h5⟩,⟨u,us',e,h6,h7⟩=>by
  subst h1 h4;obtain ⟨⟨size,ty,rfl⟩,k2⟩:=jwp (w:=w) h2 h3;refine ⟨u,us',[],S,e,rfl,h2,?_,fun p=>?_,h5.rel h7⟩
  ·rw [show u=_ from h6];exact Rep.nil_ w size ty
  ·rw [show u=_ from h6];exact k2 p
theorem Ob.sim.rel {ob ob':Ob} {S:List Nat} (h:ob.sim ob') (hr:ORel B w ob S):ORel B w ob' S:=by
 cases ob<;>cases ob'<;>first|exact h.elim|skip
 ·exact hr
 ·obtain ⟨rfl,rfl⟩:=h;exact hr
 ·obtain ⟨rfl,rfl,h⟩:=h;obtain ⟨us,S1,h1,h2,h3⟩:=hr;exact ⟨us,S1,h1,h.rel h2,h3⟩
theorem nilOb.rel {ob:Ob} (h:nilOb ob):ORel B w ob []:=by
 cases ob with
 |loose d η=>
  obtain ⟨h1,h2,rfl⟩:=h;obtain ⟨⟨size,ty,rfl⟩,k2⟩:=jwp (w:=w) h1 h2;exact ⟨h1,_,Rep.nil_ w size ty,k2⟩
 |_=>exact h.elim
theorem jgf:∀{ks:List (Option Nat)} {O:List (Nat×Ob)} {g b:Nat},b∈fp F ks O g→∃k∈js2 ks,b∈F k
 |[],_,_,_,h=>by simp [fp] at h
 |_::_,[],_,_,h=>by simp [fp] at h
 |k::ks,(g',ob)::O,g,b,h=>by
  simp only [fp] at h;split at h
  ·cases k with
   |some k=>exact ⟨k,by simp [js2],h⟩
   |none=>simp at h
  ·obtain ⟨k',h1,h2⟩:=jgf h
   exact ⟨k',by cases k<;>simp [js2,h1],h2⟩
theorem jcm:∀{l:List Nat},jlj l=true→l.Nodup
 |[],_=>List.nodup_nil
 |k::l,h=>by
  simp only [jlj,Bool.and_eq_true,Bool.not_eq_true',List.contains_eq_mem,decide_eq_false_iff_not] at h;exact List.nodup_cons.2 ⟨h.1,jcm h.2⟩
theorem jzM (hdj:∀g g',g≠g'→∀b∈F g,b∉F g'):∀{ks:List (Option Nat)} {O:List (Nat×Ob)},(js2 ks).Nodup→∀g g',g≠g'→∀b∈fp F ks O g,b∉fp F ks O g'
 |[],_,_,_,_,_,b,h=>by simp [fp] at h
 |_::_,[],_,_,_,_,b,h=>by simp [fp] at h
 |k::ks,(g0,ob)::O,hn,g,g',hne,b,h=>by
  have hn':(js2 ks).Nodup:=by cases k with
   |none=>exact hn
   |some k=>exact (List.nodup_cons.1 hn).2
  have key:∀{g g':Nat},g=g0→g'≠g0→b∈fp F (k::ks) ((g0,ob)::O) g→b∉fp F (k::ks) ((g0,ob)::O) g':=by
   intro g g' e hne' h h';simp only [fp,if_pos e] at h;simp only [fp,if_neg hne'] at h';cases k with
   |none=>simp at h
   |some k=>
    obtain ⟨k',h1,h2⟩:=jgf h';have:k≠k':=fun e=>(List.nodup_cons.1 hn).1 (by rw [e];exact h1)
    exact hdj _ _ this b h h2
  by_cases e:g=g0
  ·exact key e (fun e'=>hne (e.trans e'.symm)) h
  ·by_cases e':g'=g0
   ·exact fun h'=>key e' e h' h
   ·simp only [fp,if_neg e] at h
    simp only [fp,if_neg e'];exact jzM hdj hn' g g' hne b h
theorem jwW (h:∀g,ORel B w (s.o g) (F g)):∀{ks:List (Option Nat)} {O:List (Nat×Ob)},jsp s ks O→∀g,ORel B w (lkO O g) (fp F ks O g)
 |[],[],_,_=>rfl
 |[],_::_,hf,_=>hf.elim
 |some _::_,[],hf,_=>hf.elim
 |none::_,[],hf,_=>hf.elim
 |some k::ks,(g',ob)::O,⟨h1,h2⟩,g=>by
  simp only [lkO,fp];by_cases e:g=g'
  ·rw [if_pos e,if_pos e];exact h1.rel (h k)
  ·rw [if_neg e,if_neg e];exact jwW h h2 g
 |none::ks,(g',ob)::O,⟨h1,h2⟩,g=>by
  simp only [lkO,fp];by_cases e:g=g'
  ·rw [if_pos e,if_pos e];exact h1.rel
  ·rw [if_neg e,if_neg e];exact jwW h h2 g
theorem jzL (h:∀g,Fresh B (F g)):∀(ks:List (Option Nat)) (O:List (Nat×Ob)) (g:Nat),Fresh B (fp F ks O g)
 |[],_,_=>Fresh.nil _
 |_::_,[],_=>Fresh.nil _
 |k::ks,(g',ob)::O,g=>by
  simp only [fp];split
  ·cases k with
   |some k=>exact h k
   |none=>exact Fresh.nil _
  ·exact jzL h ks O g
theorem jzP (h:∀n,VRel B w (s.t n) (a.tmps.getD n undef)):∀{T:List (Nat×AV)},jAW s T→∀n,VRel B w (lkT T n) (a.tmps.getD n undef)
 |[],_,_=>trivial
 |(k,v)::T,⟨h1,h2⟩,n=>by
  simp only [lkT];by_cases e:n=k
  ·rw [if_pos e];subst e;exact h1.rel (h n)
  ·rw [if_neg e];exact jzP h h2 n
theorem ji (ks:List (Option Nat)) {T:List (Nat×AV)} {O:List (Nat×Ob)} (h:jAW s T∧jsp s ks O) (hn:jlj (js2 ks)=true:=by decide):Wk s (St.of T O):=
 fun B N w0 w a F hr=>⟨fp F ks O,⟨hr.below,hr.hB,hr.df,hr.sz,jzP hr.sl h.1,jwW hr.ob h.2,jzL hr.fr ks O,jzM hr.dj (jcm hn)⟩,
  fun g b hb=>by obtain ⟨k,_,h2⟩:=jgf hb;exact ⟨k,h2⟩⟩
theorem Wk.trans {s1 s2 s3:St} (h:Wk s1 s2) (h':Wk s2 s3):Wk s1 s3:=fun B N w0 w a F hr=>by
 obtain ⟨F1,h1,h2⟩:=h _ _ _ _ _ _ hr;obtain ⟨F2,h3,h4⟩:=h' _ _ _ _ _ _ h1;refine ⟨F2,h3,fun g b hb=>?_⟩
 obtain ⟨g1,hb1⟩:=h4 g b hb;exact h2 g1 b hb1
end
section
variable {P:Program} {β:Nat} {s:St} {Q:Ex→St→Prop}
theorem jp {ι:Type} {a:C} (mk:ι→St) (J:ι→Prop) (μ:ι→Nat) (i0:ι) (h0:J i0) (hw:Wk s (mk i0)) (hr:∀i,J i→wpC P β a (Ex.thn (fun s'=>∃i',J i'∧Wk s' (mk i')∧μ i'<μ i) Q) (mk i)):wpC P β (.loop a) Q s:=⟨ι,mk,J,μ,⟨i0,h0,hw⟩,hr⟩
theorem wp_gh {a:C} (s':St) (h:Wk s s') (hk:wpC P β a Q s'):wpC P β (.gh a) Q s:=fun _ _ _ _ _ _ hr=>let ⟨F',h1,_⟩:=h _ _ _ _ _ _ hr;⟨s',F',h1,hk⟩
end
section
variable {s:St}
theorem of_t (T:List (Nat×AV)) (O:List (Nat×Ob)) (n:Nat):(St.of T O).t n=lkT T n:=(rfl)
theorem of_o (T:List (Nat×AV)) (O:List (Nat×Ob)) (n:Nat):(St.of T O).o n=lkO O n:=(rfl)
theorem jzt (k n:Nat) (v:AV) (T:List (Nat×AV)):lkT ((k,v)::T) n=if n=k then v else lkT T n:=(rfl)
theorem jCv (n:Nat):lkO [] n=.none:=(rfl)
theorem jzu (k n:Nat) (v:Ob) (T:List (Nat×Ob)):lkO ((k,v)::T) n=if n=k then v else lkO T n:=(rfl)
theorem jzQ:jAW s []=True:=(rfl)
theorem jw1 (n:Nat) (v:AV) (T:List (Nat×AV)):jAW s ((n,v)::T)=((s.t n).sim v∧jAW s T):=(rfl)
theorem jzR:jsp s [] []=True:=(rfl)
theorem jFv (k g:Nat) (ob:Ob) (ks:List (Option Nat)) (O:List (Nat×Ob)):jsp s (some k::ks) ((g,ob)::O)=((s.o k).sim ob∧jsp s ks O):=(rfl)
theorem jFw (g:Nat) (ob:Ob) (ks:List (Option Nat)) (O:List (Nat×Ob)):jsp s (none::ks) ((g,ob)::O)=(nilOb ob∧jsp s ks O):=(rfl)
theorem jE7 (d:D) (η:jq):nilOb (.loose d η)=(d.isSl=true∧d.cells=[]∧η=jeA):=(rfl)
theorem nilH_:jeA []=.slice none 0 0:=(rfl)
theorem sim_c (a b:A0):AV.sim (.c a) (.c b)=a.sim b:=(rfl)
theorem jBB (l m:List A0):AV.sim (.agg l) (.agg m)=simL l m:=(rfl)
theorem jDY (f f':Nat) (l m:List A0):AV.sim (.fn f l) (.fn f' m)=(f=f'∧simL l m):=(rfl)
theorem jyJ:simL [] []=True:=(rfl)
theorem jvq (a b:A0) (l m:List A0):simL (a::l) (b::m)=(a.sim b∧simL l m):=(rfl)
theorem sim_v (x y:Value):A0.sim (.v x) (.v y)=(x=y):=(rfl)
theorem jDU (x y:Value) (g c:Nat) (p:List Nat):A0.sim (.v x) (.h g c p y)=(x=y∧x.oneCell'=true):=(rfl)
theorem sim_h (x y:Value) (g c g' c':Nat) (p p':List Nat):A0.sim (.h g c p x) (.h g' c' p' y)=(x=y):=(rfl)
theorem jD0 (g c b g' c' b':Nat):A0.sim (.bp g c b) (.bp g' c' b')=(c=c'∧b=b'):=(rfl)
theorem jDZ (g c i g' c' i':Nat) (p p':List Nat) (x x':Value):A0.sim (.ep g c p i x) (.ep g' c' p' i' x')=(i=i'∧x=x'):=(rfl)
theorem jDX (g c g' c' sz lo n sz' lo' n':Nat) (p p':List Nat) (x x':Value):A0.sim (.hs g c p x sz lo n) (.hs g' c' p' x' sz' lo' n')=(x=x'∧sz=sz'∧lo=lo'∧n=n'):=(rfl)
theorem jDW (d d':D):A0.sim (.ro d) (.ro d')=(d=d'):=(rfl)
theorem jDV (d d':List D):A0.sim (.rp d) (.rp d')=(d=d'):=(rfl)
theorem jDT (x y:A0):Cell.sim (.a x) (.a y)=x.sim y:=by cases x<;>rfl
theorem jyH (d d':D) (η η':jq):Cell.sim (.own d η) (.own d' η')=(d=d'∧η=η'):=(rfl)
theorem jyI (x:Value) (d:D) (η:jq):Cell.sim (.a (.v x)) (.own d η)=(x=.slice none 0 0∧d.isSl=true∧d.cells=[]∧η=jeA):=(rfl)
theorem jyK:simC [] []=True:=(rfl)
theorem jvr (a b:Cell) (l m:List Cell):simC (a::l) (b::m)=(a.sim b∧simC l m):=(rfl)
theorem jD1 (d d':D) (η η':jq):Ob.sim (.loose d η) (.loose d' η')=(d=d'∧η=η'):=(rfl)
theorem jD2 (b ty b' ty':Nat) (cs cs':List Cell):Ob.sim (.box b ty cs) (.box b' ty' cs')=(b=b'∧ty=ty'∧simC cs cs'):=(rfl)
end
attribute [go_sem] of_t of_o jzt jCv jzu jzQ jw1 jzR jFv jFw jE7 nilH_ sim_c jBB jDY jyJ jvq sim_v jDU sim_h jD0 jDZ jDX jDW jDV jDT jyH jyI jyK jvr jD1 jD2
section
variable {P:Program} {β:Nat} {s:St}
theorem jqQ (l:List Int):(jh l).len=l.length:=jaf (enc:=fun n=>[iv n]) (fun _=>rfl) (by decide) _ _
theorem jak {l:List Int} {k:Nat} {x:Int} (h:l[k]?=some x):(jh l).elem k=[iv x]:=za (enc:=fun n=>[iv n]) (fun _=>rfl) h
theorem js3 (l:List Int):(jh l).isSl=true:=(rfl)
theorem jsX (l:List Int):(jh l).size=1:=(rfl)
theorem jtk (l:List Int):(jh l).toRo=.ro (jh l):=(rfl)
theorem jqI (l:List Int) (g:Nat) (η:jq):(jh l).obj g η=[(g,.loose (jh l) η)]:=(rfl)
theorem jqD (l:List Int) (g c:Nat) (p:List Nat) (η:jq):(jh l).toOwn g c p η=.h g c p (η p):=(rfl)
theorem jnW (l:List Int):(jh l).cells=l.flatMap (fun n=>[iv n]):=(rfl)
theorem jtV (l:List Ed):(ju l).len=l.length:=jaf (enc:=jJ) (fun _=>rfl) (by decide) _ _
theorem jA {l:List Ed} {k:Nat} {x:Ed} (h:l[k]?=some x):(ju l).elem k=jJ x:=za (enc:=jJ) (fun _=>rfl) h
theorem jvn (l:List Ed):(ju l).isSl=true:=(rfl)
theorem ju6 (l:List Ed):(ju l).size=2:=(rfl)
theorem jtH (l:List Ed) (g:Nat) (η:jq):(ju l).obj g η=[(g,.loose (ju l) η)]:=(rfl)
theorem jtz (l:List Ed) (g c:Nat) (p:List Nat) (η:jq):(ju l).toOwn g c p η=.h g c p (η p):=(rfl)
theorem jpF (l:List Ed):(ju l).cells=l.flatMap (jJ):=(rfl)
theorem jtG (l:List En) (g:Nat) (η:jq):(jk l).obj g η=[(g,.loose (jk l) η)]:=(rfl)
theorem jty (l:List En) (g c:Nat) (p:List Nat) (η:jq):(jk l).toOwn g c p η=.h g c p (η p):=(rfl)
theorem jpE (l:List En):(jk l).cells=l.flatMap (jf):=(rfl)
theorem jtC (l:List Tk) (g:Nat) (η:jq):(jy l).obj g η=[(g,.loose (jy l) η)]:=(rfl)
theorem jtu (l:List Tk) (g c:Nat) (p:List Nat) (η:jq):(jy l).toOwn g c p η=.h g c p (η p):=(rfl)
theorem jpA (l:List Tk):(jy l).cells=l.flatMap (jo):=(rfl)
theorem jtE (l:List Rn) (g:Nat) (η:jq):(jN l).obj g η=[(g,.loose (jN l) η)]:=(rfl)
theorem jtw (l:List Rn) (g c:Nat) (p:List Nat) (η:jq):(jN l).toOwn g c p η=.h g c p (η p):=(rfl)
theorem jpC (l:List Rn):(jN l).cells=l.flatMap (jd):=(rfl)
theorem jwo (l:List (List En)) (g:Nat) (η:jq):(kj l).obj g η=[(g,.loose (kj l) η)]:=(rfl)
theorem jwj (l:List (List En)) (g c:Nat) (p:List Nat) (η:jq):(kj l).toOwn g c p η=.h g c p (η p):=(rfl)
theorem jrh (l:List (List En)):(kj l).cells=l.flatMap (fun es=>[jk es]):=(rfl)
theorem jtW (l:List Dd):(qp l).len=l.length:=jaf (enc:=jg) (fun _=>rfl) (by decide) _ _
theorem jcf {l:List Dd} {k:Nat} {x:Dd} (h:l[k]?=some x):(qp l).elem k=jg x:=za (enc:=jg) (fun _=>rfl) h
theorem jvo (l:List Dd):(qp l).isSl=true:=(rfl)
theorem ju7 (l:List Dd):(qp l).size=11:=(rfl)
theorem jvO (l:List Dd):(qp l).toRo=.ro (qp l):=(rfl)
theorem jtI (l:List Dd) (g:Nat) (η:jq):(qp l).obj g η=[(g,.loose (qp l) η)]:=(rfl)
theorem jtA (l:List Dd) (g c:Nat) (p:List Nat) (η:jq):(qp l).toOwn g c p η=.h g c p (η p):=(rfl)
theorem jqc (l:List Int) (e:Nat) (k:List D→Prop):slK (jh l) e 1 k=(jfc=e∧k (l.flatMap (fun n=>[iv n]))):=by rw [show jh l=.sl 1 jfc (l.flatMap (fun n=>[iv n])) from rfl,jx5];simp
theorem jrg (l:List Int):(l.flatMap (fun n=>[iv n])).length/1=l.length:=by rw [jM (enc:=fun n=>[iv n]) (size:=1) (fun _=>rfl)];exact Nat.mul_div_cancel _ (by decide)
theorem jgh (l:List Int):jY (l.flatMap (fun n=>[iv n]))=true:=by
 induction l with
 |nil=>rfl
 |cons x l ih=>rw [List.flatMap_cons,zb,ih];rfl
theorem js9 (l:List Ed) (e:Nat) (k:List D→Prop):slK (ju l) e 2 k=(tEd=e∧k (l.flatMap (jJ))):=by rw [show ju l=.sl 2 tEd (l.flatMap (jJ)) from rfl,jx5];simp
theorem jkH (l:List Ed):D.sl 2 tEd (l.flatMap (jJ))=ju l:=rfl
theorem jum (l:List Ed):(l.flatMap (jJ)).length/2=l.length:=by rw [jM (enc:=jJ) (size:=2) (fun _=>rfl)];exact Nat.mul_div_cancel _ (by decide)
theorem jaM:D.sl 2 tEd []=ju []:=rfl
theorem jux (l:List Ed) (x:Ed):D.sl 2 tEd (l.flatMap (jJ)++(jJ) x)=ju (l++[x]):=by simp [ju]
theorem jps (l:List Ed):jY (l.flatMap (jJ))=true:=by
 induction l with
 |nil=>rfl
 |cons x l ih=>rw [List.flatMap_cons,zb,ih];rfl
theorem jnN (l:List Ed) (r:List D):jY (ju l::r)=false:=(rfl)
theorem jqH (l:List Ed) (r:List D):jlo (ju l::r)=jlo r:=(rfl)
theorem js8 (l:List En) (e:Nat) (k:List D→Prop):slK (jk l) e 4 k=(tEn=e∧k (l.flatMap (jf))):=by rw [show jk l=.sl 4 tEn (l.flatMap (jf)) from rfl,jx5];simp
theorem jq7 (l:List En):D.sl 4 tEn (l.flatMap (jf))=jk l:=rfl
theorem jul (l:List En):(l.flatMap (jf)).length/4=l.length:=by rw [jM (enc:=jf) (size:=4) (fun _=>rfl)];exact Nat.mul_div_cancel _ (by decide)
theorem zk:D.sl 4 tEn []=jk []:=rfl
theorem juw (l:List En) (x:En):D.sl 4 tEn (l.flatMap (jf)++(jf) x)=jk (l++[x]):=by simp [jk]
theorem jbl (l:List En):jY (l.flatMap (jf))=true:=by
 induction l with
 |nil=>rfl
 |cons x l ih=>rw [List.flatMap_cons,zb,ih];rfl
theorem jnM (l:List En) (r:List D):jY (jk l::r)=false:=(rfl)
theorem jqG (l:List En) (r:List D):jlo (jk l::r)=jlo r:=(rfl)
theorem js4 (l:List Tk) (e:Nat) (k:List D→Prop):slK (jy l) e 4 k=(tTk=e∧k (l.flatMap (jo))):=by rw [show jy l=.sl 4 tTk (l.flatMap (jo)) from rfl,jx5];simp
theorem juh (l:List Tk):(l.flatMap (jo)).length/4=l.length:=by rw [jM (enc:=jo) (size:=4) (fun _=>rfl)];exact Nat.mul_div_cancel _ (by decide)
theorem jbM:D.sl 4 tTk []=jy []:=rfl
theorem juv (l:List Tk) (x:Tk):D.sl 4 tTk (l.flatMap (jo)++(jo) x)=jy (l++[x]):=by simp [jy]
theorem jix (l:List Tk):jY (l.flatMap (jo))=true:=by
 induction l with
 |nil=>rfl
 |cons x l ih=>rw [List.flatMap_cons,zb,ih];rfl
theorem jqF (l:List Tk) (r:List D):jlo (jy l::r)=jlo r:=(rfl)
theorem js6 (l:List Rn) (e:Nat) (k:List D→Prop):slK (jN l) e 8 k=(tRn=e∧k (l.flatMap (jd))):=by rw [show jN l=.sl 8 tRn (l.flatMap (jd)) from rfl,jx5];simp
theorem juj (l:List Rn):(l.flatMap (jd)).length/8=l.length:=by rw [jM (enc:=jd) (size:=8) (fun _=>rfl)];exact Nat.mul_div_cancel _ (by decide)
theorem jv:D.sl 8 tRn []=jN []:=rfl
theorem jvp (l:List (List En)) (e:Nat) (k:List D→Prop):slK (kj l) e 1 k=(jn2=e∧k (l.flatMap (fun es=>[jk es]))):=by rw [show kj l=.sl 1 jn2 (l.flatMap (fun es=>[jk es])) from rfl,jx5];simp
theorem jxp (l:List (List En)):(l.flatMap (fun es=>[jk es])).length/1=l.length:=by rw [jM (enc:=fun es=>[jk es]) (size:=1) (fun _=>rfl)];exact Nat.mul_div_cancel _ (by decide)
theorem jH:D.sl 1 jn2 []=kj []:=rfl
theorem jE0 (u:Value) (l:List D):jlo (.val u::l)=(u.oneCell'&&jlo l):=(rfl)
theorem jzg:jlo []=true:=(rfl)
theorem jph (l:List Cell) (ds:List D):IsD (.a (.v (.slice none 0 0))::l) (jh []::ds)=IsD l ds:=jga l _ _ ds
theorem jqW (l:List Cell) (ds:List D):IsD (.a (.v (.slice none 0 0))::l) (jk []::ds)=IsD l ds:=jga l _ _ ds
theorem jqV (l:List Cell) (ds:List D):IsD (.a (.v (.slice none 0 0))::l) (jN []::ds)=IsD l ds:=jga l _ _ ds
theorem jt3 (l:List Cell) (ds:List D):IsD (.a (.v (.slice none 0 0))::l) (kj []::ds)=IsD l ds:=jga l _ _ ds
theorem jt2:Is s (.v (.slice none 0 0)) (ju [])=True:=jAQ _ _
theorem jmp (l:List Int) (a b:Int):D.sl 1 jfc (l.flatMap (fun n=>[iv n])++[iv a,iv b])=jh (l++[a,b]):=by simp [jh]
theorem jn {l:List Int} {k:Nat} {x:Int} (h:l[k]?=some x):((l.flatMap (fun n=>[iv n])).drop (k*1)).take 1=[iv x]:=jak h
theorem jm {l:List Int} {k:Nat} (h:k<l.length):k*1+1≤(l.flatMap (fun n=>[iv n])).length:=by rw [jM (enc:=fun n=>[iv n]) (size:=1) (fun _=>rfl)];omega
theorem jbq {l:List (List En)} {k:Nat} {x:List En} (h:l[k]?=some x):((l.flatMap (fun es=>[jk es])).drop (k*1)).take 1=[jk x]:=kY h
theorem jaJ {l:List (List En)} {k:Nat} (h:k<l.length):k*1+1≤(l.flatMap (fun es=>[jk es])).length:=by rw [jM (enc:=fun es=>[jk es]) (size:=1) (fun _=>rfl)];omega
theorem jCt (g c:Nat) (p:List Nat) (η:jq) (i:Nat) (v:Value) (l:List D):jhG g c p η i (.val v::l)=.v v::jhG g c p η (i+1) l:=(rfl)
theorem jCu (g c:Nat) (p:List Nat) (η:jq) (i:Nat):jhG g c p η i []=[]:=(rfl)
end
attribute [go_sem] jCt jCu jt2 jph jqW jqV jt3 jgh jqc jrg jnW jps js9 jum jpF jnN jqH jbl js8 jul jpE jnM jqG jix js4 juh jpA jqF js6 juj jpC jvp jxp jrh jE0 jzg Bool.and_false Bool.false_and Bool.and_true Bool.true_and jqQ js3 jsX jtk jqI jqD jtV jvn ju6 jvN jtH jtz jtU jvm ju5 jvM jtG jty jtR jvi ju1 jvJ jtC jtu jd0 jvk ju3 jvL jtE jtw jkx jyG jyv jyT jwo jwj jtW jvo ju7 jvO jtI jtA
abbrev Ni (n:Int):AV:=.c (.v (.int .i64 n))
abbrev Hd (g:Nat) (η:jq):AV:=.c (.h g 0 [] (η []))
abbrev Bx (g b:Nat):AV:=.c (.bp g 0 b)
abbrev Ro (d:D):AV:=.c (.ro d)
abbrev Bi (b ty:Nat) (ds:List D):Ob:=.box b ty (ds.map fun x=>.a x.toRo)
theorem jzO (s t:Nat) (cs l:List D):jY (.sl s t cs::l)=false:=(rfl)
theorem jCi (s t:Nat) (cs l:List D):jlo (.sl s t cs::l)=jlo l:=(rfl)
attribute [go_sem] jzO jCi
theorem jFE {P:Program} {ty:Nat} {xs ys:List Value} {b:Bool} (h:∀w,(Op.equalIn 10000 ty (.agg xs.toArray) (.agg ys.toArray)).run P w=.ok b w) (hg:P.eqGuardType P.depth ty=false):EqR P .eql ty xs ys b:=fun w=>⟨by rw [run_eql_struct,h w];rfl,fun x y=>run_eqGuard_agg _ _ _ _ _ _ _ hg⟩
theorem w_any:Nonempty World:=⟨default⟩
theorem jAf {P:Program} {d:Option Nat} {s:St} {K:St→Prop} {op:BinOp} {ty:Nat} {l m:List A0} {xs ys:List Value} {b:Bool} (hx:jcO l=some xs) (hy:jcO m=some ys) (h:EqR P op ty xs ys b):jA8 P d s K op ty (.agg l) (.agg m)=K (s.put d (.c (.v (.bool b)))):=by
 apply propext
 constructor
 ·rintro ⟨av,(⟨_,_,_,h1,_⟩|⟨l',m',xs',ys',b',h1,h2,h3,h4,h5,rfl⟩),h6⟩
  ·cases h1
  ·cases h1;cases h2
   rw [hx] at h3;rw [hy] at h4;cases h3;cases h4;obtain ⟨w⟩:=w_any;have e1:=(h w).1;rw [(h5 w).1] at e1;simp at e1;subst e1;exact h6
 ·intro hk
  exact ⟨_,.inr ⟨l,m,xs,ys,b,rfl,rfl,hx,hy,h,rfl⟩,hk⟩
theorem jFF (w:World) (x y:Ed):(Op.equalIn 10000 253 (.agg #[.int .i64 x.src,.int .i64 x.dst]) (.agg #[.int .i64 y.src,.int .i64 y.dst])).run Tryz.prog w=.ok (decide (x=y)) w:=by
 have u3:=Tryz.underlying3;have a3:=Tryz.isAgg3;have z3:=Tryz.sizeOf3;rw [show (10000:Nat)=9999+1 from rfl,run_equalIn_agg w 9999 253 _ _ (by kernel_rfl) (by kernel_rfl)]
 simp only [Program.fieldsOf,Tryz.underlying253];obtain ⟨xsrc,xdst⟩:=x;obtain ⟨ysrc,ydst⟩:=y
 go_simp
 by_cases h0:xsrc=ysrc<;>by_cases h1:xdst=ydst<;>simp [h0,h1]
theorem jxI {d:Option Nat} {s:St} {K:St→Prop} (x y:Ed):jA8 Tryz.prog d s K .eql 253 (.agg [.v (.int .i64 x.src),.v (.int .i64 x.dst)]) (.agg [.v (.int .i64 y.src),.v (.int .i64 y.dst)])=K (s.put d (.c (.v (.bool (decide (x=y)))))):=jAf rfl rfl (jFE (fun w=>jFF w x y) (by kernel_rfl))
attribute [go_sem] jxI
def jeQ:C:=iS [iA 2 (iN 0)] (iS [iA 4 (iM 0),iA 5 (.call 144 [.t 4]),iA 3 (iM 5)] (.seq (iS [iA 6 (iM 3),iA 7 (.bin .eql 9 (.t 6) (.c (.string ⟨⟨[]⟩⟩)))] (iD 7 (iS [iA 2 (iN 0)] .ret) .skip)) (iS [iA 8 (iM 3),iA 9 (.call 90 [.t 8]),iA 10 (iQ .rem 3 9 4),iA 2 (iM 10)] .ret)))
theorem jhY:fnC Tryz.prog Tryz.f65=some (jeQ,[.t 2],11):=by kernel_rfl
def je1:C:=iS [iA 2 (iN 0)] (iS [iA 4 (iM 0),iA 5 (.call 142 [.t 4]),iA 3 (iM 5)] (.seq (iS [iA 6 (iM 3),iA 7 (.bin .eql 9 (.t 6) (.c (.string ⟨⟨[]⟩⟩)))] (iD 7 (iS [iA 2 (iN 0)] .ret) .skip)) (iS [iA 8 (iM 3),iA 9 (.call 143 [.t 8]),iA 10 (iQ .rem 3 9 4),iA 2 (iM 10)] .ret)))
theorem jh9:fnC Tryz.prog Tryz.f64=some (je1,[.t 2],11):=by kernel_rfl
def jeO:C:=iS [iA 2 (.mov (.c (.string ⟨⟨[]⟩⟩)))] (.seq (iS [iA 4 (iM 0),iA 5 (.call 74 [.t 4,.c (.int .i64 0),.c (.int .i64 1000000000)]),iA 6 (iU 5)] (iD 6 (iS [iA 2 (.mov (.c (.string ⟨⟨[]⟩⟩)))] .ret) .skip)) (iS [iA 7 (.bsl 5 1 0 [] []),iA 3 (iM 7)] (.seq (.blk 0 (.loop (.seq (iS [iA 8 (iM 0),iA 9 (iQ .gtr 3 8 127)] (iD 9 .skip (.exit 0))) (.blk 1 (iS [iA 10 (iM 3),iA 11 (iM 0),iA 12 (iQ .rem 3 11 128),iA 13 (.bin .add 3 (.c (.int .i64 128)) (.t 12)),iA 14 (.cv (.num .u8) 0 (.t 13)),iA 15 (.bsl 5 1 1 [none] [(0,1,.t 14)]),iA 16 (.app 5 1 1 (.t 10) (.t 15)),iA 3 (iM 16)] (.reg [iA 17 (iM 0),iA 18 (iQ .quo 3 17 128),iA 0 (iM 18)])))))) (iS [iA 19 (iM 3),iA 20 (iM 0),iA 21 (.cv (.num .u8) 0 (.t 20)),iA 22 (.bsl 5 1 1 [none] [(0,1,.t 21)]),iA 23 (.app 5 1 1 (.t 19) (.t 22)),iA 24 (.cv .text 5 (.t 23)),iA 2 (iM 24)] .ret))))
theorem jhW:fnC Tryz.prog Tryz.f144=some (jeO,[.t 2],25):=by kernel_rfl
def jeX:C:=iS [iA 2 (.mov (.c (.string ⟨⟨[]⟩⟩)))] (.seq (iS [iA 4 (iM 0),iA 5 (.call 78 [.t 4,.c (.int .i64 0),.c (.int .i64 1000000000)]),iA 6 (iU 5)] (iD 6 (iS [iA 2 (.mov (.c (.string ⟨⟨[]⟩⟩)))] .ret) .skip)) (iS [iA 3 (.mov (.c (.slice none 0 0)))] (.seq (.blk 0 (.loop (.seq (iS [iA 7 (iM 0),iA 8 (iQ .geq 3 7 128)] (iD 8 .skip (.exit 0))) (.blk 1 (iS [iA 9 (iM 3),iA 10 (iM 0),iA 11 (iQ .rem 3 10 128),iA 12 (iQ .add 3 11 128),iA 13 (.cv (.num .u8) 0 (.t 12)),iA 14 (.bsl 5 1 1 [none] [(0,1,.t 13)]),iA 15 (.app 5 1 1 (.t 9) (.t 14)),iA 3 (iM 15)] (.reg [iA 16 (iM 0),iA 17 (iQ .quo 3 16 128),iA 0 (iM 17)])))))) (iS [iA 18 (iM 3),iA 19 (iM 0),iA 20 (.cv (.num .u8) 0 (.t 19)),iA 21 (.bsl 5 1 1 [none] [(0,1,.t 20)]),iA 22 (.app 5 1 1 (.t 18) (.t 21)),iA 23 (.cv .text 5 (.t 22)),iA 2 (iM 23)] .ret))))
theorem jh5:fnC Tryz.prog Tryz.f142=some (jeX,[.t 2],24):=by kernel_rfl
def jdt:C:=iS [iA 2 (iN 0)] (iS [iA 3 (iN 4294967295)] (.seq (iS [iA 4 (iN 0)] (.blk 0 (.loop (.seq (iS [iA 7 (iM 4),iA 8 (iM 0),iA 9 (.len true (.t 8)),iA 10 (iP .lss 3 7 9)] (iD 10 .skip (.exit 0))) (.seq (.blk 1 (iS [iA 13 (iM 3),iA 14 (iM 0),iA 15 (iM 4),iA 16 (.sidx (.t 14) (.t 15)),iA 17 (.cv (.num .i64) 0 (.t 16)),iA 18 (iP .xor 3 13 17),iA 3 (iM 18)] (iS [iA 5 (iN 0)] (.blk 2 (.loop (.seq (iS [iA 19 (iM 5),iA 20 (iQ .lss 3 19 8)] (iD 20 .skip (.exit 2))) (.seq (.blk 3 (iS [iA 23 (iM 3),iA 24 (iQ .rem 3 23 2),iA 25 (iQ .eql 3 24 1),iA 6 (iM 25)] (iS [iA 26 (iM 3),iA 27 (iQ .quo 3 26 2),iA 3 (iM 27)] (iS [iA 28 (iM 6)] (iD 28 (.reg [iA 29 (iM 3),iA 30 (iQ .xor 3 29 3988292384),iA 3 (iM 30)]) .skip))))) (.reg [iA 21 (iM 5),iA 22 (iQ .add 3 21 1),iA 5 (iM 22)])))))))) (.reg [iA 11 (iM 4),iA 12 (iQ .add 3 11 1),iA 4 (iM 12)])))))) (iS [iA 31 (iM 3),iA 32 (iQ .xor 3 31 4294967295),iA 2 (iM 32)] .ret)))
theorem jkT:fnC Tryz.prog Tryz.f90=some (jdt,[.t 2],33):=by kernel_rfl
def jpJ:C:=iS [iA 2 (iN 0)] (iS [iA 3 (iN 4294967295)] (.seq (iS [iA 4 (iN 0)] (.blk 0 (.loop (.seq (iS [iA 7 (iM 4),iA 8 (iM 0),iA 9 (.len true (.t 8)),iA 10 (iP .lss 3 7 9)] (iD 10 .skip (.exit 0))) (.seq (.blk 1 (iS [iA 13 (iM 3),iA 14 (iM 0),iA 15 (iM 4),iA 16 (.sidx (.t 14) (.t 15)),iA 17 (.cv (.num .i64) 0 (.t 16)),iA 18 (iP .xor 3 13 17),iA 3 (iM 18)] (iS [iA 5 (iN 0)] (.blk 2 (.loop (.seq (iS [iA 19 (iM 5),iA 20 (iQ .lss 3 19 8)] (iD 20 .skip (.exit 2))) (.seq (.blk 3 (iS [iA 23 (iM 3),iA 24 (iQ .rem 3 23 2),iA 25 (iQ .eql 3 24 1),iA 6 (iM 25)] (iS [iA 26 (iM 3),iA 27 (iQ .quo 3 26 2),iA 3 (iM 27)] (iS [iA 28 (iM 6)] (iD 28 (.reg [iA 29 (iM 3),iA 30 (iQ .xor 3 29 3988292384),iA 3 (iM 30)]) .skip))))) (.reg [iA 21 (iM 5),iA 22 (iQ .add 3 21 1),iA 5 (iM 22)])))))))) (.reg [iA 11 (iM 4),iA 12 (iQ .add 3 11 1),iA 4 (iM 12)])))))) (iS [iA 31 (iM 3),iA 32 (iQ .xor 3 31 4294967295),iA 2 (iM 32)] .ret)))
theorem jk1:fnC Tryz.prog Tryz.f143=some (jpJ,[.t 2],33):=by kernel_rfl
def jiy:C:=iS [iA 6 (iO false)] (iS [iA 7 (iM 0),iA 8 (iM 1),iA 9 (iP .geq 3 7 8),iA 10 (iM 9),iB 11 10 true (iM 0),iB 12 10 true (iM 2),iB 13 10 true (iP .leq 3 11 12),iA 14 (.pick (.t 10) (.t 13) (.c (.bool false))),iA 6 (iM 14)] .ret)
theorem jkQ:fnC Tryz.prog Tryz.f74=some (jiy,[.t 6],15):=by kernel_rfl
def jgX:C:=iS [iA 6 (iO false)] (iS [iA 7 (iM 0),iA 8 (iM 1),iA 9 (iP .geq 3 7 8),iA 10 (iM 9),iB 11 10 true (iM 0),iB 12 10 true (iM 2),iB 13 10 true (iP .leq 3 11 12),iA 14 (.pick (.t 10) (.t 13) (.c (.bool false))),iA 6 (iM 14)] .ret)
theorem jjf:fnC Tryz.prog Tryz.f78=some (jgX,[.t 6],15):=by kernel_rfl
theorem jO (a b c:Int):jZ Tryz.prog 74 [.c (.val (.int .i64 a)),.c (.val (.int .i64 b)),.c (.val (.int .i64 c))] (.c (.val (.bool (decide (b≤a∧a≤c))))):=by
 refine jr Tryz.func74 jkQ (by simp) ?_
 unfold jiy;by_cases h:b≤a
 ·simp only [go_sem,h]
 ·simp only [go_sem,h]
theorem jC (a b c:Int):jZ Tryz.prog 78 [.c (.val (.int .i64 a)),.c (.val (.int .i64 b)),.c (.val (.int .i64 c))] (.c (.val (.bool (decide (b≤a∧a≤c))))):=by
 refine jr Tryz.func78 jjf (by simp) ?_
 unfold jgX;by_cases h:b≤a
 ·simp only [go_sem,h]
 ·simp only [go_sem,h]
def vq (v:Nat):List UInt8:=if v<128 then [UInt8.ofNat v] else UInt8.ofNat (128+v%128)::vq (v/128)
termination_by v
decreasing_by omega
theorem jmH (v:Nat):(vq v).length≤v+1:=by
 induction v using Nat.strongRecOn with
 |_ v ih=>
  unfold vq;split
  ·simp
  ·have:=ih (v/128) (by omega)
   simp only [List.length_cons];omega
def jep (n:Int):ByteArray:=if 0≤n∧n≤1000000000 then ⟨(vq n.toNat).toArray⟩ else ⟨#[]⟩
theorem jz9 {v:Nat} (h:v<256):D.val (.int .u8 (IntKind.u8.wrap (v:Int)))=vu (UInt8.ofNat v):=by
 have:IntKind.u8.wrap (v:Int)=v:=IntWalk.u8_in _ (by omega)
 rw [this];simp [vu,Nat.mod_eq_of_lt h]
theorem jmM (v:Nat):Int.tdiv (v:Int) 128=((v/128:Nat):Int):=rfl
theorem jmL (v:Nat):Int.tmod (v:Int) 128=((v%128:Nat):Int):=rfl
theorem jcN {n:Nat} (h:n≤1000000000):jep (n:Int)=⟨(vq n).toArray⟩:=by simp [jep];omega
theorem jew (n:Int):jZ Tryz.prog 144 [.c (.val (.int .i64 n))] (.c (.val (.string (jep n)))):=by
 refine jr Tryz.func144 jhW (by simp) ?_
 unfold jeO;simp only [go_sem];refine jc (jO n 0 1000000000) (by simp only [go_sem]) fun η=>?_
 by_cases h:0≤n∧n≤1000000000
 ·obtain ⟨n,rfl⟩:=Int.eq_ofNat_of_zero_le h.1
  have hn:n≤1000000000:=by omega
  rw [jcN hn];simp only [go_sem,h];intro η1;have hl0:=jmH n;refine vI (fun s=>∃(l:List UInt8) (v:Nat) (g:Nat) (η:jq),l++vq v=vq n∧v≤n∧(g=700∨g=1600)∧s.t 0=.c (.v (.int .i64 v))∧s.t 3=.c (.h g 0 [] (η []))∧s.o g=.loose (.sl 1 5 (l.map vu)) η) (fun s=>s.n 0) ?_ ?_
  ·exact ⟨[],n,700,η1,rfl,Nat.le_refl _,.inl rfl,by simp only [go_sem],by simp only [go_sem],by simp only [go_sem]⟩
  ·rintro s ⟨l,v,g,η,hl,hv,hg,h0,h3,ho⟩
   have hll:l.length≤1000000001:=by have:=congrArg List.length hl;simp only [List.length_append] at this;omega
   by_cases hlt:128≤v
   ·have hlt':(127:Int)<v:=by omega
    have hw:IntKind.i64.wrap (128+((v%128:Nat):Int))=((128+v%128:Nat):Int):=by rw [jj (by omega) (by omega)];omega
    have hw2:IntKind.i64.wrap ((v/128:Nat):Int)=((v/128:Nat):Int):=jj (by omega) (by omega)
    have hb:=jz9 (v:=128+v%128) (by omega)
    have e':l++vq v=(l++[UInt8.ofNat (128+v%128)])++vq (v/128):=by rw [vq,if_neg (by omega)];simp
    rcases hg with rfl|rfl
    ·simp only [go_sem,h0,h3,ho,hlt',jmM,jmL,hw,hw2]
     intro η2;refine ⟨by simp [maxLen];try omega,by simp;try omega,fun η3=>⟨⟨_,v/128,1600,η3,e'.symm.trans hl,by omega,.inr rfl,rfl,rfl,by simp only [go_sem,hb,List.map_append]⟩,?_⟩⟩
     rw [jcR (k:=.i64) (n:=((v/128:Nat):Int)) (by simp only [go_sem]),jcR h0];omega
    ·simp only [go_sem,h0,h3,ho,hlt',jmM,jmL,hw,hw2]
     intro η2;refine ⟨by simp [maxLen];try omega,by simp;try omega,fun η3=>⟨⟨_,v/128,1600,η3,e'.symm.trans hl,by omega,.inr rfl,rfl,rfl,by simp only [go_sem,hb,List.map_append]⟩,?_⟩⟩
     rw [jcR (k:=.i64) (n:=((v/128:Nat):Int)) (by simp only [go_sem]),jcR h0];omega
   ·have hlt':¬(127:Int)<v:=by omega
    have hb:=jz9 (v:=v) (by omega)
    have e':l++vq v=l++[UInt8.ofNat v]:=by rw [vq,if_pos (by omega)]
    have hvl:vq n=l++[UInt8.ofNat v]:=by rw [←hl,e']
    rcases hg with rfl|rfl
    ·simp only [go_sem,h0,h3,ho,hlt']
     intro η2;refine ⟨by simp [maxLen];try omega,by simp;try omega,fun η3=>jd8 (bs:=vq n) rfl rfl (by rw [hvl];simp only [go_sem,hb,List.map_append]) ?_⟩
     simp only [go_sem]
    ·simp only [go_sem,h0,h3,ho,hlt']
     intro η2;refine ⟨by simp [maxLen];try omega,by simp;try omega,fun η3=>jd8 (bs:=vq n) rfl rfl (by rw [hvl];simp only [go_sem,hb,List.map_append]) ?_⟩
     simp only [go_sem]
 ·simp only [go_sem,h]
  simp [jep,h]
theorem jad (n:Int):jZ Tryz.prog 142 [.c (.val (.int .i64 n))] (.c (.val (.string (jep n)))):=by
 refine jr Tryz.func142 jh5 (by simp) ?_
 unfold jeX;simp only [go_sem];refine jc (jC n 0 1000000000) (by simp only [go_sem]) fun η=>?_
 by_cases h:0≤n∧n≤1000000000
 ·obtain ⟨n,rfl⟩:=Int.eq_ofNat_of_zero_le h.1
  have hn:n≤1000000000:=by omega
  rw [jcN hn];simp only [go_sem,h];have hl0:=jmH n;refine vI (fun s=>∃(l:List UInt8) (v:Nat),l++vq v=vq n∧v≤n∧s.t 0=.c (.v (.int .i64 v))∧((l=[]∧s.t 3=.c (.v (.slice none 0 0)))∨∃η,s.t 3=.c (.h 1500 0 [] (η []))∧s.o 1500=.loose (.sl 1 5 (l.map vu)) η)) (fun s=>s.n 0) ?_ ?_
  ·exact ⟨[],n,rfl,Nat.le_refl _,by simp only [go_sem],.inl ⟨rfl,by simp only [go_sem]⟩⟩
  ·rintro s ⟨l,v,hl,hv,h0,hg⟩
   have hll:l.length≤1000000001:=by have:=congrArg List.length hl;simp only [List.length_append] at this;omega
   by_cases hlt:128≤v
   ·have hlt':(128:Int)≤v:=by omega
    have hw:IntKind.i64.wrap (((v%128:Nat):Int)+128)=((128+v%128:Nat):Int):=by rw [jj (by omega) (by omega)];omega
    have hw2:IntKind.i64.wrap ((v/128:Nat):Int)=((v/128:Nat):Int):=jj (by omega) (by omega)
    have hb:=jz9 (v:=128+v%128) (by omega)
    have e':l++vq v=(l++[UInt8.ofNat (128+v%128)])++vq (v/128):=by rw [vq,if_neg (by omega)];simp
    rcases hg with ⟨rfl,h3⟩|⟨η,h3,ho⟩
    ·simp only [go_sem,h0,h3,List.length_nil,hlt',maxLen,jmM,jmL,hw,hw2]
     intro η2;intro η3;refine ⟨⟨_,v/128,e'.symm.trans hl,by omega,rfl,.inr ⟨η3,rfl,by simp only [go_sem,hb,List.map_append]⟩⟩,?_⟩
     rw [jcR (k:=.i64) (n:=((v/128:Nat):Int)) (by simp only [go_sem]),jcR h0];omega
    ·simp only [go_sem,h0,h3,ho,hlt',jmM,jmL,hw,hw2]
     intro η2;refine ⟨by simp [maxLen];try omega,by simp;try omega,fun η3=>⟨⟨_,v/128,e'.symm.trans hl,by omega,rfl,.inr ⟨η3,rfl,by simp only [go_sem,hb,List.map_append]⟩⟩,?_⟩⟩
     rw [jcR (k:=.i64) (n:=((v/128:Nat):Int)) (by simp only [go_sem]),jcR h0];omega
   ·have hlt':¬(128:Int)≤v:=by omega
    have hb:=jz9 (v:=v) (by omega)
    have e':l++vq v=l++[UInt8.ofNat v]:=by rw [vq,if_pos (by omega)]
    have hvl:vq n=l++[UInt8.ofNat v]:=by rw [←hl,e']
    rcases hg with ⟨rfl,h3⟩|⟨η,h3,ho⟩
    ·simp only [go_sem,h0,h3,List.length_nil,hlt',maxLen]
     intro η2 η3;refine jd8 (bs:=vq n) rfl rfl (by rw [hvl];simp only [go_sem,hb,List.map_append]) ?_
     simp only [go_sem]
    ·simp only [go_sem,h0,h3,ho,hlt']
     intro η2;refine ⟨by simp [maxLen];try omega,by simp;try omega,fun η3=>jd8 (bs:=vq n) rfl rfl (by rw [hvl];simp only [go_sem,hb,List.map_append]) ?_⟩
     simp only [go_sem]
 ·simp only [go_sem,h]
  simp [jep,h]
def jye (a b:Int):Int:=IntKind.i64.wrap ((BitVec.ofInt 64 a^^^BitVec.ofInt 64 b).toNat)
theorem jyd (a b:Int):IntKind.i64.wrap ((BitVec.ofInt 64 a^^^BitVec.ofInt 64 b).toNat)=jye a b:=rfl
def jl2 (c:Int):Int:=if (c.tmod 2==1)=true then jye (IntKind.i64.wrap (c.tdiv 2)) 3988292384 else IntKind.i64.wrap (c.tdiv 2)
def jpe:Nat→Int→Int
 |0,c=>c
 |n+1,c=>jl2 (jpe n c)
def jAs (c:Int) (b:UInt8):Int:=jpe 8 (jye c (IntKind.i64.wrap b.toNat))
def jl1 (b:ByteArray):Int:=jye (b.data.toList.foldl jAs 4294967295) 4294967295
theorem juc {α β:Type} (f:β→α→β) (c:β) {l:List α} {k:Nat} {x:α} (h:l[k]?=some x):(l.take (k+1)).foldl f c=f ((l.take k).foldl f c) x:=by
 rw [List.take_add_one,h];simp
theorem juK {P:Program} (b:ByteArray) (hb:b.size<9223372036854775807):wpC P 0 jdt (jAD [.t 2] (.c (.val (.int .i64 (jl1 b))))) (St.init [.c (.val (.string b))]):=by
 unfold jdt;simp only [go_sem];refine vI (fun s=>∃k:Nat,k≤b.size∧s.t 0=.c (.v (.string b))∧s.t 4=.c (.v (.int .i64 k))∧s.t 3=.c (.v (.int .i64 ((b.data.toList.take k).foldl jAs 4294967295)))) (fun s=>b.size-s.n 4) ?_ ?_
 ·exact ⟨0,Nat.zero_le _,by simp only [go_sem],by simp only [go_sem]<;>rfl,by simp only [go_sem]<;>rfl⟩
 ·rintro s ⟨k,hk,h0,h4,h3⟩
  by_cases hlt:k<b.size
  ·have hlt':(k:Int)<b.size:=by omega
   obtain ⟨u,hu⟩:∃u,b[k]?=some u:=⟨b[k],by simp [hlt]⟩
   have hu':b.data.toList[k]?=some u:=by
    rw [←hu,getElem?_pos b k hlt];simp only [Array.getElem?_toList];exact getElem?_pos b.data k hlt
   have hw4:IntKind.i64.wrap ((k:Int)+1)=((k+1:Nat):Int):=jj (by omega) (by omega)
   simp only [go_sem,h0,h3,h4,hlt',jyd];refine ⟨u,hu,?_⟩;refine vI (fun s=>∃j:Nat,j≤8∧s.t 0=.c (.v (.string b))∧s.t 4=.c (.v (.int .i64 k))∧s.t 5=.c (.v (.int .i64 j))∧s.t 3=.c (.v (.int .i64 (jpe j (jye ((b.data.toList.take k).foldl jAs 4294967295) (IntKind.i64.wrap u.toNat)))))) (fun s=>8-s.n 5) ?_ ?_
   ·exact ⟨0,Nat.zero_le _,by simp only [go_sem,h0],by simp only [go_sem,h4],by simp only [go_sem]<;>rfl,by simp only [go_sem]<;>rfl⟩
   ·rintro s' ⟨j,hj,h0',h4',h5',h3'⟩
    by_cases hj':j<8
    ·have hj2:(j:Int)<8:=by omega
     have hw:IntKind.i64.wrap ((j:Int)+1)=((j+1:Nat):Int):=jj (by omega) (by omega)
     cases hodd:(jpe j (jye ((b.data.toList.take k).foldl jAs 4294967295) (IntKind.i64.wrap u.toNat))).tmod 2==1 with
     |true=>
      simp only [go_sem,h0',h4',h5',h3',hj2,hodd,hw,jyd];exact ⟨⟨j+1,by omega,rfl,by simp only [jpe,jl2,hodd,↓reduceIte];rfl⟩,by rw [jcR (k:=.i64) (n:=((j+1:Nat):Int)) (by simp only [go_sem]),jcR h5'];omega⟩
     |false=>
      simp only [go_sem,h0',h4',h5',h3',hj2,hodd,hw,jyd];exact ⟨⟨j+1,by omega,rfl,by simp only [jpe,jl2,hodd,Bool.false_eq_true,↓reduceIte]⟩,by rw [jcR (k:=.i64) (n:=((j+1:Nat):Int)) (by simp only [go_sem]),jcR h5'];omega⟩
    ·have hj2:¬(j:Int)<8:=by omega
     have hj8:j=8:=by omega
     subst hj8;simp only [go_sem,h0',h4',h5',h3',hj2,hw4];exact ⟨⟨k+1,by omega,rfl,by rw [juc _ _ hu'];rfl⟩,by rw [jcR (k:=.i64) (n:=((k+1:Nat):Int)) (by simp only [go_sem]),jcR h4];omega⟩
  ·have hlt':¬(k:Int)<b.size:=by omega
   have hkk:b.data.toList.take k=b.data.toList:=List.take_of_length_le (by simp only [Array.length_toList];exact Nat.le_of_not_lt hlt)
   simp only [go_sem,h0,h3,h4,hlt',jyd,hkk];rfl
theorem jin (b:ByteArray) (hb:b.size<9223372036854775807):jZ Tryz.prog 90 [.c (.val (.string b))] (.c (.val (.int .i64 (jl1 b)))):=
 jr Tryz.func90 jkT (by simp) (juK b hb)
theorem jiq (b:ByteArray) (hb:b.size<9223372036854775807):jZ Tryz.prog 143 [.c (.val (.string b))] (.c (.val (.int .i64 (jl1 b)))):=
 jr Tryz.func143 jk1 (by simp) (juK b hb)
def jcT (n:Int):Int:=if ((jep n).toList==ByteArray.toList ⟨⟨[]⟩⟩)=true then 0 else (jl1 (jep n)).tmod 4
theorem jl0 (n:Int):(jep n).size<9223372036854775807:=by
 unfold jep;split
 ·have:=jmH n.toNat
  show (vq n.toNat).toArray.size<_;simp only [List.size_toArray];omega
 ·decide
theorem jex (n:Int):jZ Tryz.prog 65 [.c (.val (.int .i64 n))] (.c (.val (.int .i64 (jcT n)))):=by
 refine jr Tryz.func65 jhY (by simp) ?_
 unfold jeQ;simp only [go_sem];refine jc (jew n) (by simp only [go_sem]) fun η=>?_
 cases he:(jep n).toList==ByteArray.toList ⟨⟨[]⟩⟩ with
 |true=>
  simp only [go_sem,he];simp only [jcT,he,if_true]
 |false=>
  simp only [go_sem,he];refine jc (jin _ (jl0 n)) (by simp only [go_sem]) fun η=>?_
  simp only [go_sem];simp only [jcT,he,Bool.false_eq_true,if_false]
theorem jez (n:Int):jZ Tryz.prog 64 [.c (.val (.int .i64 n))] (.c (.val (.int .i64 (jcT n)))):=by
 refine jr Tryz.func64 jh9 (by simp) ?_
 unfold je1;simp only [go_sem];refine jc (jad n) (by simp only [go_sem]) fun η=>?_
 cases he:(jep n).toList==ByteArray.toList ⟨⟨[]⟩⟩ with
 |true=>
  simp only [go_sem,he];simp only [jcT,he,if_true]
 |false=>
  simp only [go_sem,he];refine jc (jiq _ (jl0 n)) (by simp only [go_sem]) fun η=>?_
  simp only [go_sem];simp only [jcT,he,Bool.false_eq_true,if_false]
def jeN:C:=iS [iA 1 (.box 71 5 (.t 0)),iA 2 (.alloc 71 [.int .i64 0,.int .i64 0,.int .i64 0,.int .i64 0,.slice none 0 0])] (iS [iA 3 (.bsl 253 2 0 [] []),iA 4 (iF 4 1),iA 5 (iL 4),iA 6 (.app 253 2 16 (.t 3) (.t 5)),iA 7 (iF 4 1),iC (.st 1 [some (2,253)] (.t 7) (.t 6))] (iS [iA 8 (iT 5 1),iC (.st 5 [none,none,none,none,some (2,253)] (.t 2) (.t 8))] .ret))
theorem jhV:fnC Tryz.prog Tryz.f256=some (jeN,[.cell 2 true 5],9):=by kernel_rfl
def jdF:C:=iS [iA 1 (.box 71 5 (.t 0)),iA 2 (.alloc 71 [.int .i64 0,.int .i64 0,.int .i64 0,.int .i64 0,.slice none 0 0])] (iS [iA 3 (iF 4 1),iA 4 (iL 3),iA 5 (.app 253 2 16 (.c (.slice none 0 0)) (.t 4)),iA 6 (iF 4 1),iC (.st 1 [some (2,253)] (.t 6) (.t 5))] (iS [iA 7 (iT 5 1),iC (.st 5 [none,none,none,none,some (2,253)] (.t 2) (.t 7))] .ret))
theorem jgx:fnC Tryz.prog Tryz.f270=some (jdF,[.cell 2 true 5],8):=by kernel_rfl
theorem jev (p:Pl) (hb:p.edges.length≤4000000):jZ Tryz.prog 256 [.agg (ja p)] (.agg (ja p)):=by
 refine jr Tryz.func256 jhV (by simp) ?_
 unfold jeN;have h1:p.edges.length≤maxLen:=by unfold maxLen;omega
 have h2:p.edges.length*16≤140737488355328:=by omega
 simp only [go_sem,ja,h1,h2,jkH]
theorem jc0 (p:Pl) (hb:p.edges.length≤4000000):jZ Tryz.prog 270 [.agg (ja p)] (.agg (ja p)):=by
 refine jr Tryz.func270 jgx (by simp) ?_
 unfold jdF;have h1:p.edges.length≤maxLen:=by unfold maxLen;omega
 have h2:p.edges.length*16≤140737488355328:=by omega
 simp only [go_sem,ja,h1,h2,jkH]
theorem jdY (x y:Yd):jZ Tryz.prog 25 [.agg (jb x),.agg (jb y)] (.c (.val (.bool (decide (x=y))))):=jhw ⟨_,Tryz.func25,by kernel_rfl,by kernel_rfl⟩ fun w a b ⟨S,ha⟩ ⟨S2,hb⟩=>jzU x y a b S S2 w false false ha hb
theorem jjJ (x:Yd) (hsz:jt x≤2000000):jZ Tryz.prog 31 [.agg (jb x)] (.agg (jb x)):=jy7 ⟨_,Tryz.func31,by kernel_rfl,by kernel_rfl⟩ fun w a ⟨S,ha⟩=>jym x a S w false ha hsz
theorem jza (x:Yd) (left:Int) (h0:0≤left) (h1:left≤1048576):jZ Tryz.prog 28 [.agg (jb x),.c (.val (.int .i64 left))] (.c (.val (.int .i64 (szf (jt x) left)))):=jhw ⟨_,Tryz.func28,by kernel_rfl,by kernel_rfl⟩ fun w a b ⟨S,ha⟩ hb=>by rw [vv hb];exact jyw x a S w false left ha h0 h1
theorem jdX (y:Yd) (k:Int) (h0:0≤k) (h1:k+(cYd y:Nat)≤2305843009213693952) (h2:y.shelf.length≤2305843009213693952) (h3:y.runs.length≤2305843009213693952):jZ Tryz.prog 27 [.agg (jb (jws y k)),.c (.val (.int .i64 k))] (.c (.val (.int .i64 (k+(cYd y:Nat))))):=jhw ⟨_,Tryz.func27,by kernel_rfl,by kernel_rfl⟩ fun w a b ⟨S,ha⟩ hb=>by rw [vv hb];exact jt8 y k a S w false ha h0 h1 h2 h3
end Go.Proofs.YtmnpailnelmpiaaGreat
