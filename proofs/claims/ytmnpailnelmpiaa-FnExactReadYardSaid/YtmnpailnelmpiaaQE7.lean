/- Parts. -/
import Derived.Test.YtmnpailnelmpiaaQE6
set_option linter.unusedSimpArgs false
set_option linter.unusedVariables false
namespace Go.Proofs.Ytmnpailnelmpiaa
open Go.RowKit Go.Sort
section
variable {P:Program} {β:Nat} {s:St} {Q Q':Ex→St→Prop}
theorem jeS:∀{is:List Ins} {s:St} {K K':St→Prop},(∀s,K s→K' s)→jcY P β is s K→jcY P β is s K'
 |[],_,_,_,h,hk=>h _ hk
 |i::l,s,K,K',h,hk=>by
  simp only [jcY] at hk⊢;split
  ·rename_i hw;simp only [hw] at hk;exact jb6 (fun s'=>jeS h) hk
  ·rename_i hw;simp only [hw] at hk;exact jeS h hk
  ·rename_i hw;simp only [hw] at hk
theorem zg:∀{t:T} {l:List (Nat×List Lk)} {s:St} {K K':St→Prop},(∀s,K s→K' s)→qE P β t l s K→qE P β t l s K'
 |.done,_,_,_,_,h,hk=>h _ hk
 |.stop,_,_,_,_,_,_=>trivial
 |.pure p i t,l,s,K,K',h,hk=>by
  simp only [qE] at hk⊢;split
  ·rename_i hw;simp only [hw] at hk;exact jb6 (fun s'=>zg h) hk
  ·rename_i hw;simp only [hw] at hk;exact zg h hk
  ·rename_i hw;simp only [hw] at hk
 |.alt i chk t r,l,s,K,K',h,hk=>by
  simp only [qE] at hk⊢;refine ⟨?_,zg h hk.2⟩;have hk:=hk.1;split
  ·rename_i hw;simp only [hw] at hk;exact jb6 (fun s' ⟨h1,h2⟩=>⟨h1,zg h h2⟩) hk
  ·rename_i hw;simp only [hw] at hk;exact zg h hk
  ·rename_i hw;simp only [hw] at hk
theorem jaW {n n':St→Prop} (hn:∀s,n s→n' s) (hQ:∀e s,Q e s→Q' e s):∀e s,Ex.thn n Q e s→Ex.thn n' Q' e s
 |.normal,_,h=>hn _ h
 |.exit _,_,h=>hQ _ _ h
 |.ret,_,h=>hQ _ _ h
theorem jqA {id:Nat} (hQ:∀e s,Q e s→Q' e s):∀e s,Ex.inBlk id Q e s→Ex.inBlk id Q' e s
 |.normal,_,h=>hQ _ _ h
 |.exit id',_,h=>by
  simp only [Ex.inBlk] at h⊢;by_cases e:id'=id
  ·rw [if_pos e] at h⊢;exact hQ _ _ h
  ·rw [if_neg e] at h⊢;exact hQ _ _ h
 |.ret,_,h=>hQ _ _ h
theorem qt:∀(c:C) {s:St} {Q Q':Ex→St→Prop},(∀e s,Q e s→Q' e s)→wpC P β c Q s→wpC P β c Q' s
 |.skip,_,_,_,h,hk=>h _ _ hk
 |.reg _,_,_,_,h,hk=>jeS (fun _=>h _ _) hk
 |.dreg _,_,_,_,h,hk=>zg (fun _=>h _ _) hk
 |.seq a b,s,Q,Q',h,hk=>by
  rw [jgA] at hk⊢;exact qt a (jaW (fun _=>qt b h) h) hk
 |.cond x a b,_,_,_,h,⟨t,h1,h2,h3⟩=>⟨t,h1,fun ht=>qt a h (h2 ht),fun ht=>qt b h (h3 ht)⟩
 |.blk id a,s,Q,Q',h,hk=>by
  rw [jqL] at hk⊢;exact qt a (jqA h) hk
 |.loop a,_,_,_,h,⟨ι,mk,J,μ,h1,h2⟩=>⟨ι,mk,J,μ,h1,fun i hi=>qt a (jaW (fun _ h=>h) h) (h2 i hi)⟩
 |.gh a,_,_,_,h,hk=>fun _ _ _ _ _ _ hr=>let ⟨s',F',h1,h2⟩:=hk _ _ _ _ _ _ hr;⟨s',F',h1,qt a h h2⟩
 |.exit _,_,_,_,h,hk=>h _ _ hk
 |.ret,_,_,_,h,hk=>h _ _ hk
theorem Wk.refl (s:St):Wk s s:=fun _ _ _ _ _ F h=>⟨F,h,fun g b hb=>⟨g,hb⟩⟩
theorem kJ {a:C} {s:St} (J:St→Prop) (μ:St→Nat) (h:J s) (hr:∀s,J s→wpC P β a (Ex.thn (fun s'=>J s'∧μ s'<μ s) Q) s):wpC P β (.loop a) Q s:=by
 refine ⟨St,id,J,μ,⟨s,h,.refl s⟩,fun s hs=>qt a (jaW (fun s' ⟨h1,h2⟩=>⟨s',h1,.refl s',h2⟩) fun _ _ h=>h) (hr s hs)⟩
theorem jnP {p:Nat→Prop} (h:∃n,p n):∃n,p n∧∀m,p m→n≤m:=by
 obtain ⟨n,hn⟩:=h
 induction n using Nat.strongRecOn with
 |_ n ih=>
  by_cases hm:∃m,m<n∧p m
  ·obtain ⟨m,h1,h2⟩:=hm
   exact ih m h1 h2
  ·exact ⟨n,hn,fun m hp=>Nat.le_of_not_lt fun hlt=>hm ⟨m,hlt,hp⟩⟩
def rounds (P:Program) (β:Nat) (a:C) (Q:Ex→St→Prop):Nat→St→Prop
 |0,_=>False
 |n+1,s=>wpC P β a (Ex.thn (rounds P β a Q n) Q) s
open Classical in
theorem jms {a:C} {n:Nat} (h:rounds P β a Q n s):wpC P β (.loop a) Q s:=by
 refine kJ (fun s=>∃n,rounds P β a Q n s) (fun s=>if h:∃n,rounds P β a Q n s then Classical.choose (jnP h) else 0) ⟨n,h⟩ ?_
 intro s hs;obtain ⟨h1,h0⟩:=Classical.choose_spec (jnP hs)
 obtain ⟨m,hm⟩:∃m,Classical.choose (jnP hs)=m+1:=by
  cases hq:Classical.choose (jnP hs) with
  |zero=>rw [hq] at h1;exact h1.elim
  |succ m=>exact ⟨m,rfl⟩
 rw [hm] at h1;refine qt _ (jaW (fun s' h2=>⟨⟨m,h2⟩,?_⟩) fun _ _ h=>h) h1
 have h3:∃n,rounds P β a Q n s':=⟨m,h2⟩;have h4:=(Classical.choose_spec (jnP h3)).2 m h2;simp only [dif_pos hs,dif_pos h3,hm];omega
theorem jag {a:C} {s:St} (n:Nat) (h:wpC P β a (Ex.thn (rounds P β a Q n) Q) s):wpC P β (.loop a) Q s:=jms (n:=n+1) h
theorem jmx {t:Nat} {w:Bool} (h:s.t t=.c (.v undef)):qp s (some (t,w))=some false:=by
 simp only [qp,h];rfl
theorem jtP {t:Nat} {w:Bool} {d:Option Nat} {K:St→Prop} (i:I) (l:List Ins) (h:s.t t=.c (.v undef)):jcY P β (⟨d,some (t,w),i⟩::l) s K=jcY P β l (s.put d (.c (.v undef))) K:=by
 simp only [jcY,jmx h]
theorem rt_gu {t p:Nat} {w:Bool} {d:Option Nat} {l:List (Nat×List Lk)} {K:St→Prop} (i:I) (t':T) (h:s.t t=.c (.v undef)):qE P β (.pure p ⟨d,some (t,w),i⟩ t') l s K=qE P β t' l (s.put d (.c (.v undef))) K:=by
 simp only [qE,jmx h]
theorem ra_gu {t:Nat} {w:Bool} {d:Option Nat} {l:List (Nat×List Lk)} {K:St→Prop} (i:I) (chk:List Nat) (t' r:T) (h:s.t t=.c (.v undef)):qE P β (.alt ⟨d,some (t,w),i⟩ chk t' r) l s K=(qE P β t' l (s.put d (.c (.v undef))) K∧qE P β r l s K):=by
 simp only [qE,jmx h]
theorem jnV:IsD [] []=True:=by simp [IsD]
theorem jp5 (x:Value) (l:List Cell) (d:D) (ds:List D):IsD (.a (.v x)::l) (d::ds)=((d=.val x∨x=.slice none 0 0∧∃size ty,d=.sl size ty [])∧IsD l ds):=rfl
theorem jsp (x:Value) (l:List Cell) (ds:List D):IsD (.a (.v x)::l) (.val x::ds)=IsD l ds:=by rw [jp5];simp
theorem isD_1 (x u:Value):IsD [.a (.v x)] [.val u]=(x=u):=by
 rw [jp5];simp only [jnV];apply propext;constructor
 ·rintro ⟨h|⟨_,_,_,h⟩,_⟩
  ·cases h;rfl
  ·cases h
 ·rintro rfl;exact ⟨.inl rfl,trivial⟩
theorem ja1 (l:List Cell) (size:Nat) (ty:TypeId) (ds:List D):IsD (.a (.v (.slice none 0 0))::l) (.sl size ty []::ds)=IsD l ds:=by rw [jp5];simp
theorem jsq (d d':D) (η:jm) (l:List Cell) (ds:List D):IsD (.own d' η::l) (d::ds)=(d'=d∧IsD l ds):=(rfl)
def jt6 (s:St):RT→AV→Prop
 |.c d,.c a=>ka s [a] fun cs _=>IsD cs [d]
 |.agg ds,.agg l=>ka s l fun cs _=>IsD cs ds
 |_,_=>False
theorem jt5 (d:D) (a:A0):jt6 s (.c d) (.c a)=ka s [a] fun cs _=>IsD cs [d]:=(rfl)
theorem ret_t (n:Nat) (rt:RT):joO [.t n] rt s=jt6 s rt (s.t n):=by
 apply propext
 simp only [joO,jhv];cases h:s.t n with
 |c a=>cases rt<;>simp [jt6,jfF,RT.flat]
 |agg l=>cases rt<;>simp [jt6,jfF,RT.flat]
 |_=>cases rt<;>simp [jt6]
theorem ri_r (rs:List R) (K:AV→(Nat→Ob)→Prop):jvr rs K .ret s=jrb rs K s:=(rfl)
theorem ri_n (rs:List R) (K:AV→(Nat→Ob)→Prop):jvr rs K .normal s=jrb rs K s:=(rfl)
def retI (s:St) (K:AV→(Nat→Ob)→Prop):AV→Prop
 |.c a=>K (.c a) s.o
 |.agg l=>K (.agg l) s.o
 |_=>False
theorem jt4 (K:AV→(Nat→Ob)→Prop) (a:A0):retI s K (.c a)=K (.c a) s.o:=(rfl)
theorem jt2 (n:Nat) (K:AV→(Nat→Ob)→Prop):jrb [.t n] K s=retI s K (s.t n):=by
 simp only [jrb,jhv];cases h:s.t n<;>simp [retI]
theorem jt3 (K:AV→(Nat→Ob)→Prop):jrb [] K s=K (.tup []) s.o:=(rfl)
def jgK (s:St) (agg:Bool) (k:Nat) (K:AV→(Nat→Ob)→Prop) (a:AV):Prop:=∃l,vR s k l a∧(agg=true∨l.length=1)∧(match [(agg,l)] with
 |[(true,l)]=>K (.agg l) s.o
 |[(false,[a])]=>K (.c a) s.o
 |[]=>K (.tup []) s.o
 |p::q::r=>K (.tup (p::q::r)) s.o
 |_=>False)
theorem jnl (n k:Nat) (agg:Bool) (K:AV→(Nat→Ob)→Prop):jrb [.cell n agg k] K s=jgK s agg k K (s.t n):=(rfl)
theorem ji8 (k g c b:Nat) (agg:Bool) (K:AV→(Nat→Ob)→Prop):jgK s agg k K (.c (.bp g c b))=ldB (s.o g) g c b k fun l=>ldV agg l fun v=>K v s.o:=by
 apply propext
 simp only [jgK,vR];cases ho:s.o g with
 |box b' ty cs=>
  simp only [ldB,Ob.box.injEq];constructor
  ·rintro ⟨l,⟨_,_,⟨rfl,rfl,rfl⟩,h2,rfl⟩,h3,h4⟩
   refine ⟨rfl,h2,?_⟩;cases agg with
   |true=>exact h4
   |false=>
    obtain ⟨a,ha⟩:=List.length_eq_one_iff.1 (by simpa using h3)
    rw [ha] at h4⊢;exact h4
  ·rintro ⟨rfl,h2,h3⟩
   refine ⟨_,⟨ty,cs,⟨rfl,rfl,rfl⟩,h2,rfl⟩,?_⟩;cases agg with
   |true=>exact ⟨.inl rfl,h3⟩
   |false=>
    generalize jce g c ((cs.drop c).take k)=l at h3⊢
    match l,h3 with
    |[a],h3=>exact ⟨.inr rfl,h3⟩
 |_=>simp [ldB]
theorem jrq (args:List AV) (o:Nat→Ob) (n:Nat):(St.start args o).t n=(args[n]?).getD .unk:=(rfl)
theorem jrr (args:List AV) (o:Nat→Ob):(St.start args o).o=o:=(rfl)
end
attribute [go_sem_proc] Int.reduceBEq Int.reduceBNe Nat.reduceBNe Int.reduceAdd Int.reduceSub Int.reduceMul Int.reduceLE Int.reduceLT Int.reduceGE Int.reduceGT Int.reduceTMod Int.reduceTDiv Int.reduceNe Int.reduceNeg Int.reduceToNat Nat.reduceDiv Nat.reduceMod Nat.reducePow Int.reduceNegSucc
attribute [go_sem] Int.cast_ofNat_Int jtP rt_gu ra_gu jnV isD_1 jsp ja1 jsq jrq jrr ri_r ri_n jt4 jt2 jt3 jnl ji8 ret_t jt5
end Go.Proofs.Ytmnpailnelmpiaa
