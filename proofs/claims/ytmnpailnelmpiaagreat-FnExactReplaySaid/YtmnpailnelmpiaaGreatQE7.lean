/- Parts. -/
import Derived.Test.YtmnpailnelmpiaaGreatQE6
import Derived.Test.YtmnpailnelmpiaaGreatProg
set_option linter.unusedSimpArgs false
set_option linter.unusedVariables false
set_option maxHeartbeats 2000000
set_option maxRecDepth 100000
namespace Go.Proofs.YtmnpailnelmpiaaGreat
open Go.RowKit Go.Sort
section
variable {P:Program} {β:Nat} {s:St} {Q Q':Ex→St→Prop}
theorem jic:∀{is:List Ins} {s:St} {K K':St→Prop},(∀s,K s→K' s)→jfC P β is s K→jfC P β is s K'
 |[],_,_,_,h,hk=>h _ hk
 |i::l,s,K,K',h,hk=>by
  simp only [jfC] at hk⊢;split
  ·rename_i hw;simp only [hw] at hk;exact jeq (fun s'=>jic h) hk
  ·rename_i hw;simp only [hw] at hk;exact jic h hk
  ·rename_i hw;simp only [hw] at hk
theorem jaV:∀{t:T} {l:List (Nat×List Lk)} {s:St} {K K':St→Prop},(∀s,K s→K' s)→za P β t l s K→za P β t l s K'
 |.done,_,_,_,_,h,hk=>h _ hk
 |.stop,_,_,_,_,_,_=>trivial
 |.pure p i t,l,s,K,K',h,hk=>by
  simp only [za] at hk⊢;split
  ·rename_i hw;simp only [hw] at hk;exact jeq (fun s'=>jaV h) hk
  ·rename_i hw;simp only [hw] at hk;exact jaV h hk
  ·rename_i hw;simp only [hw] at hk
 |.alt i chk t r,l,s,K,K',h,hk=>by
  simp only [za] at hk⊢;refine ⟨?_,jaV h hk.2⟩;have hk:=hk.1;split
  ·rename_i hw;simp only [hw] at hk;exact jeq (fun s' ⟨h1,h2⟩=>⟨h1,jaV h h2⟩) hk
  ·rename_i hw;simp only [hw] at hk;exact jaV h hk
  ·rename_i hw;simp only [hw] at hk
theorem jhE {n n':St→Prop} (hn:∀s,n s→n' s) (hQ:∀e s,Q e s→Q' e s):∀e s,Ex.thn n Q e s→Ex.thn n' Q' e s
 |.normal,_,h=>hn _ h
 |.exit _,_,h=>hQ _ _ h
 |.ret,_,h=>hQ _ _ h
theorem jv2 {id:Nat} (hQ:∀e s,Q e s→Q' e s):∀e s,Ex.inBlk id Q e s→Ex.inBlk id Q' e s
 |.normal,_,h=>hQ _ _ h
 |.exit id',_,h=>by
  simp only [Ex.inBlk] at h⊢;by_cases e:id'=id
  ·rw [if_pos e] at h⊢;exact hQ _ _ h
  ·rw [if_neg e] at h⊢;exact hQ _ _ h
 |.ret,_,h=>hQ _ _ h
theorem zO:∀(c:C) {s:St} {Q Q':Ex→St→Prop},(∀e s,Q e s→Q' e s)→wpC P β c Q s→wpC P β c Q' s
 |.skip,_,_,_,h,hk=>h _ _ hk
 |.reg _,_,_,_,h,hk=>jic (fun _=>h _ _) hk
 |.dreg _,_,_,_,h,hk=>jaV (fun _=>h _ _) hk
 |.seq a b,s,Q,Q',h,hk=>by
  rw [jrg] at hk⊢;exact zO a (jhE (fun _=>zO b h) h) hk
 |.cond x a b,_,_,_,h,⟨t,h1,h2,h3⟩=>⟨t,h1,fun ht=>zO a h (h2 ht),fun ht=>zO b h (h3 ht)⟩
 |.blk id a,s,Q,Q',h,hk=>by
  rw [jwe] at hk⊢;exact zO a (jv2 h) hk
 |.loop a,_,_,_,h,⟨ι,mk,J,μ,h1,h2⟩=>⟨ι,mk,J,μ,h1,fun i hi=>zO a (jhE (fun _ h=>h) h) (h2 i hi)⟩
 |.gh a,_,_,_,h,hk=>fun _ _ _ _ _ _ hr=>let ⟨s',F',h1,h2⟩:=hk _ _ _ _ _ _ hr;⟨s',F',h1,zO a h h2⟩
 |.exit _,_,_,_,h,hk=>h _ _ hk
 |.ret,_,_,_,h,hk=>h _ _ hk
theorem Wk.refl (s:St):Wk s s:=fun _ _ _ _ _ F h=>⟨F,h,fun g b hb=>⟨g,hb⟩⟩
theorem vA {a:C} {s:St} (J:St→Prop) (μ:St→Nat) (h:J s) (hr:∀s,J s→wpC P β a (Ex.thn (fun s'=>J s'∧μ s'<μ s) Q) s):wpC P β (.loop a) Q s:=by
 refine ⟨St,id,J,μ,⟨s,h,.refl s⟩,fun s hs=>zO a (jhE (fun s' ⟨h1,h2⟩=>⟨s',h1,.refl s',h2⟩) fun _ _ h=>h) (hr s hs)⟩
theorem jsW {p:Nat→Prop} (h:∃n,p n):∃n,p n∧∀m,p m→n≤m:=by
 obtain ⟨n,hn⟩:=h
 induction n using Nat.strongRecOn with
 |_ n ih=>
  by_cases hm:∃m,m<n∧p m
  ·obtain ⟨m,h1,h2⟩:=hm
   exact ih m h1 h2
  ·exact ⟨n,hn,fun m hp=>Nat.le_of_not_lt fun hlt=>hm ⟨m,hlt,hp⟩⟩
def rounds (P:Program) (β:Nat) (a:C) (Q:Ex→St→Prop):Nat→St→Prop
 |0,_=>False
 |n+1,s=>wpC P β a (Ex.thn (rounds P β a Q n) Q) s
open Classical in
theorem jrh {a:C} {n:Nat} (h:rounds P β a Q n s):wpC P β (.loop a) Q s:=by
 refine vA (fun s=>∃n,rounds P β a Q n s) (fun s=>if h:∃n,rounds P β a Q n s then Classical.choose (jsW h) else 0) ⟨n,h⟩ ?_
 intro s hs;obtain ⟨h1,h0⟩:=Classical.choose_spec (jsW hs)
 obtain ⟨m,hm⟩:∃m,Classical.choose (jsW hs)=m+1:=by
  cases hq:Classical.choose (jsW hs) with
  |zero=>rw [hq] at h1;exact h1.elim
  |succ m=>exact ⟨m,rfl⟩
 rw [hm] at h1;refine zO _ (jhE (fun s' h2=>⟨⟨m,h2⟩,?_⟩) fun _ _ h=>h) h1
 have h3:∃n,rounds P β a Q n s':=⟨m,h2⟩;have h4:=(Classical.choose_spec (jsW h3)).2 m h2;simp only [dif_pos hs,dif_pos h3,hm];omega
theorem zx {a:C} {s:St} (n:Nat) (h:wpC P β a (Ex.thn (rounds P β a Q n) Q) s):wpC P β (.loop a) Q s:=jrh (n:=n+1) h
theorem jxu (a:C) (n:Nat):rounds P β a Q (n+1) s=wpC P β a (Ex.thn (rounds P β a Q n) Q) s:=(rfl)
theorem jrk {t:Nat} {w:Bool} (h:s.t t=.c (.v undef)):vJ s (some (t,w))=some false:=by
 simp only [vJ,h];rfl
theorem jzt {t:Nat} {w:Bool} {d:Option Nat} {K:St→Prop} (i:I) (l:List Ins) (h:s.t t=.c (.v undef)):jfC P β (⟨d,some (t,w),i⟩::l) s K=jfC P β l (s.put d (.c (.v undef))) K:=by
 simp only [jfC,jrk h]
theorem rt_gu {t p:Nat} {w:Bool} {d:Option Nat} {l:List (Nat×List Lk)} {K:St→Prop} (i:I) (t':T) (h:s.t t=.c (.v undef)):za P β (.pure p ⟨d,some (t,w),i⟩ t') l s K=za P β t' l (s.put d (.c (.v undef))) K:=by
 simp only [za,jrk h]
theorem ra_gu {t:Nat} {w:Bool} {d:Option Nat} {l:List (Nat×List Lk)} {K:St→Prop} (i:I) (chk:List Nat) (t' r:T) (h:s.t t=.c (.v undef)):za P β (.alt ⟨d,some (t,w),i⟩ chk t' r) l s K=(za P β t' l (s.put d (.c (.v undef))) K∧za P β r l s K):=by
 simp only [za,jrk h]
theorem js5:IsD [] []=True:=by simp [IsD]
theorem jx4 (x:Value) (l:List Cell) (d:D) (ds:List D):IsD (.a (.v x)::l) (d::ds)=((d=.val x∨x=.slice none 0 0∧∃size ty,d=.sl size ty [])∧IsD l ds):=rfl
theorem jx3 (x:Value) (l:List Cell) (ds:List D):IsD (.a (.v x)::l) (.val x::ds)=IsD l ds:=by rw [jx4];simp
theorem isD_1 (x u:Value):IsD [.a (.v x)] [.val u]=(x=u):=by
 rw [jx4];simp only [js5];apply propext;constructor
 ·rintro ⟨h|⟨_,_,_,h⟩,_⟩
  ·cases h;rfl
  ·cases h
 ·rintro rfl;exact ⟨.inl rfl,trivial⟩
theorem jlg (l:List Cell) (size:Nat) (ty:TypeId) (ds:List D):IsD (.a (.v (.slice none 0 0))::l) (.sl size ty []::ds)=IsD l ds:=by rw [jx4];simp
theorem jx5 (d d':D) (η:jp) (l:List Cell) (ds:List D):IsD (.own d' η::l) (d::ds)=(d'=d∧IsD l ds):=(rfl)
def jso (s:St):RT→AV→Prop
 |.c d,.c a=>kI s [a] fun cs _=>IsD cs [d]
 |.agg ds,.agg l=>kI s l fun cs _=>IsD cs ds
 |_,_=>False
theorem jzG (d:D) (a:A0):jso s (.c d) (.c a)=kI s [a] fun cs _=>IsD cs [d]:=(rfl)
theorem ju0 (ds:List D) (l:List A0):jso s (.agg ds) (.agg l)=kI s l fun cs _=>IsD cs ds:=(rfl)
theorem ret_t (n:Nat) (rt:RT):jwc [.t n] rt s=jso s rt (s.t n):=by
 apply propext
 simp only [jwc,jif];cases h:s.t n with
 |c a=>cases rt<;>simp [jso,jao,RT.flat]
 |agg l=>cases rt<;>simp [jso,jao,RT.flat]
 |_=>cases rt<;>simp [jso]
def jnz (s:St) (agg:Bool) (k:Nat) (rt:RT) (a:AV):Prop:=∃l,zN s k l a∧(agg=true∨l.length=1)∧jao rt [(agg,l)]∧kI s ([(agg,l)].flatMap (·.2)) fun cs _=>IsD cs rt.flat
theorem juZ (n k:Nat) (agg:Bool) (rt:RT):jwc [.cell n agg k] rt s=jnz s agg k rt (s.t n):=(rfl)
theorem jp7 (k g c b:Nat) (agg:Bool) (rt:RT):jnz s agg k rt (.c (.bp g c b))=ldB (s.o g) g c b k fun l=>ldV agg l fun v=>jso s rt v:=by
 apply propext
 simp only [jnz,zN];cases ho:s.o g with
 |box b' ty cs=>
  simp only [ldB,Ob.box.injEq];constructor
  ·rintro ⟨l,⟨_,_,⟨rfl,rfl,rfl⟩,h2,rfl⟩,h3,h4,h5⟩
   refine ⟨rfl,h2,?_⟩;cases agg with
   |true=>cases rt<;>simp_all [ldV,jso,jao,RT.flat]
   |false=>
    obtain ⟨a,ha⟩:=List.length_eq_one_iff.1 (by simpa using h3)
    rw [ha] at h4 h5⊢;cases rt<;>simp_all [ldV,jso,jao,RT.flat]
  ·rintro ⟨rfl,h2,h3⟩
   refine ⟨_,⟨ty,cs,⟨rfl,rfl,rfl⟩,h2,rfl⟩,?_⟩;cases agg with
   |true=>cases rt<;>simp_all [ldV,jso,jao,RT.flat]
   |false=>
    generalize jdW g c ((cs.drop c).take k)=l at h3⊢
    match l,h3 with
    |[a],h3=>cases rt<;>simp_all [ldV,jso,jao,RT.flat]
 |_=>simp [ldB]
theorem ri_r (rs:List R) (K:AV→(Nat→Ob)→Prop):jBd rs K .ret s=jwQ rs K s:=(rfl)
theorem ri_n (rs:List R) (K:AV→(Nat→Ob)→Prop):jBd rs K .normal s=jwQ rs K s:=(rfl)
def retI (s:St) (K:AV→(Nat→Ob)→Prop):AV→Prop
 |.c a=>K (.c a) s.o
 |.agg l=>K (.agg l) s.o
 |_=>False
theorem jzF (K:AV→(Nat→Ob)→Prop) (a:A0):retI s K (.c a)=K (.c a) s.o:=(rfl)
theorem jzD (n:Nat) (K:AV→(Nat→Ob)→Prop):jwQ [.t n] K s=retI s K (s.t n):=by
 simp only [jwQ,jif];cases h:s.t n<;>simp [retI]
theorem jzE (K:AV→(Nat→Ob)→Prop):jwQ [] K s=K (.tup []) s.o:=(rfl)
def jkJ (s:St) (agg:Bool) (k:Nat) (K:AV→(Nat→Ob)→Prop) (a:AV):Prop:=∃l,zN s k l a∧(agg=true∨l.length=1)∧(match [(agg,l)] with
 |[(true,l)]=>K (.agg l) s.o
 |[(false,[a])]=>K (.c a) s.o
 |[]=>K (.tup []) s.o
 |p::q::r=>K (.tup (p::q::r)) s.o
 |_=>False)
theorem jsm (n k:Nat) (agg:Bool) (K:AV→(Nat→Ob)→Prop):jwQ [.cell n agg k] K s=jkJ s agg k K (s.t n):=(rfl)
theorem jny (k g c b:Nat) (agg:Bool) (K:AV→(Nat→Ob)→Prop):jkJ s agg k K (.c (.bp g c b))=ldB (s.o g) g c b k fun l=>ldV agg l fun v=>K v s.o:=by
 apply propext
 simp only [jkJ,zN];cases ho:s.o g with
 |box b' ty cs=>
  simp only [ldB,Ob.box.injEq];constructor
  ·rintro ⟨l,⟨_,_,⟨rfl,rfl,rfl⟩,h2,rfl⟩,h3,h4⟩
   refine ⟨rfl,h2,?_⟩;cases agg with
   |true=>exact h4
   |false=>
    obtain ⟨a,ha⟩:=List.length_eq_one_iff.1 (by simpa using h3)
    rw [ha] at h4⊢;exact h4
  ·rintro ⟨rfl,h2,h3⟩
   refine ⟨_,⟨ty,cs,⟨rfl,rfl,rfl⟩,h2,rfl⟩,?_⟩;cases agg with
   |true=>exact ⟨.inl rfl,h3⟩
   |false=>
    generalize jdW g c ((cs.drop c).take k)=l at h3⊢
    match l,h3 with
    |[a],h3=>exact ⟨.inr rfl,h3⟩
 |_=>simp [ldB]
theorem jw5 (args:List AV) (o:Nat→Ob) (n:Nat):(St.start args o).t n=(args[n]?).getD .unk:=(rfl)
theorem jw6 (args:List AV) (o:Nat→Ob):(St.start args o).o=o:=(rfl)
end
theorem jeh (n:Int) (h:-1000000000000000≤n) (h':n<1000000000000000):IntKind.i64.wrap n=n:=jo (by omega) (by omega)
attribute [go_sem_proc] Int.reduceBEq Int.reduceBNe Nat.reduceBNe Int.reduceAdd Int.reduceSub Int.reduceMul Int.reduceLE Int.reduceLT Int.reduceGE Int.reduceGT Int.reduceTMod Int.reduceTDiv Int.reduceNe Int.reduceNeg Int.reduceToNat Nat.reduceDiv Nat.reduceMod Nat.reducePow Int.reduceNegSucc
attribute [go_sem] Int.cast_ofNat_Int jzt rt_gu ra_gu jxu js5 isD_1 jx3 jlg jx5 jw5 jw6 ri_r ri_n jzF jzD jzE jsm jny ret_t juZ jp7 jzG ju0
def jdA:C:=iS [iA 6 (iN 0)] (.seq (iS [iA 7 (iM 2),iA 8 (iM 1),iA 9 (iP .lss 3 7 8),iA 10 (iM 9),iB 11 10 false (iM 0),iB 12 10 false (iM 1),iB 13 10 false (iP .lss 3 11 12),iA 14 (.pick (.t 10) (.c (.bool true)) (.t 13))] (iD 14 (iS [iA 15 (iM 1),iA 6 (iM 15)] .ret) .skip)) (.seq (iS [iA 16 (iM 0),iA 17 (iM 2),iA 18 (iP .gtr 3 16 17)] (iD 18 (iS [iA 19 (iM 2),iA 6 (iM 19)] .ret) .skip)) (iS [iA 20 (iM 0),iA 6 (iM 20)] .ret)))
theorem jgf:fnC Tryz.prog Tryz.f261=some (jdA,[.t 6],21):=by kernel_rfl
def jdJ:C:=iS [iA 6 (iN 0)] (.seq (iS [iA 7 (iM 2),iA 8 (iM 1),iA 9 (iP .lss 3 7 8),iA 10 (iM 9),iB 11 10 false (iM 0),iB 12 10 false (iM 1),iB 13 10 false (iP .lss 3 11 12),iA 14 (.pick (.t 10) (.c (.bool true)) (.t 13))] (iD 14 (iS [iA 15 (iM 1),iA 6 (iM 15)] .ret) .skip)) (iS [iA 16 (iM 0),iA 17 (iM 2),iA 18 (.mm false (.t 16) (.t 17)),iA 6 (iM 18)] .ret))
theorem jgo:fnC Tryz.prog Tryz.f276=some (jdJ,[.t 6],19):=by kernel_rfl
def jbF:C:=iS [iA 4 (.mov (.c (.slice none 0 0)))] (iS [iA 8 (iM 0),iA 9 (.call 261 [.t 8,.c (.int .i64 0),.c (.int .i64 3)]),iA 0 (iM 9)] (.seq (iS [iA 10 (iM 1),iA 11 (iQ .lss 3 10 0)] (iD 11 (.reg [iA 1 (iN 0)]) .skip)) (iS [iA 12 (.bsl 3 1 0 [] []),iA 5 (iM 12)] (.seq (iS [iA 6 (iN 1)] (.blk 0 (.loop (.seq (iS [iA 13 (iM 6),iA 14 (iQ .lss 3 13 4)] (iD 14 .skip (.exit 0))) (.seq (.blk 1 (.reg [iA 17 (iM 5),iA 18 (iM 0),iA 19 (iM 6),iA 20 (iP .add 3 18 19),iA 21 (iQ .rem 3 20 4),iA 22 (.bsl 3 1 1 [none] [(0,1,.t 21)]),iA 23 (.app 3 1 8 (.t 17) (.t 22)),iA 5 (iM 23)])) (.reg [iA 15 (iM 6),iA 16 (iQ .add 3 15 1),iA 6 (iM 16)])))))) (iS [iA 24 (iM 1),iA 25 (iM 5),iA 26 (iG 25),iA 27 (iP .rem 3 24 26),iA 7 (iM 27)] (.seq (.dreg (T.pure 1 (iA 29 (iM 5)) (T.pure 2 (iA 30 (iM 7)) (T.pure 3 (iA 31 (.sl 1 (.t 29) (some (.t 30)) none)) (T.pure 5 (iA 33 (iM 5)) (T.pure 6 (iA 34 (iM 7)) (T.pure 7 (iA 35 (.sl 1 (.t 33) none (some (.t 34)))) (T.alt (iA 28 (.bsl 3 1 0 [] [])) [7,6,5,3,2,1] (T.alt (iA 32 (.app 3 1 8 (.t 28) (.t 31))) [7,6,5] (T.alt (iA 36 (.app 3 1 8 (.t 32) (.t 35))) [] (T.pure 9 (iA 4 (iM 36)) T.done) T.stop) T.stop) T.stop)))))))) .ret))))))
theorem jd3:fnC Tryz.prog Tryz.f191=some (jbF,[.t 4],37):=by kernel_rfl
def jbI:C:=iS [iA 4 (.mov (.c (.slice none 0 0)))] (iS [iA 7 (iM 0),iA 8 (.call 276 [.t 7,.c (.int .i64 0),.c (.int .i64 3)]),iA 0 (iM 8)] (iS [iA 5 (.mov (.c (.slice none 0 0)))] (.seq (iS [iA 6 (iN 0)] (.blk 0 (.loop (.seq (iS [iA 9 (iM 6),iA 10 (iQ .lss 3 9 3)] (iD 10 .skip (.exit 0))) (.seq (.blk 1 (.reg [iA 13 (iM 5),iA 14 (iM 0),iA 15 (iQ .add 3 14 1),iA 16 (iM 1),iA 17 (.mm true (.t 16) (.c (.int .i64 0))),iA 18 (iQ .rem 3 17 3),iA 19 (iM 6),iA 20 (iP .add 3 18 19),iA 21 (iQ .rem 3 20 3),iA 22 (iP .add 3 15 21),iA 23 (iQ .rem 3 22 4),iA 24 (.bsl 3 1 1 [none] [(0,1,.t 23)]),iA 25 (.app 3 1 8 (.t 13) (.t 24)),iA 5 (iM 25)])) (.reg [iA 11 (iM 6),iA 12 (iQ .add 3 11 1),iA 6 (iM 12)])))))) (iS [iA 26 (iM 5),iA 4 (iM 26)] .ret))))
theorem jd6:fnC Tryz.prog Tryz.f216=some (jbI,[.t 4],27):=by kernel_rfl
def brI (n a b:Int):Int:=if b<a∨n<a then a else if n>b then b else n
theorem jjj (n a b:Int):kf Tryz.prog 261 [.c (.val (.int .i64 n)),.c (.val (.int .i64 a)),.c (.val (.int .i64 b))] (.c (.val (.int .i64 (brI n a b)))):=by
 refine jr Tryz.func261 jgf (by simp) ?_
 unfold jdA;by_cases h1:b<a
 ·simp only [go_sem,h1]
  simp [brI,h1]
 ·by_cases h2:n<a
  ·simp only [go_sem,h1,h2]
   simp [brI,h1,h2]
  ·by_cases h3:b<n
   ·simp only [go_sem,h1,h2,h3]
    simp [brI,h1,h2,h3]
   ·simp only [go_sem,h1,h2,h3]
    simp [brI,h1,h2,h3]
theorem jjr (n a b:Int):kf Tryz.prog 276 [.c (.val (.int .i64 n)),.c (.val (.int .i64 a)),.c (.val (.int .i64 b))] (.c (.val (.int .i64 (brI n a b)))):=by
 refine jr Tryz.func276 jgo (by simp) ?_
 unfold jdJ;by_cases h1:b<a
 ·simp only [go_sem,h1]
  simp [brI,h1]
 ·by_cases h2:n<a
  ·simp only [go_sem,h1,h2]
   simp [brI,h1,h2]
  ·simp only [go_sem,h1,h2]
   simp only [brI,h1,h2,or_self,if_false]
def jgV (home draw:Int):List Int:=
 let h:=brI home 0 3
 let k:=(if draw<0 then 0 else draw).tmod 3
 [(h+1+k.tmod 3).tmod 4,(h+1+(k+1).tmod 3).tmod 4,(h+1+(k+2).tmod 3).tmod 4]
theorem jAR (n:Int):brI n 0 3=0∨brI n 0 3=1∨brI n 0 3=2∨brI n 0 3=3:=by
 unfold brI;split
 ·omega
 ·split<;>omega
theorem jwZ {n:Int} (h:0≤n):n.tmod 3=0∨n.tmod 3=1∨n.tmod 3=2:=by
 rw [Int.tmod_eq_emod_of_nonneg h];omega
theorem jrp (home draw h d:Int) (hh:brI home 0 3=h) (hd:(if draw<0 then 0 else draw)=d) (hk:0≤h∧h≤3):(d.tmod 3=0→jgV home draw=[(h+1).tmod 4,(h+2).tmod 4,(h+3).tmod 4])∧(d.tmod 3=1→jgV home draw=[(h+2).tmod 4,(h+3).tmod 4,(h+1).tmod 4])∧(d.tmod 3=2→jgV home draw=[(h+3).tmod 4,(h+1).tmod 4,(h+2).tmod 4]):=by
 have e1:h+1+1=h+2:=by omega
 have e2:h+1+2=h+3:=by omega
 have e0:h+1+0=h+1:=by omega
 refine ⟨fun h3=>?_,fun h3=>?_,fun h3=>?_⟩<;>simp [jgV,hh,hd,h3,e0,e1,e2]
theorem jwK (n:Int):0≤brI n 0 3∧brI n 0 3≤3:=by have:=jAR n;omega
theorem jgZ (home draw:Int):kf Tryz.prog 191 [.c (.val (.int .i64 home)),.c (.val (.int .i64 draw))] (.c (jg (jgV home draw))):=by
 refine jr Tryz.func191 jd3 (by simp) ?_
 unfold jbF;simp only [go_sem];refine jc (jjj home 0 3) (by simp only [go_sem]) fun η=>?_
 obtain ⟨d,hd,hdk⟩:∃d:Int,(if draw<0 then 0 else draw)=d∧0≤d:=⟨_,rfl,by split<;>omega⟩
 have hk:=jwK home;have hvl:=jrp home draw _ d rfl hd hk;have h3:=jwZ hdk;generalize brI home 0 3=h at*;have w1:IntKind.i64.wrap (h+1)=h+1:=jeh _ (by omega) (by omega)
 have w2:IntKind.i64.wrap (h+2)=h+2:=jeh _ (by omega) (by omega)
 have w3:IntKind.i64.wrap (h+3)=h+3:=jeh _ (by omega) (by omega)
 obtain ⟨v0,v1,v2⟩:=hvl;by_cases hneg:draw<0
 ·rw [if_pos hneg] at hd
  subst hd;rw [v0 (by decide)]
  simp only [go_sem,hneg];intro η1;refine zx 3 ?_;simp only [go_sem,jeh,w1,w2,w3,D.len,maxLen];intros;rfl
 ·rw [if_neg hneg] at hd
  subst hd;rcases h3 with h3|h3|h3
  ·rw [v0 h3]
   simp only [go_sem,hneg];intro η1;refine zx 3 ?_;simp only [go_sem,jeh,w1,w2,w3,D.len,maxLen,h3];intros;rfl
  ·rw [v1 h3]
   simp only [go_sem,hneg];intro η1;refine zx 3 ?_;simp only [go_sem,jeh,w1,w2,w3,D.len,maxLen,h3];intros;rfl
  ·rw [v2 h3]
   simp only [go_sem,hneg];intro η1;refine zx 3 ?_;simp only [go_sem,jeh,w1,w2,w3,D.len,maxLen,h3];intros;rfl
theorem jg0 (home draw:Int):kf Tryz.prog 216 [.c (.val (.int .i64 home)),.c (.val (.int .i64 draw))] (.c (jg (jgV home draw))):=by
 refine jr Tryz.func216 jd6 (by simp) ?_
 unfold jbI;simp only [go_sem];refine jc (jjr home 0 3) (by simp only [go_sem]) fun η=>?_
 obtain ⟨d,hd,hdk⟩:∃d:Int,(if draw<0 then 0 else draw)=d∧0≤d:=⟨_,rfl,by split<;>omega⟩
 have hk:=jwK home;have hvl:=jrp home draw _ d rfl hd hk;have h3:=jwZ hdk;generalize brI home 0 3=h at*;have w1:IntKind.i64.wrap (h+1)=h+1:=jeh _ (by omega) (by omega)
 have w0:IntKind.i64.wrap (h+1+0)=h+1:=by rw [jeh _ (by omega) (by omega)];omega
 have w2:IntKind.i64.wrap (h+1+1)=h+2:=by rw [jeh _ (by omega) (by omega)];omega
 have w3:IntKind.i64.wrap (h+1+2)=h+3:=by rw [jeh _ (by omega) (by omega)];omega
 obtain ⟨v0,v1,v2⟩:=hvl;rcases h3 with h3|h3|h3
 ·rw [v0 h3]
  simp only [go_sem];refine zx 3 ?_;simp only [go_sem,jeh,w0,w1,w2,w3,D.len,maxLen,hd,h3];intros;rfl
 ·rw [v1 h3]
  simp only [go_sem];refine zx 3 ?_;simp only [go_sem,jeh,w0,w1,w2,w3,D.len,maxLen,hd,h3];intros;rfl
 ·rw [v2 h3]
  simp only [go_sem];refine zx 3 ?_;simp only [go_sem,jeh,w0,w1,w2,w3,D.len,maxLen,hd,h3];intros;rfl
end Go.Proofs.YtmnpailnelmpiaaGreat
