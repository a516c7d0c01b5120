/- Parts. -/
import Derived.Test.YtekegiiikglhbaaGreatQE4h
import Derived.Test.YtekegiiikglhbaaGreatQMarkB
import Derived.Test.YtekegiiikglhbaaGreatProg
import Derived.Laws.StructEq
set_option linter.all false
namespace Go.Proofs.YtekegiiikglhbaaGreat
open Go.RowKit Go.Sort
section
variable {P:Program} {β:Nat} {s:St} {Q Q':Ex->St->Prop}
theorem jd3:∀{is:List Ins} {s:St} {K K':St->Prop},(∀s,K s->K' s)->jcc P β is s K->jcc P β is s K'
 |[],_,_,_,h,hk=>h _ hk
 |i::l,s,K,K',h,hk=>by
  simp only [jcc] at hk⊢;split
  ·rename_i hw;simp only [hw] at hk;exact jba (λs'=>jd3 h) hk
  ·rename_i hw;simp only [hw] at hk;exact jd3 h hk
  ·rename_i hw;simp only [hw] at hk
theorem vu:∀{t:T} {l:List (Nat×List Lk)} {s:St} {K K':St->Prop},(∀s,K s->K' s)->qi P β t l s K->qi P β t l s K'
 |.done,_,_,_,_,h,hk=>h _ hk
 |.stop,_,_,_,_,_,_=>trivial
 |.pure p i t,l,s,K,K',h,hk=>by
  simp only [qi] at hk⊢;split
  ·rename_i hw;simp only [hw] at hk;exact jba (λs'=>vu h) hk
  ·rename_i hw;simp only [hw] at hk;exact vu h hk
  ·rename_i hw;simp only [hw] at hk
 |.alt i chk t r,l,s,K,K',h,hk=>by
  simp only [qi] at hk⊢;refine ⟨?_,vu h hk.2⟩;have hk:=hk.1;split
  ·rename_i hw;simp only [hw] at hk;exact jba (λs' ⟨V,Y⟩=>⟨V,vu h Y⟩) hk
  ·rename_i hw;simp only [hw] at hk;exact vu h hk
  ·rename_i hw;simp only [hw] at hk
theorem jdG {n n':St->Prop} (hn:∀s,n s->n' s) (hQ:∀e s,Q e s->Q' e s):∀e s,Ex.thn n Q e s->Ex.thn n' Q' e s
 |.normal,_,h=>hn _ h
 |.exit _,_,h=>hQ _ _ h
 |.ret,_,h=>hQ _ _ h
theorem jom {id:Nat} (hQ:∀e s,Q e s->Q' e s):∀e s,Ex.inBlk id Q e s->Ex.inBlk id Q' e s
 |.normal,_,h=>hQ _ _ h
 |.exit id',_,h=>by
  simp only [Ex.inBlk] at h⊢;by_cases e:id'=id
  ·rw [if_pos e] at h⊢;exact hQ _ _ h
  ·rw [if_neg e] at h⊢;exact hQ _ _ h
 |.ret,_,h=>hQ _ _ h
theorem qI:∀(c:C) {s:St} {Q Q':Ex->St->Prop},(∀e s,Q e s->Q' e s)->wpC P β c Q s->wpC P β c Q' s
 |.skip,_,_,_,h,hk=>h _ _ hk
 |.reg _,_,_,_,h,hk=>jd3 (λ_=>h _ _) hk
 |.dreg _,_,_,_,h,hk=>vu (λ_=>h _ _) hk
 |.seq a b,s,Q,Q',h,hk=>by
  rw [jkm] at hk⊢;exact qI a (jdG (λ_=>qI b h) h) hk
 |.cond x a b,_,_,_,h,⟨t,V,Y,h3⟩=>⟨t,V,λht=>qI a h (Y ht),λht=>qI b h (h3 ht)⟩
 |.blk id a,s,Q,Q',h,hk=>by
  rw [jox] at hk⊢;exact qI a (jom h) hk
 |.loop a,_,_,_,h,⟨ι,mk,J,μ,V,Y⟩=>⟨ι,mk,J,μ,V,λi hi=>qI a (jdG (λ_ h=>h) h) (Y i hi)⟩
 |.gh a,_,_,_,h,hk=>λ_ _ _ _ _ _ hr=>let ⟨s',F',V,Y⟩:=hk _ _ _ _ _ _ hr;⟨s',F',V,qI a h Y⟩
 |.exit _,_,_,_,h,hk=>h _ _ hk
 |.ret,_,_,_,h,hk=>h _ _ hk
theorem Wk.refl (s:St):Wk s s:=λ_ _ _ _ _ F h=>⟨F,h,λg b Z=>⟨g,Z⟩⟩
theorem ja5 {a:C} {s:St} (J:St->Prop) (μ:St->Nat) (h:J s) (hr:∀s,J s->wpC P β a (Ex.thn (λs'=>J s'/\μ s'<μ s) Q) s):wpC P β (.loop a) Q s:=by
 refine ⟨St,id,J,μ,⟨s,h,.refl s⟩,λs hs=>qI a (jdG (λs' ⟨V,Y⟩=>⟨s',V,.refl s',Y⟩) λ_ _ h=>h) (hr s hs)⟩
theorem jlP {p:Nat->Prop} (h:∃n,p n):∃n,p n/\∀m,p m->n<=m:=by
 obtain ⟨n,hn⟩:=h
 induction n using Nat.strongRecOn with
 |_ n ih=>
  by_cases hm:∃m,m<n/\p m
  ·obtain ⟨m,V,Y⟩:=hm
   exact ih m V Y
  ·exact ⟨n,hn,λm hp=>Nat.le_of_not_lt λaC=>hm ⟨m,aC,hp⟩⟩
def rounds (P:Program) (β:Nat) (a:C) (Q:Ex->St->Prop):Nat->St->Prop
 |0,_=>False
 |n+1,s=>wpC P β a (Ex.thn (rounds P β a Q n) Q) s
open Classical in
theorem jkn {a:C} {n:Nat} (h:rounds P β a Q n s):wpC P β (.loop a) Q s:=by
 refine ja5 (λs=>∃n,rounds P β a Q n s) (λs=>if h:∃n,rounds P β a Q n s then Classical.choose (jlP h) else 0) ⟨n,h⟩ ?_
 intro s hs;obtain ⟨V,h0⟩:=Classical.choose_spec (jlP hs)
 obtain ⟨m,hm⟩:∃m,Classical.choose (jlP hs)=m+1:=by
  cases hq:Classical.choose (jlP hs) with
  |zero=>rw [hq] at V;exact V.elim
  |succ m=>exact ⟨m,rfl⟩
 rw [hm] at V;refine qI _ (jdG (λs' Y=>⟨⟨m,Y⟩,?_⟩) λ_ _ h=>h) V
 have h3:∃n,rounds P β a Q n s':=⟨m,Y⟩;have h4:=(Classical.choose_spec (jlP h3)).2 m Y;simp only [dif_pos hs,dif_pos h3,hm];omega
theorem jkl {a:C} {s:St} (n:Nat) (h:wpC P β a (Ex.thn (rounds P β a Q n) Q) s):wpC P β (.loop a) Q s:=jkn (n:=n+1) h
theorem jkq {t:Nat} {w:Bool} (h:s.t t=.c (.v undef)):kX s (some (t,w))=some false:=by
 simp only [kX,h];rfl
theorem jrj {t:Nat} {w:Bool} {d:Option Nat} {K:St->Prop} (i:I) (l:List Ins) (h:s.t t=.c (.v undef)):jcc P β (⟨d,some (t,w),i⟩::l) s K=jcc P β l (s.put d (.c (.v undef))) K:=by
 simp only [jcc,jkq h]
theorem rt_gu {t p:Nat} {w:Bool} {d:Option Nat} {l:List (Nat×List Lk)} {K:St->Prop} (i:I) (t':T) (h:s.t t=.c (.v undef)):qi P β (.pure p ⟨d,some (t,w),i⟩ t') l s K=qi P β t' l (s.put d (.c (.v undef))) K:=by
 simp only [qi,jkq h]
theorem ra_gu {t:Nat} {w:Bool} {d:Option Nat} {l:List (Nat×List Lk)} {K:St->Prop} (i:I) (chk:List Nat) (t' r:T) (h:s.t t=.c (.v undef)):qi P β (.alt ⟨d,some (t,w),i⟩ chk t' r) l s K=(qi P β t' l (s.put d (.c (.v undef))) K/\qi P β r l s K):=by
 simp only [qi,jkq h]
theorem jlW:IsD [] []=True:=by simp [IsD]
theorem jp6 (x:Value) (l:List Cell) (d:D) (ds:List D):IsD (.a (.v x)::l) (d::ds)=((d=.val x\/x=.slice none 0 0/\∃size ty,d=.sl size ty [])/\IsD l ds):=rfl
theorem jp5 (x:Value) (l:List Cell) (ds:List D):IsD (.a (.v x)::l) (.val x::ds)=IsD l ds:=by rw [jp6];simp
theorem isD_1 (x u:Value):IsD [.a (.v x)] [.val u]=(x=u):=by
 rw [jp6];simp only [jlW];apply propext;constructor
 ·rintro ⟨h|⟨_,_,_,h⟩,_⟩
  ·cases h;rfl
  ·cases h
 ·rintro rfl;exact ⟨.inl rfl,trivial⟩
theorem jfS (l:List Cell) (size:Nat) (ty:TypeId) (ds:List D):IsD (.a (.v (.slice none 0 0))::l) (.sl size ty []::ds)=IsD l ds:=by rw [jp6];simp
theorem jp7 (d d':D) (η:jl) (l:List Cell) (ds:List D):IsD (.own d' η::l) (d::ds)=(d'=d/\IsD l ds):=(rfl)
def jlj (s:St):RT->AV->Prop
 |.c d,.c a=>jY s [a] λcs _=>IsD cs [d]
 |.agg ds,.agg l=>jY s l λcs _=>IsD cs ds
 |_,_=>False
theorem jry (d:D) (a:A0):jlj s (.c d) (.c a)=jY s [a] λcs _=>IsD cs [d]:=(rfl)
theorem jnm (ds:List D) (l:List A0):jlj s (.agg ds) (.agg l)=jY s l λcs _=>IsD cs ds:=(rfl)
theorem ret_t (n:Nat) (rt:RT):joQ [.t n] rt s=jlj s rt (s.t n):=by
 apply propext
 simp only [joQ,jlk];cases h:s.t n with
 |c a=>cases rt<;>simp [jlj,zW,RT.flat]
 |agg l=>cases rt<;>simp [jlj,zW,RT.flat]
 |_=>cases rt<;>simp [jlj]
def jhI (s:St) (agg:Bool) (k:Nat) (rt:RT) (a:AV):Prop:=∃l,vi s k l a/\(agg=true\/l.length=1)/\zW rt [(agg,l)]/\jY s ([(agg,l)].flatMap (·.2)) λcs _=>IsD cs rt.flat
theorem jnl (n k:Nat) (agg:Bool) (rt:RT):joQ [.cell n agg k] rt s=jhI s agg k rt (s.t n):=(rfl)
theorem jjj (k g c b:Nat) (agg:Bool) (rt:RT):jhI s agg k rt (.c (.bp g c b))=ldB (s.o g) g c b k λl=>ldV agg l λv=>jlj s rt v:=by
 apply propext
 simp only [jhI,vi];cases ho:s.o g with
 |box b' ty cs=>
  simp only [ldB,Ob.box.injEq];constructor
  ·rintro ⟨l,⟨_,_,⟨rfl,rfl,rfl⟩,Y,rfl⟩,h3,h4,h5⟩
   refine ⟨rfl,Y,?_⟩;cases agg with
   |true=>cases rt<;>simp_all [ldV,jlj,zW,RT.flat]
   |false=>
    obtain ⟨a,ha⟩:=List.length_eq_one_iff.1 (by simpa using h3)
    rw [ha] at h4 h5⊢;cases rt<;>simp_all [ldV,jlj,zW,RT.flat]
  ·rintro ⟨rfl,Y,h3⟩
   refine ⟨_,⟨ty,cs,⟨rfl,rfl,rfl⟩,Y,rfl⟩,?_⟩;cases agg with
   |true=>cases rt<;>simp_all [ldV,jlj,zW,RT.flat]
   |false=>
    generalize jda g c ((cs.drop c).take k)=l at h3⊢
    match l,h3 with
    |[a],h3=>cases rt<;>simp_all [ldV,jlj,zW,RT.flat]
 |_=>simp [ldB]
theorem ri_r (rs:List R) (K:AV->(Nat->Ob)->Prop):jsS rs K .ret s=jqE rs K s:=(rfl)
theorem ri_n (rs:List R) (K:AV->(Nat->Ob)->Prop):jsS rs K .normal s=jqE rs K s:=(rfl)
def retI (s:St) (K:AV->(Nat->Ob)->Prop):AV->Prop
 |.c a=>K (.c a) s.o
 |.agg l=>K (.agg l) s.o
 |_=>False
theorem jrw (K:AV->(Nat->Ob)->Prop) (a:A0):retI s K (.c a)=K (.c a) s.o:=(rfl)
theorem jru (n:Nat) (K:AV->(Nat->Ob)->Prop):jqE [.t n] K s=retI s K (s.t n):=by
 simp only [jqE,jlk];cases h:s.t n<;>simp [retI]
theorem jrv (K:AV->(Nat->Ob)->Prop):jqE [] K s=K (.tup []) s.o:=(rfl)
theorem jo3 (args:List AV) (o:Nat->Ob) (n:Nat):(St.start args o).t n=(args[n]?).getD .unk:=(rfl)
theorem jo4 (args:List AV) (o:Nat->Ob):(St.start args o).o=o:=(rfl)
end
attribute [go_sem_proc] Int.reduceBEq Int.reduceBNe Nat.reduceBNe Int.reduceAdd Int.reduceSub Int.reduceMul Int.reduceLE Int.reduceLT Int.reduceGE Int.reduceGT Int.reduceTMod Int.reduceTDiv Int.reduceNe Int.reduceNeg Int.reduceToNat Nat.reduceDiv Nat.reduceMod Nat.reducePow Int.reduceNegSucc
attribute [go_sem] Int.cast_ofNat_Int jrj rt_gu ra_gu jlW isD_1 jp5 jfS jp7 jo3 jo4 ri_r ri_n jrw jru jrv ret_t jnl jjj jry jnm
section
variable {P:Program} {f:FuncId}
theorem jqP {w:World} {v1 v2:View} {xs:List Value} (h:qw w [v1,v2] xs):∃a b,xs=[a,b]/\ViewRel w v1 a/\ViewRel w v2 b:=by
 obtain ⟨a,_,rfl,V,b,_,rfl,Y,h3⟩:=h;rw [show _=_ from h3]
 exact ⟨a,b,rfl,V,Y⟩
theorem joy {w:World} {v1:View} {xs:List Value} (h:qw w [v1] xs):∃a,xs=[a]/\ViewRel w v1 a:=by
 obtain ⟨a,_,rfl,V,h3⟩:=h;rw [show _=_ from h3]
 exact ⟨a,rfl,V⟩
theorem jlr {v1 v2:View} {u:Value} (hn:jgd P f) (h:∀w a b,ViewRel w v1 a->ViewRel w v2 b->Calls P f #[a,b] w λe w'=>e=.returned u/\Below w.heap.size w w'):jR P f [v1,v2] (.c (.val u)):=by
 refine ⟨hn,λw xs hv=>?_⟩
 obtain ⟨a,b,rfl,V,Y⟩:=jqP hv;exact (h w a b V Y).mono λe w' ⟨he,Z⟩=>⟨u,[],he,⟨rfl,rfl⟩,Fresh.nil _,Z⟩
theorem jrO {v1:View} {u:Value} (hn:jgd P f) (h:∀w a,ViewRel w v1 a->Calls P f #[a] w λe w'=>e=.returned u/\Below w.heap.size w w'):jR P f [v1] (.c (.val u)):=by
 refine ⟨hn,λw xs hv=>?_⟩
 obtain ⟨a,rfl,V⟩:=joy hv;exact (h w a V).mono λe w' ⟨he,Z⟩=>⟨u,[],he,⟨rfl,rfl⟩,Fresh.nil _,Z⟩
theorem jnr {v1:View} {ds:List D} (hn:jgd P f) (h:∀w a,ViewRel w v1 a->Calls P f #[a] w (jeJ w ds)):jR P f [v1] (.agg ds):=by
 refine ⟨hn,λw xs hv=>?_⟩
 obtain ⟨a,rfl,V⟩:=joy hv;exact (h w a V).mono λe w' h=>h
theorem jdF {w:World} {u a:Value} (h:ViewRel w (.c (.val u)) a):a=u:=by obtain ⟨S,V,_⟩:=h;exact V
end
def ja3 (o:Nat->Ob):A0->Prop
 |.h g c _ x=>(o g=.none/\c=0)\/∃b ty cs,o g=.box b ty cs/\cs[c]?=some (.a (.v x))
 |_=>True
def jcb (o:Nat->Ob) (l:List A0):Prop:=∀a∈l,ja3 o a
theorem jlu {s:St} {l:List A0} {g c:Nat} {d:D} {η:jl} (h:jcb s.o l) (ho:(s.o g).own c=some (d,η)):jcb (s.rm g c).o l:=by
 intro a ha;have V:=h a ha;cases a with
 |h g' c' p x=>
  by_cases hg:g'=g
  ·subst hg
   rcases V with ⟨Y,_⟩|⟨b,ty,cs,Y,h3⟩
   ·rw [Y] at ho;simp [Ob.own] at ho
   ·right
    rw [Y,jhQ] at ho;refine ⟨b,ty,rmC cs c cs[c]?,?_,?_⟩
    ·show (if g'=g' then (s.o g').rm c else s.o g')=_
     rw [if_pos rfl,Y];rfl
    ·by_cases hc:c=c'
     ·subst hc;rw [h3] at ho;simp [jpI] at ho
     ·cases hq:cs[c]? with
      |none=>simpa [rmC] using h3
      |some y=>
       cases y with
       |a y=>simpa [rmC] using h3
       |own d0 eJ=>simp only [rmC];rw [aCQ hc];exact h3
  ·have e:(s.rm g c).o g'=s.o g':=by
    show (if g'=g then _ else s.o g')=_
    rw [if_neg hg]
   simp only [ja3,e];exact V
 |_=>trivial
theorem jaN:∀{l:List A0} {s:St} {l0:List A0} {K:List Cell->St->Prop},jcb s.o l0->jY s l K->jY s l λcs s1=>K cs s1/\jcb s1.o (l0++l)
 |[],s,l0,K,h,hk=>⟨hk,by rw [aBO];exact h⟩
 |x::l,s,l0,K,h,hk=>by
  have plain:∀a:A0,(∀o,ja3 o a)->jY s l (λcs s'=>K (.a a::cs) s')->jY s l (λcs s'=>K (.a a::cs) s'/\jcb s'.o (l0++a::l)):=λa ha hk=>by
   have:=jaN (l0:=l0++[a]) (λb Z=>by rcases aAS.1 Z with Z|Z;exact h b Z;simp at Z;subst Z;exact ha _) hk
   exact kN (λcs s1 ⟨V,Y⟩=>⟨V,by simpa using Y⟩) this
  cases x with
  |h g c p x=>
   obtain ⟨rfl,d,η,V,Y,h3⟩:=hk;refine ⟨rfl,d,η,V,Y,?_⟩
   have hp:ja3 (s.rm g c).o (.h g c [] x):=by
    have e:(s.rm g c).o g=(s.o g).rm c:=by show (if g=g then _ else _)=_;rw [if_pos rfl]
    simp only [ja3,e];cases bL:s.o g with
    |none=>rw [bL] at V;simp [Ob.own] at V
    |loose d0 eJ=>
     rw [bL] at V;cases c with
     |succ c=>simp [Ob.own] at V
     |zero=>left;exact ⟨rfl,rfl⟩
    |box b ty cs=>
     rw [bL,jhQ] at V;right;cases hq:cs[c]? with
     |none=>rw [hq] at V;simp [jpI] at V
     |some y=>
      cases y with
      |a y=>rw [hq] at V;simp [jpI] at V
      |own d0 eJ=>
       rw [hq] at V;simp [jpI] at V;obtain ⟨rfl,rfl⟩:=V;refine ⟨b,ty,_,rfl,?_⟩;simp only [rmC,hq];rw [aBJ (aAR.1 hq).1,Y]
   have:=jaN (l0:=l0++[.h g c [] x]) (s:=s.rm g c) (λb Z=>by rcases aAS.1 Z with Z|Z;exact jlu h V b Z;simp at Z;subst Z;exact hp) h3
   exact kN (λcs s1 ⟨V,Y⟩=>⟨V,by simpa using Y⟩) this
  |v x=>exact ⟨hk.1,plain _ (λ_=>trivial) hk.2⟩
  |ro x=>exact ⟨hk.1,plain _ (λ_=>trivial) hk.2⟩
  |rp x=>exact ⟨hk.1,plain _ (λ_=>trivial) hk.2⟩
  |bp x y z=>exact ⟨hk.1,plain _ (λ_=>trivial) hk.2⟩
  |ep x y z i j=>exact ⟨hk.1,plain _ (λ_=>trivial) hk.2⟩
  |un=>exact ⟨hk.1,plain _ (λ_=>trivial) hk.2⟩
  |hs=>exact ⟨hk.1,plain _ (λ_=>trivial) hk.2⟩
def jeG (ob:Ob) (c:Nat) (d:D) (η:jl):Ob:=match ob with
 |.box b ty cs=>.box b ty (cs.set c (.own d η))
 |_=>.loose d η
def jdA (o:Nat->Ob):List A0->List D->(Nat->jl)->Nat->Ob
 |.h g c _ _::l,d::ds,η=>jdA (λk=>if k=g then jeG (o g) c d (η 0) else o k) l ds λi=>η (i+1)
 |_::l,_::ds,η=>jdA o l ds λi=>η (i+1)
 |_,_,_=>o
def qD:List A0->(Nat->jl)->Prop
 |.h _ _ _ x::l,η=>η 0 []=x/\qD l λi=>η (i+1)
 |_::l,η=>qD l λi=>η (i+1)
 |[],_=>True
def jdC:List A0->List D->Prop
 |.h _ _ _ _::l,d::ds=>d.isSl=true/\jdC l ds
 |.v x::l,d::ds=>d=.val x/\jdC l ds
 |[],[]=>True
 |_,_=>False
section
variable {B N:Nat} {w w' w0:World} {s:St} {a:Act} {F:Nat->List Nat} {P:Program} {f:FuncId}
theorem CRel.back {η:jl} {d:D} {u:Value} {S1:List Nat} (hs:d.isSl=true) (hr:Rep w true d u S1) (hη:∀p,η p=hdr w p d u):∀{cs:List Cell} {us:List Value} {S:List Nat} {c:Nat},CRel B w cs us S->(S++S1).Nodup->cs[c]?=some (.a (.v u))->
 ∃S',CRel B w (cs.set c (.own d η)) us S'/\S'.Nodup/\∀b,b∈S'↔b∈S\/b∈S1
 |[],_,_,_,_,_,h=>by simp at h
 |.a x::cs,us,S,0,⟨u',us',V,Y,h3⟩,aY,h=>by
  simp at h;subst h;subst V;have Y:u'=u:=Y;subst Y;exact ⟨S1++S,⟨u',us',S1,S,rfl,rfl,hs,hr,hη,h3⟩,(aCC.nodup_iff).1 aY,λb=>by simp [or_comm]⟩
 |.a x::cs,us,S,c+1,⟨u',us',V,Y,h3⟩,aY,h=>by
  obtain ⟨S',k1,k2,k3⟩:=CRel.back hs hr hη h3 aY (by simpa using h)
  exact ⟨S',⟨u',us',V,Y,k1⟩,k2,k3⟩
 |.own d0 eJ::cs,us,S,0,rX,aY,h=>by simp at h
 |.own d0 eJ::cs,us,S,c+1,⟨u',us',T1,T2,V,Y,h3,h4,h5,h6⟩,aY,h=>by
  subst Y;rw [aAZ] at aY;have hn:=aAU.1 aY;obtain ⟨S',k1,k2,k3⟩:=CRel.back hs hr hη h6 hn.2.1 (by simpa using h)
  refine ⟨T1++S',⟨u',us',T1,S',V,rfl,h3,h4,h5,k1⟩,aAU.2 ⟨hn.1,k2,λx hx y hy e=>hn.2.2 x hx y (by rw [aAS];exact (k3 y).1 hy) e⟩,λb=>?_⟩
  rw [aAS,aAS,k3];constructor
  ·rintro (h|h|h)<;>simp [h]
  ·rintro ((h|h)|h)<;>simp [h]
theorem back1 {o:Nat->Ob} (h:RelF B w0 0 (.only o) Act.bare w F) {g c:Nat} {x:Value} {d:D} {S:List Nat} (hp:ja3 o (.h g c [] x)) (hs:d.isSl=true) (hr:Rep w true d x S) (hF:Fresh B S) (hd:∀k,∀b∈S,b∉F k):
 ∃F' η,η []=x/\RelF B w0 0 (.only λk=>if k=g then jeG (o g) c d η else o k) Act.bare w F'/\∀k b,b∈F' k->b∈F k\/b∈S:=by
 have nC:=h.ob g;have hη:(λq=>hdr w q d x) []=x:=qZ hs
 rcases hp with ⟨V,rfl⟩|⟨b,ty,cs,V,Y⟩
 ·have:=h.setO (g:=g) (ob:=.loose d (λq=>hdr w q d x)) (S:=S) ⟨hs,x,hr,λ_=>rfl⟩ hF (λg' _ b Z=>hd g' b Z)
  refine ⟨λk=>if k=g then S else F k,λq=>hdr w q d x,hη,?_,λk b Z=>?_⟩
  ·have e:jeG (o g) 0 d (λq=>hdr w q d x)=.loose d (λq=>hdr w q d x):=by rw [V];rfl
   rw [e];exact this
  ·have Z:b∈(if k=g then S else F k):=Z
   split at Z
   ·exact .inr Z
   ·exact .inl Z
 ·have sA:ORel B w (.box b ty cs) (F g):=by rw [<-V];exact nC
  obtain ⟨us,S1,k1,k2,k3⟩:=sA;have iH:=h.fr g;rw [k3] at iH;have hn:=aBN.1 iH.1;have uV:∀b'∈S,b'∉b::S1:=λb' aS hh=>hd g b' aS (by rw [k3];exact hh)
  obtain ⟨S',m1,m2,m3⟩:=CRel.back (η:=λq=>hdr w q d x) hs hr (λ_=>rfl) k2 (aAU.2 ⟨hn.2,hF.1,λy hy z hz e=>uV z hz (by rw [<-e];simp [hy])⟩) Y
  have:=h.setO (g:=g) (ob:=.box b ty (cs.set c (.own d (λq=>hdr w q d x)))) (S:=b::S') ⟨us,S',k1,m1,rfl⟩ ⟨aBN.2 ⟨λZ=>by
   rcases (m3 b).1 Z with h|h
   ·exact hn.1 h
   ·exact uV b h (by simp),m2⟩,λy hy=>by
   rcases aBB.1 hy with rfl|hy
   ·exact iH.2 y (by simp)
   ·rcases (m3 y).1 hy with h|h
    ·exact iH.2 y (by simp [h])
    ·exact hF.2 y h⟩ (λg' cR y hy=>by
   rcases aBB.1 hy with rfl|hy
   ·exact λhh=>h.dj g' g cR y hh (by rw [k3];simp)
   ·rcases (m3 y).1 hy with h'|h'
    ·exact λhh=>h.dj g' g cR y hh (by rw [k3];simp [h'])
    ·exact hd g' y h')
  refine ⟨λk=>if k=g then b::S' else F k,λq=>hdr w q d x,hη,?_,λk y hy=>?_⟩
  ·have e:jeG (o g) c d (λq=>hdr w q d x)=.box b ty (cs.set c (.own d (λq=>hdr w q d x))):=by rw [V];rfl
   rw [e];exact this
  ·have m8:y∈(if k=g then b::S' else F k):=hy
   clear hy;by_cases e:k=g
   ·rw [if_pos e] at m8
    subst e;rcases aBB.1 m8 with rfl|hy
    ·exact .inl (by rw [k3];simp)
    ·rcases (m3 y).1 hy with h|h
     ·exact .inl (by rw [k3];simp [h])
     ·exact .inr h
   ·rw [if_neg e] at m8;exact .inl m8
theorem jhL {o:Nat->Ob} {l:List A0} {g c:Nat} {d:D} {η:jl} (h:jcb o l) (bQ:∀a∈l,∀(g' c':Nat) (p:List Nat) (x:Value),a=.h g' c' p x->(g',c')≠(g,c)) (mM:∀a∈l,∀c' p x,a=.h g c' p x->o g≠.none):jcb (λk=>if k=g then jeG (o g) c d η else o k) l:=by
 intro a ha;have V:=h a ha;cases a with
 |h g' c' p x=>
  by_cases hg:g'=g
  ·subst hg
   rcases V with ⟨Y,_⟩|⟨b,ty,cs,Y,h3⟩
   ·exact absurd Y (mM _ ha _ _ _ rfl)
   ·right
    refine ⟨b,ty,cs.set c (.own d η),?_,?_⟩
    ·show (if g'=g' then _ else _)=_
     rw [if_pos rfl,Y];rfl
    ·have hc:c≠c':=λe=>bQ _ ha _ _ _ _ rfl (by rw [e])
     rw [aCQ hc];exact h3
  ·simp only [ja3,if_neg hg];exact V
 |_=>trivial
def jki:List A0->Prop
 |[]=>True
 |.h g c _ _::l=>(∀a∈l,∀g' c' p x,a=.h g' c' p x->(g',c')≠(g,c))/\jki l
 |_::l=>jki l
theorem jf8:∀{l:List A0} {ds:List D} {us:List Value} {S:List Nat} {o:Nat->Ob} {F:Nat->List Nat},RelF B w0 0 (.only o) Act.bare w F->A0RelL B w l us->jdC l ds->jcb o l->jki l->(∀a∈l,∀g c p x,a=.h g c p x->p=[]/\(o g=.none->∀b∈l,∀c' p' x',b=.h g c' p' x'->c'=c))->RepL w true ds us S->Fresh B S->(∀k,∀b∈S,b∉F k)->
 ∃F' η,qD l η/\RelF B w0 0 (.only (jdA o l ds η)) Act.bare w F'
 |[],[],us,S,o,F,h,_,_,_,_,_,_,_,_=>⟨F,λ_ _=>undef,trivial,h⟩
 |[],_::_,_,_,_,_,_,_,h,_,_,_,_,_,_=>h.elim
 |.h g c p x::l,[],_,_,_,_,_,_,h,_,_,_,_,_,_=>h.elim
 |.v x::l,[],_,_,_,_,_,_,h,_,_,_,_,_,_=>h.elim
 |.h g c p x::l,d::ds,us,S,o,F,h,⟨u,us',hu,Y,h3⟩,⟨h4,h5⟩,hp,⟨uY,yH⟩,eV,⟨v,vs',S1,S2,e1,e2,r1,r2⟩,hF,hd=>by
  subst hu e2;cases e1;have wR:u=x:=Y.1;subst wR;have hq:=eV (.h g c p u) (by simp) g c p u rfl
  obtain ⟨rfl,dB⟩:=hq;obtain ⟨F1,eJ,k1,k2,k3⟩:=back1 (d:=d) h (hp (.h g c [] u) (by simp)) h4 r1 hF.left (λk b Z=>hd k b (by simp [Z]))
  have mM:∀a∈l,∀c' p' x',a=.h g c' p' x'->o g≠.none:=λa ha c' p' x' e hh=>by
   have:=dB hh a (by simp [ha]) c' p' x' e
   exact uY a ha g c' p' x' e (by rw [this])
  obtain ⟨F2,η,k4,k5⟩:=jf8 (us:=us') (S:=S2) k2 h3 h5 (jhL (λa ha=>hp a (by simp [ha])) uY mM) yH (λa ha g' c' p' x' e=>by
   obtain ⟨e1,e2⟩:=eV a (by simp [ha]) g' c' p' x' e
   refine ⟨e1,λhh b Z c'' p'' x'' eb=>?_⟩
   by_cases hg:g'=g
   ·subst hg
    rw [if_pos rfl] at hh;exfalso;cases ho:o g'<;>rw [ho] at hh<;>cases hh
   ·rw [if_neg hg] at hh
    exact e2 hh b (by simp [Z]) c'' p'' x'' eb) r2 hF.right (λk b Z hh=>by
   rcases k3 k b hh with h'|h'
   ·exact hd k b (by simp [Z]) h'
   ·exact hF.apart b h' Z)
  refine ⟨F2,λi=>match i with|0=>eJ|i+1=>η i,⟨k1,k4⟩,k5⟩
 |.v x::l,d::ds,us,S,o,F,h,⟨u,us',hu,Y,h3⟩,⟨h4,h5⟩,hp,ha,eV,⟨v,vs',S1,S2,e1,e2,r1,r2⟩,hF,hd=>by
  subst hu e2;cases e1
  obtain ⟨F2,η,k4,k5⟩:=jf8 (us:=us') (S:=S2) h h3 h5 (λa ha=>hp a (by simp [ha])) ha (λa ha g' c' p' x' e=>by
   obtain ⟨e1,e2⟩:=eV a (by simp [ha]) g' c' p' x' e
   exact ⟨e1,λhh b Z=>e2 hh b (by simp [Z])⟩) r2 hF.right (λk b Z=>hd k b (by simp [Z]))
  exact ⟨F2,λi=>match i with|0=>λ_=>undef|i+1=>η i,k4,k5⟩
 |.ro _::_,_,_,_,_,_,_,_,h,_,_,_,_,_,_=>h.elim
 |.rp _::_,_,_,_,_,_,_,_,h,_,_,_,_,_,_=>h.elim
 |.bp _ _ _::_,_,_,_,_,_,_,_,h,_,_,_,_,_,_=>h.elim
 |.ep _ _ _ _ _::_,_,_,_,_,_,_,_,h,_,_,_,_,_,_=>h.elim
 |.un::_,_,_,_,_,_,_,_,h,_,_,_,_,_,_=>h.elim
 |.hs _ _ _ _ _ _ _::_,_,_,_,_,_,_,_,h,_,_,_,_,_,_=>h.elim
def NoPath:List A0->Prop
 |[]=>True
 |.h _ _ p _::l=>p=[]/\NoPath l
 |_::l=>NoPath l
theorem NoPath.all {l:List A0} (h:NoPath l):∀a∈l,∀g c p x,a=.h g c p x->p=[]:=by
 induction l with
 |nil=>intro a ha;cases ha
 |cons y l ih=>
  intro a ha g c p x e;rcases aBB.1 ha with ha|ha
  ·subst ha;subst e;exact h.1
  ·have h':NoPath l:=by cases y<;>first|exact h|exact h.2
   exact ih h' a ha g c p x e
theorem jhK {o:Nat->Ob} {l:List A0} (h:jcb o l) (hp:NoPath l):∀a∈l,∀g c p x,a=.h g c p x->p=[]/\(o g=.none->∀b∈l,∀c' p' x',b=.h g c' p' x'->c'=c):=by
 intro a ha g c p x e;refine ⟨hp.all a ha g c p x e,λhn b Z c' p' x' e'=>?_⟩
 have V:=h a ha;have Y:=h b Z;subst e e';rcases V with ⟨_,rfl⟩|⟨_,_,_,k,_⟩
 ·rcases Y with ⟨_,rfl⟩|⟨_,_,_,k,_⟩
  ·rfl
  ·rw [hn] at k;cases k
 ·rw [hn] at k;cases k
theorem kZ:∀{l:List A0} {s:St} {K:List Cell->St->Prop},jY s l K->jY (.only s.o) l λcs s1=>K cs ⟨s.t,s1.o⟩
 |[],s,K,hk=>hk
 |.h g c p x::l,s,K,⟨V,d,η,Y,h3,h4⟩=>⟨V,d,η,Y,h3,kZ h4⟩
 |.v _::l,s,K,⟨V,Y⟩=>⟨V,kZ Y⟩
 |.ro _::l,s,K,⟨V,Y⟩=>⟨V,kZ Y⟩
 |.rp _::l,s,K,⟨V,Y⟩=>⟨V,kZ Y⟩
 |.bp _ _ _::l,s,K,⟨V,Y⟩=>⟨V,kZ Y⟩
 |.ep _ _ _ _ _::l,s,K,⟨V,Y⟩=>⟨V,kZ Y⟩
 |.un::l,s,K,⟨V,Y⟩=>⟨V,kZ Y⟩
 |.hs _ _ _ _ _ _ _::l,s,K,⟨V,Y⟩=>⟨V,kZ Y⟩
theorem jlM {l:List A0} {ds ds':List D} {us:List Value} {v r:Value} {args:Array Value} {Kr:(Nat->Ob)->Prop} (tP:jdC l ds') (pG:jki l) (mD:NoPath l) (ho:RelF B w 0 (.only s.o) Act.bare w F) (fS:A0RelL B w l us)
 (hc:∀S,RepL w true ds us S->Fresh B S->Calls P f args w λe w'=>e=.returned r/\RepL w' true ds' us S/\Only S w w') (hr:r.oneCell'=true)
 (hk:jY s l λcs s1=>IsD cs ds/\∀η,qD l η->Kr (jdA s1.o l ds' η)):
 Calls P f args w λe w'=>∃v rt o' S F',e=.returned v/\RelF B w 0 (.only o') Act.bare w' F'/\jhu w' rt v S/\Fresh B S/\(∀g,∀b∈S,b∉F' g)/\(rt=.c (.val r)/\Kr o'):=by
 have xP:=jaN (l0:=[]) (by intro a ha;cases ha) (kZ hk)
 obtain ⟨cs,s1,S,F1,⟨⟨k1,k2⟩,k3⟩,k4,k5,k6,k7,_⟩:=vM ho fS xP;have aD:=jfR k4 k1;have hB:B<=w.heap.size:=aBU ho.hB ho.below.size;refine (hc S aD k6).mono λe w' ⟨he,cO,d4⟩=>?_
 have Z:Below B w w':=d4.below k6.2 hB;have k5':RelF B w 0 s1 Act.bare w' F1:=k5.world' Z λg b aS=>d4.block b ((k5.ob g).lt b aS) λhh=>k7 g b hh aS
 have k5'':RelF B w 0 (.only s1.o) Act.bare w' F1:=⟨k5'.below,k5'.hB,rfl,rfl,λ_=>trivial,k5'.ob,k5'.fr,k5'.dj⟩
 have rO:A0RelL B w' l us:=fS.mono Z;obtain ⟨F2,η,m1,m2⟩:=jf8 k5'' rO tP (by simpa using k3) pG (jhK (by simpa using k3) mD) cO k6 (λk b Z=>k7 k b Z)
 exact ⟨r,.c (.val r),_,[],F2,he,m2,⟨rfl,rfl⟩,Fresh.nil _,by simp,rfl,k2 η m1⟩
theorem jgs {β:Nat} {d:Option Nat} {gd:Option (Nat×Bool)} {x y:X} {l:List A0} {ds ds':List D} {k r:Int} {K:St->Prop} (hn:jgd P f)
 (hc:∀(B:Nat) (w:World) (v:Value) (S:List Nat),AggRep w true ds v S->Fresh B S->Calls P f #[v,.int .i64 k] w λe w'=>e=.returned (.int .i64 r)/\AggRep w' true ds' v S/\Only S w w')
 (hx:s.ev x=.agg l) (hy:s.ev y=.c (.v (.int .i64 k))) (tP:jdC l ds') (pG:jki l) (mD:NoPath l)
 (hk:jY s l λcs s1=>IsD cs ds/\∀η,qD l η->K (St.put ⟨s.t,jdA s1.o l ds' η⟩ d (.c (.v (.int .i64 r))))):
 kK P β ⟨d,gd,.call f [x,y]⟩ s K:=by
 refine jnc (R:=λrt o'=>rt=.c (.val (.int .i64 r))/\K (St.put ⟨s.t,o'⟩ d (.c (.v (.int .i64 r))))) ⟨hn,λB w F xs ho hv=>?_⟩ (λrt o' ⟨V,Y⟩ η=>by subst V;exact Y)
 simp only [aCE,List.map_nil,hx,hy] at hv;obtain ⟨v,xs',rfl,⟨us,wO,fS⟩,lA⟩:=hv;subst wO;obtain ⟨kv,xs'',rfl,xM,wQ⟩:=lA;obtain rfl:xs''=[]:=wQ;obtain rfl:kv=.int .i64 k:=xM;refine jlM (s:=s) (F:=F) (ds':=ds') (r:=.int .i64 r) (Kr:=λo'=>K (St.put ⟨s.t,o'⟩ d (.c (.v (.int .i64 r))))) (v:=.agg us.toArray) tP pG mD ho fS (λS aD hF=>?_) rfl hk
 refine (hc B w (.agg us.toArray) S ⟨us,rfl,aD⟩ hF).mono λe w' ⟨he,⟨us',e',cO⟩,d4⟩=>⟨he,?_,d4⟩
 have:us=us':=by simpa using e'
 subst this;exact cO
end
def NoLoc (g c:Nat):List A0->Prop
 |[]=>True
 |.h g' c' _ _::l=>¬(g'=g/\c'=c)/\NoLoc g c l
 |_::l=>NoLoc g c l
def ApartN:List A0->Prop
 |[]=>True
 |.h g c _ _::l=>NoLoc g c l/\ApartN l
 |_::l=>ApartN l
theorem NoLoc.all {g c:Nat} {l:List A0} (h:NoLoc g c l):∀a∈l,∀g' c' p x,a=.h g' c' p x->(g',c')≠(g,c):=by
 induction l with
 |nil=>intro a ha;cases ha
 |cons y l ih=>
  intro a ha g' c' p x e;rcases aBB.1 ha with ha|ha
  ·subst ha;subst e
   intro e2;simp only [Prod.mk.injEq] at e2;exact h.1 e2
  ·have h':NoLoc g c l:=by cases y<;>first|exact h|exact h.2
   exact ih h' a ha g' c' p x e
theorem ApartN.apart:∀{l:List A0},ApartN l->jki l
 |[],_=>trivial
 |.h _ _ _ _::_,h=>⟨h.1.all,ApartN.apart h.2⟩
 |.v _::l,h=>ApartN.apart (l:=l) h
 |.ro _::l,h=>ApartN.apart (l:=l) h
 |.rp _::l,h=>ApartN.apart (l:=l) h
 |.bp _ _ _::l,h=>ApartN.apart (l:=l) h
 |.ep _ _ _ _ _::l,h=>ApartN.apart (l:=l) h
 |.un::l,h=>ApartN.apart (l:=l) h
 |.hs _ _ _ _ _ _ _::l,h=>ApartN.apart (l:=l) h
def jpR (s:St) (d:Option Nat) (K:St->Prop) (l:List A0) (ds ds':List D) (r:Int):Prop:=(jdC l ds'/\ApartN l/\NoPath l)/\jY s l λcs s1=>IsD cs ds/\∀η,qD l η->K (St.put ⟨s.t,jdA s1.o l ds' η⟩ d (.c (.v (.int .i64 r))))
def jpQ (s:St) (d:Option Nat) (K:St->Prop) (ds ds':List D) (k r:Int) (x y:AV):Prop:=match x,y with
 |.agg l,.c (.v (.int .i64 k'))=>k'=k/\jpR s d K l ds ds' r
 |_,_=>False
section
variable {P:Program} {f:FuncId} {s:St} {β:Nat} {d:Option Nat} {gd:Option (Nat×Bool)} {x y:X} {k r:Int} {K:St->Prop}
theorem jnQ {ds ds':List D} (hn:jgd P f)
 (hc:∀(B:Nat) (w:World) (v:Value) (S:List Nat),AggRep w true ds v S->Fresh B S->Calls P f #[v,.int .i64 k] w λe w'=>e=.returned (.int .i64 r)/\AggRep w' true ds' v S/\Only S w w')
 (h:jpQ s d K ds ds' k r (s.ev x) (s.ev y)):kK P β ⟨d,gd,.call f [x,y]⟩ s K:=by
 unfold jpQ at h;split at h
 ·rename_i l k' hx hy
  obtain ⟨rfl,⟨V,Y,h3⟩,h4⟩:=h;exact jgs hn hc hx hy V Y.apart h3 h4
 ·exact h.elim
theorem jr8 (l:List A0) (ds ds':List D) (k':Int):jpQ s d K ds ds' k r (.agg l) (.c (.v (.int .i64 k')))=(k'=k/\jpR s d K l ds ds' r):=(rfl)
theorem jr9 (l:List A0) (ds ds':List D):jpR s d K l ds ds' r=((jdC l ds'/\ApartN l/\NoPath l)/\jY s l λcs s1=>IsD cs ds/\∀η,qD l η->K (St.put ⟨s.t,jdA s1.o l ds' η⟩ d (.c (.v (.int .i64 r))))):=(rfl)
end
theorem jqD (g c:Nat) (p:List Nat) (x:Value) (l:List A0) (d:D) (ds:List D):jdC (.h g c p x::l) (d::ds)=(d.isSl=true/\jdC l ds):=(rfl)
theorem jqB (x:Value) (l:List A0) (d:D) (ds:List D):jdC (.v x::l) (d::ds)=(d=.val x/\jdC l ds):=(rfl)
theorem jqC:jdC [] []=True:=(rfl)
theorem jqz (g c:Nat) (p:List Nat) (x:Value) (l:List A0):ApartN (.h g c p x::l)=(NoLoc g c l/\ApartN l):=(rfl)
theorem jqx (x:Value) (l:List A0):ApartN (.v x::l)=ApartN l:=(rfl)
theorem jqy:ApartN []=True:=(rfl)
theorem jpN (g' c' g c:Nat) (p:List Nat) (x:Value) (l:List A0):NoLoc g' c' (.h g c p x::l)=(¬(g=g'/\c=c')/\NoLoc g' c' l):=(rfl)
theorem jpM (g' c':Nat):NoLoc g' c' []=True:=(rfl)
theorem jnN (g c:Nat) (p:List Nat) (x:Value) (l:List A0):NoPath (.h g c p x::l)=(p=[]/\NoPath l):=(rfl)
theorem jnL (x:Value) (l:List A0):NoPath (.v x::l)=NoPath l:=(rfl)
theorem jnM:NoPath []=True:=(rfl)
attribute [go_sem] jr8 jr9 jqD jqB jqC jqz jqx jqy jpN jpM jnN jnL jnM and_false false_and
theorem jsJ (o:Nat->Ob) (g c:Nat) (p:List Nat) (x:Value) (l:List A0) (d:D) (ds:List D) (η:Nat->jl):jdA o (.h g c p x::l) (d::ds) η=jdA (λk=>if k=g then jeG (o g) c d (η 0) else o k) l ds λi=>η (i+1):=(rfl)
theorem jsH (o:Nat->Ob) (x:Value) (l:List A0) (d:D) (ds:List D) (η:Nat->jl):jdA o (.v x::l) (d::ds) η=jdA o l ds λi=>η (i+1):=(rfl)
theorem jsI (o:Nat->Ob) (η:Nat->jl):jdA o [] [] η=o:=(rfl)
theorem jkd (b ty:Nat) (cs:List Cell) (c:Nat) (d:D) (η:jl):jeG (.box b ty cs) c d η=.box b ty (cs.set c (.own d η)):=(rfl)
theorem jqc (g c:Nat) (p:List Nat) (x:Value) (l:List A0) (η:Nat->jl):qD (.h g c p x::l) η=(η 0 []=x/\qD l λi=>η (i+1)):=(rfl)
theorem jqa (x:Value) (l:List A0) (η:Nat->jl):qD (.v x::l) η=qD l λi=>η (i+1):=(rfl)
theorem jqb (η:Nat->jl):qD [] η=True:=(rfl)
attribute [go_sem] jsJ jsH jsI jkd jqc jqa jqb
def jjI:jl
 |[]=>.slice none 0 0
 |_::_=>undef
def A0.sim:A0->A0->Prop
 |.v x,.v y=>x=y
 |.v x,.h _ _ _ y=>x=y/\x.oneCell'=true
 |.h _ _ _ x,.h _ _ _ y=>x=y
 |.bp _ c b,.bp _ c' b'=>c=c'/\b=b'
 |.ep _ _ _ i x,.ep _ _ _ i' x'=>i=i'/\x=x'
 |.hs _ _ _ x s l n,.hs _ _ _ y s' l' n'=>x=y/\s=s'/\l=l'/\n=n'
 |.ro d,.ro d'=>d=d'
 |.rp ds,.rp ds'=>ds=ds'
 |.un,.un=>True
 |_,_=>False
def simL:List A0->List A0->Prop
 |[],[]=>True
 |a::l,b::m=>a.sim b/\simL l m
 |_,_=>False
def AV.sim:AV->AV->Prop
 |.c a,.c b=>a.sim b
 |.agg l,.agg m=>simL l m
 |.fn f l,.fn f' m=>f=f'/\simL l m
 |.tup l,.tup m=>l=m
 |_,.unk=>True
 |_,_=>False
def Cell.sim:Cell->Cell->Prop
 |.a x,.a y=>x.sim y
 |.own d η,.own d' aW=>d=d'/\η=aW
 |.a (.v x),.own d η=>x=.slice none 0 0/\d.isSl=true/\d.cells=[]/\η=jjI
 |_,_=>False
def simC:List Cell->List Cell->Prop
 |[],[]=>True
 |a::l,b::m=>a.sim b/\simC l m
 |_,_=>False
def Ob.sim:Ob->Ob->Prop
 |.loose d η,.loose d' aW=>d=d'/\η=aW
 |.box b ty cs,.box b' ty' cs'=>b=b'/\ty=ty'/\simC cs cs'
 |.none,.none=>True
 |_,_=>False
def nilOb:Ob->Prop
 |.loose d η=>d.isSl=true/\d.cells=[]/\η=jjI
 |_=>False
def lkT:List (Nat×AV)->Nat->AV
 |[],_=>.unk
 |(k,v)::T,n=>if n=k then v else lkT T n
def lkO:List (Nat×Ob)->Nat->Ob
 |[],_=>.none
 |(k,v)::T,n=>if n=k then v else lkO T n
def St.of (T:List (Nat×AV)) (O:List (Nat×Ob)):St:=⟨lkT T,lkO O⟩
def jqi (s:St):List (Nat×AV)->Prop
 |[]=>True
 |(n,v)::T=>(s.t n).sim v/\jqi s T
def jmK (s:St):List (Option Nat)->List (Nat×Ob)->Prop
 |[],[]=>True
 |some k::ks,(_,ob)::O=>(s.o k).sim ob/\jmK s ks O
 |none::ks,(_,ob)::O=>nilOb ob/\jmK s ks O
 |_,_=>False
def fp (F:Nat->List Nat):List (Option Nat)->List (Nat×Ob)->Nat->List Nat
 |k::ks,(g',_)::O,g=>if g=g' then (match k with|some k=>F k|none=>[]) else fp F ks O g
 |_,_,_=>[]
def jm3:List (Option Nat)->List Nat
 |[]=>[]
 |some k::ks=>k::jm3 ks
 |none::ks=>jm3 ks
def jhr:List Nat->Bool
 |[]=>true
 |k::ks=>!ks.contains k&&jhr ks
section
variable {B N:Nat} {w0 w:World} {s:St} {a:Act} {F:Nat->List Nat}
theorem A0.sim.rel:∀{a b:A0} {u:Value},a.sim b->A0Rel B w a u->A0Rel B w b u
 |.v x,.v y,u,hh,hr=>by rw [show x=y from hh] at hr;exact hr
 |.v x,.h _ _ _ y,u,hh,hr=>by obtain ⟨V,Y⟩:=hh;subst V;exact ⟨hr,Y⟩
 |.h _ _ _ x,.h _ _ _ y,u,hh,hr=>by rw [show x=y from hh] at hr;exact hr
 |.bp _ c b,.bp _ c' b',u,hh,hr=>by obtain ⟨V,Y⟩:=hh;subst V Y;exact hr
 |.ep _ _ _ i x,.ep _ _ _ i' x',u,hh,hr=>by obtain ⟨V,Y⟩:=hh;subst V Y;exact hr
 |.hs _ _ _ x s l n,.hs _ _ _ y s' l' n',u,hh,hr=>by obtain ⟨V,Y,h3,h4⟩:=hh;subst V Y h3 h4;exact hr
 |.ro d,.ro d',u,hh,hr=>by rw [show d=d' from hh] at hr;exact hr
 |.rp ds,.rp ds',u,hh,hr=>by rw [show ds=ds' from hh] at hr;exact hr
 |.un,.un,_,_,hr=>hr
theorem simL.rel:∀{l m:List A0} {us:List Value},simL l m->A0RelL B w l us->A0RelL B w m us
 |[],[],_,_,hr=>hr
 |_::_,_::_,_,⟨V,Y⟩,⟨u,us',e,h3,h4⟩=>⟨u,us',e,V.rel h3,Y.rel h4⟩
theorem AV.sim.rel {v v':AV} {u:Value} (h:v.sim v') (hr:VRel B w v u):VRel B w v' u:=by
 cases v' with
 |unk=>trivial
 |c b=>cases v<;>first|exact A0.sim.rel h hr|exact h.elim
 |agg m=>cases v<;>first|(obtain ⟨us,e,V⟩:=hr;exact ⟨us,e,simL.rel h V⟩)|exact h.elim
 |fn f m=>cases v<;>first|(obtain ⟨us,e,V⟩:=hr;obtain ⟨rfl,Y⟩:=h;exact ⟨us,e,Y.rel V⟩)|exact h.elim
 |tup m=>cases v<;>first|(rw [show _=m from h] at hr;exact hr)|exact h.elim
theorem jlL {d:D} (hs:d.isSl=true) (hc:d.cells=[]):(∃size ty,d=.sl size ty [])/\∀p,jjI p=hdr w p d (.slice none 0 0):=by
 cases d with
 |val u=>cases hs
 |sl size ty cs=>
  obtain rfl:cs=[]:=hc;exact ⟨⟨_,_,rfl⟩,λp=>by cases p<;>rfl⟩
theorem simC.rel:∀{cs cs':List Cell} {us:List Value} {S:List Nat},simC cs cs'->CRel B w cs us S->CRel B w cs' us S
 |[],[],_,_,_,hr=>hr
 |.a x::l,.a y::m,_,_,⟨V,Y⟩,⟨u,us',e,h3,h4⟩=>⟨u,us',e,A0.sim.rel V h3,Y.rel h4⟩
 |.own d η::l,.own d' aW::m,_,_,⟨⟨V,dD⟩,Y⟩,⟨u,us',S1,S2,e,e',h3,h4,h5,h6⟩=>by
  subst V dD;exact ⟨u,us',S1,S2,e,e',h3,h4,h5,Y.rel h6⟩
 |.a (.v x)::l,.own d η::m,_,S,⟨⟨V,Y,h3,h4⟩,h5⟩,⟨u,us',e,h6,h7⟩=>by
  subst V h4;obtain ⟨⟨size,ty,rfl⟩,k2⟩:=jlL (w:=w) Y h3;refine ⟨u,us',[],S,e,rfl,Y,?_,λp=>?_,h5.rel h7⟩
  ·rw [show u=_ from h6];exact Rep.nil_ w size ty
  ·rw [show u=_ from h6];exact k2 p
theorem Ob.sim.rel {ob ob':Ob} {S:List Nat} (h:ob.sim ob') (hr:ORel B w ob S):ORel B w ob' S:=by
 cases ob<;>cases ob'<;>first|exact h.elim|skip
 ·exact hr
 ·obtain ⟨rfl,rfl⟩:=h;exact hr
 ·obtain ⟨rfl,rfl,h⟩:=h;obtain ⟨us,S1,V,Y,h3⟩:=hr;exact ⟨us,S1,V,h.rel Y,h3⟩
theorem nilOb.rel {ob:Ob} (h:nilOb ob):ORel B w ob []:=by
 cases ob with
 |loose d η=>
  obtain ⟨V,Y,rfl⟩:=h;obtain ⟨⟨size,ty,rfl⟩,k2⟩:=jlL (w:=w) V Y;exact ⟨V,_,Rep.nil_ w size ty,k2⟩
 |_=>exact h.elim
theorem jlY:∀{ks:List (Option Nat)} {O:List (Nat×Ob)} {g b:Nat},b∈fp F ks O g->∃k∈jm3 ks,b∈F k
 |[],_,_,_,h=>by simp [fp] at h
 |_::_,[],_,_,h=>by simp [fp] at h
 |k::ks,(g',ob)::O,g,b,h=>by
  simp only [fp] at h;split at h
  ·cases k with
   |some k=>exact ⟨k,by simp [jm3],h⟩
   |none=>simp at h
  ·obtain ⟨k',V,Y⟩:=jlY h
   exact ⟨k',by cases k<;>simp [jm3,V],Y⟩
theorem jeH:∀{l:List Nat},jhr l=true->l.Nodup
 |[],_=>List.nodup_nil
 |k::l,h=>by
  simp only [jhr,aBH,Bool.not_eq_true',List.contains_eq_mem,aCD] at h;exact aBN.2 ⟨h.1,jeH h.2⟩
theorem jsm (lJ:∀g g',g≠g'->∀b∈F g,b∉F g'):∀{ks:List (Option Nat)} {O:List (Nat×Ob)},(jm3 ks).Nodup->∀g g',g≠g'->∀b∈fp F ks O g,b∉fp F ks O g'
 |[],_,_,_,_,_,b,h=>by simp [fp] at h
 |_::_,[],_,_,_,_,b,h=>by simp [fp] at h
 |k::ks,(g0,ob)::O,hn,g,g',a7,b,h=>by
  have gB:(jm3 ks).Nodup:=by cases k with
   |none=>exact hn
   |some k=>exact (aBN.1 hn).2
  have key:∀{g g':Nat},g=g0->g'≠g0->b∈fp F (k::ks) ((g0,ob)::O) g->b∉fp F (k::ks) ((g0,ob)::O) g':=by
   intro g g' e bH h h';simp only [fp,if_pos e] at h;simp only [fp,if_neg bH] at h';cases k with
   |none=>simp at h
   |some k=>
    obtain ⟨k',V,Y⟩:=jlY h';have:k≠k':=λe=>(aBN.1 hn).1 (by rw [e];exact V)
    exact lJ _ _ this b h Y
  by_cases e:g=g0
  ·exact key e (λe'=>a7 (e.trans e'.symm)) h
  ·by_cases e':g'=g0
   ·exact λh'=>key e' e h' h
   ·simp only [fp,if_neg e] at h
    simp only [fp,if_neg e'];exact jsm lJ gB g g' a7 b h
theorem jqg (h:∀g,ORel B w (s.o g) (F g)):∀{ks:List (Option Nat)} {O:List (Nat×Ob)},jmK s ks O->∀g,ORel B w (lkO O g) (fp F ks O g)
 |[],[],_,_=>rfl
 |[],_::_,hf,_=>hf.elim
 |some _::_,[],hf,_=>hf.elim
 |none::_,[],hf,_=>hf.elim
 |some k::ks,(g',ob)::O,⟨V,Y⟩,g=>by
  simp only [lkO,fp];by_cases e:g=g'
  ·rw [if_pos e,if_pos e];exact V.rel (h k)
  ·rw [if_neg e,if_neg e];exact jqg h Y g
 |none::ks,(g',ob)::O,⟨V,Y⟩,g=>by
  simp only [lkO,fp];by_cases e:g=g'
  ·rw [if_pos e,if_pos e];exact V.rel
  ·rw [if_neg e,if_neg e];exact jqg h Y g
theorem jsl (h:∀g,Fresh B (F g)):∀(ks:List (Option Nat)) (O:List (Nat×Ob)) (g:Nat),Fresh B (fp F ks O g)
 |[],_,_=>Fresh.nil _
 |_::_,[],_=>Fresh.nil _
 |k::ks,(g',ob)::O,g=>by
  simp only [fp];split
  ·cases k with
   |some k=>exact h k
   |none=>exact Fresh.nil _
  ·exact jsl h ks O g
theorem jso (h:∀n,VRel B w (s.t n) (a.tmps.getD n undef)):∀{T:List (Nat×AV)},jqi s T->∀n,VRel B w (lkT T n) (a.tmps.getD n undef)
 |[],_,_=>trivial
 |(k,v)::T,⟨V,Y⟩,n=>by
  simp only [lkT];by_cases e:n=k
  ·rw [if_pos e];subst e;exact V.rel (h n)
  ·rw [if_neg e];exact jso h Y n
theorem qJ (ks:List (Option Nat)) {T:List (Nat×AV)} {O:List (Nat×Ob)} (h:jqi s T/\jmK s ks O) (hn:jhr (jm3 ks)=true:=by decide):Wk s (St.of T O):=
 λB N w0 w a F hr=>⟨fp F ks O,⟨hr.below,hr.hB,hr.df,hr.sz,jso hr.sl h.1,jqg hr.ob h.2,jsl hr.fr ks O,jsm hr.dj (jeH hn)⟩,
  λg b Z=>by obtain ⟨k,_,Y⟩:=jlY Z;exact ⟨k,Y⟩⟩
end
section
variable {P:Program} {β:Nat} {s:St} {Q:Ex->St->Prop}
theorem kp {ι:Type} {a:C} (mk:ι->St) (J:ι->Prop) (μ:ι->Nat) (i0:ι) (h0:J i0) (hw:Wk s (mk i0)) (hr:∀i,J i->wpC P β a (Ex.thn (λs'=>∃i',J i'/\Wk s' (mk i')/\μ i'<μ i) Q) (mk i)):wpC P β (.loop a) Q s:=⟨ι,mk,J,μ,⟨i0,h0,hw⟩,hr⟩
end
section
variable {s:St}
theorem of_t (T:List (Nat×AV)) (O:List (Nat×Ob)) (n:Nat):(St.of T O).t n=lkT T n:=(rfl)
theorem of_o (T:List (Nat×AV)) (O:List (Nat×Ob)) (n:Nat):(St.of T O).o n=lkO O n:=(rfl)
theorem jpV (n:Nat):lkT [] n=.unk:=(rfl)
theorem jnR (k n:Nat) (v:AV) (T:List (Nat×AV)):lkT ((k,v)::T) n=if n=k then v else lkT T n:=(rfl)
theorem jpW (n:Nat):lkO [] n=.none:=(rfl)
theorem jnS (k n:Nat) (v:Ob) (T:List (Nat×Ob)):lkO ((k,v)::T) n=if n=k then v else lkO T n:=(rfl)
theorem jn4:jqi s []=True:=(rfl)
theorem jl0 (n:Nat) (v:AV) (T:List (Nat×AV)):jqi s ((n,v)::T)=((s.t n).sim v/\jqi s T):=(rfl)
theorem jn5:jmK s [] []=True:=(rfl)
theorem jsp (k g:Nat) (ob:Ob) (ks:List (Option Nat)) (O:List (Nat×Ob)):jmK s (some k::ks) ((g,ob)::O)=((s.o k).sim ob/\jmK s ks O):=(rfl)
theorem jsq (g:Nat) (ob:Ob) (ks:List (Option Nat)) (O:List (Nat×Ob)):jmK s (none::ks) ((g,ob)::O)=(nilOb ob/\jmK s ks O):=(rfl)
theorem jr3 (d:D) (η:jl):nilOb (.loose d η)=(d.isSl=true/\d.cells=[]/\η=jjI):=(rfl)
theorem nilH_:jjI []=.slice none 0 0:=(rfl)
theorem sim_c (a b:A0):AV.sim (.c a) (.c b)=a.sim b:=(rfl)
theorem jq6 (f f':Nat) (l m:List A0):AV.sim (.fn f l) (.fn f' m)=(f=f'/\simL l m):=(rfl)
theorem jm8:simL [] []=True:=(rfl)
theorem jkV (a b:A0) (l m:List A0):simL (a::l) (b::m)=(a.sim b/\simL l m):=(rfl)
theorem sim_v (x y:Value):A0.sim (.v x) (.v y)=(x=y):=(rfl)
theorem jq3 (x y:Value) (g c:Nat) (p:List Nat):A0.sim (.v x) (.h g c p y)=(x=y/\x.oneCell'=true):=(rfl)
theorem sim_h (x y:Value) (g c g' c':Nat) (p p':List Nat):A0.sim (.h g c p x) (.h g' c' p' y)=(x=y):=(rfl)
theorem jq7 (g c b g' c' b':Nat):A0.sim (.bp g c b) (.bp g' c' b')=(c=c'/\b=b'):=(rfl)
theorem jq5 (d d':D):A0.sim (.ro d) (.ro d')=(d=d'):=(rfl)
theorem jq4 (d d':List D):A0.sim (.rp d) (.rp d')=(d=d'):=(rfl)
theorem jq2 (x y:A0):Cell.sim (.a x) (.a y)=x.sim y:=by cases x<;>rfl
theorem jm6 (d d':D) (η aW:jl):Cell.sim (.own d η) (.own d' aW)=(d=d'/\η=aW):=(rfl)
theorem jm7 (x:Value) (d:D) (η:jl):Cell.sim (.a (.v x)) (.own d η)=(x=.slice none 0 0/\d.isSl=true/\d.cells=[]/\η=jjI):=(rfl)
theorem jm9:simC [] []=True:=(rfl)
theorem jkW (a b:Cell) (l m:List Cell):simC (a::l) (b::m)=(a.sim b/\simC l m):=(rfl)
theorem jq8 (d d':D) (η aW:jl):Ob.sim (.loose d η) (.loose d' aW)=(d=d'/\η=aW):=(rfl)
theorem jq9 (b ty b' ty':Nat) (cs cs':List Cell):Ob.sim (.box b ty cs) (.box b' ty' cs')=(b=b'/\ty=ty'/\simC cs cs'):=(rfl)
end
attribute [go_sem] of_t of_o jpV jnR jpW jnS jn4 jl0 jn5 jsp jsq jr3 nilH_ sim_c jq6 jm8 jkV sim_v jq3 sim_h jq7 jq5 jq4 jq2 jm6 jm7 jm9 jkW jq8 jq9
section
variable {P:Program} {β:Nat} {s:St}
theorem jh1 (l:List Int):(jp l).len=l.length:=qM (enc:=λn=>[iv n]) (λ_=>rfl) (by decide) _ _
theorem zy {l:List Int} {k:Nat} {x:Int} (h:l[k]?=some x):(jp l).elem k=[iv x]:=qc (enc:=λn=>[iv n]) (λ_=>rfl) h
theorem jja (l:List Int):(jp l).isSl=true:=(rfl)
theorem ji5 (l:List Int):(jp l).size=1:=(rfl)
theorem jji (l:List Int):(jp l).toRo=.ro (jp l):=(rfl)
theorem jhU (l:List Int) (g:Nat) (η:jl):(jp l).obj g η=[(g,.loose (jp l) η)]:=(rfl)
theorem jhP (l:List Int) (g c:Nat) (p:List Nat) (η:jl):(jp l).toOwn g c p η=.h g c p (η p):=(rfl)
theorem jf5 (l:List Int):(jp l).cells=l.flatMap (λn=>[iv n]):=(rfl)
theorem jjT (l:List Ed):(jL l).len=l.length:=qM (enc:=jy) (λ_=>rfl) (by decide) _ _
theorem js {l:List Ed} {k:Nat} {x:Ed} (h:l[k]?=some x):(jL l).elem k=jy x:=qc (enc:=jy) (λ_=>rfl) h
theorem jkT (l:List Ed):(jL l).isSl=true:=(rfl)
theorem jkD (l:List Ed):(jL l).size=2:=(rfl)
theorem jjF (l:List Ed) (g:Nat) (η:jl):(jL l).obj g η=[(g,.loose (jL l) η)]:=(rfl)
theorem jjy (l:List Ed) (g c:Nat) (p:List Nat) (η:jl):(jL l).toOwn g c p η=.h g c p (η p):=(rfl)
theorem jhj (l:List Ed):(jL l).cells=l.flatMap (jy):=(rfl)
theorem jjE (l:List En) (g:Nat) (η:jl):(jo l).obj g η=[(g,.loose (jo l) η)]:=(rfl)
theorem jjx (l:List En) (g c:Nat) (p:List Nat) (η:jl):(jo l).toOwn g c p η=.h g c p (η p):=(rfl)
theorem jhi (l:List En):(jo l).cells=l.flatMap (jk):=(rfl)
theorem jjB (l:List Tk) (g:Nat) (η:jl):(ke l).obj g η=[(g,.loose (ke l) η)]:=(rfl)
theorem jju (l:List Tk) (g c:Nat) (p:List Nat) (η:jl):(ke l).toOwn g c p η=.h g c p (η p):=(rfl)
theorem jhf (l:List Tk):(ke l).cells=l.flatMap (ji):=(rfl)
theorem jjC (l:List Rn) (g:Nat) (η:jl):(jC l).obj g η=[(g,.loose (jC l) η)]:=(rfl)
theorem jjv (l:List Rn) (g c:Nat) (p:List Nat) (η:jl):(jC l).toOwn g c p η=.h g c p (η p):=(rfl)
theorem jhg (l:List Rn):(jC l).cells=l.flatMap (jc):=(rfl)
theorem jlK (l:List (List En)) (g:Nat) (η:jl):(jX l).obj g η=[(g,.loose (jX l) η)]:=(rfl)
theorem jlG (l:List (List En)) (g c:Nat) (p:List Nat) (η:jl):(jX l).toOwn g c p η=.h g c p (η p):=(rfl)
theorem jig (l:List (List En)):(jX l).cells=l.flatMap (λes=>[jo es]):=(rfl)
theorem jhF (l:List Int) (e:Nat) (k:List D->Prop):slK (jp l) e 1 k=(jmV=e/\k (l.flatMap (λn=>[iv n]))):=by rw [show jp l=.sl 1 jmV (l.flatMap (λn=>[iv n])) from rfl,jq0];simp
theorem jif (l:List Int):(l.flatMap (λn=>[iv n])).length/1=l.length:=by rw [jF (enc:=λn=>[iv n]) (size:=1) (λ_=>rfl)];exact aBP _ (by decide)
theorem jbp (l:List Int):jT (l.flatMap (λn=>[iv n]))=true:=by
 induction l with
 |nil=>rfl
 |cons x l ih=>rw [aBI,qd,ih];rfl
theorem jeq (l:List Ed):D.sl 2 tEd (l.flatMap (jy))=jL l:=rfl
theorem jj9 (l:List Ed):(l.flatMap (jy)).length/2=l.length:=by rw [jF (enc:=jy) (size:=2) (λ_=>rfl)];exact aBP _ (by decide)
theorem jg8 (l:List Ed):jT (l.flatMap (jy))=true:=by
 induction l with
 |nil=>rfl
 |cons x l ih=>rw [aBI,qd,ih];rfl
theorem jf1 (l:List Ed) (r:List D):jT (jL l::r)=false:=(rfl)
theorem jhT (l:List Ed) (r:List D):jgJ (jL l::r)=jgJ r:=(rfl)
theorem jjc (l:List En) (e:Nat) (k:List D->Prop):slK (jo l) e 4 k=(tEn=e/\k (l.flatMap (jk))):=by rw [show jo l=.sl 4 tEn (l.flatMap (jk)) from rfl,jq0];simp
theorem jib (l:List En):D.sl 4 tEn (l.flatMap (jk))=jo l:=rfl
theorem jj8 (l:List En):(l.flatMap (jk)).length/4=l.length:=by rw [jF (enc:=jk) (size:=4) (λ_=>rfl)];exact aBP _ (by decide)
theorem jg7 (l:List En):jT (l.flatMap (jk))=true:=by
 induction l with
 |nil=>rfl
 |cons x l ih=>rw [aBI,qd,ih];rfl
theorem jf0 (l:List En) (r:List D):jT (jo l::r)=false:=(rfl)
theorem jhS (l:List En) (r:List D):jgJ (jo l::r)=jgJ r:=(rfl)
theorem jj5 (l:List Tk):(l.flatMap (ji)).length/4=l.length:=by rw [jF (enc:=ji) (size:=4) (λ_=>rfl)];exact aBP _ (by decide)
theorem jg6 (l:List Tk):jT (l.flatMap (ji))=true:=by
 induction l with
 |nil=>rfl
 |cons x l ih=>rw [aBI,qd,ih];rfl
theorem jhR (l:List Tk) (r:List D):jgJ (ke l::r)=jgJ r:=(rfl)
theorem jjb (l:List Rn) (e:Nat) (k:List D->Prop):slK (jC l) e 8 k=(tRn=e/\k (l.flatMap (jc))):=by rw [show jC l=.sl 8 tRn (l.flatMap (jc)) from rfl,jq0];simp
theorem jj6 (l:List Rn):(l.flatMap (jc)).length/8=l.length:=by rw [jF (enc:=jc) (size:=8) (λ_=>rfl)];exact aBP _ (by decide)
theorem jkU (l:List (List En)) (e:Nat) (k:List D->Prop):slK (jX l) e 1 k=(jmW=e/\k (l.flatMap (λes=>[jo es]))):=by rw [show jX l=.sl 1 jmW (l.flatMap (λes=>[jo es])) from rfl,jq0];simp
theorem jmf (l:List (List En)):(l.flatMap (λes=>[jo es])).length/1=l.length:=by rw [jF (enc:=λes=>[jo es]) (size:=1) (λ_=>rfl)];exact aBP _ (by decide)
theorem jrW (u:Value) (l:List D):jgJ (.val u::l)=(u.oneCell'&&jgJ l):=(rfl)
theorem jnJ:jgJ []=true:=(rfl)
theorem jh4 (l:List Cell) (ds:List D):IsD (.a (.v (.slice none 0 0))::l) (jo []::ds)=IsD l ds:=jfS l _ _ ds
theorem jf {l:List Int} {k:Nat} {x:Int} (h:l[k]?=some x):((l.flatMap (λn=>[iv n])).drop (k*1)).take 1=[iv x]:=zy h
theorem je {l:List Int} {k:Nat} (h:k<l.length):k*1+1<=(l.flatMap (λn=>[iv n])).length:=by rw [jF (enc:=λn=>[iv n]) (size:=1) (λ_=>rfl)];omega
theorem jpT (g c:Nat) (p:List Nat) (η:jl) (i:Nat) (v:Value) (l:List D):jcq g c p η i (.val v::l)=.v v::jcq g c p η (i+1) l:=(rfl)
theorem jpU (g c:Nat) (p:List Nat) (η:jl) (i:Nat):jcq g c p η i []=[]:=(rfl)
end
attribute [go_sem] jpT jpU jh4 jbp jhF jif jf5 jg8 jj9 jhj jf1 jhT jg7 jjc jj8 jhi jf0 jhS jg6 jj5 jhf jhR jjb jj6 jhg jkU jmf jig jrW jnJ Bool.and_false Bool.false_and Bool.and_true Bool.true_and jh1 jja ji5 jji jhU jhP jjT jkT jkD jlh jjF jjy jjS jkS jkC jlg jjE jjx jjP jkP jkz jld jjB jju jjQ jkQ jkA jle jjC jjv jlO jm5 jmX jnj jlK jlG
abbrev Ni (n:Int):AV:=.c (.v (.int .i64 n))
abbrev Hd (g:Nat) (η:jl):AV:=.c (.h g 0 [] (η []))
abbrev Bx (g b:Nat):AV:=.c (.bp g 0 b)
abbrev Ro (d:D):AV:=.c (.ro d)
abbrev Bi (b ty:Nat) (ds:List D):Ob:=.box b ty (ds.map λx=>.a x.toRo)
theorem jn3 (s t:Nat) (cs l:List D):jT (.sl s t cs::l)=false:=(rfl)
theorem jpK (s t:Nat) (cs l:List D):jgJ (.sl s t cs::l)=jgJ l:=(rfl)
attribute [go_sem] jn3 jpK
theorem je1 {ι:Type} {mk:ι->St} {J:ι->Prop} {μ:ι->Nat} {n:Nat} {s':St} (i:ι) (h:Wk s' (mk i)) (hj:J i:=by (try dsimp only);first|omega|assumption|(and_intros<;>first|omega|assumption)) (hm:μ i<n:=by (try dsimp only);omega):∃i',J i'/\Wk s' (mk i')/\μ i'<n:=⟨i,hj,h,hm⟩
theorem vn {P:Program} {β:Nat} {s:St} {Q:Ex->St->Prop} {ι:Type} {a:C} (mk:ι->St) (J:ι->Prop) (μ:ι->Nat) (i0:ι) (hw:Wk s (mk i0)) (hr:∀i,J i->wpC P β a (Ex.thn (λs'=>∃i',J i'/\Wk s' (mk i')/\μ i'<μ i) Q) (mk i)) (h0:J i0:=by (try dsimp only);first|omega|(simp;done)|(and_intros<;>first|omega|simp)):wpC P β (.loop a) Q s:=kp mk J μ i0 h0 hw hr
theorem kt {P:Program} {β:Nat} {d:Option Nat} {g:Option (Nat×Bool)} {s:St} {K:St->Prop} {f:Nat} {args:List X} {vs:List View} {rt:RT} (hp:jR P f vs rt) (hk:∀η:Nat->jl,K ((s.addO (je0 (100*(β+d.getD 0)) η 0 rt.flat)).put d (rt.av (100*(β+d.getD 0)) η))) (ha:qs s (args.map s.ev) vs:=by first|(simp only [go_sem];done)|simp only [go_sem,jy,jk,ja,jc,ji,jb]):kK P β ⟨d,g,.call f args⟩ s K:=jg hp ha hk
theorem qg (k:Nat) (h:(k:Int)+1<9223372036854775808:=by omega):IntKind.i64.wrap ((k:Int)+1)=((k+1:Nat):Int):=kh (by omega) (by omega)
theorem jJ {s:St} {T:List (Nat×AV)} {O:List (Nat×Ob)} (ks:List Nat) (h:jqi s T/\jmK s (ks.map some) O:=by simp only [go_sem]<;>trivial) (hn:jhr (jm3 (ks.map some))=true:=by decide):Wk s (St.of T O):=qJ (ks.map some) h hn
theorem pf_ {P:Program} {N:Nat} {f:FuncId} {fn:Func} {c:C} {vs:List View} {rs:List R} {rt:RT} (hc:fnC P fn=some (c,rs,N)) (hw:wpC P 0 c (jrx rs rt) (St.init vs)) (hf:P.funcs[f]?=some fn:=by kernel_rfl) (hN:vs.length<=N:=by simp):jR P f vs rt:=jpE hf hc hN hw
theorem jdD {x:Int} (h:-9223372036854775808<=x:=by omega) (h':x<9223372036854775808:=by omega):IntKind.i64.wrap x=x:=kh h h'
theorem jco {n:Nat} (h:n<=9223372036854775807:=by omega):n<=maxLen:=h
theorem jaQ (k:Nat):(k:Int)>=0:=by omega
theorem jnA (x y:Yd):jR Tryz.prog 27 [.agg (jb x),.agg (jb y)] (.c (.val (.bool (decide (x=y))))):=jlr ⟨_,Tryz.func27,by kernel_rfl,by kernel_rfl⟩ λw a b ⟨S,ha⟩ ⟨S2,Z⟩=>jn7 x y a b S S2 w false false ha Z
theorem jnt (x:Yd) (bT:jG x<=2000000):jR Tryz.prog 20 [.agg (jb x)] (.agg (jb x)):=jnr ⟨_,Tryz.func20,by kernel_rfl,by kernel_rfl⟩ λw a ⟨S,ha⟩=>jmO x a S w false ha bT
theorem jnx (x:Yd) (left:Int) (h0:0<=left) (V:left<=1048576):jR Tryz.prog 14 [.agg (jb x),.c (.val (.int .i64 left))] (.c (.val (.int .i64 (szf (jG x) left)))):=jlr ⟨_,Tryz.func14,by kernel_rfl,by kernel_rfl⟩ λw a b ⟨S,ha⟩ Z=>by rw [jdF Z];exact jmY x a S w false left ha h0 V
theorem jjr (y:Yd) (k:Int) (h0:0<=k) (V:k+(cYd y:Nat)<=2305843009213693952) (Y:y.aAE.length<=2305843009213693952) (h3:y.aAG.length<=2305843009213693952):jR Tryz.prog 32 [.agg (jb (je2 y k)),.c (.val (.int .i64 k))] (.c (.val (.int .i64 (k+(cYd y:Nat))))):=jlr ⟨_,Tryz.func32,by kernel_rfl,by kernel_rfl⟩ λw a b ⟨S,ha⟩ Z=>by rw [jdF Z];exact jjY y k a S w false ha h0 V Y h3
theorem jsx {P:Program} {ty:Nat} {xs ys:List Value} {b:Bool} (h:∀w,(Op.equalIn 10000 ty (.agg xs.toArray) (.agg ys.toArray)).run P w=.ok b w) (hg:P.eqGuardType P.depth ty=false):EqR P .eql ty xs ys b:=λw=>⟨by rw [run_eql_struct,h w];rfl,λx y=>run_eqGuard_agg _ _ _ _ _ _ _ hg⟩
theorem w_any:Nonempty World:=⟨default⟩
theorem joq {P:Program} {d:Option Nat} {s:St} {K:St->Prop} {op:BinOp} {ty:Nat} {l m:List A0} {xs ys:List Value} {b:Bool} (hx:zi l=some xs) (hy:zi m=some ys) (h:EqR P op ty xs ys b):joM P d s K op ty (.agg l) (.agg m)=K (s.put d (.c (.v (.bool b)))):=by
 apply propext
 constructor
 ·rintro ⟨av,(⟨_,_,_,V,_⟩|⟨l',m',xs',ys',b',V,Y,h3,h4,h5,rfl⟩),h6⟩
  ·cases V
  ·cases V;cases Y
   rw [hx] at h3;rw [hy] at h4;cases h3;cases h4;obtain ⟨w⟩:=w_any;have e1:=(h w).1;rw [(h5 w).1] at e1;simp at e1;subst e1;exact h6
 ·intro hk
  exact ⟨_,.inr ⟨l,m,xs,ys,b,rfl,rfl,hx,hy,h,rfl⟩,hk⟩
theorem jsy (w:World) (x y:Ed):(Op.equalIn 10000 158 (.agg #[.int .i64 x.src,.int .i64 x.dst]) (.agg #[.int .i64 y.src,.int .i64 y.dst])).run Tryz.prog w=.ok (decide (x=y)) w:=by
 have u3:=Tryz.underlying3;have a3:=Tryz.isAgg3;have z3:=Tryz.sizeOf3;rw [show (10000:Nat)=9999+1 from rfl,run_equalIn_agg w 9999 158 _ _ (by kernel_rfl) (by kernel_rfl)]
 simp only [Program.fieldsOf,Tryz.underlying158];obtain ⟨xsrc,xdst⟩:=x;obtain ⟨ysrc,ydst⟩:=y
 go_simp
 by_cases h0:xsrc=ysrc<;>by_cases V:xdst=ydst<;>simp [h0,V]
theorem jmq {d:Option Nat} {s:St} {K:St->Prop} (x y:Ed):joM Tryz.prog d s K .eql 158 (.agg [.v (.int .i64 x.src),.v (.int .i64 x.dst)]) (.agg [.v (.int .i64 y.src),.v (.int .i64 y.dst)])=K (s.put d (.c (.v (.bool (decide (x=y)))))):=joq rfl rfl (jsx (λw=>jsy w x y) (by kernel_rfl))
attribute [go_sem] jmq
