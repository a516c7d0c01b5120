/- Parts. -/
import Derived.Test.YtcehjhiglmifjaaGreatQSub
set_option linter.all false
set_option maxHeartbeats 8000000
set_option maxRecDepth 100000
namespace Go.Proofs.YtcehjhiglmifjaaGreat
open Go.RowKit Go.Sort
theorem qC {L:List Int} {s:Nat×Bool} (h:s.1<=L.length):(jad L s).2.1<=L.length:=by
 unfold jad;split
 ·rename_i v hv;have:=(aNP.1 hv).1;dsimp only;omega
 ·exact h
theorem jr2 {L:List Int} {s:Nat×Bool} (h:∀n∈L,jfK n):jfK (jad L s).1:=by
 unfold jad;split
 ·rename_i v hv;exact h v (aNQ hv)
 ·exact ⟨Int.le_refl _,by show (0:Int)<=_;omega⟩
structure RowsAt {σ α:Type} (bd:σ->Bool) (rd:σ->α×σ) (m:Nat) (s0:σ) (i:Nat) (E:List α) (s:σ):Prop where
 le:i<=m
 len:E.length=i
 eq:vm bd rd m ([],s0)=vm bd rd (m-i) (E,s)
theorem RowsAt.start {σ α:Type} {bd:σ->Bool} {rd:σ->α×σ} (m:Nat) (s0:σ):RowsAt bd rd m s0 0 [] s0:=⟨aOL _,rfl,rfl⟩
theorem RowsAt.next {σ α:Type} {bd:σ->Bool} {rd:σ->α×σ} {m i:Nat} {s0 s:σ} {E:List α} (h:RowsAt bd rd m s0 i E s) (hi:i<m) (hb:bd s=false):RowsAt bd rd m s0 (i+1) (E++[(rd s).1]) (rd s).2:=by
 refine ⟨hi,by simp [h.len],?_⟩
 rw [h.eq,show m-i=m-(i+1)+1 by omega,vm,if_neg (by rw [hb];decide)]
theorem RowsAt.stop {σ α:Type} {bd:σ->Bool} {rd:σ->α×σ} {m i:Nat} {s0 s:σ} {E:List α} (h:RowsAt bd rd m s0 i E s) (hs:i=m\/bd s=true):vm bd rd m ([],s0)=(E,s):=by
 rw [h.eq];rcases hs with rfl|hb
 ·rw [aRD];rfl
 ·exact jgm hb _
abbrev jzx (b ty:Nat) (p m w t:Int) (E:List Ed) (η:jf):Ob:=.box b ty [.a (.v (.int .i64 p)),.a (.v (.int .i64 m)),.a (.v (.int .i64 w)),.a (.v (.int .i64 t)),.own (js E) η]
abbrev ZPl (b ty:Nat):Ob:=.box b ty [.a (.v (.int .i64 0)),.a (.v (.int .i64 0)),.a (.v (.int .i64 0)),.a (.v (.int .i64 0)),.a (.v (.slice none 0 0))]
theorem jCi (l:List Ed) (a b:Int):D.sl 2 tEd (l.flatMap jK++[.val (.int .i64 a),.val (.int .i64 b)])=js (l++[⟨a,b⟩]):=jnv l ⟨a,b⟩
def jat:C:=iS [iA 2 wAS] (iS [aM 6 0,iA 7 (iK 103 [6]),aM 8 0,iA 9 (iK 103 [8]),aM 10 0,iA 11 (iK 103 [10]),aM 12 0,iA 13 (iK 103 [12]),iA 14 (wA0 [(0,1,.t 7),(1,1,.t 9),(2,1,.t 11),(3,1,.t 13)]),iA 3 wAS,wAG 3 14] (iS [aM 15 0,iA 16 (iK 103 [15]),aM 4 16] (.seq (iS [aN 5 0] (.blk 0 (.loop (.seq (iS [aM 17 5,aM 18 4,aP 19 .lss 3 17 18,aM 20 19,iB 21 20 true (iM 0),iB 22 20 true (iF 0 21),iB 23 20 true (iF 1 22),iB 24 20 true (iL 23),iB 25 20 true (iU 24),iA 26 (iY 20 (.t 25) (oF))] (iD 26 .skip (.exit 0))) (.seq (.blk 1 (.dreg (tA 0 29 (iF 4 3) (tA 1 30 (iL 29) (tA 2 31 (iM 0) (tA 4 33 (iM 0) (tC 32 (iK 103 [31]) [4,1,0] (tC 34 (iK 103 [33]) [1,0] (tA 6 35 (.bld [.int .i64 0,.int .i64 0] [(0,1,.t 32),(1,1,.t 34)]) (tC 36 (.bsl 161 2 1 [none,none] [(0,2,.t 35)]) [1,0] (tC 37 (.app 161 2 16 (.t 30) (.t 36)) [] (tA 9 38 (iF 4 3) (.alt (wAK 38 37) [] .done .stop)) .stop) .stop)) .stop) .stop))))))) (.reg [aM 27 5,aQ 28 .add 3 27 1,aM 5 28])))))) (iS [aT 39 5 3,wAG 2 39] .ret))))
theorem jco:fnC Tryz.prog Tryz.f104=some (jat,[.cell 2 true 5],40):=by kernel_rfl
theorem jAS (L:List Int) (bW:∀n∈L,jfK n) (p9:L.length<=1000000000) (s:Nat×Bool) (b:Nat) (η:jf) (o:Nat->Ob) (hs:s.1<=L.length) (ho:o 88=vf b 128 η L s) (hL:o 87=.loose (jb L) η) (pE:o 86=.none):
 Inl Tryz.prog 104 [Bx 88 b] o λav o2=>∃(p:Pl) (s':Nat×Bool) (e:jf),rdPl none (jad L) (·.2) (λs=>(s.1,true)) s=(p,s')/\s'.1<=L.length/\
  av=.agg [.v (.int .i64 p.aNI),.v (.int .i64 p.aNN),.v (.int .i64 p.aNM),.v (.int .i64 p.aNA),.v (e [])]/\(e []).oneCell'=true/\o2 86=.loose (js p.aNF) e/\o2 88=vf b 128 η L s'/\∀g,g<900000000->g≠86->g≠88->o2 g=o g:=by
 refine jlf (β:=9000000) [[1,1,1,1,0]] Tryz.func104 jco (by simp) ?_
 unfold jat;simp only [C.ghs,C.ghAt,List.foldr];simp only [go_sem];intro b2;refine jv (kL L s b η _ hs (by simp only [go_sem,ho]) (by simp only [go_sem,hL])) (by simp only [go_sem]) ?_
 have s1:=qC hs;generalize gC:jad L s=q1 at*;simp only [go_sem];refine jv (kL L q1.2 b η _ s1 (by simp only [go_sem]) (by simp only [go_sem,hL])) (by simp only [go_sem]) ?_
 have s2:=qC s1;generalize gO:jad L q1.2=q2 at*;simp only [go_sem];refine jv (kL L q2.2 b η _ s2 (by simp only [go_sem]) (by simp only [go_sem,hL])) (by simp only [go_sem]) ?_
 have s3:=qC s2;generalize sN:jad L q2.2=q3 at*;simp only [go_sem];refine jv (kL L q3.2 b η _ s3 (by simp only [go_sem]) (by simp only [go_sem,hL])) (by simp only [go_sem]) ?_
 have s4:=qC s3;generalize wA:jad L q3.2=q4 at*;simp only [go_sem];intro b3;refine jv (kL L q4.2 b η _ s4 (by simp only [go_sem]) (by simp only [go_sem,hL])) (by simp only [go_sem]) ?_
 have s5:=qC s4;have hm:=jr2 (s:=q4.2) bW;generalize xG:jad L q4.2=q5 at*;simp only [go_sem];obtain ⟨m,oO⟩:=Int.eq_ofNat_of_zero_le hm.1;have dI:=hm.2;rw [oO] at dI;have fT:q5.1=(m:Int):=oO;rw [fT];refine kg (λi:(Nat×List Ed×(Nat×Bool))×jf=>St.ofB [(0,Bx 88 b),(2,Bx 900000200 b2),(3,Bx 900000300 b3),(4,Ni m),(5,Ni i.1.1)] [(900000200,ZPl b2 49),(900000300,jzx b3 49 q1.1 q2.1 q3.1 q4.1 i.1.2.1 i.2)] 900000000 (λj=>if j=88 then vf b 128 η L i.1.2.2 else o j)) (λi=>RowsAt (·.2) (jtc (jad L)) m q5.2 i.1.1 i.1.2.1 i.1.2.2/\i.1.2.2.1<=L.length) (λi=>m-i.1.1) ((0,[],q5.2),jbL) (⟨RowsAt.start _ _,s5⟩) (kM [some 900000200,some 900000300] (by simp only [go_sem]<;>trivial) (λj hj=>by by_cases e88:j=88<;>simp only [go_sem,e88,jV hj 900000200 (by omega),jV hj 900000300 (by omega)]) (by decide)) ?_
 rintro ⟨⟨i,E,q⟩,e0⟩ ⟨hR,hq⟩;dsimp only at hR hq;have cE:=hR.le;have aD:=hR.len;by_cases aB:i<m;rotate_left
 ·have aA:¬(i:Int)<(m:Int):=by omega
  have aH:=hR.stop (.inl (by omega))
  have hrd:rdPl none (jad L) (·.2) (λs=>(s.1,true)) s=(⟨q1.1,q2.1,q3.1,q4.1,E⟩,q):=by
   simp only [rdPl,gC,gO,sN,wA,xG,jhQ,fT,aNW,aH]
  simp only [go_sem,aA];refine kv ?_;refine qA 900000300 4 86 (d:=js E) (η:=e0) (by simp only [go_sem]) (by simp only [go_sem,pE]) (by decide) λhx=>?_
  refine WkK.of ?_;simp only [go_sem,hx];exact ⟨_,_,e0,hrd,hq,rfl,hx,rfl,rfl,λg g1 g2 g3=>by simp only [g2,g3,g1,jV g1 900000200 (by omega),jV g1 900000300 (by omega),if_true,if_false]⟩
 have aA:(i:Int)<(m:Int):=by omega
 obtain ⟨k,bad⟩:=q;cases bad;rotate_left
 ·have aH:=hR.stop (.inr rfl)
  have hrd:rdPl none (jad L) (·.2) (λs=>(s.1,true)) s=(⟨q1.1,q2.1,q3.1,q4.1,E⟩,(k,true)):=by
   simp only [rdPl,gC,gO,sN,wA,xG,jhQ,fT,aNW,aH]
  simp only [go_sem,aA,vf,Bool.not_true];refine kv ?_;refine qA 900000300 4 86 (d:=js E) (η:=e0) (by simp only [go_sem]) (by simp only [go_sem,pE]) (by decide) λhx=>?_
  refine WkK.of ?_;simp only [go_sem,hx];exact ⟨_,_,e0,hrd,hq,rfl,hx,rfl,rfl,λg g1 g2 g3=>by simp only [g2,g3,g1,jV g1 900000200 (by omega),jV g1 900000300 (by omega),if_true,if_false]⟩
 ·have cH:=hR.next aB rfl
  simp only [go_sem,aA,vf,Bool.not_false];refine jv (kL L (k,false) b η _ hq (by simp only [go_sem,vf]) (by simp only [go_sem,hL])) (by simp only [go_sem]) ?_
  have t1:=qC hq;simp only [jtc] at cH;generalize dC:jad L (k,false)=r1 at*;simp only [go_sem];refine jv (kL L r1.2 b η _ t1 (by simp only [go_sem]) (by simp only [go_sem,hL])) (by simp only [go_sem]) ?_
  have t2:=qC t1;generalize cR:jad L r1.2=r2 at*;have hw:=kx i;simp only [go_sem];intro e1;refine ⟨by unfold maxLen;omega,by omega,λe2=>?_⟩
  exact ⟨((i+1,E++[⟨r1.1,r2.1⟩],r2.2),e2),⟨cH,t2⟩,(kM [some 900000200,some 900000300] (by simp only [go_sem,jCi,hw,vf]<;>trivial) (λj hj=>by by_cases e88:j=88<;>simp only [go_sem,e88,hj,jV hj 900000300 (by omega),jV hj 900003600 (by omega),jV hj 900003700 (by omega),jCi,hw,vf]) (by decide)),by (try dsimp only);omega⟩
section
variable {σ:Type} {nx:σ->Int×σ} {bd:σ->Bool} {sb:σ->σ}
def rdSh (cap:Option Int) (nx:σ->Int×σ) (bd:σ->Bool) (sb:σ->σ) (s:σ):List En×σ:=
 vm bd (jv0 nx) (nx s).1.toNat ([],jhQ cap sb (nx s).1 (nx s).2)
def rdRn (ce ct:Option Int) (nx:σ->Int×σ) (bd:σ->Bool) (sb:σ->σ) (s:σ):Rn×σ:=
 let a:=nx s;let p:=rdPl ce nx bd sb a.2;let c:=nx p.2
 let t:=vm bd (jrC nx) p.1.aNA.toNat ([],jhQ ct sb p.1.aNA c.2)
 (⟨a.1,p.1,c.1,t.1⟩,t.2)
theorem jEe (x:En) (s s':σ) (h:RdSeq nx bd s (enI x) s'):jv0 nx s=(x,s'):=by
 obtain ⟨_,h1,_,h2,_,h3,_,h4,h5⟩:=h;rw [show s'=_ from h5,jv0]
 simp only [h1,h2,h3,h4]
theorem jCM (x:Tk) (s s':σ) (h:RdSeq nx bd s (tkI x) s'):jrC nx s=(x,s'):=by
 obtain ⟨_,h1,_,h2,_,h3,_,h4,h5⟩:=h;rw [show s'=_ from h5,jrC]
 simp only [h1,h2,h3,h4]
theorem jCW {cap:Option Int} {l:List En} {s s':σ} (hc:∀c,cap=some c->(l.length:Int)<=c) (h:RdSeq nx bd s (shI l) s'):rdSh cap nx bd sb s=(l,s'):=by
 obtain ⟨_,e1,h2⟩:=h;have hr:=jdi (rd:=jv0 nx) (pr:=enI) (by intro x;simp [enI]) (λ_=>True) (λx s s' _ h=>jEe x s s' h) l [] _ s' (by simp) h2
 simp only [rdSh,e1,aNW,jsA hc,hr,aOQ]
theorem jDo {ce ct:Option Int} {r:Rn} {s s':σ} (hn:r.aNB.aNA=(r.aNA.length:Int)) (hc:∀c,ce=some c->(r.aNB.aNF.length:Int)<=c) (hd:∀c,ct=some c->(r.aNA.length:Int)<=c) (h:RdSeq nx bd s (rnI r) s'):rdRn ce ct nx bd sb s=(r,s'):=by
 obtain ⟨id,p,st,ts⟩:=r;obtain ⟨s1,h1,h2⟩:=RdSeq.split (l:=id::plI p) (m:=st::ts.flatMap tkI) h;obtain ⟨_,e1,h1⟩:=h1;obtain ⟨_,e2,h2⟩:=h2;dsimp only at hn hc hd;have hr:=jdi (rd:=jrC nx) (pr:=tkI) (by intro x;simp [tkI]) (λ_=>True) (λx s s' _ h=>jCM x s s' h) ts [] _ s' (by simp) h2
 have n5:∀c,ct=some c->p.aNA<=c:=by rw [hn];exact hd
 simp only [rdRn,e1,jDx hc h1,e2,hn,aNW];rw [hn] at n5;simp only [jsA n5,hr,aOQ]
def jal {α:Type} (rd:σ->α×σ):Nat->List α×σ->List α×σ
 |0,s=>s
 |n+1,s=>jal rd n (s.1++[(rd s.2).1],(rd s.2).2)
theorem jmV {α:Type} {rd:σ->α×σ} {pr:α->List Int} (ok:α->Prop) (h:∀x s s',ok x->RdSeq nx bd s (pr x) s'->rd s=(x,s')):
 ∀(l:List α) (acc:List α) (s s':σ),(∀x∈l,ok x)->RdSeq nx bd s (l.flatMap pr) s'->jal rd l.length (acc,s)=(acc++l,s')
 |[],acc,s,s',_,h'=>by simp only [aOR,jal,aOP];rw [show s'=s from h']
 |x::l,acc,s,s',ho,h'=>by
  rw [aOM] at h';obtain ⟨s1,h1,h2⟩:=h'.split;have e:=h x s s1 (ho x (by simp)) h1
  rw [aOD,jal,e,jmV ok h l _ s1 s' (λz hz=>ho z (by simp [hz])) h2]
  simp
def rdYI (nx:σ->Int×σ) (bd:σ->Bool) (sb:σ->σ) (s:σ):Yd×σ:=
 let a:=nx s;let b:=nx a.2;let h:=jal (rdSh none nx bd sb) 4 ([],b.2);let m:=nx h.2
 let r:=vm bd (rdRn none none nx bd sb) m.1.toNat ([],m.2)
 (⟨a.1,b.1,h.1,r.1⟩,r.2)
theorem rn_ok {r:Rn} (h:RunOkP r):r.aNB.aNA=(r.aNA.length:Int)/\(r.aNB.aNF.length:Int)<=31/\(r.aNA.length:Int)<=12:=by
 obtain ⟨n,h1,h2,h3,h4,-⟩:=jbJ h.aNB;have:=h.len;refine ⟨by omega,by omega,by omega⟩
theorem jCB {y:Yd} {s s':σ} (hk:YardOkP y) (h:RdSeq nx bd s (jb7 y) s'):rdYI nx bd sb s=(y,s'):=by
 obtain ⟨s1,h1,h2⟩:=RdSeq.split (l:=[y.now,y.seq]++y.aNC.flatMap shI) h;obtain ⟨s0,h0,h1⟩:=RdSeq.split (l:=[y.now,y.seq]) h1;obtain ⟨_,e1,_,e2,h0⟩:=h0;obtain ⟨_,e3,h2⟩:=h2;have a1:=jmV (rd:=rdSh none nx bd sb) (pr:=shI) (λ_=>True) (λx s s' _ h=>jCW (by simp) h) y.aNC [] s0 s1 (by simp) h1
 have a2:=jdi (rd:=rdRn none none nx bd sb) (pr:=rnI) (by intro x;simp [rnI]) RunOkP (λx s s' ho h=>jDo (rn_ok ho).1 (by simp) (by simp) h) y.aNE [] _ s' hk.right h2
 rw [hk.four] at a1;rw [show s0=_ from h0] at a1
 simp only [rdYI,e1,e2,a1,aOQ,e3,aNW,a2]
theorem zc (hb:∀s,bd s=true->bd (nx s).2=true) {s:σ} (h:bd (nx s).2=false):bd s=false:=by
 cases hq:bd s with
 |false=>rfl
 |true=>rw [hb s hq] at h;cases h
theorem jCh (hb:∀s,bd s=true->bd (nx s).2=true) (s:σ) (h:bd s=true):bd (jv0 nx s).2=true:=hb _ (hb _ (hb _ (hb _ h)))
theorem jws (hb:∀s,bd s=true->bd (nx s).2=true) (s:σ) (h:bd s=true):bd (jrC nx s).2=true:=hb _ (hb _ (hb _ (hb _ h)))
theorem jyE (hb:∀s,bd s=true->bd (nx s).2=true) (s:σ) (h:bd s=true):bd (jtc nx s).2=true:=hb _ (hb _ h)
theorem jBb (hb:∀s,bd s=true->bd (nx s).2=true) (s:σ) (h:bd (jv0 nx s).2=false):RdSeq nx bd s (enI (jv0 nx s).1) (jv0 nx s).2:=by
 have h4:=zc hb h;have h3:=zc hb h4;have h2:=zc hb h3;have h1:=zc hb h2;exact ⟨h1,rfl,h2,rfl,h3,rfl,h4,rfl,rfl⟩
theorem jzP (hb:∀s,bd s=true->bd (nx s).2=true) (s:σ) (h:bd (jrC nx s).2=false):RdSeq nx bd s (tkI (jrC nx s).1) (jrC nx s).2:=by
 have h4:=zc hb h;have h3:=zc hb h4;have h2:=zc hb h3;have h1:=zc hb h2;exact ⟨h1,rfl,h2,rfl,h3,rfl,h4,rfl,rfl⟩
theorem jBe (hb:∀s,bd s=true->bd (nx s).2=true) (s:σ) (h:bd (jtc nx s).2=false):RdSeq nx bd s (edI (jtc nx s).1) (jtc nx s).2:=by
 have h2:=zc hb h;have h1:=zc hb h2;exact ⟨h1,rfl,h2,rfl,rfl⟩
theorem jhe {α:Type} {rd:σ->α×σ} {pr:α->List Int} (mE:∀s,bd s=true->bd (rd s).2=true) (h:∀s,bd (rd s).2=false->RdSeq nx bd s (pr (rd s).1) (rd s).2) (hs:∀s,bd (sb s)=true)
 {cap:Option Int} {m:Int} {n:Nat} {s:σ} (hf:bd (vm bd rd n ([],jhQ cap sb m s)).2=false):∃l s',l.length=n/\vm bd rd n ([],jhQ cap sb m s)=(l,s')/\RdSeq nx bd s (l.flatMap pr) s':=by
 have hc:jhQ cap sb m s=s:=by
  unfold jhQ at hf⊢;split
  ·split
   ·rename_i c hq
    simp only [hq,if_true] at hf;rw [jgm (by exact hs s)] at hf
    simp only at hf;rw [hs s] at hf;cases hf
   ·rfl
  ·rfl
 rw [hc] at hf⊢;obtain ⟨l,h1,h2,h3⟩:=jmU mE h n [] s hf;exact ⟨l,_,h1,Prod.ext (by rw [h2];simp) rfl,h3⟩
theorem jbF {α:Type} {rd:σ->α×σ} (mE:∀s,bd s=true->bd (rd s).2=true) {cap:Option Int} {m:Int} {n:Nat} {s:σ} (hs:∀s,bd (sb s)=true) (h:bd s=true) (acc:List α):bd (vm bd rd n (acc,jhQ cap sb m s)).2=true:=by
 have:bd (jhQ cap sb m s)=true:=by
  unfold jhQ;split
  ·split
   ·exact hs s
   ·exact h
  ·exact h
 rw [jgm (by exact this)];exact this
theorem jBP (hb:∀s,bd s=true->bd (nx s).2=true) (hs:∀s,bd (sb s)=true) (cap:Option Int) (s:σ) (h:bd s=true):bd (rdSh cap nx bd sb s).2=true:=jbF (jCh hb) hs (hb _ h) []
theorem jB1 (hb:∀s,bd s=true->bd (nx s).2=true) (hs:∀s,bd (sb s)=true) (cap:Option Int) (s:σ) (h:bd s=true):bd (rdPl cap nx bd sb s).2=true:=jbF (jyE hb) hs (hb _ (hb _ (hb _ (hb _ (hb _ h))))) []
theorem jBW (hb:∀s,bd s=true->bd (nx s).2=true) (hs:∀s,bd (sb s)=true) (ce ct:Option Int) (s:σ) (h:bd s=true):bd (rdRn ce ct nx bd sb s).2=true:=jbF (jws hb) hs (hb _ (jB1 hb hs ce _ (hb _ h))) []
theorem jz6 (hb:∀s,bd s=true->bd (nx s).2=true) (hs:∀s,bd (sb s)=true) (hn:∀s,0<=(nx s).1) (cap:Option Int) (s:σ) (h:bd (rdSh cap nx bd sb s).2=false):RdSeq nx bd s (shI (rdSh cap nx bd sb s).1) (rdSh cap nx bd sb s).2:=by
 obtain ⟨l,s',h1,h2,h3⟩:=jhe (jCh hb) (jBb hb) hs h
 have h0:bd s=false:=by
  cases hq:bd s with
  |false=>rfl
  |true=>rw [jBP hb hs cap s hq] at h;cases h
 rw [show rdSh cap nx bd sb s=(l,s') from h2]
 refine ⟨h0,?_,h3⟩;have:=hn s;dsimp only;omega
theorem jAu (hb:∀s,bd s=true->bd (nx s).2=true) (hs:∀s,bd (sb s)=true) (hn:∀s,0<=(nx s).1) (cap:Option Int) (s:σ) (h:bd (rdPl cap nx bd sb s).2=false):RdSeq nx bd s (plI (rdPl cap nx bd sb s).1) (rdPl cap nx bd sb s).2:=by
 obtain ⟨l,s',h1,h2,h3⟩:=jhe (jyE hb) (jBe hb) hs (h:bd (vm bd (jtc nx) _ ([],jhQ cap sb _ _)).2=false)
 have h5:bd (nx (nx (nx (nx (nx s).2).2).2).2).2=false:=by
  cases hq:bd (nx (nx (nx (nx (nx s).2).2).2).2).2 with
  |false=>rfl
  |true=>exact absurd (jbF (jyE hb) hs hq []) (by rw [show bd (vm bd (jtc nx) _ ([],jhQ cap sb _ _)).2=false from h];decide)
 have h4:=zc hb h5;have g3:=zc hb h4;have g2:=zc hb g3;have g1:=zc hb g2;have g0:=zc hb g1
 have e:rdPl cap nx bd sb s=(⟨(nx s).1,(nx (nx s).2).1,(nx (nx (nx s).2).2).1,(nx (nx (nx (nx s).2).2).2).1,l⟩,s'):=by
  simp only [rdPl,h2]
 rw [e];refine ⟨g0,rfl,g1,rfl,g2,rfl,g3,rfl,h4,?_,h3⟩;have:=hn (nx (nx (nx (nx s).2).2).2).2;dsimp only;omega
theorem jF1 (hb:∀s,bd s=true->bd (nx s).2=true) (hs:∀s,bd (sb s)=true) {cap:Option Int} {s:σ} (h:bd (rdPl cap nx bd sb s).2=false):bd s=false:=by
 cases hq:bd s with
 |false=>rfl
 |true=>rw [jB1 hb hs cap s hq] at h;cases h
theorem jAh (hb:∀s,bd s=true->bd (nx s).2=true) (hs:∀s,bd (sb s)=true) (hn:∀s,0<=(nx s).1) (ce ct:Option Int) (s:σ) (h:bd (rdRn ce ct nx bd sb s).2=false):RdSeq nx bd s (rnI (rdRn ce ct nx bd sb s).1) (rdRn ce ct nx bd sb s).2:=by
 obtain ⟨l,s',h1,h2,h3⟩:=jhe (jws hb) (jzP hb) hs (h:bd (vm bd (jrC nx) _ ([],jhQ ct sb _ _)).2=false)
 have h5:bd (nx (rdPl ce nx bd sb (nx s).2).2).2=false:=by
  cases hq:bd (nx (rdPl ce nx bd sb (nx s).2).2).2 with
  |false=>rfl
  |true=>exact absurd (jbF (jws hb) hs hq []) (by rw [show bd (vm bd (jrC nx) _ ([],jhQ ct sb _ _)).2=false from h];decide)
 have h4:=zc hb h5;have g3:=jF1 hb hs h4;have g2:=zc hb g3;have hp:=jAu hb hs hn ce (nx s).2 h4
 have e:rdRn ce ct nx bd sb s=(⟨(nx s).1,(rdPl ce nx bd sb (nx s).2).1,(nx (rdPl ce nx bd sb (nx s).2).2).1,l⟩,s'):=by
  simp only [rdRn,h2]
 rw [e];exact RdSeq.app (l:=(nx s).1::plI (rdPl ce nx bd sb (nx s).2).1) ⟨g2,rfl,hp⟩ ⟨h4,rfl,h3⟩
theorem jBR (hN:∀s,jfK (nx s).1):∀(l:List Int) (s s':σ),RdSeq nx bd s l s'->∀n∈l,jfK n
 |[],_,_,_=>by simp
 |x::l,s,s',⟨_,h2,h3⟩=>λn hn=>by
  rcases aOK.1 hn with rfl|hn
  ·rw [<-h2];exact hN s
  ·exact jBR hN l _ _ h3 n hn
theorem jkS {α:Type} {rd:σ->α×σ} {pr:α->List Int} (mE:∀s,bd s=true->bd (rd s).2=true) (h:∀s,bd (rd s).2=false->RdSeq nx bd s (pr (rd s).1) (rd s).2):
 ∀(n:Nat) (acc:List α) (s:σ),bd (jal rd n (acc,s)).2=false->bd s=false/\∃l,l.length=n/\(jal rd n (acc,s)).1=acc++l/\RdSeq nx bd s (l.flatMap pr) (jal rd n (acc,s)).2
 |0,acc,s,hb=>⟨hb,[],rfl,by simp [jal],rfl⟩
 |n+1,acc,s,hb=>by
  rw [jal] at hb⊢;obtain ⟨h1,l,e1,e2,e3⟩:=jkS mE h n (acc++[(rd s).1]) (rd s).2 hb;refine ⟨?_,(rd s).1::l,by simp [e1],by rw [e2];simp,by rw [aOM];exact (h s h1).app e3⟩
  cases hq:bd s with
  |false=>rfl
  |true=>rw [mE s hq] at h1;cases h1
theorem jzF (hb:∀s,bd s=true->bd (nx s).2=true) (hs:∀s,bd (sb s)=true) (hn:∀s,0<=(nx s).1) (s:σ) (h:bd (rdYI nx bd sb s).2=false):RdSeq nx bd s (jb7 (rdYI nx bd sb s).1) (rdYI nx bd sb s).2:=by
 obtain ⟨l,s',h1,h2,h3⟩:=jhe (cap:=none) (m:=0) (sb:=sb) (jBW hb hs _ _) (jAh hb hs hn _ _) hs (h:bd (vm bd (rdRn none none nx bd sb) _ ([],jhQ none sb 0 _)).2=false)
 have h5:bd (nx (jal (rdSh none nx bd sb) 4 ([],(nx (nx s).2).2)).2).2=false:=by
  cases hq:bd (nx (jal (rdSh none nx bd sb) 4 ([],(nx (nx s).2).2)).2).2 with
  |false=>rfl
  |true=>exact absurd (jbF (cap:=none) (m:=0) (sb:=sb) (jBW hb hs none none) hs hq []) (by rw [show bd (vm bd (rdRn none none nx bd sb) _ ([],jhQ none sb 0 _)).2=false from h];decide)
 have h4:=zc hb h5;obtain ⟨g3,S,k1,k2,k3⟩:=jkS (jBP hb hs _) (jz6 hb hs hn _) 4 [] _ h4;have g2:=zc hb g3;have g1:=zc hb g2;have bI:vm bd (rdRn none none nx bd sb) (nx (jal (rdSh none nx bd sb) 4 ([],(nx (nx s).2).2)).2).1.toNat ([],(nx (jal (rdSh none nx bd sb) 4 ([],(nx (nx s).2).2)).2).2)=(l,s'):=h2
 have e:rdYI nx bd sb s=(⟨(nx s).1,(nx (nx s).2).1,S,l⟩,s'):=by
  simp only [rdYI,bI,k2,aOQ]
 rw [e];refine RdSeq.app (RdSeq.app (l:=[(nx s).1,(nx (nx s).2).1]) ⟨g1,rfl,g2,rfl,rfl⟩ k3) ⟨h4,?_,h3⟩;have:=hn (jal (rdSh none nx bd sb) 4 ([],(nx (nx s).2).2)).2;dsimp only;omega
end
abbrev ydZ:Yd:=⟨0,0,[],[]⟩
structure jl1 (t:ByteArray) (y:Yd):Prop where
 ok:YardOkP y
 nums:∀n∈jb7 y,jfK n
 txt:t=jl4 (jb7 y)
open Classical in
noncomputable def jb6 (t:ByteArray):Yd×Bool:=if h:∃y,jl1 t y then (h.choose,true) else (ydZ,false)
abbrev nI (L:List Int):=rdYI (jad L) (·.2) (λs=>(s.1,true)) (0,false)
noncomputable def jaq (t:ByteArray):Yd×Bool:=match rvF t.size t.data.toList with
 |none=>(ydZ,false)
 |some L=>if (nI L).2.2=true\/ju (nI L).1=false\/qS (nI L).1≠t then (ydZ,false) else ((nI L).1,true)
theorem yd_I {t:ByteArray} {y:Yd} (h:jl1 t y):jaq t=(y,true):=by
 obtain ⟨h1,h2,h3⟩:=h;have hr:rvF t.size t.data.toList=some (jb7 y):=by subst h3;exact js2 _ _ h2 (aOC _)
 have hb:=jCB (sb:=λs:Nat×Bool=>(s.1,true)) h1 (jto (L:=jb7 y) (jb7 y) (rest:=[]) (lo:=0) (by simp))
 have hy:qS y=t:=by rw [qS,if_pos (zS h1)];exact h3.symm
 simp only [jaq,hr,nI,hb,zS h1];rw [if_neg];rintro (g|g|g)
 ·cases g
 ·cases g
 ·exact g hy
theorem jAA (L:List Int) (s:Nat×Bool) (h:s.2=true):(jad L s).2.2=true:=by
 unfold jad;split
 ·exact h
 ·rfl
theorem jon {L:List Int} (h:∀n∈L,jfK n) (s:Nat×Bool):jfK (jad L s).1:=by
 unfold jad;split
 ·rename_i v hv;exact h v (aNQ hv)
 ·exact ⟨Int.le_refl _,by show (0:Int)<=_;omega⟩
theorem jpH (t:ByteArray):jaq t=jb6 t:=by
 unfold jb6;split
 ·rename_i h;exact yd_I h.choose_spec
 ·rename_i h
  unfold jaq;split
  ·rfl
  ·rename_i L hL
   obtain ⟨-,bW⟩:=jnO _ _ _ hL;split
   ·rfl
   ·rename_i hc
    refine absurd ⟨(nI L).1,?_⟩ h
    have hb:(nI L).2.2=false:=by
     cases hq:(nI L).2.2 with
     |false=>rfl
     |true=>exact absurd (.inl hq) hc
    have hk:ju (nI L).1=true:=by
     cases hq:ju (nI L).1 with
     |true=>rfl
     |false=>exact absurd (.inr (.inl hq)) hc
    have hy:qS (nI L).1=t:=aPQ λg=>hc (.inr (.inr g))
    have iV:=jzF (nx:=jad L) (bd:=λs:Nat×Bool=>s.2) (sb:=λs=>(s.1,true)) (jAA L) (λ_=>rfl) (λs=>(jon bW s).1) (0,false) hb
    refine ⟨yard_iff.1 hk,jBR (jon bW) _ _ _ iV,?_⟩;rw [<-hy,qS,if_pos hk]
section
variable {σ:Type} {nx:σ->Int×σ} {bd:σ->Bool} {sb:σ->σ} {φ:σ->Nat}
structure Pot (nx:σ->Int×σ) (bd:σ->Bool) (sb:σ->σ) (φ:σ->Nat):Prop where
 le:∀s,φ (nx s).2<=φ s
 lt:∀s,bd s=false->φ (nx s).2+1<=φ s
 sb:∀s,φ (sb s)<=φ s
theorem Pot.cap (h:Pot nx bd sb φ) (c:Option Int) (m:Int) (s:σ):φ (jhQ c sb m s)<=φ s:=by
 unfold jhQ;split
 ·split
  ·exact h.sb s
  ·exact aOC _
 ·exact aOC _
theorem jpe {α:Type} (w:α->Nat) (l:List α) (x:α):qh w (l++[x])=qh w l+w x:=by simp [qh]
theorem jdj {α:Type} {rd:σ->α×σ} (w:α->Nat) (h:∀s,bd s=false->φ (rd s).2+w (rd s).1<=φ s):∀(n:Nat) (acc:List α) (s:σ),qh w (vm bd rd n (acc,s)).1+φ (vm bd rd n (acc,s)).2<=qh w acc+φ s
 |0,acc,s=>aOC _
 |n+1,acc,s=>by
  rw [vm];split
  ·exact aOC _
  ·rename_i hb
   have h1:=jdj w h n (acc++[(rd s).1]) (rd s).2;have h2:=h s (by cases hq:bd s with|false=>rfl|true=>exact absurd hq hb)
   rw [jpe] at h1;dsimp only at h1⊢;omega
theorem jpA {α:Type} {rd:σ->α×σ} (w:α->Nat) (h:∀s,φ (rd s).2+w (rd s).1<=φ s):∀(n:Nat) (acc:List α) (s:σ),qh w (jal rd n (acc,s)).1+φ (jal rd n (acc,s)).2<=qh w acc+φ s
 |0,acc,s=>aOC _
 |n+1,acc,s=>by
  rw [jal];have h1:=jpA w h n (acc++[(rd s).1]) (rd s).2;have h2:=h s;rw [jpe] at h1;dsimp only at h1⊢;omega
theorem jke {α:Type}:∀l:List α,qh (λ_=>1) l=l.length
 |[]=>rfl
 |a::l=>by have:=jke l;simp [qh] at this⊢;omega
theorem jpf {α:Type} (w:α->Nat):∀l:List α,qh (λx=>w x+1) l=l.length+qh w l
 |[]=>rfl
 |a::l=>by have:=jpf w l;simp [qh] at this⊢;omega
theorem jpB {α:Type} {rd:σ->α×σ}:∀(n:Nat) (acc:List α) (s:σ),(jal rd n (acc,s)).1.length=acc.length+n
 |0,acc,s=>rfl
 |n+1,acc,s=>by rw [jal,jpB n];simp;omega
theorem Pot.nx2 (h:Pot nx bd sb φ) (s:σ):φ (nx (nx s).2).2<=φ s:=aPC (h.le _) (h.le s)
theorem Pot.rdSh (h:Pot nx bd sb φ) (c:Option Int) (s:σ):φ (rdSh c nx bd sb s).2+vh (rdSh c nx bd sb s).1<=φ s:=by
 have h1:=jdj (rd:=jv0 nx) (bd:=bd) (φ:=φ) (λ_=>1) (λs hs=>by
  have a1:=h.lt s hs;have a2:=h.nx2 (nx s).2;have a3:=h.le (nx (nx (nx s).2).2).2;simp only [jv0];omega) (nx s).1.toNat [] (jhQ c sb (nx s).1 (nx s).2)
 have h2:=h.cap c (nx s).1 (nx s).2;have h3:=h.le s;rw [jke] at h1;simp only [Go.Proofs.YtcehjhiglmifjaaGreat.rdSh,vh];have:qh (λ_:En=>1) []=0:=rfl
 omega
theorem Pot.rdPl (h:Pot nx bd sb φ) (c:Option Int) (s:σ):φ (rdPl c nx bd sb s).2+jc4 (rdPl c nx bd sb s).1<=φ s:=by
 have h1:=λn s=>jdj (rd:=jtc nx) (bd:=bd) (φ:=φ) (λ_=>1) (λs hs=>by
  have a1:=h.lt s hs;have a2:=h.le (nx s).2;simp only [jtc];omega) n [] s
 simp only [Go.Proofs.YtcehjhiglmifjaaGreat.rdPl,jc4];have h3:=h.nx2 s;have h4:=h.nx2 (nx (nx s).2).2;have h5:=h.le (nx (nx (nx (nx s).2).2).2).2;have h2:=h.cap c (nx (nx (nx (nx (nx s).2).2).2).2).1 (nx (nx (nx (nx (nx s).2).2).2).2).2;have cW:=h1 (nx (nx (nx (nx (nx s).2).2).2).2).1.toNat (jhQ c sb (nx (nx (nx (nx (nx s).2).2).2).2).1 (nx (nx (nx (nx (nx s).2).2).2).2).2);rw [jke] at cW;have:qh (λ_:Ed=>1) []=0:=rfl
 omega
theorem Pot.rdRn (h:Pot nx bd sb φ) (c c':Option Int) (s:σ) (hs:bd s=false):φ (rdRn c c' nx bd sb s).2+(kz (rdRn c c' nx bd sb s).1+1)<=φ s:=by
 have h1:=λn s=>jdj (rd:=jrC nx) (bd:=bd) (φ:=φ) (λ_=>1) (λs hs=>by
  have a1:=h.lt s hs;have a2:=h.nx2 (nx s).2;have a3:=h.le (nx (nx (nx s).2).2).2;simp only [jrC];omega) n [] s
 simp only [Go.Proofs.YtcehjhiglmifjaaGreat.rdRn,kz];have h3:=h.lt s hs;have h4:=h.rdPl c (nx s).2;generalize Go.Proofs.YtcehjhiglmifjaaGreat.rdPl c nx bd sb (nx s).2=p at*;have h5:=h.le p.2;have h2:=h.cap c' p.1.aNA (nx p.2).2;have cW:=h1 p.1.aNA.toNat (jhQ c' sb p.1.aNA (nx p.2).2);rw [jke] at cW;have:qh (λ_:Tk=>1) []=0:=rfl
 omega
theorem Pot.aNE (h:Pot nx bd sb φ) (c c':Option Int) (n:Nat) (s:σ):zn (vm bd (Go.Proofs.YtcehjhiglmifjaaGreat.rdRn c c' nx bd sb) n ([],s)).1+φ (vm bd (Go.Proofs.YtcehjhiglmifjaaGreat.rdRn c c' nx bd sb) n ([],s)).2<=φ s:=by
 have:=jdj (bd:=bd) (φ:=φ) (rd:=Go.Proofs.YtcehjhiglmifjaaGreat.rdRn c c' nx bd sb) (λr=>kz r+1) (λs hs=>h.rdRn c c' s hs) n [] s
 rw [jpf] at this;have e:qh (λr:Rn=>kz r+1) []=0:=rfl
 simp only [zn];omega
theorem Pot.rdYI (h:Pot nx bd sb φ) (s:σ):jn (rdYI nx bd sb s).1+φ (rdYI nx bd sb s).2<=φ s+4:=by
 have h1:=h.nx2 s;have h2:=jpA (φ:=φ) (rd:=Go.Proofs.YtcehjhiglmifjaaGreat.rdSh none nx bd sb) vh (λs=>h.rdSh none s) 4 [] (nx (nx s).2).2
 have h3:=jpB (rd:=Go.Proofs.YtcehjhiglmifjaaGreat.rdSh none nx bd sb) 4 [] (nx (nx s).2).2;simp only [Go.Proofs.YtcehjhiglmifjaaGreat.rdYI,jn,jbp];generalize jal (Go.Proofs.YtcehjhiglmifjaaGreat.rdSh none nx bd sb) 4 ([],(nx (nx s).2).2)=S at*;have h4:=h.le S.2;have h5:=h.aNE none none (nx S.2).1.toNat (nx S.2).2;have e:qh vh []=0:=rfl;simp at h3;omega
end
def jxU (L:List Int) (s:Nat×Bool):Nat:=L.length-s.1+if s.2 then 0 else 1
theorem pot_L (L:List Int):Pot (jad L) (·.2) (λs=>(s.1,true)) (jxU L):=by
 refine ⟨λs=>?_,λs hs=>?_,λs=>?_⟩
 ·unfold jad jxU
  split
  ·dsimp only;omega
  ·dsimp only;simp
 ·obtain ⟨k,b⟩:=s
  dsimp only at hs;subst hs;unfold jad jxU;split
  ·rename_i v hv
   have:=(aNP.1 hv).1;simp at this⊢;omega
  ·simp
 ·unfold jxU;simp
theorem jw0:∀(f:Nat) (l:List UInt8) (L:List Int),rvF f l=some L->L.length<=l.length
 |0,[],L,h=>by simp [rvF] at h;subst h;simp
 |_+1,[],L,h=>by simp [rvF] at h;subst h;simp
 |0,_::_,L,h=>by simp [rvF] at h
 |f+1,b::l,L,h=>by
  simp only [rvF] at h;cases hv:jf9 (b::l) with
  |none=>rw [hv] at h;simp at h
  |some p=>
   obtain ⟨v,k⟩:=p;rw [hv] at h;simp only [Option.map_eq_some_iff] at h;obtain ⟨r,h1,rfl⟩:=h;have h2:=jw0 f _ _ h1;have h3:=jwj hv;rw [aOI] at h2;simp only [aOD] at*;omega
theorem jub (a b:ByteArray):(a.toList==b.toList)=decide (a=b):=by
 rw [ByteArray.toList_eq,ByteArray.toList_eq,Bool.eq_iff_iff,aPV,decide_eq_true_iff];constructor
 ·intro h;cases a;cases b;congr 1;exact Array.toList_inj.1 h
 ·rintro rfl;rfl
theorem jEW (L:List Int):jn (nI L).1<=L.length+5:=by
 have:=(pot_L L).rdYI (0,false);simp only [jxU] at this;unfold nI;simp at this;omega
abbrev DdR (b ty:Nat) (d:Dd) (η:jf):Ob:=.box b ty [.a (.v (.int .i64 d.aNK)),.a (.v (.int .i64 d.run)),.a (.v (.int .i64 d.aNB.aNI)),.a (.v (.int .i64 d.aNB.aNN)),.a (.v (.int .i64 d.aNB.aNM)),.a (.v (.int .i64 d.aNB.aNA)),.own (js d.aNB.aNF) η,.a (.v (.int .i64 d.aNH)),.a (.v (.int .i64 d.tri)),.a (.v (.int .i64 d.aNG)),.a (.v (.int .i64 d.aNJ))]
theorem jEd (l:List En) (a b c d:Int):D.sl 4 tEn (l.flatMap jk++[.val (.int .i64 a),.val (.int .i64 b),.val (.int .i64 c),.val (.int .i64 d)])=jg (l++[⟨a,b,c,d⟩]):=jvV l ⟨a,b,c,d⟩
theorem jCL (l:List Tk) (a b c d:Int):D.sl 4 tTk (l.flatMap jH++[.val (.int .i64 a),.val (.int .i64 b),.val (.int .i64 c),.val (.int .i64 d)])=jx (l++[⟨a,b,c,d⟩]):=jvT l ⟨a,b,c,d⟩
structure RowsNAt {σ α:Type} (rd:σ->α×σ) (m:Nat) (s0:σ) (i:Nat) (E:List α) (s:σ):Prop where
 le:i<=m
 len:E.length=i
 eq:jal rd m ([],s0)=jal rd (m-i) (E,s)
theorem RowsNAt.start {σ α:Type} {rd:σ->α×σ} (m:Nat) (s0:σ):RowsNAt rd m s0 0 [] s0:=⟨aOL _,rfl,rfl⟩
theorem RowsNAt.next {σ α:Type} {rd:σ->α×σ} {m i:Nat} {s0 s:σ} {E:List α} (h:RowsNAt rd m s0 i E s) (hi:i<m):RowsNAt rd m s0 (i+1) (E++[(rd s).1]) (rd s).2:=by
 refine ⟨hi,by simp [h.len],?_⟩
 rw [h.eq,show m-i=m-(i+1)+1 by omega,jal]
theorem RowsNAt.stop {σ α:Type} {rd:σ->α×σ} {m i:Nat} {s0 s:σ} {E:List α} (h:RowsNAt rd m s0 i E s) (hs:i=m):jal rd m ([],s0)=(E,s):=by
 rw [h.eq,hs,aRD];rfl
abbrev juP (L:List Int):=rdSh none (jad L) (λs:Nat×Bool=>s.2) (λs=>(s.1,true))
abbrev jAp (L:List Int):=rdRn none none (jad L) (λs:Nat×Bool=>s.2) (λs=>(s.1,true))
def shR (S:List (List En)) (E:List En):List (List En):=S++E::List.replicate (3-S.length) []
theorem jCY {S:List (List En)} {E:List En} (h:S.length<4):(shR S E).length=4:=by simp only [shR,aNR,aOD,aQU];omega
theorem jCZ (S:List (List En)) (E:List En):(shR S E)[S.length]?=some E:=by simp [shR]
theorem jCX (S:List (List En)) (E E':List En):(shR S E).set S.length E'=shR S E':=by simp [shR]
def shQ (S:List (List En)):List (List En):=S++List.replicate (4-S.length) []
theorem shQ_R {S:List (List En)} (h:S.length<4):shQ S=shR S []:=by
 have e:4-S.length=(3-S.length)+1:=by omega
 simp only [shQ,shR,e,List.replicate_succ]
theorem shR_Q {S:List (List En)} (E:List En) (h:S.length<4):shR S E=shQ (S++[E]):=by
 have e:4-(S++[E]).length=3-S.length:=by rw [aNR];show 4-(S.length+1)=_;omega
 rw [shQ,e,shR,aOB];rfl
theorem shQ_4 {S:List (List En)} (h:S.length=4):shQ S=S:=by simp [shQ,h]
theorem jEn {s:St} {g c k:Nat} {x:Value} {R:List D->St->Prop} {η:jf} {sh:List (List En)} {l:List En} (h:sh[k]?=some l):slkK s g c k tEn 4 x R η (ki sh)=(η [k]=x/\∀aC,aC []=η []->R (l.flatMap jk) (s.setO g ((s.o g).putOwn c (jeY sh k x) aC))):=by
 rw [show ki sh=.sl 1 jro (sh.flatMap λes=>[jg es]) from rfl,jz0,jii h,jGE,jvZ]
 simp only [true_and,and_self];rfl
theorem jxb (l:List Rn) (id st:Int) (p:Pl) (T:List Tk):D.sl 8 tRn (l.flatMap je++[.val (.int .i64 id),.val (.int .i64 p.aNI),.val (.int .i64 p.aNN),.val (.int .i64 p.aNM),.val (.int .i64 p.aNA),js p.aNF,.val (.int .i64 st),jx T])=jE (l++[⟨id,p,st,T⟩]):=jnR l ⟨id,p,st,T⟩
abbrev jzv (b ty:Nat) (id:Int) (p:Pl) (f:jf) (st:Int) (T:List Tk) (η:jf):Ob:=.box b ty [.a (.v (.int .i64 id)),.a (.v (.int .i64 p.aNI)),.a (.v (.int .i64 p.aNN)),.a (.v (.int .i64 p.aNM)),.a (.v (.int .i64 p.aNA)),.own (js p.aNF) f,.a (.v (.int .i64 st)),.own (jx T) η]
theorem mks_n {P:Program} {β:Nat} {s:St} {K:St->Prop} {d:Option Nat} {gd:Option (Nat×Bool)} {e size bytes:Nat} {zs:List D} {l c:X} (n:Nat) (h1:s.ev l=.c (.v (.int .i64 (n:Int)))) (h2:s.ev c=.c (.v (.int .i64 (n:Int)))) (h3:bytes*n<=281474976710656) (h4:n<=maxLen)
 (h5:∀η,K ((s.addO [(100*(β+d.getD 0),.loose (.sl size e ((List.replicate n zs).flatten)) η)]).put d (.c (.h (100*(β+d.getD 0)) 0 [] (η []))))):vp P β ⟨d,gd,.mks e size bytes zs l c⟩ s K:=by
 rw [jrv];exact ⟨_,_,n,h1,h2,h3,h4,h5⟩
abbrev jHr (b ty:Nat) (now seq:Int) (sh:List (List En)) (e1:jf):Ob:=.box b ty [.a (.v (.int .i64 now)),.a (.v (.int .i64 seq)),.own (ki sh) e1,.a (.v (.slice none 0 0))]
def jd1:C:=iS [iA 2 wAM,aO 3 false] (iS [aM 16 0,iA 17 (iK 102 [16]),aM 15 17,aE 18 15 0,aE 19 15 1,aM 4 18,aM 5 19] (.seq (iS [aM 20 5,aU 21 20] (iD 21 (iS [iA 22 (wAW []),wAA 2 22,aO 3 false] .ret) .skip)) (iS [aM 23 4,iA 24 (.bld [.slice none 0 0,.bool false] [(0,1,.t 23)]),iA 25 (.box 128 2 (.t 24)),aM 6 25] (.seq (.dreg (tA 0 26 (iM 6) (tA 2 28 (iM 6) (tC 27 (iK 103 [26]) [2] (tC 29 (iK 103 [28]) [] (tC 30 (.mks 35 1 24 [D.sl 4 44 []] (oI 4) (oI 4)) [2,0] (tA 5 31 (wAW [(0,1,.t 27),(1,1,.t 29),(2,1,.t 30)]) (tC 7 wAM [5,2,0] (.alt (wAA 7 31) [] .done .stop) .stop)) (tC 7 wAM [2,0] (tC 30 (.mks 35 1 24 [D.sl 4 44 []] (oI 4) (oI 4)) [2,0] (tA 5 31 (wAW [(0,1,.t 27),(1,1,.t 29),(2,1,.t 30)]) (.alt (wAA 7 31) [] .done .stop)) .stop) .stop)) (tC 30 (.mks 35 1 24 [D.sl 4 44 []] (oI 4) (oI 4)) [2,0] (tC 29 (iK 103 [28]) [] (tA 5 31 (wAW [(0,1,.t 27),(1,1,.t 29),(2,1,.t 30)]) (tC 7 wAM [5,2,0] (.alt (wAA 7 31) [] .done .stop) .stop)) (tC 7 wAM [2,0] (tC 29 (iK 103 [28]) [] (tA 5 31 (wAW [(0,1,.t 27),(1,1,.t 29),(2,1,.t 30)]) (.alt (wAA 7 31) [] .done .stop)) .stop) .stop)) (tC 7 wAM [2,0] (tC 29 (iK 103 [28]) [] (tC 30 (.mks 35 1 24 [D.sl 4 44 []] (oI 4) (oI 4)) [2,0] (tA 5 31 (wAW [(0,1,.t 27),(1,1,.t 29),(2,1,.t 30)]) (.alt (wAA 7 31) [] .done .stop)) .stop) (tC 30 (.mks 35 1 24 [D.sl 4 44 []] (oI 4) (oI 4)) [2,0] (tC 29 (iK 103 [28]) [] (tA 5 31 (wAW [(0,1,.t 27),(1,1,.t 29),(2,1,.t 30)]) (.alt (wAA 7 31) [] .done .stop)) .stop) .stop)) .stop))) (tC 30 (.mks 35 1 24 [D.sl 4 44 []] (oI 4) (oI 4)) [2,0] (tC 27 (iK 103 [26]) [2] (tC 29 (iK 103 [28]) [] (tA 5 31 (wAW [(0,1,.t 27),(1,1,.t 29),(2,1,.t 30)]) (tC 7 wAM [5,2,0] (.alt (wAA 7 31) [] .done .stop) .stop)) (tC 7 wAM [2,0] (tC 29 (iK 103 [28]) [] (tA 5 31 (wAW [(0,1,.t 27),(1,1,.t 29),(2,1,.t 30)]) (.alt (wAA 7 31) [] .done .stop)) .stop) .stop)) (tC 7 wAM [2,0] (tC 27 (iK 103 [26]) [2] (tC 29 (iK 103 [28]) [] (tA 5 31 (wAW [(0,1,.t 27),(1,1,.t 29),(2,1,.t 30)]) (.alt (wAA 7 31) [] .done .stop)) .stop) .stop) .stop)) (tC 7 wAM [2,0] (tC 27 (iK 103 [26]) [2] (tC 29 (iK 103 [28]) [] (tC 30 (.mks 35 1 24 [D.sl 4 44 []] (oI 4) (oI 4)) [2,0] (tA 5 31 (wAW [(0,1,.t 27),(1,1,.t 29),(2,1,.t 30)]) (.alt (wAA 7 31) [] .done .stop)) .stop) (tC 30 (.mks 35 1 24 [D.sl 4 44 []] (oI 4) (oI 4)) [2,0] (tC 29 (iK 103 [28]) [] (tA 5 31 (wAW [(0,1,.t 27),(1,1,.t 29),(2,1,.t 30)]) (.alt (wAA 7 31) [] .done .stop)) .stop) .stop)) (tC 30 (.mks 35 1 24 [D.sl 4 44 []] (oI 4) (oI 4)) [2,0] (tC 27 (iK 103 [26]) [2] (tC 29 (iK 103 [28]) [] (tA 5 31 (wAW [(0,1,.t 27),(1,1,.t 29),(2,1,.t 30)]) (.alt (wAA 7 31) [] .done .stop)) .stop) .stop) .stop)) .stop)))))) (.seq (iS [aF 32 2 7,aL 33 32,aG 34 33,aN 35 0] (.blk 0 (.loop (iS [aP 36 .lss 3 35 34] (.seq (iD 36 .skip (.exit 0)) (.seq (.blk 1 (iS [aM 37 35,aM 8 37] (iS [aM 38 6,iA 39 (iK 103 [38]),aM 9 39] (iS [aN 10 0] (.blk 2 (.loop (.seq (iS [aM 40 10,aM 41 9,aP 42 .lss 3 40 41,aM 43 42,iB 44 43 true (iM 6),iB 45 43 true (iF 0 44),iB 46 43 true (iF 1 45),iB 47 43 true (iL 46),iB 48 43 true (iU 47),iA 49 (iY 43 (.t 48) (oF))] (iD 49 .skip (.exit 2))) (.seq (.blk 3 (.dreg (tA 0 52 (iF 2 7) (tA 1 53 (iL 52) (tA 2 54 (iM 8) (tA 3 55 (iF 2 7) (tA 4 56 (iL 55) (tA 5 57 (iM 8) (tA 6 58 (iI 1 56 57) (tA 7 59 (iL 58) (tA 8 60 (iM 6) (tA 10 62 (iM 6) (tA 12 64 (iM 6) (tA 14 66 (iM 6) (tC 61 (iK 103 [60]) [14,12,10,7,6,5,4,3,2,1,0] (tC 63 (iK 103 [62]) [14,12,7,6,5,4,3,2,1,0] (tC 65 (iK 103 [64]) [14,7,6,5,4,3,2,1,0] (tC 67 (iK 103 [66]) [7,6,5,4,3,2,1,0] (tA 16 68 (wAV [(0,1,.t 61),(1,1,.t 63),(2,1,.t 65),(3,1,.t 67)]) (tC 69 (wA4 [(0,4,.t 68)]) [7,6,5,4,3,2,1,0] (tC 70 (wBB 59 69) [2,1,0] (tA 19 71 (iI 1 53 54) (.alt (wAF 71 70) [] .done .stop)) .stop) .stop)) .stop) .stop) .stop) .stop))))))))))))))) (.reg [aM 50 10,aQ 51 .add 3 50 1,aM 10 51]))))))))) (.reg [aQ 72 .add 3 35 1,aM 35 72]))))))) (iS [aM 73 6,iA 74 (iK 103 [73]),aM 11 74] (.seq (iS [aN 12 0] (.blk 4 (.loop (.seq (iS [aM 75 12,aM 76 11,aP 77 .lss 3 75 76,aM 78 77,iB 79 78 true (iM 6),iB 80 78 true (iF 0 79),iB 81 78 true (iF 1 80),iB 82 78 true (iL 81),iB 83 78 true (iU 82),iA 84 (iY 78 (.t 83) (oF))] (iD 84 .skip (.exit 4))) (.seq (.blk 5 (iS [aM 87 6,iA 88 (iK 103 [87]),iA 89 (wAY [(0,1,.t 88)]),iA 13 wAN,wAC 13 89] (iS [aM 90 6,iA 91 (iK 104 [90]),aF 92 1 13,wAG 92 91] (iS [aM 93 6,iA 94 (iK 103 [93]),aF 95 6 13,wAD 95 94] (.seq (iS [aN 14 0] (.blk 6 (.loop (.seq (iS [aM 96 14,aF 97 1 13,aF 98 3 97,aL 99 98,aP 100 .lss 3 96 99,aM 101 100,iB 102 101 true (iM 6),iB 103 101 true (iF 0 102),iB 104 101 true (iF 1 103),iB 105 101 true (iL 104),iB 106 101 true (iU 105),iA 107 (iY 101 (.t 106) (oF))] (iD 107 .skip (.exit 6))) (.seq (.blk 7 (.dreg (tA 0 110 (iF 7 13) (tA 1 111 (iL 110) (tA 2 112 (iM 6) (tA 4 114 (iM 6) (tA 6 116 (iM 6) (tA 8 118 (iM 6) (tC 113 (iK 103 [112]) [8,6,4,1,0] (tC 115 (iK 103 [114]) [8,6,1,0] (tC 117 (iK 103 [116]) [8,1,0] (tC 119 (iK 103 [118]) [1,0] (tA 10 120 (wAV [(0,1,.t 113),(1,1,.t 115),(2,1,.t 117),(3,1,.t 119)]) (tC 121 (wA8 [(0,4,.t 120)]) [1,0] (tC 122 (.app 46 4 32 (.t 111) (.t 121)) [] (tA 13 123 (iF 7 13) (.alt (wAJ 123 122) [] .done .stop)) .stop) .stop)) .stop) .stop) .stop) .stop))))))))) (.reg [aM 108 14,aQ 109 .add 3 108 1,aM 14 109])))))) (.reg [aF 124 3 7,aL 125 124,aT 126 8 13,iA 127 (wA5 [(0,8,.t 126)]),iA 128 (wBC 125 127),aF 129 3 7,wAI 129 128])))))) (.reg [aM 85 12,aQ 86 .add 3 85 1,aM 12 86])))))) (.seq (iS [aM 130 6,aF 131 0 130,aF 132 1 131,aL 133 132,aM 134 133,iB 135 134 false (iT 4 7),iB 136 134 false (iK 18 [135]),iB 137 134 false (iU 136),iA 138 (iY 134 (oT) (.t 137)),aM 139 138,iB 140 139 false (iT 4 7),iB 141 139 false (iK 39 [140]),iB 142 139 false (iM 0),iB 143 139 false (iP .neq 9 141 142),iA 144 (iY 139 (oT) (.t 143))] (iD 144 (iS [iA 145 (wAW []),wAA 2 145,aO 3 false] .ret) .skip)) (iS [aT 146 4 7,wAA 2 146,aO 3 true] .ret)))))))))
theorem jg5:fnC Tryz.prog Tryz.f40=some (jd1,[.cell 2 true 4,.t 3],147):=by kernel_rfl
theorem jk4 (t:ByteArray) (ht:t.size<=1048576):jW Tryz.prog 40 [.c (.val (.string t))] (.tup [(true,jc (jaq t).1),(false,[.val (.bool (jaq t).2)])]):=by
 refine vr [[1,1,1,1],[1,1,1,1,1],[1,1,1,1,1,0,1,0,0,1,1],[1,1,1,1,1,0,1,0,0,1,1,1],[1,1,1,1,1,1,1],[1,1,1,1,1,1,1,0,1,0,0,1,0,0,1,1],[1,1,1,1,1,1,1,0,1,0,0,1,0,0,1,1,1],[1,1,1,1,1,1,1,0,1,0,0,1,0,0,1,1,1,1],[1,1,1,1,1,1,1,1]] Tryz.func40 jg5 (by simp) ?_
 unfold jd1;simp only [C.ghs,C.ghAt,List.foldr];have ht9:t.size<=1000000000:=by omega
 simp only [go_sem];intro b2;refine jm (jk2 t ht9) λmY=>?_
 simp only [go_sem];cases nX:rvF t.size t.data.toList with
 |none=>
  have hr:jaq t=(ydZ,false):=by rw [jaq,nX]
  have t6:rvR t=([],false):=by rw [rvR,nX]
  rw [hr];simp only [go_sem,t6,jc]
  apply kV
  simp only [go_sem]
 |some L=>
 have t6:rvR t=(L,true):=by rw [rvR,nX]
 have hLt:L.length<=t.size:=by have:=jw0 _ _ _ nX;rwa [aQB] at this
 have bW:=(jnO _ _ _ nX).2;have hL9:L.length<=1000000000:=by omega
 simp only [go_sem,t6];intro b25;refine kv ?_;refine WkK.wk (s':=St.of [(0,.c (.v (.string t))),(2,Bx 200 b2),(6,Bx 88 b25)] [(200,ZYd b2 tYd),(88,.box b25 128 [.own (jb L) (mY 0),.a (.v (.bool false))])]) (jt [200,2500]) ?_;generalize mY 0=bX;refine jfA 88 0 87 (d:=jb L) (η:=bX) rfl rfl rfl (by decide) (show 0<1 from Nat.zero_lt_one) ?_
 refine WkK.wk (s':=St.of [(0,.c (.v (.string t))),(2,Bx 200 b2),(6,Bx 88 b25)] [(200,ZYd b2 tYd),(88,vf b25 128 bX L (0,false)),(87,.loose (jb L) bX)]) (jt [200,88,87] (by simp only [go_sem,vf,Nat.sub_zero]<;>trivial)) ?_
 refine WkK.of ?_;have s0:((0,false):Nat×Bool).1<=L.length:=aOL _;have s1:=qC s0;generalize gC:jad L (0,false)=q1 at*;have s2:=qC s1;generalize gO:jad L q1.2=q2 at*;have bE:D.sl 1 jro (List.replicate 4 [D.sl 4 tEn []]).flatten=ki (shQ []):=rfl;refine jdf (λi:Nat×jf=>St.of [(0,.c (.v (.string t))),(2,Bx 200 b2),(6,Bx 88 b25),(7,Bx 700 i.1)] [(200,ZYd b2 tYd),(88,vf b25 128 bX L q2.2),(87,.loose (jb L) bX),(700,jHr i.1 tYd q1.1 q2.1 (shQ []) i.2)]) ?_ ?_
 ·simp only [go_sem]
  repeat' first
   |refine And.intro ?_ ?_
   |refine mks_n 4 rfl rfl (by decide) (by unfold maxLen;omega) λ_=>?_
   |(refine jv (kL L (0,false) b25 bX _ s0 rfl rfl) rfl ?_;rw [gC])
   |(refine jv (kL L q1.2 b25 bX _ s1 rfl rfl) rfl ?_;rw [gO])
   |intro _
   |(simp only [go_sem,bE])
  all_goals exact ⟨(_,_),jt [200,88,87,700]⟩
 rintro ⟨b7,e7⟩;have wA:(shQ []).length=4:=rfl;simp only [go_sem,wA];refine kg (λi:(Nat×List (List En)×(Nat×Bool))×jf=>St.of [(0,.c (.v (.string t))),(2,Bx 200 b2),(6,Bx 88 b25),(7,Bx 700 b7),(34,Ni 4),(35,Ni i.1.1)] [(200,ZYd b2 tYd),(88,vf b25 128 bX L i.1.2.2),(87,.loose (jb L) bX),(700,jHr b7 tYd q1.1 q2.1 (shQ i.1.2.1) i.2)]) (λi=>RowsNAt (juP L) 4 q2.2 i.1.1 i.1.2.1 i.1.2.2/\i.1.2.2.1<=L.length) (λi=>4-i.1.1) ((0,[],q2.2),e7) (⟨RowsNAt.start _ _,s2⟩) (jt [200,88,87,700]) ?_
 rintro ⟨⟨k,S,q⟩,e0⟩ ⟨hR,hq⟩;dsimp only at hR hq;have cE:=hR.le;obtain rfl:S.length=k:=hR.len;by_cases aB:S.length<4
 ·have aA:(S.length:Int)<(4:Int):=by omega
  have bJ:(0:Int)<=(S.length:Int):=by omega
  have cH:=hR.next aB;have hw:IntKind.i64.wrap ((S.length:Int)+1)=((S.length+1:Nat):Int):=vF;simp only [go_sem,aA];refine kv (WkK.of ?_);refine jdf (λi:{i:(List En×(Nat×Bool))×jf//juP L q=i.1/\i.1.2.1<=L.length}=>St.of [(0,.c (.v (.string t))),(2,Bx 200 b2),(6,Bx 88 b25),(7,Bx 700 b7),(34,Ni 4),(35,Ni S.length)] [(200,ZYd b2 tYd),(88,vf b25 128 bX L i.1.1.2),(87,.loose (jb L) bX),(700,jHr b7 tYd q1.1 q2.1 (shR S i.1.1.1) i.1.2)]) ?_ ?_
  ·simp only [go_sem]
   refine jv (kL L q b25 bX _ hq (by simp only [go_sem]) (by simp only [go_sem])) (by simp only [go_sem]) ?_
   have s9:=qC hq;have hm:=jr2 (s:=q) bW;generalize hq9:jad L q=q9 at*;obtain ⟨m,oO⟩:=Int.eq_ofNat_of_zero_le hm.1;have dI:=hm.2;rw [oO] at dI;have fT:q9.1=(m:Int):=oO;have hsQ:=shQ_R aB;simp only [go_sem,fT];refine kg (λi:(Nat×List En×(Nat×Bool))×jf=>St.of [(0,.c (.v (.string t))),(2,Bx 200 b2),(6,Bx 88 b25),(7,Bx 700 b7),(8,Ni S.length),(9,Ni m),(10,Ni i.1.1),(34,Ni 4),(35,Ni S.length)] [(200,ZYd b2 tYd),(88,vf b25 128 bX L i.1.2.2),(87,.loose (jb L) bX),(700,jHr b7 tYd q1.1 q2.1 (shR S i.1.2.1) i.2)]) (λi=>RowsAt (·.2) (jv0 (jad L)) m q9.2 i.1.1 i.1.2.1 i.1.2.2/\i.1.2.2.1<=L.length) (λi=>m-i.1.1) ((0,[],q9.2),e0) (⟨RowsAt.start _ _,s9⟩) (jt [200,88,87,700] (by simp only [go_sem,hsQ]<;>trivial)) ?_
   rintro ⟨⟨i,E,p⟩,e1⟩ ⟨nQ,hp⟩;dsimp only at nQ hp;have oR:=nQ.le;have hlen2:=nQ.len;by_cases mB:i<m;rotate_left
   ·have dS:¬(i:Int)<(m:Int):=by omega
    have aH:=nQ.stop (.inl (by omega))
    have eD:juP L q=(E,p):=by simp only [juP,rdSh,hq9,jhQ,fT,aNW,aH]
    simp only [go_sem,dS];exact ⟨⟨((E,p),e1),eD,hp⟩,jt [200,88,87,700]⟩
   have dS:(i:Int)<(m:Int):=by omega
   obtain ⟨k,bad⟩:=p;cases bad;rotate_left
   ·have aH:=nQ.stop (.inr rfl)
    have eD:juP L q=(E,(k,true)):=by simp only [juP,rdSh,hq9,jhQ,fT,aNW,aH]
    simp only [go_sem,dS,vf,Bool.not_true];exact ⟨⟨((E,(k,true)),e1),eD,hp⟩,jt [200,88,87,700]⟩
   ·have fA:=nQ.next mB rfl
    have hl4:(shR S E).length=4:=jCY aB;have lX:=jCZ S E;have fW:S.length<(shR S E).length:=by omega
    have gS:S.length+1<=((shR S E).flatMap λes=>[jg es]).length:=by have:=jaD fW;rwa [aOG] at this
    have mV:(((shR S E).flatMap λes=>[jg es]).drop S.length).take 1=[jg E]:=by have:=jbo lX;rwa [aOG] at this
    have bV:=kx i;have bL:E.length+1<=maxLen:=zy;have cG:(E.length+1)*32<=140737488355328:=by omega
    simp only [go_sem,dS,vf,Bool.not_false,bJ,fW,aOG,mV,gS];refine jv (kL L (k,false) b25 bX _ hp (by simp only [go_sem,vf]) (by simp only [go_sem])) (by simp only [go_sem]) ?_
    have t1:=qC hp;simp only [jv0] at fA;generalize dC:jad L (k,false)=r1 at*;simp only [go_sem];refine jv (kL L r1.2 b25 bX _ t1 (by simp only [go_sem]) (by simp only [go_sem])) (by simp only [go_sem]) ?_
    have t2:=qC t1;generalize cR:jad L r1.2=r2 at*;simp only [go_sem];refine jv (kL L r2.2 b25 bX _ t2 (by simp only [go_sem]) (by simp only [go_sem])) (by simp only [go_sem]) ?_
    have t3:=qC t2;generalize pO:jad L r2.2=r3 at*;simp only [go_sem];refine jv (kL L r3.2 b25 bX _ t3 (by simp only [go_sem]) (by simp only [go_sem])) (by simp only [go_sem]) ?_
    have t4:=qC t3;generalize hr4:jad L r3.2=r4 at*;simp only [go_sem,jEn lX,bL,cG];intro cO bD hηc rB;simp only [go_sem,hηc,jkI,jkC,jgv,jbW,fW,aOG,jgn,jEd];refine ⟨by omega,λlH hηe=>?_⟩
    exact ⟨((i+1,E++[⟨r1.1,r2.1,r3.1,r4.1⟩],r4.2),lH),⟨fA,t4⟩,(jt [200,88,87,700] (by simp only [go_sem,bV,vf,jCX]<;>trivial)),by (try dsimp only);omega⟩
  rintro ⟨⟨⟨E,p⟩,e1⟩,eD,hp⟩;dsimp only at eD hp;rw [eD] at cH;dsimp only at cH;have hrq:=shR_Q E aB;simp only [go_sem,hw];exact ⟨((S.length+1,S++[E],p),e1),⟨cH,hp⟩,(jt [200,88,87,700] (by simp only [go_sem,hrq]<;>trivial)),by (try dsimp only);omega⟩
 have hS4:S.length=4:=by omega
 have aBW:=hR.stop hS4;have aA:¬(S.length:Int)<(4:Int):=by omega
 rw [shQ_4 hS4];simp only [go_sem,aA];refine jv (kL L q b25 bX _ hq (by simp only [go_sem]) (by simp only [go_sem])) (by simp only [go_sem]) ?_
 have s3:=qC hq;have hm:=jr2 (s:=q) bW;generalize sN:jad L q=q3 at*;obtain ⟨m,oO⟩:=Int.eq_ofNat_of_zero_le hm.1;have dI:=hm.2;rw [oO] at dI;have fT:q3.1=(m:Int):=oO;simp only [go_sem,fT];refine kv (WkK.of ?_);refine jdf (λi:{i:(List Rn×(Nat×Bool))×jf//vm (·.2) (jAp L) m ([],q3.2)=i.1/\i.1.2.1<=L.length}=>St.of [(0,.c (.v (.string t))),(2,Bx 200 b2),(6,Bx 88 b25),(7,Bx 700 b7)] [(200,ZYd b2 tYd),(88,vf b25 128 bX L i.1.1.2),(87,.loose (jb L) bX),(700,kb b7 tYd q1.1 q2.1 S e0 i.1.1.1 i.1.2)]) ?_ ?_
 ·simp only [go_sem]
  refine kg (λi:(Nat×List Rn×(Nat×Bool))×jf=>St.of [(0,.c (.v (.string t))),(2,Bx 200 b2),(6,Bx 88 b25),(7,Bx 700 b7),(11,Ni m),(12,Ni i.1.1)] [(200,ZYd b2 tYd),(88,vf b25 128 bX L i.1.2.2),(87,.loose (jb L) bX),(700,kb b7 tYd q1.1 q2.1 S e0 i.1.2.1 i.2)]) (λi=>RowsAt (·.2) (jAp L) m q3.2 i.1.1 i.1.2.1 i.1.2.2/\i.1.2.2.1<=L.length) (λi=>m-i.1.1) ((0,[],q3.2),jbL) (⟨RowsAt.start _ _,s3⟩) (jt [200,88,87,700]) ?_
  rintro ⟨⟨i0,E,p⟩,e1⟩ ⟨nQ,hp⟩;dsimp only at nQ hp;have oR:=nQ.le;have hlen2:=nQ.len;by_cases mB:i0<m;rotate_left
  ·have dS:¬(i0:Int)<(m:Int):=by omega
   have aH:=nQ.stop (.inl (by omega))
   simp only [go_sem,dS];exact ⟨⟨((E,p),e1),aH,hp⟩,jt [200,88,87,700]⟩
  have dS:(i0:Int)<(m:Int):=by omega
  obtain ⟨k,bad⟩:=p;cases bad;rotate_left
  ·have aH:=nQ.stop (.inr rfl)
   simp only [go_sem,dS,vf,Bool.not_true];exact ⟨⟨((E,(k,true)),e1),aH,hp⟩,jt [200,88,87,700]⟩
  have fA:=nQ.next mB rfl;simp only [go_sem,dS,vf,Bool.not_false];refine jv (kL L (k,false) b25 bX _ hp (by simp only [go_sem,vf]) (by simp only [go_sem])) (by simp only [go_sem]) ?_
  have t1:=qC hp;generalize dC:jad L (k,false)=r1 at*;simp only [go_sem];intro b13;refine kr (by simp only [go_sem]) (jAS L bW hL9 r1.2 b25 bX _ t1 (by simp only [go_sem]) (by simp only [go_sem]) (by simp only [go_sem])) λav o' ⟨p,q',f,gD,hq',gV,bL,o1,o2,hk⟩=>?_
  subst gV;have k2:=hk 200 (by decide) (by decide) (by decide)
  have k7:=hk 700 (by decide) (by decide) (by decide)
  have k87:=hk 87 (by decide) (by decide) (by decide)
  have k13:=hk 1300 (by decide) (by decide) (by decide)
  simp only [go_sem] at k2 k7 k87 k13
  have hpt:jfK p.aNA:=by
   have e:p.aNA=(rdPl none (jad L) (λs:Nat×Bool=>s.2) (λs=>(s.1,true)) r1.2).1.aNA:=by rw [gD]
   rw [e];exact jon bW _
  simp only [go_sem,k13,bL];refine kv ?_;refine WkK.wk (s':=St.of [(0,.c (.v (.string t))),(2,Bx 200 b2),(6,Bx 88 b25),(7,Bx 700 b7),(11,Ni m),(12,Ni i0),(13,Bx 1300 b13)] [(200,ZYd b2 tYd),(88,vf b25 128 bX L q'),(87,.loose (jb L) bX),(700,kb b7 tYd q1.1 q2.1 S e0 E e1),(86,.loose (js p.aNF) f),(1300,.box b13 tRn [.a (.v (.int .i64 r1.1)),.a (.v (.int .i64 p.aNI)),.a (.v (.int .i64 p.aNN)),.a (.v (.int .i64 p.aNM)),.a (.v (.int .i64 p.aNA)),.a (.v (f [])),.a (.v (.int .i64 0)),.a (.v (.slice none 0 0))])]) (jt [200,88,87,700,86,1300] (by simp only [go_sem,k2,k7,k87,o1,o2]<;>trivial)) ?_
  refine qI 1300 5 86 (d:=js p.aNF) (η:=f) rfl rfl rfl ?_;refine WkK.of ?_;simp only [go_sem];refine jv (kL L q' b25 bX _ hq' (by simp only [go_sem]) (by simp only [go_sem])) (by simp only [go_sem]) ?_
  have t3:=qC hq';generalize pO:jad L q'=r3 at*;obtain ⟨mt,xP⟩:=Int.eq_ofNat_of_zero_le hpt.1;have aCN:=hpt.2;rw [xP] at aCN;have mA:p.aNA=(mt:Int):=xP;simp only [go_sem];refine kv (WkK.of ?_);refine jdf (λj:{j:(List Tk×(Nat×Bool))×jf//vm (·.2) (jrC (jad L)) mt ([],r3.2)=j.1/\j.1.2.1<=L.length}=>St.of [(0,.c (.v (.string t))),(2,Bx 200 b2),(6,Bx 88 b25),(7,Bx 700 b7),(11,Ni m),(12,Ni i0),(13,Bx 1300 b13)] [(200,ZYd b2 tYd),(88,vf b25 128 bX L j.1.1.2),(87,.loose (jb L) bX),(700,kb b7 tYd q1.1 q2.1 S e0 E e1),(1300,jzv b13 tRn r1.1 p f r3.1 j.1.1.1 j.1.2)]) ?_ ?_
  ·simp only [go_sem]
   refine kg (λi:(Nat×List Tk×(Nat×Bool))×jf=>St.of [(0,.c (.v (.string t))),(2,Bx 200 b2),(6,Bx 88 b25),(7,Bx 700 b7),(11,Ni m),(12,Ni i0),(13,Bx 1300 b13),(14,Ni i.1.1)] [(200,ZYd b2 tYd),(88,vf b25 128 bX L i.1.2.2),(87,.loose (jb L) bX),(700,kb b7 tYd q1.1 q2.1 S e0 E e1),(1300,jzv b13 tRn r1.1 p f r3.1 i.1.2.1 i.2)]) (λi=>RowsAt (·.2) (jrC (jad L)) mt r3.2 i.1.1 i.1.2.1 i.1.2.2/\i.1.2.2.1<=L.length) (λi=>mt-i.1.1) ((0,[],r3.2),jbL) (⟨RowsAt.start _ _,t3⟩) (jt [200,88,87,700,1300]) ?_
   rintro ⟨⟨j,T,u⟩,e3⟩ ⟨wE,hu⟩;dsimp only at wE hu;have aJE:=wE.le;have aFQ:=wE.len;by_cases fZ:j<mt;rotate_left
   ·have fG:¬(j:Int)<(mt:Int):=by omega
    have aH:=wE.stop (.inl (by omega))
    simp only [go_sem,mA,fG];exact ⟨⟨((T,u),e3),aH,hu⟩,jt [200,88,87,700,1300] (by simp only [go_sem,mA]<;>trivial)⟩
   have fG:(j:Int)<(mt:Int):=by omega
   obtain ⟨k',bad⟩:=u;cases bad;rotate_left
   ·have aH:=wE.stop (.inr rfl)
    simp only [go_sem,mA,fG,vf,Bool.not_true];exact ⟨⟨((T,(k',true)),e3),aH,hu⟩,jt [200,88,87,700,1300] (by simp only [go_sem,mA]<;>trivial)⟩
   have xK:=wE.next fZ rfl;simp only [go_sem,mA,fG,vf,Bool.not_false];refine jv (kL L (k',false) b25 bX _ hu (by simp only [go_sem,vf]) (by simp only [go_sem])) (by simp only [go_sem]) ?_
   have u1:=qC hu;simp only [jrC] at xK;generalize gM:jad L (k',false)=v1 at*;simp only [go_sem];refine jv (kL L v1.2 b25 bX _ u1 (by simp only [go_sem]) (by simp only [go_sem])) (by simp only [go_sem]) ?_
   have u2:=qC u1;generalize sK:jad L v1.2=v2 at*;simp only [go_sem];refine jv (kL L v2.2 b25 bX _ u2 (by simp only [go_sem]) (by simp only [go_sem])) (by simp only [go_sem]) ?_
   have u3:=qC u2;generalize hv3:jad L v2.2=v3 at*;simp only [go_sem];refine jv (kL L v3.2 b25 bX _ u3 (by simp only [go_sem]) (by simp only [go_sem])) (by simp only [go_sem]) ?_
   have u4:=qC u3;generalize hv4:jad L v3.2=v4 at*;have hw3:=kx j;have tR:T.length+1<=maxLen:=zy;have hx4:(T.length+1)*32<=140737488355328:=by omega
   simp only [go_sem,tR,hx4];intro ηx y0;exact ⟨((j+1,T++[⟨v1.1,v2.1,v3.1,v4.1⟩],v4.2),y0),⟨xK,u4⟩,(jt [200,88,87,700,1300] (by simp only [go_sem,jCL,hw3,vf,mA]<;>trivial)),by (try dsimp only);omega⟩
  rintro ⟨⟨⟨T,q''⟩,e3⟩,hT,xH⟩;dsimp only at hT xH
  have hrn:jAp L (k,false)=(⟨r1.1,p,r3.1,T⟩,q''):=by
   simp only [jAp,rdRn,dC,gD,pO,jhQ,mA,aNW,hT]
  rw [hrn] at fA;dsimp only at fA;have aBH:i0+1<=maxLen:=zy;have cG:(i0+1)*96<=140737488355328:=by omega
  have bV:=kx i0;simp only [go_sem,hlen2,aBH,cG];intro bF l6;simp only [go_sem,bV];exact ⟨((i0+1,E++[⟨r1.1,p,r3.1,T⟩],q''),l6),⟨fA,xH⟩,(jt [200,88,87,700] (by simp only [go_sem,jxb]<;>trivial)),by (try dsimp only);omega⟩
 rintro ⟨⟨⟨R,q⟩,e1⟩,w8,hq⟩;dsimp only at w8 hq
 have hn:nI L=(⟨q1.1,q2.1,S,R⟩,q):=by
  simp only [nI,rdYI,gC,gO,aBW,sN,fT,aNW,w8]
 have tT:=jEW L;rw [hn] at tT;dsimp only at tT;obtain ⟨k,bad⟩:=q;cases bad;rotate_left
 ·have hr:jaq t=(ydZ,false):=by simp only [jaq,nX,hn,true_or,if_true]
  rw [hr];simp only [go_sem,vf,jc]
  apply kV
  simp only [go_sem]
 simp only [go_sem,vf,jc];refine jm (kK ⟨q1.1,q2.1,S,R⟩ (by omega)) λη=>?_
 simp only [go_sem];cases aR:ju ⟨q1.1,q2.1,S,R⟩
 ·have hr:jaq t=(ydZ,false):=by
   simp only [jaq,nX,hn];rw [if_pos (.inr (.inl aR))]
  rw [hr];simp only [go_sem]
  apply kV
  simp only [go_sem]
 simp only [go_sem];refine jm (jdn ⟨q1.1,q2.1,S,R⟩ (by omega)) λη=>?_
 simp only [go_sem];by_cases he:qS ⟨q1.1,q2.1,S,R⟩=t;rotate_left
 ·have hr:jaq t=(ydZ,false):=by
   simp only [jaq,nX,hn];rw [if_pos (.inr (.inr he))]
  have eZ:decide (qS ⟨q1.1,q2.1,S,R⟩=t)=false:=decide_eq_false he;rw [hr];simp only [go_sem,jub,eZ]
  apply kV
  simp only [go_sem]
 ·have hr:jaq t=(⟨q1.1,q2.1,S,R⟩,true):=by
   simp only [jaq,nX,hn];rw [if_neg];rintro (g|g|g)
   ·cases g
   ·rw [aR] at g;cases g
   ·exact g he
  have eZ:decide (qS ⟨q1.1,q2.1,S,R⟩=t)=true:=decide_eq_true he;rw [hr];simp only [go_sem,jub,eZ]
  apply kV
  simp only [go_sem]
