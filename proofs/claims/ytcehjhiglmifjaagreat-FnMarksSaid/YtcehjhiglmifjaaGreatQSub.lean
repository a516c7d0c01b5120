/- Parts. -/
import Derived.Test.YtcehjhiglmifjaaGreatQNoteB
set_option linter.all false
set_option maxHeartbeats 8000000
set_option maxRecDepth 100000
namespace Go.Proofs.YtcehjhiglmifjaaGreat
open Go.RowKit Go.Sort
section
variable {P:Program} {β:Nat} {s:St} {K:St->Prop} {Q:Ex->St->Prop}
theorem kv {a:C} (h:WkK s (wpC P β a Q)):wpC P β (.gh a) Q s:=h
theorem WkK.of {K:St->Prop} (h:K s):WkK s K:=λ_ _ _ _ _ F hr=>⟨s,F,hr,h⟩
theorem WkK.wk {s':St} (h:Wk s s') (hk:WkK s' K):WkK s K:=λB N w0 w a F hr=>let ⟨F',h1,_⟩:=h B N w0 w a F hr;hk B N w0 w a F' h1
theorem jkH {u:Value} (h:∃A n c,u=.slice A n c):u.oneCell'=true:=by obtain ⟨_,_,_,rfl⟩:=h;rfl
theorem jx4 {w:World} {own:Bool} {d:D} {u:Value} {S:List Nat} (hd:d.isSl=true) (h:Rep w own d u S):∃A n c,u=.slice A n c:=by
 cases d with
 |val _=>cases hd
 |sl _ _ _=>exact vR h
theorem qA (g c g2:Nat) {d:D} {η:jf} (ho:(s.o g).own c=some (d,η)) (h2:s.o g2=.none) (aJ:g2≠g) (hk:(η []).oneCell'=true->WkK ((s.rm g c).setO g2 (.loose d η)) K):WkK s K:=by
 intro B N w0 w a F h;obtain ⟨u,S,F',j1,j2,j3,j4,j5,j6,j7,j8⟩:=h.rm ho;have e:η []=u:=by rw [j3,zt j1]
 exact hk (e▸jkH (jx4 j1 j2)) _ _ _ _ _ _ (j5.setO (g:=g2) (ob:=.loose d η) (S:=S) ⟨j1,u,j2,j3⟩ j4 (λg' _ b hb=>j6 g' b hb))
theorem joY {B:Nat} {w:World} {d:D} {η:jf} {u:Value} {S2:List Nat} (hd:d.isSl=true) (hr:Rep w true d u S2) (hh:∀p,η p=hdr w p d u):∀{c:Nat} {l:List Cell} {us:List Value} {S:List Nat},CRel B w l us S->l[c]?=some (.a (.v u))->
 ∃S',CRel B w (l.set c (.own d η)) us S'/\S'.Perm (S++S2)
 |_,[],_,_,_,h=>by simp at h
 |0,.a x::l,_,S,⟨v,us',rfl,h1,h2⟩,h=>by
  simp at h;subst h;have:v=u:=h1;subst this;exact ⟨S2++S,⟨v,us',S2,S,rfl,rfl,hd,hr,hh,h2⟩,aQH⟩
 |0,.own e ε::l,_,_,_,h=>by simp at h
 |c+1,.a x::l,_,S,⟨v,us',rfl,h1,h2⟩,h=>by
  simp at h;obtain ⟨S',a1,a2⟩:=joY hd hr hh h2 h;exact ⟨S',⟨v,us',rfl,h1,a1⟩,a2⟩
 |c+1,.own e ε::l,_,_,⟨v,us',T1,T2,rfl,rfl,h1,h2,h3,h4⟩,h=>by
  simp at h;obtain ⟨S',a1,a2⟩:=joY hd hr hh h4 h;exact ⟨T1++S',⟨v,us',T1,S',rfl,rfl,h1,h2,h3,a1⟩,by rw [aOB];exact aQG _ a2⟩
theorem qI (g c g2:Nat) {b ty:Nat} {cs:List Cell} {d:D} {η:jf} (hb:s.o g=.box b ty cs) (hc:cs[c]?=some (.a (.v (η [])))) (h2:s.o g2=.loose d η) (hk:WkK ((s.setO g2 .none).setO g (.box b ty (cs.set c (.own d η)))) K):WkK s K:=by
 intro B N w0 w a F h;have aJ:g2≠g:=λe=>by rw [e,hb] at h2;cases h2
 have h3:=h.ob g2;rw [h2] at h3;obtain ⟨k1,u,k2,k3⟩:=h3;have e:η []=u:=by rw [k3,zt k1]
 rw [e] at hc;have h4:=h.ob g;rw [hb] at h4;obtain ⟨us,S1,q1,q2,q3⟩:=h4;obtain ⟨S',q4,q5⟩:=joY k1 k2 k3 q2 hc;have t1:=h.setO (g:=g2) (ob:=.none) (S:=[]) rfl (Fresh.nil _) (by simp)
 have hp:(b::S').Perm (F g++F g2):=by rw [q3];exact q5.cons b
 have aW:(F g++F g2).Nodup:=aNY.2 ⟨(h.fr g).1,(h.fr g2).1,λx hx y hy e=>h.dj g g2 (λe=>aJ e.symm) x hx (e▸hy)⟩
 refine hk _ _ _ _ _ _ (t1.setO (g:=g) (ob:=.box b ty (cs.set c (.own d η))) (S:=b::S') ⟨us,S',q1,q4,rfl⟩ ⟨hp.nodup_iff.2 aW,λx hx=>?_⟩ (λg' cU x hx=>?_))
 ·rcases aNT.1 (hp.mem_iff.1 hx) with hx|hx
  ·exact (h.fr g).2 x hx
  ·exact (h.fr g2).2 x hx
 ·split
  ·simp
  ·rename_i lD
   intro hh;rcases aNT.1 (hp.mem_iff.1 hx) with hx|hx
   ·exact h.dj g' g cU x hh hx
   ·exact h.dj g' g2 lD x hh hx
theorem jc1 (g c k g2:Nat) {sz tyo size ty:Nat} {ds0 cs:List D} {η:jf} (ho:(s.o g).own c=some (.sl sz tyo ds0,η)) (hk:ds0[k]?=some (.sl size ty cs)) (h2:s.o g2=.none) (aJ:g2≠g)
 (hK:∀aS aC,aC []=η []->aS []=η [k]->(η [k]).oneCell'=true->WkK ((s.setO g ((s.o g).putOwn c (.sl sz tyo (ds0.set k (.val (η [k])))) aC)).setO g2 (.loose (.sl size ty cs) aS)) K):WkK s K:=by
 intro B N w0 w a F h;obtain ⟨v,Sk,a1,a2,_,a4,a5,a6⟩:=joO (h.ob g) ho hk;have hv:=a2 rfl;obtain ⟨aC,S',b1,b2,R,b3,b4⟩:=a6 (.val v) [] ⟨rfl,rfl⟩;rw [aOP] at b4;have aW:=b3.nodup_iff.1 (h.fr g).1;have bA:∀b∈S',b∈F g:=λb hb=>b3.mem_iff.2 (aNT.2 (.inl (b4.mem_iff.1 hb)))
 have t1:=h.setO (g:=g) b1 ⟨b4.nodup_iff.2 (aNY.1 aW).1,λb hb=>(h.fr g).2 b (bA b hb)⟩ (λg' cU b hb hh=>h.dj g' g cU b hh (bA b hb))
 have t2:=t1.setO (g:=g2) (ob:=.loose (.sl size ty cs) (λp=>hdr w p (.sl size ty cs) v)) (S:=Sk) ⟨rfl,v,a1,λ_=>rfl⟩ ⟨(aNY.1 aW).2.1,λb hb=>(h.fr g).2 b (a4 b hb)⟩ (λg' _ b hb=>by
  split
  ·exact λhh=>(aNY.1 aW).2.2 b (b4.mem_iff.1 hh) b hb rfl
  ·rename_i uH
   exact λhh=>h.dj g' g uH b hh (a4 b hb))
 have:=hK (λp=>hdr w p (.sl size ty cs) v) aC b2 (by rw [hv];rfl) (by rw [hv];exact jkH (vR a1))
 rw [hv] at this;exact this _ _ _ _ _ _ t2
theorem qi (g c k g2:Nat) {sz tyo size ty:Nat} {ds0 cs:List D} {e:D} {η aS:jf} (ho:(s.o g).own c=some (.sl sz tyo ds0,η)) (hk:ds0[k]?=some e) (he:e=.val (aS [])\/e=jre (some (size,ty)) (aS [])) (h2:s.o g2=.loose (.sl size ty cs) aS) (aJ:g2≠g)
 (hK:∀aC,aC []=η []->WkK ((s.setO g2 .none).setO g ((s.o g).putOwn c (.sl sz tyo (ds0.set k (.sl size ty cs))) aC)) K):WkK s K:=by
 intro B N w0 w a F h;have h3:=h.ob g2;rw [h2] at h3;obtain ⟨_,u,k2,k3⟩:=h3;have eu:aS []=u:=by rw [k3];rfl
 rw [eu] at he;obtain ⟨v,Sk,a1,a2,a3,a4,a5,a6⟩:=joO (h.ob g) ho hk
 have hX:∃X,Rep w true (.sl size ty cs) v X/\(X=F g2\/X=Sk):=by
  by_cases hn:u=.slice none 0 0/\e=jre (some (size,ty)) u
  ·obtain ⟨hu,eZ⟩:=hn
   subst hu
   have fE:cs=[]:=by
    obtain ⟨vs,T,S',bG,bR,_⟩:=k2;rcases kX bG with ⟨_,rfl⟩|⟨gg,nn,c2,e2,_⟩
    ·exact aON (RepL.length _ bR).symm
    ·cases e2
   subst fE;subst eZ;exact ⟨Sk,a1,.inr rfl⟩
  ·refine ⟨F g2,?_,.inl rfl⟩
   have y6:v=u:=by
    rcases he with he|he
    ·exact a3 u he
    ·refine a3 _ ?_
     by_cases l5:u=.slice none 0 0
     ·exact absurd ⟨l5,he⟩ hn
     ·rw [he]
      obtain ⟨A,n,cc,rfl⟩:=vR k2;unfold jre;split
      ·rename_i e1;exact absurd e1 l5
      ·rfl
   exact y6▸k2
 obtain ⟨X,hX1,hX2⟩:=hX;obtain ⟨aC,S',b1,b2,R,b3,b4⟩:=a6 (.sl size ty cs) X hX1;have t1:=h.setO (g:=g2) (ob:=.none) (S:=[]) rfl (Fresh.nil _) (by simp)
 have aW:=b3.nodup_iff.1 (h.fr g).1;have hR:∀b∈R,b∈F g:=λb hb=>b3.mem_iff.2 (aNT.2 (.inl hb))
 have hX3:∀b∈X,b∈F g\/b∈F g2:=λb hb=>by
  rcases hX2 with rfl|rfl
  ·exact .inr hb
  ·exact .inl (a4 b hb)
 have uE:(R++X).Nodup:=by
  rcases hX2 with rfl|rfl
  ·exact aNY.2 ⟨(aNY.1 aW).1,(h.fr g2).1,λx hx y hy e=>h.dj g g2 (λe=>aJ e.symm) x (hR x hx) (e▸hy)⟩
  ·exact aW
 refine hK aC b2 _ _ _ _ _ _ (t1.setO (g:=g) (ob:=(s.o g).putOwn c (.sl sz tyo (ds0.set k (.sl size ty cs))) aC) b1 ⟨b4.nodup_iff.2 uE,λx hx=>?_⟩ (λg' cU x hx=>?_))
 ·rcases aNT.1 (b4.mem_iff.1 hx) with hx|hx
  ·exact (h.fr g).2 x (hR x hx)
  ·rcases hX3 x hx with hx|hx
   ·exact (h.fr g).2 x hx
   ·exact (h.fr g2).2 x hx
 ·split
  ·simp
  ·rename_i lD
   intro hh;rcases aNT.1 (b4.mem_iff.1 hx) with hx|hx
   ·exact h.dj g' g cU x hh (hR x hx)
   ·rcases hX3 x hx with hx|hx
    ·exact h.dj g' g cU x hh hx
    ·exact h.dj g' g2 lD x hh hx
end
theorem jv6 {a b:Int} (ha:0<=a/\a<4294967296) (hb:0<=b/\b<4294967296):0<=jvY a b/\jvY a b<4294967296:=by
 obtain ⟨a,rfl⟩:=Int.eq_ofNat_of_zero_le ha.1;obtain ⟨b,rfl⟩:=Int.eq_ofNat_of_zero_le hb.1;have h1:a^^^b<2^32:=Nat.xor_lt_two_pow (by omega) (by omega)
 have h2:(BitVec.ofInt 64 (a:Int)^^^BitVec.ofInt 64 (b:Int)).toNat=a^^^b:=by
  rw [BitVec.toNat_xor,BitVec.ofInt_natCast,BitVec.ofInt_natCast,BitVec.toNat_ofNat,BitVec.toNat_ofNat,Nat.mod_eq_of_lt (by omega),Nat.mod_eq_of_lt (by omega)]
 rw [jvY,h2,kS (by omega) (by omega)]
 omega
theorem jzV {c:Int} (h:0<=c/\c<4294967296):0<=jmG c/\jmG c<4294967296:=by
 have h2:c.tdiv 2=c/2:=Int.tdiv_eq_ediv_of_nonneg h.1;have h3:IntKind.i64.wrap (c.tdiv 2)=c/2:=by rw [h2];exact kS (by omega) (by omega)
 rw [jmG,h3];split
 ·exact jv6 (by omega) (by omega)
 ·omega
theorem jx3 {c:Int} (h:0<=c/\c<4294967296):∀n,0<=jql n c/\jql n c<4294967296
 |0=>h
 |n+1=>jzV (jx3 h n)
theorem jE0 {c:Int} (h:0<=c/\c<4294967296) (b:UInt8):0<=jBJ c b/\jBJ c b<4294967296:=by
 have:=b.toNat_lt;refine jx3 (jv6 h ?_) 8;rw [kS (by omega) (by omega)]
 omega
theorem jBI (b:ByteArray):0<=jrq b/\jrq b<4294967296:=by
 refine jv6 ?_ (by omega)
 have:∀(l:List UInt8) (c:Int),0<=c/\c<4294967296->0<=l.foldl jBJ c/\l.foldl jBJ c<4294967296:=by
  intro l
  induction l with
  |nil=>exact λc h=>h
  |cons x l ih=>exact λc h=>ih _ (jE0 h x)
 exact this _ _ (by omega)
def shN (id:Int):Nat:=(jdc id).toNat
theorem jC0 (id:Int):jdc id=(shN id:Int)/\shN id<4:=by
 have h:=jBI (jeb id)
 have h1:0<=jdc id/\jdc id<4:=by
  unfold jdc;split
  ·omega
  ·rw [aPT h.1];omega
 unfold shN;omega
def zk (aNI id:Int) (ids:List Int) (s:List En×Int):List En×Int:=ids.foldl (λs t=>(jcW s.1 ⟨aNI,s.2,id,t⟩,s.2+1)) s
theorem jgw (aNI id:Int) (ids:List Int) (t:Int) (s:List En×Int):zk aNI id (ids++[t]) s=(jcW (zk aNI id ids s).1 ⟨aNI,(zk aNI id ids s).2,id,t⟩,(zk aNI id ids s).2+1):=by simp [zk]
theorem jgy (aNI id:Int) (s:List En×Int):zk aNI id [] s=s:=rfl
theorem zZ (aNI id:Int):∀(ids:List Int) (s:List En×Int),(zk aNI id ids s).2=s.2+ids.length
 |[],s=>by simp [zk]
 |t::ids,s=>by
  have:=zZ aNI id ids (jcW s.1 ⟨aNI,s.2,id,t⟩,s.2+1);simp only [zk,aQI,aOD] at this⊢;rw [this];omega
theorem jer (aNI id:Int):∀(ids:List Int) (s:List En×Int),(zk aNI id ids s).1.length=s.1.length+ids.length
 |[],s=>by simp [zk]
 |t::ids,s=>by
  have:=jer aNI id ids (jcW s.1 ⟨aNI,s.2,id,t⟩,s.2+1);simp only [zk,aQI,aOD] at this⊢;rw [this,jth];omega
def jrf (was ts:List Tk) (k:Nat):Bool:=(stT ts k==2)&&!(decide (k<was.length)&&(stT was k==2))
def zj (was ts:List Tk) (k:Nat):List Int:=((List.range k).filter (jrf was ts)).map λ(j:Nat)=>(j:Int)
theorem jB7 (was ts:List Tk):zj was ts 0=[]:=rfl
theorem jB6 (was ts:List Tk) (k:Nat):zj was ts (k+1)=zj was ts k++(if jrf was ts k then [(k:Int)] else []):=by
 cases h:jrf was ts k<;>simp [zj,List.range_succ,h]
theorem jen (was ts:List Tk) (k:Nat):(zj was ts k).length<=k:=by
 simp only [zj,aPA];exact aPC (aOT _ _) (by simp)
theorem jAD (ts:List Tk) (k:Nat):zj [] ts k=zi 2 ts k:=by
 have:jrf [] ts=λ(j:Nat)=>stT ts (j:Int)==2:=by funext j;simp [jrf]
 simp [zj,zi,this]
def jtA (y:Yd) (r:Rn) (ids:List Int):Yd:=
 let p:=zk r.aNB.aNI r.id ids ((y.aNC[shN r.id]?).getD default,y.seq)
 ⟨y.now,p.2,y.aNC.set (shN r.id) p.1,y.aNE⟩
abbrev rnH (r:Rn) (x5 x7:Value):List D:=[.val (.int .i64 r.id),.val (.int .i64 r.aNB.aNI),.val (.int .i64 r.aNB.aNN),.val (.int .i64 r.aNB.aNM),.val (.int .i64 r.aNB.aNA),jre (some (2,tEd)) x5,.val (.int .i64 r.aND),jre (some (4,tTk)) x7]
abbrev jra (b ty:Nat) (r:Rn) (x5 x7:Value):Ob:=.box b ty [.a (.v (.int .i64 r.id)),.a (.v (.int .i64 r.aNB.aNI)),.a (.v (.int .i64 r.aNB.aNN)),.a (.v (.int .i64 r.aNB.aNM)),.a (.v (.int .i64 r.aNB.aNA)),.a (.v x5),.a (.v (.int .i64 r.aND)),.a (.v x7)]
abbrev vv (b ty:Nat) (now seq:Int) (sh:List (List En)) (e1:jf) (d:D) (e2:jf):Ob:=.box b ty [.a (.v (.int .i64 now)),.a (.v (.int .i64 seq)),.own (ki sh) e1,.own d e2]
theorem jic (k:Nat×Nat) {x:Value} (h:x.oneCell'=true) (l:List D):jkn (jre (some k) x::l)=jkn l:=by
 unfold jre;split<;>simp [jkn, *]
theorem jo2 {P:Program} {β:Nat} {fl:Prop} [Decidable fl] {m1 m2 o:Prop} {a:C} {Q:Ex->St->Prop} {f g:jf->St} (st:jf->St) (h1:m1) (h2:m2) (ho:o) (hf:∀η,Wk (f η) (st η)) (hg:∀η,Wk (g η) (st η)) (key:∀η,WkK (st η) (wpC P β a Q)):
 if fl then m1/\m2/\∀η,wpC P β (.gh a) Q (f η) else o/\m1/\m2/\∀η,wpC P β (.gh a) Q (g η):=by
 split
 ·exact ⟨h1,h2,λη=>kv (WkK.wk (hf η) (key η))⟩
 ·exact ⟨ho,h1,h2,λη=>kv (WkK.wk (hg η) (key η))⟩
theorem jbs {sh:List (List En)} {n:Nat} (l:List En):D.put [] n [jg l] (ki sh)=ki (sh.set n l):=by
 simp only [ki,D.put,ky,jmN,List.map_set]
theorem jAE {ts:List Tk} {k:Nat} {x:Tk} (h:ts[k]?=some x):jrf [] ts k=(x.aND==2):=by
 simp [jrf,kt h]
theorem jla {α:Type} {l:List α}:∀{L:List (List α)},l∈L->l.length<=L.flatten.length
 |[],h=>by simp at h
 |x::L,h=>by
  rcases aOK.1 h with rfl|h
  ·simp
  ·have:=jla h
   simp only [aQY,aNR];omega
theorem zo {y:Yd} (ht:jn y<=2000000) {l:List En} (h:l∈y.aNC):l.length<=2000000:=aPC (jla h) (zI ht)
theorem jhZ (l:List Rn):(l.flatMap je).length=l.length*8:=jC (enc:=je) (λ_=>rfl) l
theorem jta (l:List Rn) (row:List D) (j:Nat):(l.flatMap je++row)[l.length*8+j]?=row[j]?:=by
 rw [aPL (by rw [jhZ];omega),jhZ,aPI]
theorem jnU (l:List Rn) (row:List D) (j:Nat) (d:D):(l.flatMap je++row).set (l.length*8+j) d=l.flatMap je++row.set j d:=by
 rw [aRA _ _ (by rw [jhZ];omega),jhZ,aPI]
theorem jpE (l:List Rn) (r:Rn):D.sl 8 tRn (l.flatMap je++je r)=jE (l++[r]):=by simp [jE]
theorem jdf {P:Program} {β:Nat} {a b:C} {Q:Ex->St->Prop} {s:St} {ι:Type} (mk:ι->St) (h1:wpC P β a (Ex.thn (λs'=>∃i,Wk s' (mk i)) Q) s) (h2:∀i,wpC P β b Q (mk i)):wpC P β (.seq a (.gh b)) Q s:=by
 rw [jrg];exact zT a (jgd (λs' ⟨i,h⟩=>wp_gh (mk i) h (h2 i)) λ_ _ h=>h) h1
theorem jme (y:Yd) (p:Pl) (ht:jn y<=2000000):jW Tryz.prog 113 [.agg (jc y),.agg (jd p)] (.c (.val (.bool (zJ y p)))):=jrH ⟨_,Tryz.func113,by kernel_rfl,by kernel_rfl⟩ λw a b ⟨S,ha⟩ ⟨S',hb⟩=>juJ y p a b S S' w false false ha hb ht
theorem jmj (y:Yd) (p:Pl) (ht:jn y<=2000000):jW Tryz.prog 46 [.agg (jc y),.agg (jd p)] (.c (.val (.bool (zJ y p)))):=jrH ⟨_,Tryz.func46,by kernel_rfl,by kernel_rfl⟩ λw a b ⟨S,ha⟩ ⟨S',hb⟩=>jvu y p a b S S' w false false ha hb ht
open Classical in
noncomputable def jc8 (y:Yd) (id:Int) (p:Pl):Int:=if ju y=false then 8 else if¬(1<=id/\id<=9999) then 5 else if 0<=runAt y id then 6 else if jo p≠0 then jo p else if zJ y p=false then 7 else 0
noncomputable def jee (y:Yd) (id:Int) (p:Pl):Yd:=if jc8 y id p=0 then jtA ⟨y.now,y.seq,y.aNC,y.aNE++[jN id p]⟩ (jN id p) (qV 2 (jN id p).aNA) else y
def jhk:C:=iS [iA 3 (.box 27 4 (.t 0)),iA 5 (.box 49 5 (.t 2)),iA 6 wAM,aN 7 0] (iS [aT 11 4 3,iA 12 (iK 67 [11]),iA 8 wAM,wAA 8 12] (.seq (.blk 0 (iS [aT 14 4 3,iA 15 (iK 66 [14]),aU 16 15,aM 13 16] (iD 13 (iS [aT 17 4 8,wAA 6 17,aN 7 8] .ret) (iS [aM 19 1,iA 20 (.call 68 [.t 19,oI 1,oI 9999]),aU 21 20,aM 18 21] (iD 18 (iS [aT 22 4 8,wAA 6 22,aN 7 5] .ret) (iS [aT 24 4 3,aM 25 1,iA 26 (iK 26 [24,25]),aQ 27 .geq 3 26 0,aM 23 27] (iD 23 (iS [aT 28 4 8,wAA 6 28,aN 7 6] .ret) (iS [aT 30 5 5,iA 31 (iK 112 [30]),aQ 32 .neq 3 31 0,aM 29 32] (iD 29 (.seq (.dreg (tA 0 33 (iT 4 8) (tA 1 34 (iT 5 5) (tC 35 (iK 112 [34]) [0] (.alt (wAA 6 33) [] (tA 4 7 (iM 35) .done) .stop) .stop)))) .ret) (iS [aT 37 4 3,aT 38 5 5,iA 39 (iK 113 [37,38]),aU 40 39,aM 36 40] (iD 36 (iS [aT 41 4 8,wAA 6 41,aN 7 7] .ret) .skip))))))))))) (iS [aM 43 1,aT 44 5 5,iA 45 (iK 114 [43,44]),aM 42 45,aE 46 42 0,aE 47 42 1,iA 9 wAN,wAC 9 46,aM 10 47] (iS [aF 48 3 8,aL 49 48,aT 50 8 9,iA 51 (wA5 [(0,8,.t 50)]),iA 52 (wBC 49 51),aF 53 3 8,wAI 53 52] (iS [aT 54 4 8,iA 55 (wAY []),aT 56 8 9,iA 57 (iK 115 [54,55,56]),wAA 6 57,aN 7 0] .ret)))))
theorem jjK:fnC Tryz.prog Tryz.f45=some (jhk,[.cell 6 true 4,.t 7],58):=by kernel_rfl
def jcq:C:=iS [iA 3 (.box 27 4 (.t 0)),iA 4 (.box 52 8 (.t 1)),iA 5 (.box 52 8 (.t 2)),iA 6 wAM] (iS [aF 9 0 5,aL 10 9,iA 11 (iK 170 [10]),aM 7 11] (.seq (iS [aN 8 0] (.blk 0 (.loop (.seq (iS [aM 12 8,aF 13 7 5,aL 14 13,aG 15 14,aP 16 .lss 3 12 15] (iD 16 .skip (.exit 0))) (.seq (.blk 1 (.seq (iS [aF 19 7 5,aL 20 19,aM 21 8,aI 22 4 20 21,aF 23 0 22,aL 24 23,aQ 25 .neq 3 24 2,aM 26 25,iB 27 26 false (iM 8),iB 28 26 false (iF 7 4),iB 29 26 false (iL 28),iB 30 26 false (iG 29),iB 31 26 false (iP .lss 3 27 30),iB 32 26 false (iM 31),iB 33 32 true (iF 7 4),iB 34 32 true (iL 33),iB 35 32 true (iM 8),iB 36 32 true (iI 4 34 35),iB 37 32 true (iF 0 36),iB 38 32 true (iL 37),iB 39 32 true (iQ .eql 3 38 2),iB 40 26 false (iY 32 (.t 39) (oF)),iA 41 (iY 26 (oT) (.t 40))] (iD 41 (.exit 1) .skip)) (.seq (.dreg (tA 0 42 (iF 2 3) (tA 1 43 (iL 42) (tA 2 44 (iM 7) (tA 3 45 (iF 2 3) (tA 4 46 (iL 45) (tA 5 47 (iM 7) (tA 6 48 (iI 1 46 47) (tA 7 49 (iL 48) (tA 8 50 (iF 1 5) (tA 9 51 (iF 0 50) (tA 10 52 (iL 51) (tA 11 53 (iF 1 3) (tA 12 54 (iL 53) (tA 13 55 (iF 0 5) (tA 14 56 (iL 55) (tA 15 57 (iM 8) (tA 16 58 (wAV [(0,1,.t 52),(1,1,.t 54),(2,1,.t 56),(3,1,.t 57)]) (tC 59 (iK 135 [49,58]) [2,1,0] (tA 18 60 (iI 1 43 44) (.alt (wAF 60 59) [] .done .stop)) .stop))))))))))))))))))) (.reg [aF 61 1 3,aL 62 61,aQ 63 .add 3 62 1,aF 64 1 3,wAD 64 63])))) (.reg [aM 17 8,aQ 18 .add 3 17 1,aM 8 18])))))) (iS [aT 65 4 3,wAA 6 65] .ret)))
theorem jcD:fnC Tryz.prog Tryz.f115=some (jcq,[.cell 6 true 4],66):=by kernel_rfl
theorem jn2 (y:Yd) (id:Int) (p:Pl) (ht:jn y<=2000000) (hp:p.aNF.length<=4000000):jW Tryz.prog 45 [.agg (jc y),.c (.val (.int .i64 id)),.agg (jd p)] (.tup [(true,jc (jee y id p)),(false,[.val (.int .i64 (jc8 y id p))])]):=by
 refine vr [[1,1,1,1,0],[1,1,1,1,1,0],[1,1,1,1,1,1]] Tryz.func45 jjK (by simp) ?_
 unfold jhk;simp only [C.ghs,C.ghAt,List.foldr];simp only [go_sem,jc,jd];intro b3 b5 b6;refine jm (km y ht) λbD=>?_
 simp only [go_sem,jc];intro b8;refine jm (qr y ht) λη=>?_
 simp only [go_sem];cases aR:ju y
 ·have hc:jc8 y id p=8:=by simp [jc8,aR]
  have hy:jee y id p=y:=by simp [jee,hc]
  simp only [go_sem,hc,hy]
  apply kV
  simp only [go_sem]
 simp only [go_sem];refine jm (jI id 1 9999) λη=>?_
 simp only [go_sem];cases hid:decide (1<=id/\id<=9999)
 ·have hc:jc8 y id p=5:=by simp [jc8,aR,of_decide_eq_false hid]
  have hy:jee y id p=y:=by simp [jee,hc]
  simp only [go_sem,hc,hy]
  apply kV
  simp only [go_sem]
 have uG:=aOY hid;simp only [go_sem];refine jm (qs y id) λη=>?_
 simp only [go_sem];by_cases s7:runAt y id>=0
 ·have hc:jc8 y id p=6:=by unfold jc8;rw [if_neg (by simp [aR]),if_neg (by omega),if_pos s7]
  have hy:jee y id p=y:=by simp [jee,hc]
  simp only [go_sem,s7,hc,hy]
  apply kV
  simp only [go_sem]
 simp only [go_sem,s7];refine jm (vS p) λη=>?_
 simp only [go_sem];cases uB:jo p !=0;rotate_left
 ·have eV:jo p≠0:=by simpa using uB
  have hc:jc8 y id p=jo p:=by unfold jc8;rw [if_neg (by simp [aR]),if_neg (by omega),if_neg (by omega),if_pos eV]
  have hy:jee y id p=y:=by rw [jee,if_neg (by rw [hc];exact eV)]
  simp only [go_sem];refine jm (vS p) λη=>?_
  simp only [go_sem];rw [hc,hy]
  apply kV
  simp only [go_sem]
 have eV:jo p=0:=by simpa using uB
 simp only [go_sem];refine jm (jme y p ht) λη=>?_
 simp only [go_sem];cases t9:zJ y p
 ·have hc:jc8 y id p=7:=by unfold jc8;rw [if_neg (by simp [aR]),if_neg (by omega),if_neg (by omega),if_neg (by simp [eV]),if_pos t9]
  have hy:jee y id p=y:=by simp [jee,hc]
  simp only [go_sem,hc,hy]
  apply kV
  simp only [go_sem]
 have hc:jc8 y id p=0:=by unfold jc8;rw [if_neg (by simp [aR]),if_neg (by omega),if_neg (by omega),if_neg (by simp [eV]),if_neg (by simp [t9])]
 rw [hc,jee,if_pos hc];simp only [go_sem];refine jm (jn3 id p uG eV) λeM=>?_
 simp only [go_sem,jd,je];intro b9;refine kv ?_;obtain ⟨r,hr⟩:∃r,jN id p=r:=⟨_,rfl⟩;have z1:r.id=id:=by rw [<-hr];rfl
 refine WkK.wk (s':=St.of [(6,Bx 600 b6),(8,Bx 800 b8),(9,Bx 900 b9)] [(600,ZYd b6 _),(800,kb b8 _ y.now y.seq y.aNC (bD 2) y.aNE (bD 3)),(900,ja1 b9 _ r (eM 5) (eM 7))]) (jt [600,800,900] (by simp only [go_sem,hr]<;>trivial)) ?_
 refine qA 900 5 901 (d:=js r.aNB.aNF) (η:=eM 5) (by simp only [go_sem]) (by simp only [go_sem]) (by decide) λtQ=>?_
 refine qA 900 7 902 (d:=jx r.aNA) (η:=eM 7) (by simp only [go_sem]) (by simp only [go_sem]) (by decide) λtP=>?_
 refine WkK.of ?_;generalize eM 5=bP at*;generalize eM 7=bF at*;simp only [go_sem,tQ,tP];have m1:y.aNE.length+1<=maxLen:=by unfold maxLen;have:=(yard_iff.1 aR).eight;omega
 have m2:(y.aNE.length+1)*96<=140737488355328:=by have:=(yard_iff.1 aR).eight;omega
 intro aAX;refine jo2 (λeG=>St.of [(6,Bx 600 b6),(8,Bx 800 b8),(9,Bx 900 b9)] [(600,ZYd b6 tYd),(800,vv b8 tYd y.now y.seq y.aNC (bD 2) (.sl 8 tRn (y.aNE.flatMap je++rnH r (bP []) (bF []))) eG),(900,jra b9 tRn r (bP []) (bF [])),(901,.loose (js r.aNB.aNF) bP),(902,.loose (jx r.aNA) bF)]) m1 m2 ?_ (λeG=>jt [600,800,900,901,902]) (λeG=>jt [600,800,900,901,902]) ?_
 ·simp only [jic _ tQ,jic _ tP,jkn];rfl
 intro eG;rw [hr];generalize pZ:D.sl 8 tRn (y.aNE.flatMap je++rnH r (bP []) (bF []))=dR;refine qI 900 5 901 (d:=js r.aNB.aNF) (η:=bP) rfl rfl rfl ?_;refine qI 900 7 902 (d:=jx r.aNA) (η:=bF) rfl rfl rfl ?_;refine WkK.wk (s':=St.of [(6,Bx 600 b6),(8,Bx 800 b8),(9,Bx 900 b9)] [(600,ZYd b6 _),(800,vv b8 _ y.now y.seq y.aNC (bD 2) dR eG),(900,ja1 b9 _ r bP bF)]) (jt [600,800,900]) ?_;refine WkK.of ?_;simp only [go_sem];refine kZ (qo (β:=7000000) Tryz.func115 jcD (by simp) ?_)
 unfold jcq;simp only [go_sem];intro b73 b74 b75 b76;refine jm (jeV r.id) λη=>?_
 simp only [go_sem];obtain ⟨fR,rG⟩:=jC0 r.id;rw [fR];have uV:jtA ⟨y.now,y.seq,y.aNC,y.aNE++[r]⟩ r (qV 2 r.aNA)=⟨y.now,(zk r.aNB.aNI r.id (qV 2 r.aNA) ((y.aNC[shN r.id]?).getD default,y.seq)).2,y.aNC.set (shN r.id) (zk r.aNB.aNI r.id (qV 2 r.aNA) ((y.aNC[shN r.id]?).getD default,y.seq)).1,y.aNE++[r]⟩:=rfl;rw [uV];generalize shN r.id=n at*;have h4:=(yard_iff.1 aR).four;have hq:=(yard_iff.1 aR).seq;have hn:n<y.aNC.length:=by omega
 have lZ:=qX n;obtain ⟨l,hl⟩:=ja hn;have eQ:=zo ht (aNQ hl);rw [hl,aNZ];obtain ⟨t0,ht0,-,cF,-⟩:=jbJ eV;have v8:r.aNA.length<=12:=by rw [<-hr,jN,jaS];omega
 have aBS:zj [] r.aNA r.aNA.length=qV 2 r.aNA:=jAD _ _;refine qY (λi:Nat×jf=>St.of [(3,Bx 3 b73),(4,Bx 4 b74),(5,Bx 5 b75),(6,Bx 66 b76),(7,Ni n),(8,Ni i.1)] [(600,ZYd b6 _),(3,vv b73 _ y.now (zk r.aNB.aNI r.id (zj [] r.aNA i.1) (l,y.seq)).2 (y.aNC.set n (zk r.aNB.aNI r.id (zj [] r.aNA i.1) (l,y.seq)).1) i.2 dR eG),(4,ZRn b74 _),(5,ja1 b75 _ r bP bF),(66,ZYd b76 _)]) (λi=>i.1<=r.aNA.length) (λi=>r.aNA.length-i.1) (0,bD 2) (jt [600,700000300,700000400,700000500,700000600] (by simp only [go_sem,jB7,jgy,jax hl]<;>trivial)) ?_
 rintro ⟨k,η⟩ hk;dsimp only at hk;have tX:=zZ r.aNB.aNI r.id (zj [] r.aNA k) (l,y.seq);have cE:=jer r.aNB.aNI r.id (zj [] r.aNA k) (l,y.seq);have fX:=jen [] r.aNA k;have eJ:=jgw r.aNB.aNI r.id (zj [] r.aNA k) k (l,y.seq);have cH:=jB6 [] r.aNA k;dsimp only at tX cE;by_cases aB:k<r.aNA.length
 ·have aA:(k:Int)<r.aNA.length:=by omega
  have bJ:=qX k;have cB:¬(k:Int)<0:=by omega
  obtain ⟨x,hx⟩:=ja aB;have hw:=kx k;rw [jAE hx] at cH;have bV:IntKind.i64.wrap ((zk r.aNB.aNI r.id (zj [] r.aNA k) (l,y.seq)).2+1)=(zk r.aNB.aNI r.id (zj [] r.aNA k) (l,y.seq)).2+1:=vF;generalize wF:zk r.aNB.aNI r.id (zj [] r.aNA k) (l,y.seq)=P at*;obtain ⟨sh,eD⟩:∃s,y.aNC.set n P.1=s:=⟨_,rfl⟩;have lX:sh[n]?=some P.1:=by rw [<-eD];exact aNX hn
  have fW:n<sh.length:=by rw [<-eD,aOE];exact hn
  have gZ:∀L,sh.set n L=y.aNC.set n L:=λL=>by rw [<-eD,aPE]
  have gS:n+1<=(sh.flatMap λes=>[jg es]).length:=by have:=jaD fW;rwa [aOG] at this
  have mV:((sh.flatMap λes=>[jg es]).drop n).take 1=[jg P.1]:=by have:=jbo lX;rwa [aOG] at this
  rw [eD];cases h2:x.aND !=2
  ·have bI:(x.aND==2)=true:=by have:x.aND=2:=by simpa using h2
                               simp [this]
   rw [bI,if_pos rfl] at cH;rw [<-cH] at eJ;simp only [go_sem,aA,bJ,cB,aB,vL hx,jf3 hx,h2];simp only [go_sem,fW,aOG,mV,gS];refine jG (jaP P.1 ⟨r.aNB.aNI,P.2,r.id,k⟩ (by omega)) (by simp only [go_sem,jk,qy lX]) λsE=>?_
   simp only [go_sem];simp only [go_sem,fW,aOG,gS,jbs,bV,hw,gZ];refine λaC hη'=>?_
   exact qf (k+1,aC) (jt [600,3,4,5,66] (by simp only [go_sem,eJ]<;>trivial))
  ·have bI:(x.aND==2)=false:=by simpa using h2
   rw [bI] at cH;simp only [aQF,if_false,aOP] at cH;simp only [go_sem,aA,bJ,aB,vL hx,jf3 hx,h2,hw];exact qf (k+1,η) (jt [600,3,4,5,66] (by simp only [go_sem,cH,wF,eD]<;>trivial))
 obtain rfl:k=r.aNA.length:=by omega
 have aA:¬((r.aNA.length:Nat):Int)<r.aNA.length:=by omega
 rw [aBS];generalize zk r.aNB.aNI r.id (qV 2 r.aNA) (l,y.seq)=P at*;simp only [go_sem,aA];refine kv ?_;subst pZ;refine WkK.wk (s':=St.of [(6,Bx 600 b6),(7,Ni 0)] [(600,vv b6 _ y.now P.2 (y.aNC.set n P.1) η (.sl 8 tRn (y.aNE.flatMap je++rnH r (bP []) (bF []))) eG),(5,ja1 b75 _ r bP bF)]) (jt [600,5]) ?_;refine qA 5 5 901 (d:=js r.aNB.aNF) (η:=bP) rfl rfl (by decide) λ_=>?_
 refine qA 5 7 902 (d:=jx r.aNA) (η:=bF) rfl rfl (by decide) λ_=>?_
 refine qi 600 3 (y.aNE.length*8+5) 901 (η:=eG) (aS:=bP) (cs:=r.aNB.aNF.flatMap jK) rfl (jta _ _ 5) (.inr rfl) rfl (by decide) λdA _=>?_
 rw [jnU];refine qi 600 3 (y.aNE.length*8+7) 902 (η:=dA) (aS:=bF) (cs:=r.aNA.flatMap jH) rfl (jta _ _ 7) (.inr rfl) rfl (by decide) λgJ _=>?_
 rw [jnU];refine WkK.of ?_;have bG:(List.set (List.set (rnH r (bP []) (bF [])) 5 (.sl 2 tEd (r.aNB.aNF.flatMap jK))) 7 (.sl 4 tTk (r.aNA.flatMap jH)))=je r:=rfl;rw [bG,jpE]
 apply kV
 simp only [go_sem]
def jhz:C:=iS [iA 3 (.box 27 4 (.t 0)),iA 5 (.box 49 5 (.t 2)),iA 6 wAM,aN 7 0] (iS [aT 11 4 3,iA 12 (iK 61 [11]),iA 8 wAM,wAA 8 12] (.seq (.blk 0 (iS [aT 14 4 3,iA 15 (iK 18 [14]),aU 16 15,aM 13 16] (iD 13 (iS [aT 17 4 8,wAA 6 17,aN 7 8] .ret) (iS [aM 19 1,iA 20 (.call 62 [.t 19,oI 1,oI 9999]),aU 21 20,aM 18 21] (iD 18 (iS [aT 22 4 8,wAA 6 22,aN 7 5] .ret) (iS [aT 24 4 3,aM 25 1,iA 26 (iK 25 [24,25]),aQ 27 .geq 3 26 0,aM 23 27] (iD 23 (iS [aT 28 4 8,wAA 6 28,aN 7 6] .ret) (iS [aT 30 5 5,iA 31 (iK 109 [30]),aQ 32 .neq 3 31 0,aM 29 32] (iD 29 (.seq (.dreg (tA 0 33 (iT 4 8) (tA 1 34 (iT 5 5) (tC 35 (iK 109 [34]) [0] (.alt (wAA 6 33) [] (tA 4 7 (iM 35) .done) .stop) .stop)))) .ret) (iS [aT 37 4 3,aT 38 5 5,iA 39 (iK 46 [37,38]),aU 40 39,aM 36 40] (iD 36 (iS [aT 41 4 8,wAA 6 41,aN 7 7] .ret) .skip))))))))))) (iS [aM 43 1,aT 44 5 5,iA 45 (iK 110 [43,44]),aM 42 45,aE 46 42 0,aE 47 42 1,iA 9 wAN,wAC 9 46,aM 10 47] (iS [aF 48 3 8,aL 49 48,aT 50 8 9,iA 51 (wA5 [(0,8,.t 50)]),iA 52 (wBC 49 51),aF 53 3 8,wAI 53 52] (.seq (.dreg (tA 0 54 (iT 8 9) (tA 1 55 (iT 8 9) (tC 56 (.call 47 [.t 55,oI 2]) [0] (tC 57 (iK 111 [8,54,56]) [] .done .stop) .stop)))) (iS [aT 58 4 8,wAA 6 58,aN 7 0] .ret))))))
theorem jjZ:fnC Tryz.prog Tryz.f44=some (jhz,[.cell 6 true 4,.t 7],59):=by kernel_rfl
def jdT:C:=iS [iA 4 (.box 52 8 (.t 1))] (iS [aF 9 0 4,aL 10 9,iA 11 (iK 165 [10]),aM 6 11] (iS [aM 12 2,aG 13 12,aN 14 0] (.blk 0 (.loop (iS [aP 15 .lss 3 14 13] (.seq (iD 15 .skip (.exit 0)) (.seq (.blk 1 (iS [aI 16 1 12 14,aL 17 16,aM 8 17] (.seq (.dreg (tA 0 18 (iM 0) (tA 1 19 (iF 0 18) (tA 2 20 (iF 2 19) (tA 3 21 (iL 20) (tA 4 22 (iM 6) (tA 5 23 (iM 0) (tA 6 24 (iF 0 23) (tA 7 25 (iF 2 24) (tA 8 26 (iL 25) (tA 9 27 (iM 6) (tA 10 28 (iI 1 26 27) (tA 11 29 (iL 28) (tA 12 30 (iF 1 4) (tA 13 31 (iF 0 30) (tA 14 32 (iL 31) (tA 15 33 (iM 0) (tA 16 34 (iF 0 33) (tA 17 35 (iF 1 34) (tA 18 36 (iL 35) (tA 19 37 (iF 0 4) (tA 20 38 (iL 37) (tA 21 39 (iM 8) (tA 22 40 (wAV [(0,1,.t 32),(1,1,.t 36),(2,1,.t 38),(3,1,.t 39)]) (tC 41 (iK 128 [29,40]) [4,3,2,1,0] (tA 24 42 (iI 1 21 22) (.alt (wAF 42 41) [] .done .stop)) .stop))))))))))))))))))))))))) (.reg [aM 43 0,aF 44 0 43,aF 45 1 44,aL 46 45,aQ 47 .add 3 46 1,aF 48 0 43,aF 49 1 48,wAD 49 47])))) (.reg [aQ 50 .add 3 14 1,aM 14 50]))))))))
theorem jdC:fnC Tryz.prog Tryz.f111=some (jdT,[],51):=by kernel_rfl
theorem jod (y:Yd) (id:Int) (p:Pl) (ht:jn y<=2000000) (hp:p.aNF.length<=4000000):jW Tryz.prog 44 [.agg (jc y),.c (.val (.int .i64 id)),.agg (jd p)] (.tup [(true,jc (jee y id p)),(false,[.val (.int .i64 (jc8 y id p))])]):=by
 refine vr [[1,1,1,1,0],[1,1,1,1,1,0],[1,1,1,1,1,1,1]] Tryz.func44 jjZ (by simp) ?_
 unfold jhz;simp only [C.ghs,C.ghAt,List.foldr];simp only [go_sem,jc,jd];intro b3 b5 b6;refine jm (jY y ht) λbD=>?_
 simp only [go_sem,jc];intro b8;refine jm (kK y ht) λη=>?_
 simp only [go_sem];cases aR:ju y
 ·have hc:jc8 y id p=8:=by simp [jc8,aR]
  have hy:jee y id p=y:=by simp [jee,hc]
  simp only [go_sem,hc,hy]
  apply kV
  simp only [go_sem]
 simp only [go_sem];refine jm (jw id 1 9999) λη=>?_
 simp only [go_sem];cases hid:decide (1<=id/\id<=9999)
 ·have hc:jc8 y id p=5:=by simp [jc8,aR,of_decide_eq_false hid]
  have hy:jee y id p=y:=by simp [jee,hc]
  simp only [go_sem,hc,hy]
  apply kV
  simp only [go_sem]
 have uG:=aOY hid;simp only [go_sem];refine jm (qv y id) λη=>?_
 simp only [go_sem];by_cases s7:runAt y id>=0
 ·have hc:jc8 y id p=6:=by unfold jc8;rw [if_neg (by simp [aR]),if_neg (by omega),if_pos s7]
  have hy:jee y id p=y:=by simp [jee,hc]
  simp only [go_sem,s7,hc,hy]
  apply kV
  simp only [go_sem]
 simp only [go_sem,s7];refine jm (qq p hp) λη=>?_
 simp only [go_sem];cases uB:jo p !=0;rotate_left
 ·have eV:jo p≠0:=by simpa using uB
  have hc:jc8 y id p=jo p:=by unfold jc8;rw [if_neg (by simp [aR]),if_neg (by omega),if_neg (by omega),if_pos eV]
  have hy:jee y id p=y:=by rw [jee,if_neg (by rw [hc];exact eV)]
  simp only [go_sem];refine jm (qq p hp) λη=>?_
  simp only [go_sem];rw [hc,hy]
  apply kV
  simp only [go_sem]
 have eV:jo p=0:=by simpa using uB
 simp only [go_sem];refine jm (jmj y p ht) λη=>?_
 simp only [go_sem];cases t9:zJ y p
 ·have hc:jc8 y id p=7:=by unfold jc8;rw [if_neg (by simp [aR]),if_neg (by omega),if_neg (by omega),if_neg (by simp [eV]),if_pos t9]
  have hy:jee y id p=y:=by simp [jee,hc]
  simp only [go_sem,hc,hy]
  apply kV
  simp only [go_sem]
 have hc:jc8 y id p=0:=by unfold jc8;rw [if_neg (by simp [aR]),if_neg (by omega),if_neg (by omega),if_neg (by simp [eV]),if_neg (by simp [t9])]
 rw [hc,jee,if_pos hc];simp only [go_sem];refine jm (joe id p uG eV) λeM=>?_
 simp only [go_sem,jd,je];intro b9;refine kv ?_;obtain ⟨r,hr⟩:∃r,jN id p=r:=⟨_,rfl⟩;have z1:r.id=id:=by rw [<-hr];rfl
 refine WkK.wk (s':=St.of [(6,Bx 600 b6),(8,Bx 800 b8),(9,Bx 900 b9)] [(600,ZYd b6 _),(800,kb b8 _ y.now y.seq y.aNC (bD 2) y.aNE (bD 3)),(900,ja1 b9 _ r (eM 5) (eM 7))]) (jt [600,800,900] (by simp only [go_sem,hr]<;>trivial)) ?_
 refine qA 900 5 901 (d:=js r.aNB.aNF) (η:=eM 5) (by simp only [go_sem]) (by simp only [go_sem]) (by decide) λtQ=>?_
 refine qA 900 7 902 (d:=jx r.aNA) (η:=eM 7) (by simp only [go_sem]) (by simp only [go_sem]) (by decide) λtP=>?_
 refine WkK.of ?_;generalize eM 5=bP at*;generalize eM 7=bF at*;simp only [go_sem,tQ,tP];have m1:y.aNE.length+1<=maxLen:=by unfold maxLen;have:=(yard_iff.1 aR).eight;omega
 have m2:(y.aNE.length+1)*96<=140737488355328:=by have:=(yard_iff.1 aR).eight;omega
 intro aAX;refine jo2 (λeG=>St.of [(6,Bx 600 b6),(8,Bx 800 b8),(9,Bx 900 b9)] [(600,ZYd b6 tYd),(800,vv b8 tYd y.now y.seq y.aNC (bD 2) (.sl 8 tRn (y.aNE.flatMap je++rnH r (bP []) (bF []))) eG),(900,jra b9 tRn r (bP []) (bF [])),(901,.loose (js r.aNB.aNF) bP),(902,.loose (jx r.aNA) bF)]) m1 m2 ?_ (λeG=>jt [600,800,900,901,902]) (λeG=>jt [600,800,900,901,902]) ?_
 ·simp only [jic _ tQ,jic _ tP,jkn];rfl
 intro eG;rw [hr];generalize pZ:D.sl 8 tRn (y.aNE.flatMap je++rnH r (bP []) (bF []))=dR;refine qI 900 5 901 (d:=js r.aNB.aNF) (η:=bP) rfl rfl rfl ?_;refine qI 900 7 902 (d:=jx r.aNA) (η:=bF) rfl rfl rfl ?_;refine WkK.wk (s':=St.of [(6,Bx 600 b6),(8,Bx 800 b8),(9,Bx 900 b9)] [(600,ZYd b6 _),(800,vv b8 _ y.now y.seq y.aNC (bD 2) dR eG),(900,ja1 b9 _ r bP bF)]) (jt [600,800,900]) ?_;refine WkK.of ?_;obtain ⟨t0,ht0,-,cF,-⟩:=jbJ eV;have v8:r.aNA.length<=12:=by rw [<-hr,jN,jaS];omega
 simp only [go_sem];refine jm (qB r 2 (by omega)) λtK=>?_
 simp only [go_sem];refine kZ (qo (β:=7000000) Tryz.func111 jdC (by simp) ?_)
 unfold jdT;simp only [go_sem];intro b74;refine jm (jeX r.id) λη=>?_
 simp only [go_sem];obtain ⟨fR,rG⟩:=jC0 r.id;rw [fR];have uV:jtA ⟨y.now,y.seq,y.aNC,y.aNE++[r]⟩ r (qV 2 r.aNA)=⟨y.now,(zk r.aNB.aNI r.id (qV 2 r.aNA) ((y.aNC[shN r.id]?).getD default,y.seq)).2,y.aNC.set (shN r.id) (zk r.aNB.aNI r.id (qV 2 r.aNA) ((y.aNC[shN r.id]?).getD default,y.seq)).1,y.aNE++[r]⟩:=rfl;rw [uV];generalize shN r.id=n at*;have h4:=(yard_iff.1 aR).four;have hq:=(yard_iff.1 aR).seq;have hn:n<y.aNC.length:=by omega
 have lZ:=qX n;obtain ⟨l,hl⟩:=ja hn;have eQ:=zo ht (aNQ hl);rw [hl,aNZ];have hil:(qV 2 r.aNA).length<=12:=aPC (vx _ _ _) v8;generalize qV 2 r.aNA=ids at*;refine qY (λi:Nat×jf=>St.of [(0,Bx 800 b8),(4,Bx 4 b74),(6,Ni n),(12,Hd 56 (tK 0)),(13,Ni ids.length),(14,Ni i.1)] [(600,ZYd b6 _),(800,vv b8 _ y.now (zk r.aNB.aNI r.id (ids.take i.1) (l,y.seq)).2 (y.aNC.set n (zk r.aNB.aNI r.id (ids.take i.1) (l,y.seq)).1) i.2 dR eG),(4,ja1 b74 _ r bP bF),(56,.loose (jb ids) (tK 0))]) (λi=>i.1<=ids.length) (λi=>ids.length-i.1) (0,bD 2) (jt [600,800,700000400,5600] (by simp only [go_sem,aOW,jgy,jax hl]<;>trivial)) ?_
 rintro ⟨k,η⟩ hk;dsimp only at hk;have tX:=zZ r.aNB.aNI r.id (ids.take k) (l,y.seq);have cE:=jer r.aNB.aNI r.id (ids.take k) (l,y.seq);have fX:(ids.take k).length=k:=by rw [aNV];omega
 dsimp only at tX cE;by_cases aB:k<ids.length
 ·have aA:(k:Int)<ids.length:=by omega
  have bJ:=qX k;obtain ⟨x,hx⟩:=ja aB;have eJ:=jgw r.aNB.aNI r.id (ids.take k) x (l,y.seq);have cH:ids.take (k+1)=ids.take k++[x]:=by rw [aOA,hx];rfl
  rw [<-cH] at eJ;have hw:=kx k;have bV:IntKind.i64.wrap ((zk r.aNB.aNI r.id (ids.take k) (l,y.seq)).2+1)=(zk r.aNB.aNI r.id (ids.take k) (l,y.seq)).2+1:=vF;generalize wF:zk r.aNB.aNI r.id (ids.take k) (l,y.seq)=P at*;obtain ⟨sh,eD⟩:∃s,y.aNC.set n P.1=s:=⟨_,rfl⟩;have lX:sh[n]?=some P.1:=by rw [<-eD];exact aNX hn
  have fW:n<sh.length:=by rw [<-eD,aOE];exact hn
  have gZ:∀L,sh.set n L=y.aNC.set n L:=λL=>by rw [<-eD,aPE]
  have gS:n+1<=(sh.flatMap λes=>[jg es]).length:=by have:=jaD fW;rwa [aOG] at this
  have mV:((sh.flatMap λes=>[jg es]).drop n).take 1=[jg P.1]:=by have:=jbo lX;rwa [aOG] at this
  have lB:k+1<=(ids.flatMap λn=>[iv n]).length:=by have:=jp aB;rwa [aOG] at this
  have nU:((ids.flatMap λn=>[iv n]).drop k).take 1=[iv x]:=by have:=jq hx;rwa [aOG] at this
  rw [eD];simp only [go_sem,aA,bJ,aB,nU,lB,aOO,fW,aOG,mV,gS,lZ];refine jG (jaR P.1 ⟨r.aNB.aNI,P.2,r.id,x⟩ (by omega)) (by simp only [go_sem,jk,qy lX]) λsE=>?_
  simp only [go_sem];simp only [go_sem,fW,aOG,gS,jbs,bV,hw,gZ];refine λaC hη'=>?_
  exact qf (k+1,aC) (jt [600,800,4,56] (by simp only [go_sem,eJ]<;>trivial))
 obtain rfl:k=ids.length:=by omega
 have aA:¬((ids.length:Nat):Int)<ids.length:=by omega
 rw [aPP];generalize zk r.aNB.aNI r.id ids (l,y.seq)=P at*;simp only [go_sem,aA];refine kv ?_;subst pZ;refine WkK.wk (s':=St.of [(6,Bx 600 b6),(7,Ni 0)] [(600,vv b6 _ y.now P.2 (y.aNC.set n P.1) η (.sl 8 tRn (y.aNE.flatMap je++rnH r (bP []) (bF []))) eG),(5,ja1 b74 _ r bP bF)]) (jt [600,4]) ?_;refine qA 5 5 901 (d:=js r.aNB.aNF) (η:=bP) rfl rfl (by decide) λ_=>?_
 refine qA 5 7 902 (d:=jx r.aNA) (η:=bF) rfl rfl (by decide) λ_=>?_
 refine qi 600 3 (y.aNE.length*8+5) 901 (η:=eG) (aS:=bP) (cs:=r.aNB.aNF.flatMap jK) rfl (jta _ _ 5) (.inr rfl) rfl (by decide) λdA _=>?_
 rw [jnU];refine qi 600 3 (y.aNE.length*8+7) 902 (η:=dA) (aS:=bF) (cs:=r.aNA.flatMap jH) rfl (jta _ _ 7) (.inr rfl) rfl (by decide) λgJ _=>?_
 rw [jnU];refine WkK.of ?_;have bG:(List.set (List.set (rnH r (bP []) (bF [])) 5 (.sl 2 tEd (r.aNB.aNF.flatMap jK))) 7 (.sl 4 tTk (r.aNA.flatMap jH)))=je r:=rfl;rw [bG,jpE]
 apply kV
 simp only [go_sem]
theorem qU {α:Type} {f:α->Nat} (v:α):∀{l:List α} {k:Nat} {x:α},l[k]?=some x->qh f (l.set k v)+f x=qh f l+f v
 |[],_,_,h=>by simp at h
 |y::l,0,x,h=>by
  simp at h;subst h;simp only [qh,List.set_cons_zero,aPB,aQD];omega
 |y::l,k+1,x,h=>by
  have:=qU (f:=f) v (l:=l) (k:=k) (by simpa using h)
  simp only [qh,List.set_cons_succ,aPB,aQD] at this⊢;omega
theorem jwo {y:Yd} {r:Rn} {ids:List Int}:jn (jtA y r ids)<=jn y+ids.length:=by
 have h4:∀l:List En,vh l=l.length:=λ_=>rfl
 cases h:y.aNC[shN r.id]? with
 |none=>
  have:y.aNC.set (shN r.id) (zk r.aNB.aNI r.id ids ((y.aNC[shN r.id]?).getD default,y.seq)).1=y.aNC:=List.set_eq_of_length_le (aQO.1 h);simp only [jn,jbp,jtA,this];omega
 |some l=>
  have h1:=jer r.aNB.aNI r.id ids ((y.aNC[shN r.id]?).getD default,y.seq);have h2:=qU (f:=vh) (zk r.aNB.aNI r.id ids ((y.aNC[shN r.id]?).getD default,y.seq)).1 h;simp only [jn,jbp,jtA,aOE] at*;rw [h4,h4] at h2;rw [h,aNZ] at*;omega
def kN (y:Yd) (k:Nat) (r:Rn):Yd:=jtA ⟨y.now,y.seq,y.aNC,y.aNE.set k r⟩ r (zj ((y.aNE[k]?).getD default).aNA r.aNA r.aNA.length)
def jcb (l:List Rn) (k:Nat) (row:List D):List D:=(l.take k).flatMap je++(row++(l.drop (k+1)).flatMap je)
abbrev rnV (r:Rn) (x5 x7:Value):List D:=[.val (.int .i64 r.id),.val (.int .i64 r.aNB.aNI),.val (.int .i64 r.aNB.aNN),.val (.int .i64 r.aNB.aNM),.val (.int .i64 r.aNB.aNA),.val x5,.val (.int .i64 r.aND),.val x7]
section
variable {l:List Rn} {k:Nat} {r:Rn} {row row':List D}
theorem qO (hk:k<l.length):((l.take k).flatMap je).length=k*8:=by rw [jhZ,aNV,aPD (Nat.le_of_lt hk)]
theorem jnT (h:l[k]?=some r):l.flatMap je=jcb l k (je r):=jbB (enc:=je) h
theorem jbd (hk:k<l.length) (j:Nat) (hj:j<row.length):(jcb l k row)[k*8+j]?=row[j]?:=by
 rw [jcb,aPL (by rw [qO hk];omega),qO hk,aPI,aQE hj]
theorem jay (hk:k<l.length) (j:Nat) (hj:j<row.length) (d:D):(jcb l k row).set (k*8+j) d=jcb l k (row.set j d):=by
 rw [jcb,aRA _ _ (by rw [qO hk];omega),qO hk,aPI,aQN _ _ hj];rfl
theorem jxc (hk:k<l.length) (h8:row.length=8):((jcb l k row).drop (k*8)).take 8=row:=by
 rw [jcb,List.drop_append_of_le_length (by rw [qO hk];exact aOC _),List.drop_eq_nil_of_le (by rw [qO hk];exact aOC _),aOQ,<-h8,List.take_left]
theorem jkk (hk:k<l.length) (h8:row.length=8):(jcb l k row).length=l.length*8:=by
 have h1:=jhZ (l.drop (k+1));rw [aOI] at h1;rw [jcb,aNR,aNR,qO hk,h1,h8];omega
theorem jAf (hk:k<l.length) (h8:row.length=8) (gX:row'.length=8):ky (jcb l k row) (k*8) row'=jcb l k row':=by
 have h1:=qO hk;have h2:=jkk hk h8;rw [kY _ _ _ (by rw [h2,gX];omega),jcb,List.take_left' h1,gX]
 have:((l.take k).flatMap je++(row++(l.drop (k+1)).flatMap je)).drop (k*8+8)=(l.drop (k+1)).flatMap je:=by
  rw [<-aOB];exact List.drop_left' (by rw [aNR,h1,h8])
 rw [this,jcb,aOB]
theorem jpD (hk:k<l.length) (h8:row.length=8):(D.sl 8 tRn (jcb l k row)).len=l.length:=by
 simp only [D.len,D.cells,D.size,jkk hk h8];exact aOS _ (by decide)
theorem jnS (hk:k<l.length):D.sl 8 tRn (jcb l k (je r))=jE (l.set k r):=by
 have h1:(l.set k r)[k]?=some r:=aNX hk;have h2:=jnT h1
 have h3:jcb (l.set k r) k (je r)=jcb l k (je r):=by
  rw [jcb,jcb,List.take_set_of_le (aOC _),List.drop_set_of_lt (Nat.lt_succ_self k)]
 rw [jE,h2,h3]
end
theorem jCS {flat:Bool} {p:List Nat} {k n:Nat} {η:jf} {K:jf->Prop} (h:∀aC,K aC):stH flat p k n η K:=by
 cases flat with
 |true=>exact h _
 |false=>exact λaC _=>h aC
theorem jca (r:Rn) (t:Int):(qa r t).aNA.length=r.aNA.length:=by
 unfold qa;split
 ·simp only [jil,jaX]
 ·rfl
theorem kO (r:Rn) (t:Int):(jB r t).aNA.length=r.aNA.length:=by
 unfold jB;split
 ·unfold zD
  split
  ·simp only [aOE]
  ·simp only [vT,aOE]
 ·rfl
theorem RunOkP.le12 {r:Rn} (h:RunOkP r):r.aNA.length<=12:=by
 obtain ⟨n,h1,_,h2,_⟩:=jbJ h.aNB;have:=h.len;omega
theorem jDH {was ts:List Tk} {k:Nat} {x z:Tk} (h:ts[k]?=some x) (hz:was[k]?=some z):jrf was ts k=((x.aND==2)&&!(z.aND==2)):=by
 have:=(aNP.1 hz).1;simp [jrf,kt h,kt hz,this]
section
variable {P:Program} {β:Nat} {s:St} {K:St->Prop} {d:Option Nat} {g:Option (Nat×Bool)}
theorem Inl.weak {f:FuncId} {args:List AV} {o:Nat->Ob} {R R':AV->(Nat->Ob)->Prop} (h:Inl P f args o R) (hk:∀av o',R av o'->R' av o'):Inl P f args o R':=
 ⟨h.1,λB w F xs h1 h2=>(h.2 B w F xs h1 h2).mono λe w' ⟨v,av,o',F',k1,k2,k3,k4⟩=>⟨v,av,o',F',k1,k2,k3,hk _ _ k4⟩⟩
theorem jmS {f:Nat} {args:List X} {R:AV->(Nat->Ob)->Prop} (h:Inl P f (args.map s.ev) s.o R) (hk:∀av o',R av o'->K (St.put ⟨s.t,o'⟩ d av)):vp P β ⟨d,g,.call f args⟩ s K:=kZ (h.weak hk)
theorem kr {f:Nat} {args:List X} {vs:List AV} {R:AV->(Nat->Ob)->Prop} (ha:args.map s.ev=vs) (h:Inl P f vs s.o R) (hk:∀av o',R av o'->K (St.put ⟨s.t,o'⟩ d av)):vp P β ⟨d,g,.call f args⟩ s K:=by subst ha;exact jmS h hk
theorem jpo (x:A0):x.sim x=True:=by cases x<;>simp [A0.sim]
theorem jpm:∀l:List A0,simL l l=True
 |[]=>rfl
 |x::l=>by simp [simL,jpo,jpm l]
theorem jpl (x:Cell):x.sim x=True:=by cases x<;>simp [Cell.sim,jpo]
theorem jpn:∀l:List Cell,simC l l=True
 |[]=>rfl
 |x::l=>by simp [simC,jpl,jpn l]
theorem jM (x:Ob):x.sim x=True:=by cases x<;>simp [Ob.sim,jpn]
end
abbrev jHi (o o':Nat->Ob):Prop:=o' 92=o 92/\o' 93=o 93/\o' 94=o 94/\o' 95=o 95/\o' 96=o 96/\o' 97=o 97
def EpK (P:Program) (f:FuncId) (k:Nat) (t:Int) (y:Yd) (r2:Rn):Prop:=∀(o:Nat->Ob) (b:Nat) (e2 e3:jf),o 90=kb b tYd y.now y.seq y.aNC e2 y.aNE e3->
 Inl P f [.c (.ep 90 3 [] (k*8) (e3 [])),Ni t] o λav o'=>av=.tup []/\o' 90=kb b tYd y.now y.seq y.aNC e2 (y.aNE.set k r2) e3/\o' 91=o 91/\jHi o o'
def jzy (P:Program) (f:FuncId) (caps:List A0) (H:Ob) (k:Nat) (y:Yd) (r2:Rn):Prop:=∀(o:Nat->Ob) (b:Nat) (e2 e3:jf),o 90=kb b tYd y.now y.seq y.aNC e2 y.aNE e3->o 91=H->
 Turns P f ([.c (.ep 90 3 [] (k*8) (e3 []))]++caps.map .c) o λrt o'=>rt=.tup []/\o' 90=kb b tYd y.now y.seq y.aNC e2 (y.aNE.set k r2) e3/\o' 91=H/\jHi o o'
section
variable {l:List Rn} {k:Nat} {r:Rn}
theorem jav (h:l[k]?=some r):((l.flatMap je).drop (k*8+7)).take 1=[jx r.aNA]:=qH (enc:=je) (size:=8) (λ_=>rfl) h (j:=7) (n:=1) (by decide)
theorem jCu (h:l[k]?=some r):((l.flatMap je).drop (k*8+6)).take 1=[.val (.int .i64 r.aND)]:=qH (enc:=je) (size:=8) (λ_=>rfl) h (j:=6) (n:=1) (by decide)
theorem jHd (h:l[k]?=some r):((l.flatMap je).drop (k*8+1)).take 5=jd r.aNB:=qH (enc:=je) (size:=8) (λ_=>rfl) h (j:=1) (n:=5) (by decide)
theorem jHe (h:l[k]?=some r):((l.flatMap je).drop (k*8+1+1)).take 1=[.val (.int .i64 r.aNB.aNN)]:=qH (enc:=je) (size:=8) (λ_=>rfl) h (j:=2) (n:=1) (by decide)
theorem jaW (h:l[k]?=some r):k*8+7+1<=(l.flatMap je).length:=qZ (enc:=je) (size:=8) (λ_=>rfl) h (j:=7) (n:=1) (by decide)
theorem jCa (h:l[k]?=some r):k*8+6+1<=(l.flatMap je).length:=qZ (enc:=je) (size:=8) (λ_=>rfl) h (j:=6) (n:=1) (by decide)
theorem jGz (h:l[k]?=some r):k*8+1+5<=(l.flatMap je).length:=qZ (enc:=je) (size:=8) (λ_=>rfl) h (j:=1) (n:=5) (by decide)
theorem jGA (h:l[k]?=some r):k*8+1+1+1<=(l.flatMap je).length:=qZ (enc:=je) (size:=8) (λ_=>rfl) h (j:=2) (n:=1) (by decide)
theorem jxn (h:l[k]?=some r) (v:Int):D.put [] (k*8+6) [.val (.int .i64 v)] (jE l)=jE (l.set k ⟨r.id,r.aNB,v,r.aNA⟩):=jbH (enc:=je) (size:=8) (λ_=>rfl) h (j:=6) rfl (by simp [])
theorem zK (h:l[k]?=some r) {ts:List Tk} {i:Nat} {ds:List D} (hp:D.put [] i ds (jx r.aNA)=jx ts):D.put [k*8+7] i ds (jE l)=jE (l.set k ⟨r.id,r.aNB,r.aND,ts⟩):=by
 have hk:=(aNP.1 h).1;have h7:(l.flatMap je)[k*8+7]?=some (jx r.aNA):=jry (j:=7) h (by decide)
 have e:(l.flatMap je).set (k*8+7) (jx ts)=jcb l k (je ⟨r.id,r.aNB,r.aND,ts⟩):=by
  rw [jnT h,jay hk 7 (by simp [je,jd])];rfl
 rw [<-jnS hk,<-e];simp only [jE,D.put,h7,hp]
end
theorem jEc {k t:Nat} {y:Yd} {r:Rn} (hr:y.aNE[k]?=some r) (aV:vH r t=true):EpK Tryz.prog 124 k t y (qa r t):=by
 intro o b10 e2 e3 lA;refine qo (β:=7000000) Tryz.func124 jmu (by simp) ?_
 unfold jlQ;obtain ⟨t',x,dN,hx,hs,hP⟩:=jbc aV;obtain rfl:t=t':=by omega
 obtain ⟨n,hn,d9,cF,dH,bU,aW,-⟩:=jbJ hP.aNB;have aD:=hP.len;have dG:=(aNP.1 hr).1;have eI:=(aNP.1 hx).1;have fF:=qX t;have cG:(r.aNA.set t ⟨4,x.aNL,x.tri,x.til⟩)[t]?=some ⟨4,x.aNL,x.tri,x.til⟩:=aNX eI;have oB:t<(r.aNA.set t ⟨4,x.aNL,x.tri,x.til⟩).length:=by rw [aOE];exact eI
 have hS:∀r':Rn,(y.aNE.set k r')[k]?=some r':=λr'=>aNX dG
 have cR:=hS ⟨r.id,r.aNB,r.aND,r.aNA.set t ⟨4,x.aNL,x.tri,x.til⟩⟩;have pO:=hS ⟨r.id,r.aNB,r.aND,r.aNA.set t ⟨4,x.aNL,x.tri,0⟩⟩;simp only [go_sem,lA,aOO,eI,fF,jav hr,jaW hr,ko hr,zK hr (jcd hx 4),vL hx,jhL hx,oB,jav cR,jaW cR,ko cR,jlg cG,jzi cG,zK cR (jfG cG 0),aPE,jHd pO,jGz pO,jd];refine jG (jk7 r.aNB t hP.aNB) (by simp only [go_sem,jd,joB pO]) λcO=>?_
 simp only [go_sem];have uO:=jt9 hn cF dH t;have hlD:(vX r.aNB r.aNA t x).length=r.aNA.length:=jaX _ _ _ _;have hR:qa r t=jil r t x:=jfF hx aV;generalize gB:r.aNA.set t ⟨4,x.aNL,x.tri,0⟩=ts0 at*;have dB:ts0.length=r.aNA.length:=by rw [<-gB,aOE]
 have uK:vX r.aNB r.aNA t x=(jb5 r.aNB t).foldl ja6 ts0:=by rw [<-gB];rfl
 refine qY (λi:Nat=>St.of [(0,.c (.ep 90 3 [] (k*8) (e3 []))),(26,Hd 26 (cO 0)),(27,Ni (jb5 r.aNB t).length),(28,Ni i)] [(90,kb b10 tYd y.now y.seq y.aNC e2 (y.aNE.set k ⟨r.id,r.aNB,r.aND,((jb5 r.aNB t).take i).foldl ja6 ts0⟩) e3),(91,o 91),(92,o 92),(93,o 93),(94,o 94),(95,o 95),(96,o 96),(97,o 97),(26,.loose (jb (jb5 r.aNB t)) (cO 0))]) (λi=>i<=(jb5 r.aNB t).length) (λi=>(jb5 r.aNB t).length-i) 0 (jt [90,91,92,93,94,95,96,97,700002600] (by simp only [go_sem,aOW,List.foldl_nil,jM]<;>trivial)) ?_
 rintro j hj;by_cases aB:j<(jb5 r.aNB t).length
 ·have aA:(j:Int)<(jb5 r.aNB t).length:=by omega
  obtain ⟨v,hv⟩:=ja aB;have pN:=jsC hn (aNQ hv);have hU:=jgH ((jb5 r.aNB t).take j) ts0;have fC:=jng hv ts0;generalize ((jb5 r.aNB t).take j).foldl ja6 ts0=ts at*;have bQ:v.toNat<ts.length:=by omega
  have nV:=pN.1;obtain ⟨z,fQ⟩:=ja bQ;have hw:=kx j;rw [jsU fQ] at fC;generalize gR:IntKind.i64.wrap (z.aNL-1)=nd at*;have sH:(ts.set v.toNat ⟨z.aND,nd,z.tri,z.til⟩)[v.toNat]?=some ⟨z.aND,nd,z.tri,z.til⟩:=aNX bQ;have q1:=hS ⟨r.id,r.aNB,r.aND,ts⟩;have q2:=hS ⟨r.id,r.aNB,r.aND,ts.set v.toNat ⟨z.aND,nd,z.tri,z.til⟩⟩;cases hz:nd==0
  ·have cL:¬nd=0:=by simpa using hz
   rw [if_neg cL] at fC;simp only [go_sem,aOO,aB,aA,jq hv,jp aB,jav q1,jaW q1,ko q1,bQ,nV,jud fQ,jtG fQ,gR,zK q1 (jxm fQ nd),aPE,ko q2,jud sH,jtG sH,hz,hw];exact qf (j+1) (jt [90,91,92,93,94,95,96,97,26] (by simp only [go_sem,fC,jM]<;>trivial))
  ·have cL:nd=0:=by simpa using hz
   rw [if_pos cL] at fC;simp only [go_sem,aOO,aB,aA,jq hv,jp aB,jav q1,jaW q1,ko q1,bQ,nV,jud fQ,jtG fQ,gR,zK q1 (jxm fQ nd),aPE,ko q2,jud sH,jtG sH,hz,vL sH,zK q2 (jcd sH 2),hw];exact qf (j+1) (jt [90,91,92,93,94,95,96,97,26] (by simp only [go_sem,fC,jM]<;>trivial))
 have aA:¬(j:Int)<(jb5 r.aNB t).length:=by omega
 rw [aNU (by omega)]
 rw [hR,<-uK];have t6:jil r t x=⟨r.id,r.aNB,if (qV 4 (vX r.aNB r.aNA t x)).length=r.aNA.length then 2 else r.aND,vX r.aNB r.aNA t x⟩:=rfl
 rw [t6];generalize vX r.aNB r.aNA t x=tD at*;have q3:=hS ⟨r.id,r.aNB,r.aND,tD⟩;simp only [go_sem,je,jd,aOO,aA,jmz q3,jih q3,jav q3,ko q3];refine jG (qB ⟨r.id,r.aNB,r.aND,tD⟩ 4 (by simp only;omega)) (by simp only [go_sem,je,jd,zw q3,zu q3]) λη=>?_
 simp only [go_sem];rw [<-hlD];generalize hq:(qV 4 tD).length=q at*;cases he:(q:Int)==(tD.length:Int)
 ·have eZ:¬q=tD.length:=jye he
  rw [if_neg eZ];simp only [go_sem];exact ⟨rfl,rfl,rfl,rfl,rfl,rfl⟩
 ·have eZ:q=tD.length:=jyd he
  rw [if_pos eZ];simp only [go_sem,aOO,jCu q3,jCa q3,jxn q3,aPE];exact ⟨rfl,rfl,rfl,rfl,rfl,rfl⟩
theorem jcj {p:Pl} {ts ts':List Tk} (h:∀b:Int,(stT ts' b !=4)=(stT ts b !=4)) (t:Int):jaT p ts' t=jaT p ts t:=by
 simp only [jaT,h]
theorem jrr {ts:List Tk} {t:Nat} {x y:Tk} (hx:ts[t]?=some x) (h:(y.aND !=4)=(x.aND !=4)) (b:Int):(stT (ts.set t y) b !=4)=(stT ts b !=4):=by
 have ht:=(aNP.1 hx).1;simp only [stT,aPO];by_cases e:t=b.toNat
 ·rw [if_pos e,<-e,if_pos ht,hx];exact h
 ·rw [if_neg e]
theorem jG5 {s:Int} {ts:List Tk} {t:Nat} (ht:t<ts.length) (h1:∀(j:Nat) (x:Tk),ts[j]?=some x->(x.aND=s↔j=t)):cS s ts=1:=by
 have e:(List.range ts.length).filter (λ(j:Nat)=>stT ts (j:Int)==s)=(List.range ts.length).filter (λj=>j==t):=by
  refine List.filter_congr λj hj=>?_
  rw [aQX] at hj;have hx:ts[j]?=some ts[j]:=aNS hj;rw [kt hx,Bool.eq_iff_iff,aPV,aPV];exact h1 j _ hx
 have:(List.range ts.length).count t=1:=by rw [List.count_range,if_pos ht]
 simp only [cS,qV,zi,e,aPA];rw [<-this,List.count_eq_length_filter]
theorem jtz (j:Nat) (x:Tk):((jA j x).aND !=4)=(x.aND !=4):=by
 unfold jA;split
 ·rename_i h
  have:(x.aND !=4)=true:=by simpa using h.1
  rw [this];rfl
 ·rfl
theorem jgu {f:Nat->Tk->Tk} {ts:List Tk} {j:Nat} {z:Tk} (h:(vq f ts ts.length)[j]?=some z):∃x,ts[j]?=some x/\z=f j x:=by
 simp only [vq,List.getElem?_mapIdx,Option.map_eq_some_iff] at h;obtain ⟨x,hx,rfl⟩:=h;exact ⟨x,hx,by rw [if_pos (aNP.1 hx).1]⟩
theorem taskB_iff {p:Pl} {ts:List Tk} {t:Nat} {x:Tk}:jS p ts t x=true↔(1<=x.aND/\x.aND<=6)/\x.aNL=jaT p ts t/\(0<=x.tri/\x.tri<=p.aNN)/\jbv x=true/\vn p x=true:=by
 simp only [jS,inB,aOF,aOJ,aPV,and_assoc]
theorem jqE {r:Rn} {t:Nat} {x:Tk} (h:RunOkP r) (hx:r.aNA[t]?=some x) (hs:x.aND=3):RunOkP (zD r t x):=by
 obtain ⟨e1,e2,e3,e4⟩:=h.aNE hx hs;have ht:=(aNP.1 hx).1;have bL:=taskB_iff.1 (h.aNA t x hx);have hl:=bL.2.2.2.2
 have xV:x.aNL=0/\1<=x.tri:=by
  simpa [vn,hs] using hl
 unfold zD;split
 ·rename_i hm
  have hN:∀j:Int,jaT r.aNB (r.aNA.set t ⟨2,x.aNL,x.tri,0⟩) j=jaT r.aNB r.aNA j:=jcj (jrr hx (by simp [hs]))
  have c5:cS 5 (r.aNA.set t ⟨2,x.aNL,x.tri,0⟩)=0:=jeK (ji2 (q:=λs=>s≠5) (by simp) λy hy=>by obtain ⟨k,hk,rfl⟩:=aOZ hy;exact jt7 e2 (aNS hk))
  have c6:cS 6 (r.aNA.set t ⟨2,x.aNL,x.tri,0⟩)=0:=jeK (ji2 (q:=λs=>s≠6) (by simp) λy hy=>by obtain ⟨k,hk,rfl⟩:=aOZ hy;exact jt7 e3 (aNS hk))
  have aH:∀z∈r.aNA.set t ⟨2,x.aNL,x.tri,0⟩,1<=z.aND/\z.aND<=6:=ji2 (q:=λs=>1<=s/\s<=6) (by simp) h.st
  have c2:=jt6 (s:=2) (aNX ht:(r.aNA.set t ⟨2,x.aNL,x.tri,0⟩)[t]?=some _) rfl;have eC:=jc5 aH _ (aOC _);change cS 1 _+cS 2 _+cS 3 _+cS 4 _+cS 5 _+cS 6 _=_ at eC;refine ⟨h.id,h.aNB,by rw [aOE];exact h.len,λj z hz=>?_,?_,h.live⟩
  ·dsimp only at hz⊢
   rw [aPO] at hz;by_cases e:t=j
   ·subst e
    rw [if_pos rfl,if_pos ht] at hz;obtain rfl:=aOH hz;rw [taskB_iff,hN];exact ⟨by simp,bL.2.1,bL.2.2.1,rfl,by simp [vn,xV.1,hm]⟩
   ·rw [if_neg e] at hz
    have:=taskB_iff.1 (h.aNA j z hz);rw [taskB_iff,hN];exact this
  ·dsimp only
   rw [e1,jgf,if_neg (by omega),c5,c6,if_neg (by omega),if_neg (by omega),if_pos ⟨rfl,rfl⟩]
 ·rename_i hm
  generalize hT:r.aNA.set t ⟨5,x.aNL,x.tri,0⟩=T;have hTl:T.length=r.aNA.length:=by rw [<-hT,aOE]
  have hTt:T[t]?=some ⟨5,x.aNL,x.tri,0⟩:=by rw [<-hT];exact aNX ht
  have hTj:∀j,t≠j->T[j]?=r.aNA[j]?:=λj hj=>by rw [<-hT,aOX hj]
  rw [<-hTl]
  have hM:∀(j:Nat) (z:Tk),(vq jA T T.length)[j]?=some z->(j=t/\z=⟨5,x.aNL,x.tri,0⟩)\/j≠t/\∃y,r.aNA[j]?=some y/\((y.aND=4/\z=y)\/(y.aND≠4/\z=⟨6,y.aNL,y.tri,0⟩)):=by
   intro j z hz;obtain ⟨y,hy,rfl⟩:=jgu hz;by_cases e:t=j
   ·subst e
    rw [hTt] at hy;obtain rfl:=aOH hy;exact .inl ⟨rfl,by simp [jA]⟩
   ·rw [hTj j e] at hy
    have h5:y.aND≠5:=jt7 e2 hy;refine .inr ⟨λe'=>e e'.symm,y,hy,?_⟩
    by_cases e4:y.aND=4
    ·exact .inl ⟨e4,by simp [jA,e4]⟩
    ·exact .inr ⟨e4,by simp [jA,e4,h5]⟩
  have lK:∀b:Int,(stT (vq jA T T.length) b !=4)=(stT r.aNA b !=4):=by
   intro b;rw [<-jrr hx (y:=⟨5,x.aNL,x.tri,0⟩) (by simp [hs]),hT]
   simp only [stT,vq,List.getElem?_mapIdx];cases hb:T[b.toNat]? with
   |none=>rfl
   |some z=>simp only [Option.map_some,aNZ,if_pos (aNP.1 hb).1,jtz]
  have hN:=λj=>jcj (p:=r.aNB) lK j
  have aD:(vq jA T T.length).length=T.length:=vT
  have aH:∀z∈vq jA T T.length,4<=z.aND/\z.aND<=6:=λz hz=>by
   obtain ⟨k,hk,rfl⟩:=aOZ hz;rcases hM k _ (aNS hk) with ⟨_,h1⟩|⟨_,y,_,⟨h1,h2⟩|⟨_,h2⟩⟩
   ·rw [h1];simp
   ·rw [h2];omega
   ·rw [h2];simp
  have c1:cS 1 (vq jA T T.length)=0:=jeK λz hz=>by have:=aH z hz;omega
  have c2:cS 2 (vq jA T T.length)=0:=jeK λz hz=>by have:=aH z hz;omega
  have c3:cS 3 (vq jA T T.length)=0:=jeK λz hz=>by have:=aH z hz;omega
  have c5:cS 5 (vq jA T T.length)=1:=by
   refine jG5 (t:=t) (by rw [aD,hTl];exact ht) λj z hz=>?_
   rcases hM j z hz with ⟨h1,h2⟩|⟨h1,y,_,⟨h2,h3⟩|⟨_,h3⟩⟩
   ·rw [h2];simp [h1]
   ·rw [h3];simp [h1,h2]
   ·rw [h3];simp [h1]
  have eC:=jc5 (λz hz=>by have:=aH z hz;omega) _ (aOC (vq jA T T.length).length)
  change cS 1 _+cS 2 _+cS 3 _+cS 4 _+cS 5 _+cS 6 _=_ at eC;refine ⟨h.id,h.aNB,by dsimp only;rw [aD,hTl];exact h.len,λj z hz=>?_,?_,by simp⟩
  ·dsimp only at hz⊢
   rw [taskB_iff,hN];rcases hM j z hz with ⟨rfl,rfl⟩|⟨h1,y,hy,⟨h2,rfl⟩|⟨h2,rfl⟩⟩
   ·exact ⟨by simp,bL.2.1,bL.2.2.1,rfl,by simp [vn,xV.1,xV.2]⟩
   ·exact taskB_iff.1 (h.aNA j _ hy)
   ·have h3:=taskB_iff.1 (h.aNA j _ hy)
    exact ⟨by simp,h3.2.1,h3.2.2.1,rfl,by simp [vn]⟩
  ·dsimp only
   rw [jgf,if_neg (by omega),if_pos ⟨c5,by omega⟩]
theorem jrw {r:Rn} (t:Int) (h:RunOkP r):RunOkP (jB r t):=by
 cases hr:vH r t with
 |false=>rw [jfE hr];exact h
 |true=>
  obtain ⟨k,x,rfl,hx,hs,_⟩:=jbc hr;rw [qN hx hr];exact jqE h hx hs
theorem jhV {r:Rn} {t:Nat} {x:Tk} (h:RunOkP r) (hx:r.aNA[t]?=some x) (hs:x.aND=3):vH r t=true:=by
 have ht:=(aNP.1 hx).1;simp only [vH,inB,aOF,aOJ,aPV,kt hx,runOk_iff];exact ⟨⟨by omega,hs⟩,h⟩
theorem jmT {r:Rn} {t:Int} {j:Nat} {z:Tk} (hz:(jB r t).aNA[j]?=some z) (hs:z.aND=3):r.aNA[j]?=some z:=by
 cases hr:vH r t with
 |false=>rwa [jfE hr] at hz
 |true=>
  obtain ⟨k,x,rfl,hx,mO,_⟩:=jbc hr;rw [qN hx hr,zD] at hz;have hk:=(aNP.1 hx).1;split at hz
  ·dsimp only at hz
   rw [aPO] at hz;by_cases e:k=j
   ·subst e
    rw [if_pos rfl,if_pos hk] at hz;obtain rfl:=aOH hz;cases hs
   ·rw [if_neg e] at hz;exact hz
  ·dsimp only at hz
   have e:r.aNA.length=(r.aNA.set k ⟨5,x.aNL,x.tri,0⟩).length:=by rw [aOE]
   rw [e] at hz;obtain ⟨y,hy,rfl⟩:=jgu hz;unfold jA at hs;split at hs
   ·cases hs
   ·rename_i h
    exact absurd ⟨by omega,by omega⟩ h
theorem jaN (r:Rn) (t:Int):(jB r t).id=r.id/\(jB r t).aNB=r.aNB:=by
 unfold jB;split
 ·unfold zD;split<;>exact ⟨rfl,rfl⟩
 ·exact ⟨rfl,rfl⟩
structure LaterP (y z:Yd):Prop where
 len:z.aNE.length=y.aNE.length
 aNE:∀(k:Nat) (r:Rn),y.aNE[k]?=some r->∃r',z.aNE[k]?=some r'/\r'.id=r.id/\r'.aNB=r.aNB/\RunOkP r'/\r'.aNA.length=r.aNA.length/\∀(t:Nat) (x:Tk),r'.aNA[t]?=some x->x.aND=3->r.aNA[t]?=some x
theorem LaterP.refl {y:Yd} (h:YardOkP y):LaterP y y:=⟨rfl,λk r hr=>⟨r,hr,rfl,rfl,h.right r (aNQ hr),rfl,λ_ _ h _=>h⟩⟩
theorem jAd:∀{l m:List Rn} (id:Int),l.map (·.id)=m.map (·.id)->jhY l id=jhY m id:=by
 intro l m id h;have e:∀l:List Rn,l.findIdx? (λr=>r.id==id)=(l.map (·.id)).findIdx? (· ==id):=λl=>by rw [List.findIdx?_map];rfl
 simp only [jhY,e,h]
theorem LaterP.ids {y z:Yd} (h:LaterP y z):z.aNE.map (·.id)=y.aNE.map (·.id):=by
 apply aPY
 intro k;simp only [aQK];cases hr:y.aNE[k]? with
 |none=>
  have:z.aNE[k]?=none:=by rw [aQO] at hr⊢;rw [h.len];exact hr
  rw [this]
 |some r=>
  obtain ⟨r',h1,h2,_⟩:=h.aNE k r hr;rw [h1];simp [h2]
theorem LaterP.runAt {y z:Yd} (h:LaterP y z) (id:Int):runAt z id=runAt y id:=by
 unfold Go.Proofs.YtcehjhiglmifjaaGreat.runAt;rw [h.len,jAd id h.ids]
noncomputable def failK (y:Yd) (k t:Nat):Yd:=if stT ((y.aNE[k]?).getD default).aNA t==3 then kN y k (jB ((y.aNE[k]?).getD default) t) else y
theorem jc3 (y:Yd) (k:Nat) (r:Rn):(kN y k r).aNE=y.aNE.set k r:=rfl
theorem LaterP.fail {y z:Yd} (h:LaterP y z) (k t:Nat):LaterP y (failK z k t):=by
 unfold failK;split
 ·cases hk:y.aNE[k]? with
  |none=>
   have pW:z.aNE[k]?=none:=by rw [aQO] at hk⊢;rw [h.len];exact hk
   rename_i hs;rw [pW] at hs;simp [stT] at hs;cases hs
  |some r=>
   obtain ⟨r',h1,h2,h3,h4,h5,h6⟩:=h.aNE k r hk;have xW:=(aNP.1 h1).1;rw [h1,aNZ];refine ⟨by rw [jc3,aOE];exact h.len,λj q hq=>?_⟩
   rw [jc3,aPO];by_cases e:k=j
   ·subst e
    rw [hk] at hq;obtain rfl:=aOH hq;rw [if_pos rfl,if_pos xW];have hi:=jaN r' t;refine ⟨_,rfl,by rw [hi.1];exact h2,by rw [hi.2];exact h3,jrw _ h4,by rw [kO];exact h5,λi x hx hs=>h6 i x (jmT hx hs) hs⟩
   ·rw [if_neg e];exact h.aNE j q hq
 ·exact h
structure StepI (y z:Yd) (i:Nat):Prop where
 later:LaterP y z
 four:z.aNC.length=4
 seq:1<=z.seq/\z.seq<=1000000000+12*i
 tot:jn z<=jn y+12*i
 now:z.now=y.now
theorem StepI.refl {y:Yd} (h:YardOkP y):StepI y y 0:=⟨.refl h,h.four,by have:=h.seq;omega,aOC _,rfl⟩
theorem StepI.mono {y z:Yd} {i j:Nat} (h:StepI y z i) (hij:i<=j):StepI y z j:=⟨h.later,h.four,by have:=h.seq;omega,by have:=h.tot;omega,h.now⟩
theorem jnD {y:Yd} {k:Nat} {r r2:Rn} (hr:y.aNE[k]?=some r) (ht:kz r2=kz r) (hl:r2.aNA.length<=12):jn (kN y k r2)<=jn y+12:=by
 have h1:=jwo (y:=⟨y.now,y.seq,y.aNC,y.aNE.set k r2⟩) (r:=r2) (ids:=zj ((y.aNE[k]?).getD default).aNA r2.aNA r2.aNA.length);have h2:=jen ((y.aNE[k]?).getD default).aNA r2.aNA r2.aNA.length;have h3:=qU (f:=kz) r2 hr
 have h4:jn ⟨y.now,y.seq,y.aNC,y.aNE.set k r2⟩=jn y:=by
  simp only [jn,zn,aOE];omega
 rw [kN];omega
theorem jz8 (y:Yd) (k:Nat) (r2:Rn):y.seq<=(kN y k r2).seq/\(kN y k r2).seq<=y.seq+r2.aNA.length:=by
 have h2:=jen ((y.aNE[k]?).getD default).aNA r2.aNA r2.aNA.length;have h1:=zZ r2.aNB.aNI r2.id (zj ((y.aNE[k]?).getD default).aNA r2.aNA r2.aNA.length) ((y.aNC[shN r2.id]?).getD default,y.seq);have e:(kN y k r2).seq=(zk r2.aNB.aNI r2.id (zj ((y.aNE[k]?).getD default).aNA r2.aNA r2.aNA.length) ((y.aNC[shN r2.id]?).getD default,y.seq)).2:=rfl;rw [e,h1];dsimp only;omega
theorem jyk (y:Yd) (k:Nat) (r2:Rn):(kN y k r2).aNC.length=y.aNC.length:=by
 have e:(kN y k r2).aNC=y.aNC.set (shN r2.id) (zk r2.aNB.aNI r2.id (zj ((y.aNE[k]?).getD default).aNA r2.aNA r2.aNA.length) ((y.aNC[shN r2.id]?).getD default,y.seq)).1:=rfl;rw [e,aOE]
theorem StepI.fail {y z:Yd} {i:Nat} (h:StepI y z i) (k t:Nat):StepI y (failK z k t) (i+1):=by
 have hL:=h.later.fail k t;cases hc:(stT ((z.aNE[k]?).getD default).aNA t==3) with
 |false=>
  have e:failK z k t=z:=by unfold failK;rw [hc];rfl
  rw [e];exact h.mono (Nat.le_succ i)
 |true=>
  have e:failK z k t=kN z k (jB ((z.aNE[k]?).getD default) t):=by unfold failK;rw [hc];rfl
  cases hk:y.aNE[k]? with
  |none=>
   have pW:z.aNE[k]?=none:=by rw [aQO] at hk⊢;rw [h.later.len];exact hk
   rw [pW] at hc;simp [stT] at hc;cases hc
  |some r=>
   obtain ⟨r',h1,h2,h3,h4,h5,h6⟩:=h.later.aNE k r hk;rw [h1,aNZ] at e;have hl:=kO r' t;have cF:=h4.le12;have hs:=jz8 z k (jB r' t);have:=h.seq;have:=h.tot;have hT:=jnD (r2:=jB r' t) h1 (ji3 r' t) (by omega)
   rw [e] at hL⊢;exact ⟨hL,by rw [jyk];exact h.four,by omega,by omega,h.now⟩
theorem jne {y z:Yd} (h:LaterP y z) {k t:Nat} {r:Rn} {x:Tk} (hk:y.aNE[k]?=some r) (nY:runAt y r.id=k) (hx:r.aNA[t]?=some x):vo z r.id t x.tri=(stT ((z.aNE[k]?).getD default).aNA t==3):=by
 obtain ⟨r',h1,h2,h3,h4,h5,h6⟩:=h.aNE k r hk;have ht:=(aNP.1 hx).1;have bT:r'.aNA[t]?=some r'.aNA[t]:=aNS (by omega)
 have hn:¬((k:Int)<0):=by omega
 have hT:jaK z r.id t=some r'.aNA[t]:=by
  simp only [jaK,h.runAt,nY,hn,if_false,aNW,h1];rw [if_pos (by omega)];exact bT
 rw [h1,aNZ,kt bT];simp only [vo,hT];cases hs:(r'.aNA[t].aND==3) with
 |false=>rfl
 |true=>
  have mO:r'.aNA[t].aND=3:=by simpa using hs
  have:=h6 t _ bT mO;rw [hx] at this;rw [aOH this];simp
noncomputable def restT (z:Yd) (k:Nat):Nat->Yd
 |0=>z
 |t+1=>failK (restT z k t) k t
noncomputable def restR (y:Yd):Nat->Yd
 |0=>y
 |k+1=>restT (restR y k) k ((y.aNE[k]?).getD default).aNA.length
theorem StepI.restT {y z:Yd} {i:Nat} (h:StepI y z i) (k:Nat):∀t,StepI y (restT z k t) (i+t)
 |0=>h
 |t+1=>(StepI.restT h k t).fail k t
theorem StepI.restR {y:Yd} (h:YardOkP y):∀k,StepI y (restR y k) (12*k)
 |0=>.refl h
 |k+1=>by
  refine ((StepI.restR h k).restT k _).mono ?_;cases hk:y.aNE[k]? with
  |none=>rw [Option.getD_none];have:(default:Rn).aNA.length=0:=rfl;omega
  |some r=>
   have:=(h.right r (aNQ hk)).le12;rw [aNZ];omega
noncomputable def jbG (y:Yd):Yd:=if ju y then restR y y.aNE.length else y
section
variable {s:St} {K:St->Prop}
theorem jwu (g c sz lo n:Nat) (p:List Nat) (x:Value) (l:List A0) (R:List Cell->St->Prop):qz s (.hs g c p x sz lo n::l) R=qz s l (λcs s'=>R (.a (.hs g c p x sz lo n)::cs) s'):=by simp [qz,A0.one]
theorem jsT {w:World} {d:D} {u:Value} {S:List Nat} (hd:d.isSl=true) (hs:0<d.size) (h:Rep w true d u S):jki u d.size 0 d.len=u:=by
 cases d with
 |val _=>cases hd
 |sl size ty cs=>
  obtain ⟨vs,T,S',hr,hl,_⟩:=h;have aD:=RepL.length _ hl;rcases kX hr with ⟨rfl,rfl⟩|⟨g,n,c,rfl,_,h3,_⟩
  ·have:cs=[]:=aON (by simpa using aD.symm)
   subst this;simp [jki,D.len,D.cells,D.size]
  ·have e:(D.sl size ty cs).len=n:=by
    simp only [D.len,D.cells,D.size];rw [<-aD,h3];exact aOS _ hs
   rw [e];simp only [jki,Nat.zero_mul,Nat.sub_zero];split
   ·rfl
   ·simp [Addr.add_lit]
theorem jlT {B:Nat} {w:World} {a a':A0} (h:∀u,A0Rel B w a u->A0Rel B w a' u):∀{c:Nat} {l:List Cell} {us:List Value} {S:List Nat},CRel B w l us S->l[c]?=some (.a a)->CRel B w (l.set c (.a a')) us S
 |_,[],_,_,_,hc=>by simp at hc
 |0,.a x::l,_,S,⟨v,us',e,h1,h2⟩,hc=>by
  simp at hc;subst hc;exact ⟨v,us',e,h _ h1,h2⟩
 |0,.own e ε::l,_,_,_,hc=>by simp at hc
 |c+1,.a x::l,_,S,⟨v,us',e,h1,h2⟩,hc=>by
  simp at hc;exact ⟨v,us',e,h1,jlT h h2 hc⟩
 |c+1,.own e ε::l,_,_,⟨v,us',T1,T2,e1,e2,h1,h2,h3,h4⟩,hc=>by
  simp at hc;exact ⟨v,us',T1,T2,e1,e2,h1,h2,h3,jlT h h4 hc⟩
theorem jo7 (g c:Nat) {b ty:Nat} {cs:List Cell} {a a':A0} (hb:s.o g=.box b ty cs) (hc:cs[c]?=some (.a a)) (h:∀(B N:Nat) (w0 w:World) (act:Act) (F:Nat->List Nat),RelF B w0 N s act w F->∀u,A0Rel B w a u->A0Rel B w a' u) (hk:WkK (s.setO g (.box b ty (cs.set c (.a a')))) K):WkK s K:=by
 intro B N w0 w act F hr;have h4:=hr.ob g;rw [hb] at h4;obtain ⟨us,S1,q1,q2,q3⟩:=h4;refine hk _ _ _ _ _ _ (hr.setO (g:=g) (ob:=.box b ty (cs.set c (.a a'))) (S:=F g) ⟨us,S1,q1,jlT (h _ _ _ _ _ _ hr) q2 hc,q3⟩ (hr.fr g) λg' cU x hx bT=>hr.dj g' g cU x bT hx)
theorem jfA (g c g2:Nat) {b ty:Nat} {cs:List Cell} {d:D} {η:jf} (hb:s.o g=.box b ty cs) (hc:cs[c]?=some (.own d η)) (h2:s.o g2=.none) (aJ:g2≠g) (cP:0<d.size)
 (hk:WkK (((s.rm g c).setO g2 (.loose d η)).setO g (.box b ty (cs.set c (.a (.hs g2 0 [] (η []) d.size 0 d.len))))) K):WkK s K:=by
 have cV:=(aNP.1 hc).1;have ho:(s.o g).own c=some (d,η):=by rw [hb];simp [Ob.own,hc]
 refine qA g c g2 ho h2 aJ λeX=>?_
 have rH:(s.rm g c).o g=.box b ty (cs.set c (.a (.v (η [])))):=by
  show (if g=g then (s.o g).rm c else _)=_
  rw [if_pos rfl,hb];simp only [Ob.rm,hc,rmC]
 refine jo7 g c (a:=.v (η [])) (b:=b) (ty:=ty) (cs:=cs.set c (.a (.v (η [])))) (by
  show (if g=g2 then _ else (s.rm g c).o g)=_
  rw [if_neg (Ne.symm aJ)];exact rH) (aNX cV) (a':=.hs g2 0 [] (η []) d.size 0 d.len) (λB N w0 w act F hr u hu=>?_) ?_
 ·have h3:=hr.ob g2
  have e:((s.rm g c).setO g2 (.loose d η)).o g2=.loose d η:=by show (if g2=g2 then _ else _)=_;rw [if_pos rfl]
  rw [e] at h3;obtain ⟨k1,u',k2,k3⟩:=h3;have e2:η []=u':=by rw [k3,zt k1]
  have hu':u=η []:=hu;rw [hu'];exact ⟨.inl (by rw [e2,jsT k1 cP k2]),eX⟩
 ·rw [aPE];exact hk
theorem jbx (g c g2:Nat) {g3 sz n b ty:Nat} {cs:List Cell} {d:D} {η:jf} {x:Value} (hb:s.o g=.box b ty cs) (hc:cs[c]?=some (.a (.hs g3 0 [] x sz 0 n))) (hx:x=η []) (hs:sz=d.size) (hn:n=d.len) (h2:s.o g2=.loose d η) (cP:0<d.size)
 (hk:WkK (((s.setO g (.box b ty (cs.set c (.a (.v (η [])))))).setO g2 .none).setO g (.box b ty (cs.set c (.own d η)))) K):WkK s K:=by
 have cV:=(aNP.1 hc).1;have aJ:g2≠g:=λe=>by rw [e,hb] at h2;cases h2
 subst hx hs hn;refine jo7 g c (a:=.hs g3 0 [] (η []) d.size 0 d.len) hb hc (a':=.v (η [])) (λB N w0 w act F hr u hu=>?_) ?_
 ·have h3:=hr.ob g2
  rw [h2] at h3;obtain ⟨k1,u',k2,k3⟩:=h3;have e2:η []=u':=by rw [k3,zt k1]
  obtain ⟨h5,_⟩:=hu;have h5:=h5.resolve_right λh=>absurd h.1 (Nat.lt_irrefl 0)
  show u=η [];rw [h5,e2,jsT k1 cP k2]
 ·refine qI g c g2 (b:=b) (ty:=ty) (cs:=cs.set c (.a (.v (η [])))) (d:=d) (η:=η) (by show (if g=g then _ else _)=_;rw [if_pos rfl]) (aNX cV) (by show (if g2=g then _ else s.o g2)=_;rw [if_neg aJ];exact h2) ?_
  rw [aPE];exact hk
end
attribute [go_sem] jwu
theorem js3:∀(f g:Nat) (l:List UInt8),l.length<=f->l.length<=g->rvF f l=rvF g l
 |f,g,[],_,_=>by cases f<;>cases g<;>rfl
 |0,_,_::_,h,_=>by simp at h
 |_,0,_::_,_,h=>by simp at h
 |f+1,g+1,b::l,h1,h2=>by
  simp only [rvF];cases hv:jf9 (b::l) with
  |none=>rfl
  |some p=>
   obtain ⟨v,k⟩:=p;obtain ⟨_,q,h5,rfl⟩:=jec hv;have aJ:=aQZ.2 (jhU v);simp only [aOD] at h1 h2;dsimp only;rw [js3 f g]
   ·rw [aOI,aOD];omega
   ·rw [aOI,aOD];omega
structure RvTo (t:ByteArray) (k:Nat) (L:List Int):Prop where
 le:k<=t.size
 len:L.length<=k
 eq:rvF t.size t.data.toList=(rvF t.size (t.data.toList.drop k)).map λr=>L++r
theorem RvTo.start (t:ByteArray):RvTo t 0 []:=⟨aOL _,aOC _,by simp⟩
theorem RvTo.step {t:ByteArray} {k:Nat} {L:List Int} (h:RvTo t k L) (hk:k<t.size):
 (vAt t (k:Int)).2=-1/\rvF t.size t.data.toList=none\/∃v m:Nat,vAt t (k:Int)=((v:Int),(m:Int))/\k<m/\RvTo t m (L++[(v:Int)]):=by
 have hs:t.data.toList.length=t.size:=by rw [aQB];rfl
 have hv:vAt t (k:Int)=match jf9 (t.data.toList.drop k) with
  |some (v,m)=>((v:Int),(k:Int)+(m:Int))
  |none=>(0,-1):=by rw [vAt,if_neg (by omega),aNW]<;>rfl
 have hl:(t.data.toList.drop k).length=t.size-k:=by rw [aOI,hs]
 have eR:=h.eq;cases hd:t.data.toList.drop k with
 |nil=>rw [hd] at hl;simp at hl;omega
 |cons b l=>
  rw [hd] at hv hl eR;obtain ⟨f,hf⟩:∃f,t.size=f+1:=⟨t.size-1,by omega⟩
  cases hh:jf9 (b::l) with
  |none=>
   left;rw [hv,hh];refine ⟨rfl,?_⟩;rw [eR,hf];simp only [rvF,hh,Option.map_none]
  |some p=>
   obtain ⟨v,m⟩:=p;right;obtain ⟨_,q,h5,rfl⟩:=jec hh;have aJ:=aQZ.2 (jhU v);have hlq:=congrArg List.length h5;rw [aNR] at hlq;refine ⟨v,k+(vY v).length,?_,by omega,by omega,?_,?_⟩
   ·rw [hv,hh];simp
   ·have:=h.len;simp;omega
   ·have e1:rvF (f+1) (b::l)=(rvF f ((b::l).drop (vY v).length)).map λr=>(v:Int)::r:=by simp only [rvF,hh]
    rw [eR]
    conv=>lhs;rw [hf,e1]
    rw [<-List.drop_drop,hd,js3 f t.size ((b::l).drop (vY v).length) (by rw [aOI];omega) (by rw [aOI];omega),Option.map_map]
    congr 1
    funext r
    simp
theorem RvTo.done {t:ByteArray} {k:Nat} {L:List Int} (h:RvTo t k L) (hk:¬k<t.size):rvF t.size t.data.toList=some L:=by
 have hs:t.data.toList.length=t.size:=by rw [aQB];rfl
 rw [h.eq,List.drop_eq_nil_of_le (by omega)]
 cases t.size<;>simp [rvF]
theorem jAN (l:List Int) (a:Int):D.sl 1 jeP (l.flatMap (λn=>[iv n])++[iv a])=jb (l++[a]):=by simp [jb]
def rvR (t:ByteArray):List Int×Bool:=match rvF t.size t.data.toList with
 |some L=>(L,true)
 |none=>([],false)
theorem jFJ {s:St} {a b g c:Nat} {x u:Value} {d:D} {η:jf} (ha:s.t a=.c (.h g c [] x)) (ho:(s.o g).own c=some (d,η)) (hx:η []=x) (hb:s.t b=.c (.v u)) (hu:u.oneCell'=true:=by rfl):jv2 [.t a,.t b] (.tup [(false,[d]),(false,[.val u])]) s:=by
 simp only [qF,jbf,ha,hb,jbe,jJ,jz];refine ⟨by simp,?_⟩
 simp [qz,A0.one,hu,ho,IsD,RT.flat];exact ⟨_,_,⟨rfl,rfl⟩,hx,rfl⟩
theorem jFI {s:St} {a b:Nat} {u:Value} {size:Nat} {ty:TypeId} (ha:s.t a=.c (.v (.slice none 0 0))) (hb:s.t b=.c (.v u)) (hu:u.oneCell'=true:=by rfl):jv2 [.t a,.t b] (.tup [(false,[.sl size ty []]),(false,[.val u])]) s:=by
 simp only [qF,jbf,ha,hb,jbe,jJ,jz];refine ⟨by simp,?_⟩
 simp only [aOM,List.flatMap_nil,aOP,aOU,aOQ,qz,A0.one,hu,RT.flat,IsD];simp [];rfl
theorem jk2 (t:ByteArray) (ht:t.size<=1000000000):jW Tryz.prog 102 [.c (.val (.string t))] (.tup [(false,[jb (rvR t).1]),(false,[.val (.bool (rvR t).2)])]):=by
 refine pf_ jgZ ?_;unfold jdU;simp only [go_sem];refine kg (λi:(List Int×Nat)×jf=>St.of [(0,.c (.v (.string t))),(4,Hd 7 i.2),(5,Ni i.1.2)] [(7,.loose (jb i.1.1) i.2)]) (λi=>RvTo t i.1.2 i.1.1) (λi=>t.size-i.1.2) (([],0),jbL) (RvTo.start t) (ze [none] (by simp only [go_sem]<;>trivial)) ?_
 rintro ⟨⟨L,k⟩,η⟩ hi;dsimp only at hi;have cE:=hi.le;have aD:=hi.len;by_cases aB:k<t.size;rotate_left
 ·have aA:¬(k:Int)<(t.size:Int):=by omega
  have hr:rvR t=(L,true):=by rw [rvR,hi.done aB]
  rw [hr];simp only [go_sem,aA];exact jFJ (g:=7) (c:=0) (d:=jb L) (η:=η) (x:=η []) (by simp only [go_sem]) (by simp only [go_sem]) rfl (by simp only [go_sem])
 have aA:(k:Int)<(t.size:Int):=by omega
 have dI:L.length+1<=maxLen:=zy;have eB:(L.length+1)*8<=140737488355328:=by omega
 simp only [go_sem,aA];refine jm (jpX t (k:Int) ht (by omega)) λη=>?_
 simp only [go_sem];rcases hi.step aB with ⟨e1,e2⟩|⟨v,m,e1,hkm,hn⟩
 ·have hr:rvR t=([],false):=by rw [rvR,e2]
  have aK:(-1:Int)<0:=by omega
  rw [hr];simp only [go_sem,e1,aK];exact jFI (by simp only [go_sem]) (by simp only [go_sem])
 ·have aK:¬(m:Int)<0:=by omega
  have aIX:=hn.le;simp only [go_sem,e1,aK,dI,eB];intro aS cI;exact ⟨((L++[(v:Int)],m),cI),hn,(jt [2300] (by simp only [go_sem,jAN]<;>trivial)),by (try dsimp only);omega⟩
section
variable {P:Program} {β N B:Nat} {s:St} {K:St->Prop} {d:Option Nat} {gd:Option (Nat×Bool)} {a:Act} {w w0:World} {F:Nat->List Nat}
def jBE (o' o:Nat->Ob):Prop:=∀g,o' g=o g\/o' g=.none
open Classical in
theorem RelF.less (h:RelF B w0 N s a w F) {o':Nat->Ob} (ho:jBE o' s.o):∃F':Nat->List Nat,RelF B w0 N ⟨s.t,o'⟩ a w F'/\∀g,∀b∈F' g,b∈F g:=by
 have hs:∀g,∀b∈(if o' g=s.o g then F g else []),b∈F g:=λg b hb=>by
  split at hb
  ·exact hb
  ·simp at hb
 refine ⟨λg=>if o' g=s.o g then F g else [],⟨h.below,h.hB,h.df,h.sz,h.sl,λg=>?_,λg=>?_,λg g' aJ b hb aZ=>h.dj g g' aJ b (hs g b hb) (hs g' b aZ)⟩,hs⟩
 ·show ORel B w (o' g) _
  by_cases e:o' g=s.o g
  ·rw [if_pos e,e];exact h.ob g
  ·rw [if_neg e,(ho g).resolve_left e];rfl
 ·by_cases e:o' g=s.o g
  ·rw [if_pos e];exact h.fr g
  ·rw [if_neg e];exact Fresh.nil _
def jEL (P:Program) (f:FuncId) (args:List AV) (o:Nat->Ob) (A:AV) (o':Nat->Ob):Prop:=Inl P f args o λav o2=>av=A/\o2=o'
theorem jox {f:FuncId} {args:List AV} {o o':Nat->Ob} {A:AV} (h:Inl P f args o λav o2=>av=A/\jBE o' o2):jEL P f args o A o':=
 ⟨h.1,λB w F xs h1 h2=>(h.2 B w F xs h1 h2).mono λe w' ⟨v,av,o2,F',k1,k2,k3,k4,k5⟩=>by
  obtain ⟨F2,r,_⟩:=k2.less (o':=o') k5;exact ⟨v,av,o',F2,k1,r,k3,k4,rfl⟩⟩
theorem jv {f:Nat} {args:List X} {vs:List AV} {A:AV} {o':Nat->Ob} (h:jEL P f vs s.o A o') (ha:args.map s.ev=vs) (hk:K (St.put ⟨s.t,o'⟩ d A)):vp P β ⟨d,gd,.call f args⟩ s K:=by
 subst ha;exact jmS h λav o2 ⟨h1,h2⟩=>by subst h1 h2;exact hk
theorem jV {g M:Nat} (h:g<M) (n:Nat) (hn:M<=n):(g=n)=False:=eq_false (by omega)
end
def jEI (o:Nat->Ob) (g:Nat) (ob:Ob):Nat->Ob:=λk=>if k=g then ob else o k
theorem jET (o:Nat->Ob) (g:Nat) (ob:Ob) (k:Nat):jEI o g ob k=if k=g then ob else o k:=(rfl)
theorem jaf {g:Nat} {o o2:Nat->Ob} {ob:Ob} (h1:o2 g=ob) (h2:∀k,k≠g->o2 k=o k):jBE (jEI o g ob) o2:=λk=>by
 rw [jET];by_cases e:k=g
 ·rw [if_pos e,e];exact .inl h1.symm
 ·rw [if_neg e];exact .inl (h2 k e).symm
attribute [go_sem] jET
def St.ofB (T:List (Nat×AV)) (O:List (Nat×Ob)) (M:Nat) (ob:Nat->Ob):St:=⟨lkT T,λj=>if j<M then ob j else lkO O j⟩
theorem ofB_t (T:List (Nat×AV)) (O:List (Nat×Ob)) (M:Nat) (ob:Nat->Ob) (n:Nat):(St.ofB T O M ob).t n=lkT T n:=(rfl)
theorem ofB_o (T:List (Nat×AV)) (O:List (Nat×Ob)) (M:Nat) (ob:Nat->Ob) (n:Nat):(St.ofB T O M ob).o n=if n<M then ob n else lkO O n:=(rfl)
attribute [go_sem] ofB_t ofB_o
theorem kM {s:St} {T:List (Nat×AV)} {O:List (Nat×Ob)} {M:Nat} {ob:Nat->Ob} (ks:List (Option Nat)) (h:jA5 s T/\jsp s ks O) (hf:∀j,j<M->s.o j=ob j) (hk:∀k∈jsX ks,M<=k) (hn:jjs (jsX ks)=true:=by decide):Wk s (St.ofB T O M ob):=λB N w0 w a F hr=>by
 have bS:=jyj hr.ob h.2;have n4:=jA0 (ks:=ks) (O:=O) hr.dj (jcu hn);refine ⟨λj=>if j<M then F j else fp F ks O j,⟨hr.below,hr.hB,hr.df,hr.sz,jA3 hr.sl h.1,λg=>?_,λg=>?_,λg g' aJ x hx bT=>?_⟩,λg x hx=>?_⟩
 ·by_cases c:g<M
  ·simp only [St.ofB,if_pos c];rw [<-hf g c];exact hr.ob g
  ·simp only [St.ofB,if_neg c];exact bS g
 ·by_cases c:g<M
  ·simp only [if_pos c];exact hr.fr g
  ·simp only [if_neg c];exact jAZ hr.fr ks O g
 ·by_cases c:g<M
  ·simp only [if_pos c] at hx
   by_cases c':g'<M
   ·simp only [if_pos c'] at bT;exact hr.dj g g' aJ x hx bT
   ·simp only [if_neg c'] at bT
    obtain ⟨k,h1,h2⟩:=jgE bT;exact hr.dj g k (by have:=hk k h1;omega) x hx h2
  ·simp only [if_neg c] at hx
   by_cases c':g'<M
   ·simp only [if_pos c'] at bT
    obtain ⟨k,h1,h2⟩:=jgE hx;exact hr.dj k g' (by have:=hk k h1;omega) x h2 bT
   ·simp only [if_neg c'] at bT;exact n4 g g' aJ x hx bT
 ·by_cases c:g<M
  ·simp only [if_pos c] at hx;exact ⟨g,hx⟩
  ·simp only [if_neg c] at hx
   obtain ⟨k,_,h2⟩:=jgE hx;exact ⟨k,h2⟩
theorem jqe:∀L:List Int,(L.flatMap λn=>[iv n]).length=L.length
 |[]=>rfl
 |a::L=>by rw [aOM,aNR,jqe L];simp;omega
theorem jGO {s:St} (k c:Nat) (p:List Nat) (x:Value) (sz lo n:Nat):(∃dd,Is s (.hs k c p x sz lo n) dd)=jjb ((s.o k).own c) λd0 η=>η p=x/\jo5 (D.get p d0) λdd=>(dd.isSl=true/\dd.size=sz/\0<sz/\lo+n<=dd.len)/\True:=by
 have:=jGs (s:=s) k c p x sz lo n λ_=>True
 rw [<-this];simp only [and_true]
def jau:C:=iS [aN 2 0] (.seq (iS [aM 4 0,aF 5 0 4,aF 6 0 5,aL 7 6,aG 8 7,aQ 9 .eql 3 8 0] (iD 9 (iS [aM 10 0,aF 11 0 10,aF 12 1 11,iC (.st 1 [none] (.t 12) (oT))] (iS [aN 2 0] .ret)) .skip)) (iS [aM 13 0,aF 14 0 13,aF 15 0 14,aL 16 15,iA 17 (.ia 1 (.t 16) (oI 0)),aL 18 17,aM 3 18] (iS [aM 19 0,aM 20 0,aF 21 0 20,aF 22 0 21,aL 23 22,iA 24 (.sl 1 (.t 23) (some (oI 1)) none),aF 25 0 19,aF 26 0 25,iC (.st 1 [some (1,3)] (.t 26) (.t 24))] (iS [aM 27 3,aM 2 27] .ret))))
theorem jcp:fnC Tryz.prog Tryz.f103=some (jau,[.t 2],28):=by kernel_rfl
def vf (b ty:Nat) (η:jf) (L:List Int) (s:Nat×Bool):Ob:=.box b ty [.a (.hs 87 0 [] (η []) 1 s.1 (L.length-s.1)),.a (.v (.bool s.2))]
theorem kL (L:List Int) (s:Nat×Bool) (b:Nat) (η:jf) (o:Nat->Ob) (hs:s.1<=L.length) (ho:o 88=vf b 128 η L s) (hL:o 87=.loose (jb L) η):
 jEL Tryz.prog 103 [Bx 88 b] o (Ni (jad L s).1) (jEI o 88 (vf b 128 η L (jad L s).2)):=by
 obtain ⟨k,bad⟩:=s;dsimp only at hs;refine jox ?_;refine qo (β:=8000000) Tryz.func103 jcp (by simp) ?_
 unfold jau;unfold vf at ho;by_cases aB:k<L.length
 ·obtain ⟨x,hx⟩:=ja aB
  have he:(((L.length-k:Nat):Int)==0)=false:=by simp;omega
  have h1:1<=L.length-k:=by omega
  have hr:jad L (k,bad)=(x,(k+1,bad)):=by simp only [jad,hx]
  have iX:0<L.length-k:=by omega
  have dG:k+(L.length-k)<=L.length:=by omega
  have oV:k+1<=L.length:=by omega
  have fP:=jq hx;have hU:(L.flatMap λn=>[iv n]).length=L.length:=jqe L
  rw [aOG] at fP;have bA:L.length-k-1=L.length-(k+1):=by omega
  simp only [go_sem,ho,hL,he,h1,jGO,iX,dG,oV,aOO,fP,aOG,hU,aOC,bA,jwu,jsR];rw [hr];refine ⟨rfl,jaf (by simp only [go_sem,vf]) λg g2=>?_⟩
  simp only [go_sem,eq_false g2]
 ·have hk:L.length-k=0:=by omega
  have he:(((0:Nat):Int)==0)=true:=rfl;have hr:jad L (k,bad)=(0,(k,true)):=by simp only [jad,aPN (by omega:L.length<=k)]
  have dG:k+0<=L.length:=by omega
  rw [hk] at ho;simp only [go_sem,ho,hL,jGO,dG];rw [hr];refine ⟨rfl,jaf (by simp only [go_sem,vf,hk]) λg g2=>?_⟩
  simp only [go_sem,eq_false g2]
