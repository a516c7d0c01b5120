/- Parts. -/
import Derived.Test.YtmnpailnelmpiaaQHolds
set_option linter.unusedSimpArgs false
set_option linter.unusedVariables false
set_option maxHeartbeats 8000000
set_option maxRecDepth 100000
namespace Go.Proofs.Ytmnpailnelmpiaa
open Go.RowKit Go.Sort
section
variable {P:Program} {β:Nat} {s:St} {K:St→Prop} {Q:Ex→St→Prop}
theorem kK {a:C} (h:WkK s (wpC P β a Q)):wpC P β (.gh a) Q s:=h
theorem WkK.of {K:St→Prop} (h:K s):WkK s K:=fun _ _ _ _ _ F hr=>⟨s,F,hr,h⟩
theorem WkK.wk {s':St} (h:Wk s s') (hk:WkK s' K):WkK s K:=fun B N w0 w a F hr=>let ⟨F',h1,_⟩:=h B N w0 w a F hr;hk B N w0 w a F' h1
theorem jkX {u:Value} (h:∃A n c,u=.slice A n c):u.oneCell'=true:=by obtain ⟨_,_,_,rfl⟩:=h;rfl
theorem jsj {w:World} {own:Bool} {d:D} {u:Value} {S:List Nat} (hd:d.isSl=true) (h:Rep w own d u S):∃A n c,u=.slice A n c:=by
 cases d with
 |val _=>cases hd
 |sl _ _ _=>exact qW h
theorem qh (g c g2:Nat) {d:D} {η:jm} (ho:(s.o g).own c=some (d,η)) (h2:s.o g2=.none) (hne:g2≠g) (hk:(η []).oneCell'=true→WkK ((s.rm g c).setO g2 (.loose d η)) K):WkK s K:=by
 intro B N w0 w a F h;obtain ⟨u,S,F',j1,j2,j3,j4,j5,j6,j7,j8⟩:=h.rm ho;have e:η []=u:=by rw [j3,vL j1]
 exact hk (e▸jkX (jsj j1 j2)) _ _ _ _ _ _ (j5.setO (g:=g2) (ob:=.loose d η) (S:=S) ⟨j1,u,j2,j3⟩ j4 (fun g' _ b hb=>j6 g' b hb))
theorem jkD {B:Nat} {w:World} {d:D} {η:jm} {u:Value} {S2:List Nat} (hd:d.isSl=true) (hr:Rep w true d u S2) (hh:∀p,η p=hdr w p d u):∀{c:Nat} {l:List Cell} {us:List Value} {S:List Nat},CRel B w l us S→l[c]?=some (.a (.v u))→
 ∃S',CRel B w (l.set c (.own d η)) us S'∧S'.Perm (S++S2)
 |_,[],_,_,_,h=>by simp at h
 |0,.a x::l,_,S,⟨v,us',rfl,h1,h2⟩,h=>by
  simp at h;subst h;have:v=u:=h1;subst this;exact ⟨S2++S,⟨v,us',S2,S,rfl,rfl,hd,hr,hh,h2⟩,List.perm_append_comm⟩
 |0,.own e ε::l,_,_,_,h=>by simp at h
 |c+1,.a x::l,_,S,⟨v,us',rfl,h1,h2⟩,h=>by
  simp at h;obtain ⟨S',a1,a2⟩:=jkD hd hr hh h2 h;exact ⟨S',⟨v,us',rfl,h1,a1⟩,a2⟩
 |c+1,.own e ε::l,_,_,⟨v,us',T1,T2,rfl,rfl,h1,h2,h3,h4⟩,h=>by
  simp at h;obtain ⟨S',a1,a2⟩:=jkD hd hr hh h4 h;exact ⟨T1++S',⟨v,us',T1,S',rfl,rfl,h1,h2,h3,a1⟩,by rw [List.append_assoc];exact List.Perm.append_left _ a2⟩
theorem qg (g c g2:Nat) {b ty:Nat} {cs:List Cell} {d:D} {η:jm} (hb:s.o g=.box b ty cs) (hc:cs[c]?=some (.a (.v (η [])))) (h2:s.o g2=.loose d η) (hk:WkK ((s.setO g2 .none).setO g (.box b ty (cs.set c (.own d η)))) K):WkK s K:=by
 intro B N w0 w a F h;have hne:g2≠g:=fun e=>by rw [e,hb] at h2;cases h2
 have h3:=h.ob g2;rw [h2] at h3;obtain ⟨k1,u,k2,k3⟩:=h3;have e:η []=u:=by rw [k3,vL k1]
 rw [e] at hc;have h4:=h.ob g;rw [hb] at h4;obtain ⟨us,S1,q1,q2,q3⟩:=h4;obtain ⟨S',q4,q5⟩:=jkD k1 k2 k3 q2 hc;have t1:=h.setO (g:=g2) (ob:=.none) (S:=[]) rfl (Fresh.nil _) (by simp)
 have hp:(b::S').Perm (F g++F g2):=by rw [q3];exact q5.cons b
 have hnd:(F g++F g2).Nodup:=List.nodup_append.2 ⟨(h.fr g).1,(h.fr g2).1,fun x hx y hy e=>h.dj g g2 (fun e=>hne e.symm) x hx (e▸hy)⟩
 refine hk _ _ _ _ _ _ (t1.setO (g:=g) (ob:=.box b ty (cs.set c (.own d η))) (S:=b::S') ⟨us,S',q1,q4,rfl⟩ ⟨hp.nodup_iff.2 hnd,fun x hx=>?_⟩ (fun g' hg' x hx=>?_))
 ·rcases List.mem_append.1 (hp.mem_iff.1 hx) with hx|hx
  ·exact (h.fr g).2 x hx
  ·exact (h.fr g2).2 x hx
 ·split
  ·simp
  ·rename_i hg2
   intro hh;rcases List.mem_append.1 (hp.mem_iff.1 hx) with hx|hx
   ·exact h.dj g' g hg' x hh hx
   ·exact h.dj g' g2 hg2 x hh hx
theorem jgY (g c k g2:Nat) {sz tyo size ty:Nat} {ds0 cs:List D} {η:jm} (ho:(s.o g).own c=some (.sl sz tyo ds0,η)) (hk:ds0[k]?=some (.sl size ty cs)) (h2:s.o g2=.none) (hne:g2≠g)
 (hK:∀η2 η',η' []=η []→η2 []=η [k]→(η [k]).oneCell'=true→WkK ((s.setO g ((s.o g).putOwn c (.sl sz tyo (ds0.set k (.val (η [k])))) η')).setO g2 (.loose (.sl size ty cs) η2)) K):WkK s K:=by
 intro B N w0 w a F h;obtain ⟨v,Sk,a1,a2,_,a4,a5,a6⟩:=jkx (h.ob g) ho hk;have hv:=a2 rfl;obtain ⟨η',S',b1,b2,R,b3,b4⟩:=a6 (.val v) [] ⟨rfl,rfl⟩;rw [List.append_nil] at b4;have hnd:=b3.nodup_iff.1 (h.fr g).1;have hsub:∀b∈S',b∈F g:=fun b hb=>b3.mem_iff.2 (List.mem_append.2 (.inl (b4.mem_iff.1 hb)))
 have t1:=h.setO (g:=g) b1 ⟨b4.nodup_iff.2 (List.nodup_append.1 hnd).1,fun b hb=>(h.fr g).2 b (hsub b hb)⟩ (fun g' hg' b hb hh=>h.dj g' g hg' b hh (hsub b hb))
 have t2:=t1.setO (g:=g2) (ob:=.loose (.sl size ty cs) (fun p=>hdr w p (.sl size ty cs) v)) (S:=Sk) ⟨rfl,v,a1,fun _=>rfl⟩ ⟨(List.nodup_append.1 hnd).2.1,fun b hb=>(h.fr g).2 b (a4 b hb)⟩ (fun g' _ b hb=>by
  split
  ·exact fun hh=>(List.nodup_append.1 hnd).2.2 b (b4.mem_iff.1 hh) b hb rfl
  ·rename_i hgg
   exact fun hh=>h.dj g' g hgg b hh (a4 b hb))
 have:=hK (fun p=>hdr w p (.sl size ty cs) v) η' b2 (by rw [hv];rfl) (by rw [hv];exact jkX (qW a1))
 rw [hv] at this;exact this _ _ _ _ _ _ t2
theorem vA (g c k g2:Nat) {sz tyo size ty:Nat} {ds0 cs:List D} {e:D} {η η2:jm} (ho:(s.o g).own c=some (.sl sz tyo ds0,η)) (hk:ds0[k]?=some e) (he:e=.val (η2 [])∨e=jm0 (some (size,ty)) (η2 [])) (h2:s.o g2=.loose (.sl size ty cs) η2) (hne:g2≠g)
 (hK:∀η',η' []=η []→WkK ((s.setO g2 .none).setO g ((s.o g).putOwn c (.sl sz tyo (ds0.set k (.sl size ty cs))) η')) K):WkK s K:=by
 intro B N w0 w a F h;have h3:=h.ob g2;rw [h2] at h3;obtain ⟨_,u,k2,k3⟩:=h3;have eu:η2 []=u:=by rw [k3];rfl
 rw [eu] at he;obtain ⟨v,Sk,a1,a2,a3,a4,a5,a6⟩:=jkx (h.ob g) ho hk
 have hX:∃X,Rep w true (.sl size ty cs) v X∧(X=F g2∨X=Sk):=by
  by_cases hn:u=.slice none 0 0∧e=jm0 (some (size,ty)) u
  ·obtain ⟨hu,he'⟩:=hn
   subst hu
   have hcs:cs=[]:=by
    obtain ⟨vs,T,S',hrow,hrl,_⟩:=k2;rcases kY hrow with ⟨_,rfl⟩|⟨gg,nn,c2,e2,_⟩
    ·exact List.eq_nil_of_length_eq_zero (RepL.length _ hrl).symm
    ·cases e2
   subst hcs;subst he';exact ⟨Sk,a1,.inr rfl⟩
  ·refine ⟨F g2,?_,.inl rfl⟩
   have hvu:v=u:=by
    rcases he with he|he
    ·exact a3 u he
    ·refine a3 _ ?_
     by_cases hn':u=.slice none 0 0
     ·exact absurd ⟨hn',he⟩ hn
     ·rw [he]
      obtain ⟨A,n,cc,rfl⟩:=qW k2;unfold jm0;split
      ·rename_i e1;exact absurd e1 hn'
      ·rfl
   exact hvu▸k2
 obtain ⟨X,hX1,hX2⟩:=hX;obtain ⟨η',S',b1,b2,R,b3,b4⟩:=a6 (.sl size ty cs) X hX1;have t1:=h.setO (g:=g2) (ob:=.none) (S:=[]) rfl (Fresh.nil _) (by simp)
 have hnd:=b3.nodup_iff.1 (h.fr g).1;have hR:∀b∈R,b∈F g:=fun b hb=>b3.mem_iff.2 (List.mem_append.2 (.inl hb))
 have hX3:∀b∈X,b∈F g∨b∈F g2:=fun b hb=>by
  rcases hX2 with rfl|rfl
  ·exact .inr hb
  ·exact .inl (a4 b hb)
 have hnd2:(R++X).Nodup:=by
  rcases hX2 with rfl|rfl
  ·exact List.nodup_append.2 ⟨(List.nodup_append.1 hnd).1,(h.fr g2).1,fun x hx y hy e=>h.dj g g2 (fun e=>hne e.symm) x (hR x hx) (e▸hy)⟩
  ·exact hnd
 refine hK η' b2 _ _ _ _ _ _ (t1.setO (g:=g) (ob:=(s.o g).putOwn c (.sl sz tyo (ds0.set k (.sl size ty cs))) η') b1 ⟨b4.nodup_iff.2 hnd2,fun x hx=>?_⟩ (fun g' hg' x hx=>?_))
 ·rcases List.mem_append.1 (b4.mem_iff.1 hx) with hx|hx
  ·exact (h.fr g).2 x (hR x hx)
  ·rcases hX3 x hx with hx|hx
   ·exact (h.fr g).2 x hx
   ·exact (h.fr g2).2 x hx
 ·split
  ·simp
  ·rename_i hg2
   intro hh;rcases List.mem_append.1 (b4.mem_iff.1 hx) with hx|hx
   ·exact h.dj g' g hg' x hh (hR x hx)
   ·rcases hX3 x hx with hx|hx
    ·exact h.dj g' g hg' x hh hx
    ·exact h.dj g' g2 hg2 x hh hx
end
theorem jqw {a b:Int} (ha:0≤a∧a<4294967296) (hb:0≤b∧b<4294967296):0≤joP a b∧joP a b<4294967296:=by
 obtain ⟨a,rfl⟩:=Int.eq_ofNat_of_zero_le ha.1;obtain ⟨b,rfl⟩:=Int.eq_ofNat_of_zero_le hb.1;have h1:a^^^b<2^32:=Nat.xor_lt_two_pow (by omega) (by omega)
 have h2:(BitVec.ofInt 64 (a:Int)^^^BitVec.ofInt 64 (b:Int)).toNat=a^^^b:=by
  rw [BitVec.toNat_xor,BitVec.ofInt_natCast,BitVec.ofInt_natCast,BitVec.toNat_ofNat,BitVec.toNat_ofNat,Nat.mod_eq_of_lt (by omega),Nat.mod_eq_of_lt (by omega)]
 rw [joP,h2,jg (by omega) (by omega)]
 omega
theorem jtU {c:Int} (h:0≤c∧c<4294967296):0≤jiO c∧jiO c<4294967296:=by
 have h2:c.tdiv 2=c/2:=Int.tdiv_eq_ediv_of_nonneg h.1;have h3:IntKind.i64.wrap (c.tdiv 2)=c/2:=by rw [h2];exact jg (by omega) (by omega)
 rw [jiO,h3];split
 ·exact jqw (by omega) (by omega)
 ·omega
theorem jsi {c:Int} (h:0≤c∧c<4294967296):∀n,0≤jlA n c∧jlA n c<4294967296
 |0=>h
 |n+1=>jtU (jsi h n)
theorem jyo {c:Int} (h:0≤c∧c<4294967296) (b:UInt8):0≤jvC c b∧jvC c b<4294967296:=by
 have:=b.toNat_lt;refine jsi (jqw h ?_) 8;rw [jg (by omega) (by omega)]
 omega
theorem jqQ (b:ByteArray):0≤jdu b∧jdu b<4294967296:=by
 refine jqw ?_ (by omega)
 have:∀(l:List UInt8) (c:Int),0≤c∧c<4294967296→0≤l.foldl jvC c∧l.foldl jvC c<4294967296:=by
  intro l
  induction l with
  |nil=>exact fun c h=>h
  |cons x l ih=>exact fun c h=>ih _ (jyo h x)
 exact this _ _ (by omega)
def shN (id:Int):Nat:=(jfL id).toNat
theorem jyF (id:Int):jfL id=(shN id:Int)∧shN id<4:=by
 have h:=jqQ (zp id)
 have h1:0≤jfL id∧jfL id<4:=by
  unfold jfL;split
  ·omega
  ·rw [Int.tmod_eq_emod_of_nonneg h.1];omega
 unfold shN;omega
def zw (prio id:Int) (ids:List Int) (s:List En×Int):List En×Int:=ids.foldl (fun s t=>(jdc s.1 ⟨prio,s.2,id,t⟩,s.2+1)) s
theorem jlv (prio id:Int) (ids:List Int) (t:Int) (s:List En×Int):zw prio id (ids++[t]) s=(jdc (zw prio id ids s).1 ⟨prio,(zw prio id ids s).2,id,t⟩,(zw prio id ids s).2+1):=by simp [zw]
theorem jkd (prio id:Int) (s:List En×Int):zw prio id [] s=s:=rfl
theorem zu (prio id:Int):∀(ids:List Int) (s:List En×Int),(zw prio id ids s).2=s.2+ids.length
 |[],s=>by simp [zw]
 |t::ids,s=>by
  have:=zu prio id ids (jdc s.1 ⟨prio,s.2,id,t⟩,s.2+1);simp only [zw,List.foldl_cons,List.length_cons] at this⊢;rw [this];omega
theorem jgM (prio id:Int):∀(ids:List Int) (s:List En×Int),(zw prio id ids s).1.length=s.1.length+ids.length
 |[],s=>by simp [zw]
 |t::ids,s=>by
  have:=jgM prio id ids (jdc s.1 ⟨prio,s.2,id,t⟩,s.2+1);simp only [zw,List.foldl_cons,List.length_cons] at this⊢;rw [this,jnW];omega
def jm1 (was ts:List Tk) (k:Nat):Bool:=(stT ts k==2)&&!(decide (k<was.length)&&(stT was k==2))
def vu (was ts:List Tk) (k:Nat):List Int:=((List.range k).filter (jm1 was ts)).map fun (j:Nat)=>(j:Int)
theorem jvS (was ts:List Tk):vu was ts 0=[]:=rfl
theorem jvR (was ts:List Tk) (k:Nat):vu was ts (k+1)=vu was ts k++(if jm1 was ts k then [(k:Int)] else []):=by
 cases h:jm1 was ts k<;>simp [vu,List.range_succ,h]
theorem jdP (was ts:List Tk) (k:Nat):(vu was ts k).length≤k:=by
 simp only [vu,List.length_map];exact Nat.le_trans (List.length_filter_le _ _) (by simp)
theorem juv (ts:List Tk) (k:Nat):vu [] ts k=vh 2 ts k:=by
 have:jm1 [] ts=fun (j:Nat)=>stT ts (j:Int)==2:=by funext j;simp [jm1]
 simp [vu,vh,this]
def jqs (y:Yd) (r:Rn) (ids:List Int):Yd:=
 let p:=zw r.plan.prio r.id ids ((y.shelf[shN r.id]?).getD default,y.seq)
 ⟨y.now,p.2,y.shelf.set (shN r.id) p.1,y.runs⟩
abbrev rnH (r:Rn) (x5 x7:Value):List D:=[.val (.int .i64 r.id),.val (.int .i64 r.plan.prio),.val (.int .i64 r.plan.most),.val (.int .i64 r.plan.wait),.val (.int .i64 r.plan.tasks),jm0 (some (2,tEd)) x5,.val (.int .i64 r.state),jm0 (some (4,tTk)) x7]
abbrev jtG (b ty:Nat) (r:Rn) (x5 x7:Value):Ob:=.box b ty [.a (.v (.int .i64 r.id)),.a (.v (.int .i64 r.plan.prio)),.a (.v (.int .i64 r.plan.most)),.a (.v (.int .i64 r.plan.wait)),.a (.v (.int .i64 r.plan.tasks)),.a (.v x5),.a (.v (.int .i64 r.state)),.a (.v x7)]
abbrev jaf (b ty:Nat) (now seq:Int) (sh:List (List En)) (e1:jm) (d:D) (e2:jm):Ob:=.box b ty [.a (.v (.int .i64 now)),.a (.v (.int .i64 seq)),.own (kL sh) e1,.own d e2]
theorem jj6 (k:Nat×Nat) {x:Value} (h:x.oneCell'=true) (l:List D):jiy (jm0 (some k) x::l)=jiy l:=by
 unfold jm0;split<;>simp [jiy, *]
theorem jnq {P:Program} {β:Nat} {fl:Prop} [Decidable fl] {m1 m2 o:Prop} {a:C} {Q:Ex→St→Prop} {f g:jm→St} (st:jm→St) (h1:m1) (h2:m2) (ho:o) (hf:∀η,Wk (f η) (st η)) (hg:∀η,Wk (g η) (st η)) (key:∀η,WkK (st η) (wpC P β a Q)):
 if fl then m1∧m2∧∀η,wpC P β (.gh a) Q (f η) else o∧m1∧m2∧∀η,wpC P β (.gh a) Q (g η):=by
 split
 ·exact ⟨h1,h2,fun η=>kK (WkK.wk (hf η) (key η))⟩
 ·exact ⟨ho,h1,h2,fun η=>kK (WkK.wk (hg η) (key η))⟩
theorem jeP {sh:List (List En)} {n:Nat} (l:List En):D.put [] n [jv l] (kL sh)=kL (sh.set n l):=by
 simp only [kL,D.put,kC,jyE,List.map_set]
theorem juw {ts:List Tk} {k:Nat} {x:Tk} (h:ts[k]?=some x):jm1 [] ts k=(x.state==2):=by
 simp [jm1,kq h]
theorem jhu {α:Type} {l:List α}:∀{L:List (List α)},l∈L→l.length≤L.flatten.length
 |[],h=>by simp at h
 |x::L,h=>by
  rcases List.mem_cons.1 h with rfl|h
  ·simp
  ·have:=jhu h
   simp only [List.flatten_cons,List.length_append];omega
theorem jbe {y:Yd} (ht:jS y≤2000000) {l:List En} (h:l∈y.shelf):l.length≤2000000:=Nat.le_trans (jhu h) (zO ht)
theorem jeO (l:List Rn):(l.flatMap jd).length=l.length*8:=jG (enc:=jd) (fun _=>rfl) l
theorem jvJ (l:List Rn) (row:List D) (j:Nat):(l.flatMap jd++row)[l.length*8+j]?=row[j]?:=by
 rw [List.getElem?_append_right (by rw [jeO];omega),jeO,Nat.add_sub_cancel_left]
theorem jrr (l:List Rn) (row:List D) (j:Nat) (d:D):(l.flatMap jd++row).set (l.length*8+j) d=l.flatMap jd++row.set j d:=by
 rw [List.set_append_right _ _ (by rw [jeO];omega),jeO,Nat.add_sub_cancel_left]
theorem jrq (l:List Rn) (r:Rn):D.sl 8 tRn (l.flatMap jd++jd r)=jN (l++[r]):=by simp [jN]
theorem jrb {P:Program} {β:Nat} {a b:C} {Q:Ex→St→Prop} {s:St} {ι:Type} (mk:ι→St) (h1:wpC P β a (Ex.thn (fun s'=>∃i,Wk s' (mk i)) Q) s) (h2:∀i,wpC P β b Q (mk i)):wpC P β (.seq a (.gh b)) Q s:=by
 rw [jjs];exact qS a (jbW (fun s' ⟨i,h⟩=>wp_gh (mk i) h (h2 i)) fun _ _ h=>h) h1
theorem jir (y:Yd) (p:Pl) (ht:jS y≤2000000):kl Try.prog 158 [.agg (jc y),.agg (ja p)] (.c (.val (.bool (jbi y p)))):=jrF ⟨_,Try.func158,by kernel_rfl,by kernel_rfl⟩ fun w a b ⟨S,ha⟩ ⟨S',hb⟩=>jph y p a b S S' w false false ha hb ht
open Classical in
noncomputable def jkH (y:Yd) (id:Int) (p:Pl):Int:=if jJ y=false then 8 else if¬(1≤id∧id≤9999) then 5 else if 0≤runAt y id then 6 else if jz p≠0 then jz p else if jbi y p=false then 7 else 0
noncomputable def jkU (y:Yd) (id:Int) (p:Pl):Yd:=if jkH y id p=0 then jqs ⟨y.now,y.seq,y.shelf,y.runs++[jL id p]⟩ (jL id p) (ja4 2 (jL id p).tasks) else y
def jeo:C:=iS [iA 3 (.box 42 4 (.t 0)),iA 5 (.box 24 5 (.t 2)),iA 6 (.alloc 42 [.int .i64 0,.int .i64 0,.slice none 0 0,.slice none 0 0]),iA 7 (iN 0)] (iS [iA 11 (iT 4 3),iA 12 (.call 143 [.t 11]),iA 8 (.alloc 42 [.int .i64 0,.int .i64 0,.slice none 0 0,.slice none 0 0]),iC (.st 4 [none,none,some (1,74),some (8,78)] (.t 8) (.t 12))] (.seq (.blk 0 (iS [iA 14 (iT 4 3),iA 15 (.call 45 [.t 14]),iA 16 (iU 15),iA 13 (iM 16)] (iD 13 (iS [iA 17 (iT 4 8),iC (.st 4 [none,none,some (1,74),some (8,78)] (.t 6) (.t 17)),iA 7 (iN 8)] .ret) (iS [iA 19 (iM 1),iA 20 (.call 66 [.t 19,.c (.int .i64 1),.c (.int .i64 9999)]),iA 21 (iU 20),iA 18 (iM 21)] (iD 18 (iS [iA 22 (iT 4 8),iC (.st 4 [none,none,some (1,74),some (8,78)] (.t 6) (.t 22)),iA 7 (iN 5)] .ret) (iS [iA 24 (iT 4 3),iA 25 (iM 1),iA 26 (.call 82 [.t 24,.t 25]),iA 27 (iQ .geq 3 26 0),iA 23 (iM 27)] (iD 23 (iS [iA 28 (iT 4 8),iC (.st 4 [none,none,some (1,74),some (8,78)] (.t 6) (.t 28)),iA 7 (iN 6)] .ret) (iS [iA 30 (iT 5 5),iA 31 (.call 111 [.t 30]),iA 32 (iQ .neq 3 31 0),iA 29 (iM 32)] (iD 29 (.seq (.dreg (T.pure 0 (iA 33 (iT 4 8)) (T.pure 1 (iA 34 (iT 5 5)) (T.alt (iA 35 (.call 111 [.t 34])) [0] (T.alt (iC (.st 4 [none,none,some (1,74),some (8,78)] (.t 6) (.t 33))) [] (T.pure 4 (iA 7 (iM 35)) T.done) T.stop) T.stop)))) .ret) (iS [iA 37 (iT 4 3),iA 38 (iT 5 5),iA 39 (.call 158 [.t 37,.t 38]),iA 40 (iU 39),iA 36 (iM 40)] (iD 36 (iS [iA 41 (iT 4 8),iC (.st 4 [none,none,some (1,74),some (8,78)] (.t 6) (.t 41)),iA 7 (iN 7)] .ret) .skip))))))))))) (iS [iA 43 (iM 1),iA 44 (iT 5 5),iA 45 (.call 159 [.t 43,.t 44]),iA 42 (iM 45),iA 46 (iE 42 0),iA 47 (iE 42 1),iA 9 (.alloc 78 [.int .i64 0,.int .i64 0,.int .i64 0,.int .i64 0,.int .i64 0,.slice none 0 0,.int .i64 0,.slice none 0 0]),iC (.st 8 [none,none,none,none,none,some (2,103),none,some (4,84)] (.t 9) (.t 46)),iA 10 (iM 47)] (iS [iA 48 (iF 3 8),iA 49 (iL 48),iA 50 (iT 8 9),iA 51 (.bsl 78 8 1 [none,none,none,none,none,some (2,103),none,some (4,84)] [(0,8,.t 50)]),iA 52 (.app 78 8 96 (.t 49) (.t 51)),iA 53 (iF 3 8),iC (.st 1 [some (8,78)] (.t 53) (.t 52))] (iS [iA 54 (iT 4 8),iA 55 (.bld [.int .i64 0,.int .i64 0,.int .i64 0,.int .i64 0,.int .i64 0,.slice none 0 0,.int .i64 0,.slice none 0 0] []),iA 56 (iT 8 9),iA 57 (.call 160 [.t 54,.t 55,.t 56]),iC (.st 4 [none,none,some (1,74),some (8,78)] (.t 6) (.t 57)),iA 7 (iN 0)] .ret)))))
theorem jgp:fnC Try.prog Try.f144=some (jeo,[.cell 6 true 4,.t 7],58):=by kernel_rfl
def jaD:C:=iS [iA 3 (.box 42 4 (.t 0)),iA 4 (.box 78 8 (.t 1)),iA 5 (.box 78 8 (.t 2)),iA 6 (.alloc 42 [.int .i64 0,.int .i64 0,.slice none 0 0,.slice none 0 0])] (iS [iA 9 (iF 0 5),iA 10 (iL 9),iA 11 (.call 175 [.t 10]),iA 7 (iM 11)] (.seq (iS [iA 8 (iN 0)] (.blk 0 (.loop (.seq (iS [iA 12 (iM 8),iA 13 (iF 7 5),iA 14 (iL 13),iA 15 (iG 14),iA 16 (iP .lss 3 12 15)] (iD 16 .skip (.exit 0))) (.seq (.blk 1 (.seq (iS [iA 19 (iF 7 5),iA 20 (iL 19),iA 21 (iM 8),iA 22 (iI 4 20 21),iA 23 (iF 0 22),iA 24 (iL 23),iA 25 (iQ .neq 3 24 2),iA 26 (iM 25),iB 27 26 false (iM 8),iB 28 26 false (iF 7 4),iB 29 26 false (iL 28),iB 30 26 false (iG 29),iB 31 26 false (iP .lss 3 27 30),iB 32 26 false (iM 31),iB 33 32 true (iF 7 4),iB 34 32 true (iL 33),iB 35 32 true (iM 8),iB 36 32 true (iI 4 34 35),iB 37 32 true (iF 0 36),iB 38 32 true (iL 37),iB 39 32 true (iQ .eql 3 38 2),iB 40 26 false (.pick (.t 32) (.t 39) (.c (.bool false))),iA 41 (.pick (.t 26) (.c (.bool true)) (.t 40))] (iD 41 (.exit 1) .skip)) (.seq (.dreg (T.pure 0 (iA 42 (iF 2 3)) (T.pure 1 (iA 43 (iL 42)) (T.pure 2 (iA 44 (iM 7)) (T.pure 3 (iA 45 (iF 2 3)) (T.pure 4 (iA 46 (iL 45)) (T.pure 5 (iA 47 (iM 7)) (T.pure 6 (iA 48 (iI 1 46 47)) (T.pure 7 (iA 49 (iL 48)) (T.pure 8 (iA 50 (iF 1 5)) (T.pure 9 (iA 51 (iF 0 50)) (T.pure 10 (iA 52 (iL 51)) (T.pure 11 (iA 53 (iF 1 3)) (T.pure 12 (iA 54 (iL 53)) (T.pure 13 (iA 55 (iF 0 5)) (T.pure 14 (iA 56 (iL 55)) (T.pure 15 (iA 57 (iM 8)) (T.pure 16 (iA 58 (.bld [.int .i64 0,.int .i64 0,.int .i64 0,.int .i64 0] [(0,1,.t 52),(1,1,.t 54),(2,1,.t 56),(3,1,.t 57)])) (T.alt (iA 59 (.call 176 [.t 49,.t 58])) [2,1,0] (T.pure 18 (iA 60 (iI 1 43 44)) (T.alt (iC (.st 1 [some (4,82)] (.t 60) (.t 59))) [] T.done T.stop)) T.stop))))))))))))))))))) (.reg [iA 61 (iF 1 3),iA 62 (iL 61),iA 63 (iQ .add 3 62 1),iA 64 (iF 1 3),iC (.st 1 [none] (.t 64) (.t 63))])))) (.reg [iA 17 (iM 8),iA 18 (iQ .add 3 17 1),iA 8 (iM 18)])))))) (iS [iA 65 (iT 4 3),iC (.st 4 [none,none,some (1,74),some (8,78)] (.t 6) (.t 65))] .ret)))
theorem jaN:fnC Try.prog Try.f160=some (jaD,[.cell 6 true 4],66):=by kernel_rfl
theorem jjT (y:Yd) (id:Int) (p:Pl) (ht:jS y≤2000000) (hp:p.edges.length≤4000000):kl Try.prog 144 [.agg (jc y),.c (.val (.int .i64 id)),.agg (ja p)] (.tup [(true,jc (jkU y id p)),(false,[.val (.int .i64 (jkH y id p))])]):=by
 refine jaq [[1,1,1,1,0],[1,1,1,1,1,0],[1,1,1,1,1,1]] Try.func144 jgp (by simp) ?_
 unfold jeo;simp only [C.ghs,C.ghAt,List.foldr];simp only [go_sem,jc,ja];intro b3 b5 b6;refine jb (jT y ht) (by simp only [go_sem,jc,ja]) fun ηc=>?_
 simp only [go_sem,jc,ja];intro b8;refine jb (kE y ht) (by simp only [go_sem,jc,ja]) fun η=>?_
 simp only [go_sem,jc,ja];cases hok:jJ y
 ·have hc:jkH y id p=8:=by simp [jkH,hok]
  have hy:jkU y id p=y:=by simp [jkU,hc]
  simp only [go_sem,jc,ja,hok,hc,hy];refine qv _ _ _ _ _ ?_;simp only [go_sem,jc,ja]
 simp only [go_sem,jc,ja,hok];refine jb (jw id 1 9999) (by simp only [go_sem,jc,ja]) fun η=>?_
 simp only [go_sem,jc,ja];cases hid:decide (1≤id∧id≤9999)
 ·have hc:jkH y id p=5:=by simp [jkH,hok,of_decide_eq_false hid]
  have hy:jkU y id p=y:=by simp [jkU,hc]
  simp only [go_sem,jc,ja,hid,hc,hy];refine qv _ _ _ _ _ ?_;simp only [go_sem,jc,ja]
 have hid':=of_decide_eq_true hid;simp only [go_sem,jc,ja,hid];refine jb (kF y id) (by simp only [go_sem,jc,ja]) fun η=>?_
 simp only [go_sem,jc,ja];by_cases hge:runAt y id≥0
 ·have hc:jkH y id p=6:=by unfold jkH;rw [if_neg (by simp [hok]),if_neg (by omega),if_pos hge]
  have hy:jkU y id p=y:=by simp [jkU,hc]
  simp only [go_sem,jc,ja,hge,hc,hy];refine qv _ _ _ _ _ ?_;simp only [go_sem,jc,ja]
 simp only [go_sem,jc,ja,hge];refine jb (qD p) (by simp only [go_sem,jc,ja]) fun η=>?_
 simp only [go_sem,jc,ja];cases hpf:jz p !=0;rotate_left
 ·have hpf':jz p≠0:=by simpa using hpf
  have hc:jkH y id p=jz p:=by unfold jkH;rw [if_neg (by simp [hok]),if_neg (by omega),if_neg (by omega),if_pos hpf']
  have hy:jkU y id p=y:=by rw [jkU,if_neg (by rw [hc];exact hpf')]
  simp only [go_sem,jc,ja,hpf];refine jb (qD p) (by simp only [go_sem,jc,ja]) fun η=>?_
  simp only [go_sem,jc,ja];rw [hc,hy];refine qv _ _ _ _ _ ?_;simp only [go_sem,jc,ja]
 have hpf':jz p=0:=by simpa using hpf
 simp only [go_sem,jc,ja,hpf];refine jb (jir y p ht) (by simp only [go_sem,jc,ja]) fun η=>?_
 simp only [go_sem,jc,ja];cases hrf:jbi y p
 ·have hc:jkH y id p=7:=by unfold jkH;rw [if_neg (by simp [hok]),if_neg (by omega),if_neg (by omega),if_neg (by simp [hpf']),if_pos hrf]
  have hy:jkU y id p=y:=by simp [jkU,hc]
  simp only [go_sem,jc,ja,hrf,hc,hy];refine qv _ _ _ _ _ ?_;simp only [go_sem,jc,ja]
 have hc:jkH y id p=0:=by unfold jkH;rw [if_neg (by simp [hok]),if_neg (by omega),if_neg (by omega),if_neg (by simp [hpf']),if_neg (by simp [hrf])]
 rw [hc,jkU,if_pos hc];simp only [go_sem,jc,ja,hrf];refine jb (jjV id p hid' hpf') (by simp only [go_sem,jc,ja,jd]) fun ηr=>?_
 simp only [go_sem,jc,ja,jd];intro b9;refine kK ?_;obtain ⟨r,hr⟩:∃r,jL id p=r:=⟨_,rfl⟩;have hri:r.id=id:=by rw [←hr];rfl
 refine WkK.wk (s':=St.of [(6,Bx 600 b6),(8,Bx 800 b8),(9,Bx 900 b9)] [(600,ZYd b6 _),(800,ve b8 _ y.now y.seq y.shelf (ηc 2) y.runs (ηc 3)),(900,jbT b9 _ r (ηr 5) (ηr 7))]) (jl [some 600,some 800,some 900] (by simp only [go_sem,jc,ja,jd,hr]<;>and_intros<;>first|rfl|assumption|trivial)) ?_
 refine qh 900 5 901 (d:=jt r.plan.edges) (η:=ηr 5) (by simp only [go_sem]) (by simp only [go_sem]) (by decide) fun hx5=>?_
 refine qh 900 7 902 (d:=jI r.tasks) (η:=ηr 7) (by simp only [go_sem]) (by simp only [go_sem]) (by decide) fun hx7=>?_
 refine WkK.of ?_;generalize ηr 5=η5 at*;generalize ηr 7=η7 at*;simp only [go_sem,hx5,hx7];have m1:y.runs.length+1≤maxLen:=by unfold maxLen;have:=(yard_iff.1 hok).eight;omega
 have m2:(y.runs.length+1)*96≤140737488355328:=by have:=(yard_iff.1 hok).eight;omega
 intro η51;refine jnq (fun ηR=>St.of [(6,Bx 600 b6),(8,Bx 800 b8),(9,Bx 900 b9)] [(600,ZYd b6 tYd),(800,jaf b8 tYd y.now y.seq y.shelf (ηc 2) (.sl 8 tRn (y.runs.flatMap jd++rnH r (η5 []) (η7 []))) ηR),(900,jtG b9 tRn r (η5 []) (η7 [])),(901,.loose (jt r.plan.edges) η5),(902,.loose (jI r.tasks) η7)]) m1 m2 ?_ (fun ηR=>jl [some 600,some 800,some 900,some 901,some 902] (by simp only [go_sem]<;>and_intros<;>first|rfl|assumption)) (fun ηR=>jl [some 600,some 800,some 900,some 901,some 902] (by simp only [go_sem]<;>and_intros<;>first|rfl|assumption)) ?_
 ·simp only [jj6 _ hx5,jj6 _ hx7,jiy];rfl
 intro ηR;rw [hr];generalize hdR:D.sl 8 tRn (y.runs.flatMap jd++rnH r (η5 []) (η7 []))=dR;refine qg 900 5 901 (d:=jt r.plan.edges) (η:=η5) rfl rfl rfl ?_;refine qg 900 7 902 (d:=jI r.tasks) (η:=η7) rfl rfl rfl ?_;refine WkK.wk (s':=St.of [(6,Bx 600 b6),(8,Bx 800 b8),(9,Bx 900 b9)] [(600,ZYd b6 _),(800,jaf b8 _ y.now y.seq y.shelf (ηc 2) dR ηR),(900,jbT b9 _ r η5 η7)]) (jl [some 600,some 800,some 900] (by simp only [go_sem,jc,ja,jd]<;>and_intros<;>first|rfl|assumption|trivial)) ?_
 refine WkK.of ?_;simp only [go_sem];refine qU (qZ (β:=7000000) Try.func160 jaN (by simp) ?_)
 unfold jaD;simp only [go_sem,jy,ju];intro b73 b74 b75 b76;refine jb (jcr r.id) (by simp only [go_sem]) fun η=>?_
 simp only [go_sem];obtain ⟨hsn,hs4⟩:=jyF r.id;rw [hsn];have hLY:jqs ⟨y.now,y.seq,y.shelf,y.runs++[r]⟩ r (ja4 2 r.tasks)=⟨y.now,(zw r.plan.prio r.id (ja4 2 r.tasks) ((y.shelf[shN r.id]?).getD default,y.seq)).2,y.shelf.set (shN r.id) (zw r.plan.prio r.id (ja4 2 r.tasks) ((y.shelf[shN r.id]?).getD default,y.seq)).1,y.runs++[r]⟩:=rfl;rw [hLY];generalize shN r.id=n at*;have h4:=(yard_iff.1 hok).four;have hq:=(yard_iff.1 hok).seq;have hn:n<y.shelf.length:=by omega
 have h0n:(n:Int)≥0:=by omega
 obtain ⟨l,hl⟩:=je hn;have hll:=jbe ht (List.mem_of_getElem? hl);rw [hl,Option.getD_some];obtain ⟨t0,ht0,-,h12,-⟩:=jgL hpf';have hrt:r.tasks.length≤12:=by rw [←hr,jL,jht];omega
 have htin:vu [] r.tasks r.tasks.length=ja4 2 r.tasks:=juv _ _;refine jq (fun i:Nat×jm=>St.of [(3,Bx 3 b73),(4,Bx 4 b74),(5,Bx 5 b75),(6,Bx 66 b76),(7,Ni n),(8,Ni i.1)] [(600,ZYd b6 _),(3,jaf b73 _ y.now (zw r.plan.prio r.id (vu [] r.tasks i.1) (l,y.seq)).2 (y.shelf.set n (zw r.plan.prio r.id (vu [] r.tasks i.1) (l,y.seq)).1) i.2 dR ηR),(4,ZRn b74 _),(5,jbT b75 _ r η5 η7),(66,ZYd b76 _)]) (fun i=>i.1≤r.tasks.length) (fun i=>r.tasks.length-i.1) (0,ηc 2) (by (try dsimp only);first|omega|(simp;done)|(and_intros<;>first|omega|simp)) (jl [some 600,some 700000300,some 700000400,some 700000500,some 700000600] (by simp only [go_sem,jc,ja,jd,jvS,jkd,jjF hl]<;>and_intros<;>first|rfl|assumption|trivial)) ?_
 rintro ⟨k,η⟩ hk;dsimp only at hk;have hsq:=zu r.plan.prio r.id (vu [] r.tasks k) (l,y.seq);have hle:=jgM r.plan.prio r.id (vu [] r.tasks k) (l,y.seq);have hnl:=jdP [] r.tasks k;have hsnoc:=jlv r.plan.prio r.id (vu [] r.tasks k) k (l,y.seq);have hnx:=jvR [] r.tasks k;dsimp only at hsq hle;by_cases hlt:k<r.tasks.length
 ·have hlt':(k:Int)<r.tasks.length:=by omega
  have h0k:(k:Int)≥0:=by omega
  have hk0:¬(k:Int)<0:=by omega
  obtain ⟨x,hx⟩:=je hlt;have hw:IntKind.i64.wrap ((k:Int)+1)=((k+1:Nat):Int):=jg (by omega) (by omega)
  rw [juw hx] at hnx;have hw2:IntKind.i64.wrap ((zw r.plan.prio r.id (vu [] r.tasks k) (l,y.seq)).2+1)=(zw r.plan.prio r.id (vu [] r.tasks k) (l,y.seq)).2+1:=jg (by omega) (by omega)
  generalize hPe:zw r.plan.prio r.id (vu [] r.tasks k) (l,y.seq)=P at*;obtain ⟨sh,hsh⟩:∃s,y.shelf.set n P.1=s:=⟨_,rfl⟩;have hSl:sh[n]?=some P.1:=by rw [←hsh];exact List.getElem?_set_self hn
  have hns:n<sh.length:=by rw [←hsh,List.length_set];exact hn
  have hss:∀L,sh.set n L=y.shelf.set n L:=fun L=>by rw [←hsh,List.set_set]
  have hi1:n+1≤(sh.flatMap fun es=>[jv es]).length:=by have:=jdV hns;rwa [Nat.mul_one] at this
  have ha1:((sh.flatMap fun es=>[jv es]).drop n).take 1=[jv P.1]:=by have:=jgT hSl;rwa [Nat.mul_one] at this
  rw [hsh];cases h2:x.state !=2
  ·have h2':(x.state==2)=true:=by have:x.state=2:=by simpa using h2
                                  simp [this]
   rw [h2',if_pos rfl] at hnx;rw [←hnx] at hsnoc;simp only [go_sem,ja,jd,ju,hlt',h0k,hk0,hlt,jeD hx,zW hx,jds hx,zh hx,h2];simp only [go_sem,hns,Nat.mul_one,ha1,hi1,h0n];refine jb (ze P.1 ⟨r.plan.prio,P.2,r.id,k⟩ (by omega)) (by simp only [go_sem,jy,qL hSl]) fun ηp=>?_
   simp only [go_sem,jy,qL hSl];simp only [go_sem,hns,Nat.mul_one,hi1,ha1,h0n,jeP,hw2,hw,hss];refine fun η' hη'=>?_
   exact ⟨(k+1,η'),by (try dsimp only);first|omega|assumption|(and_intros<;>first|omega|assumption),(jl [some 600,some 3,some 4,some 5,some 66] (by simp only [go_sem,jc,ja,jd,hsnoc]<;>and_intros<;>first|rfl|assumption|trivial)),by (try dsimp only);omega⟩
  ·have h2':(x.state==2)=false:=by simpa using h2
   rw [h2'] at hnx;simp only [Bool.false_eq_true,if_false,List.append_nil] at hnx;simp only [go_sem,ja,jd,ju,hlt',h0k,hk0,hlt,jeD hx,zW hx,jds hx,zh hx,h2,hw];exact ⟨(k+1,η),by (try dsimp only);first|omega|assumption|(and_intros<;>first|omega|assumption),(jl [some 600,some 3,some 4,some 5,some 66] (by simp only [go_sem,jc,ja,jd,hnx,hPe,hsh]<;>and_intros<;>first|rfl|assumption|trivial)),by (try dsimp only);omega⟩
 obtain rfl:k=r.tasks.length:=by omega
 have hlt':¬((r.tasks.length:Nat):Int)<r.tasks.length:=by omega
 rw [htin];generalize zw r.plan.prio r.id (ja4 2 r.tasks) (l,y.seq)=P at*;simp only [go_sem,hlt',ja,jd];refine kK ?_;subst hdR;refine WkK.wk (s':=St.of [(6,Bx 600 b6),(7,Ni 0)] [(600,jaf b6 _ y.now P.2 (y.shelf.set n P.1) η (.sl 8 tRn (y.runs.flatMap jd++rnH r (η5 []) (η7 []))) ηR),(5,jbT b75 _ r η5 η7)]) (jl [some 600,some 5] (by simp only [go_sem,ja,jd]<;>and_intros<;>first|rfl|assumption|trivial)) ?_
 refine qh 5 5 901 (d:=jt r.plan.edges) (η:=η5) rfl rfl (by decide) fun _=>?_
 refine qh 5 7 902 (d:=jI r.tasks) (η:=η7) rfl rfl (by decide) fun _=>?_
 refine vA 600 3 (y.runs.length*8+5) 901 (η:=ηR) (η2:=η5) (cs:=r.plan.edges.flatMap jW) rfl (jvJ _ _ 5) (.inr rfl) rfl (by decide) fun ηA _=>?_
 rw [jrr];refine vA 600 3 (y.runs.length*8+7) 902 (η:=ηA) (η2:=η7) (cs:=r.tasks.flatMap ju) rfl (jvJ _ _ 7) (.inr rfl) rfl (by decide) fun ηB _=>?_
 rw [jrr];refine WkK.of ?_;have hrow:(List.set (List.set (rnH r (η5 []) (η7 [])) 5 (.sl 2 tEd (r.plan.edges.flatMap jW))) 7 (.sl 4 tTk (r.tasks.flatMap ju)))=jd r:=rfl;rw [hrow,jrq];refine qv _ _ _ _ _ ?_;simp only [go_sem,jc]
theorem qj {α:Type} {f:α→Nat} (v:α):∀{l:List α} {k:Nat} {x:α},l[k]?=some x→qE f (l.set k v)+f x=qE f l+f v
 |[],_,_,h=>by simp at h
 |y::l,0,x,h=>by
  simp at h;subst h;simp only [qE,List.set_cons_zero,List.map_cons,List.sum_cons];omega
 |y::l,k+1,x,h=>by
  have:=qj (f:=f) v (l:=l) (k:=k) (by simpa using h)
  simp only [qE,List.set_cons_succ,List.map_cons,List.sum_cons] at this⊢;omega
theorem jwk {y:Yd} {r:Rn} {ids:List Int}:jS (jqs y r ids)≤jS y+ids.length:=by
 have h4:∀l:List En,jaG l=l.length:=fun _=>rfl
 cases h:y.shelf[shN r.id]? with
 |none=>
  have:y.shelf.set (shN r.id) (zw r.plan.prio r.id ids ((y.shelf[shN r.id]?).getD default,y.seq)).1=y.shelf:=List.set_eq_of_length_le (List.getElem?_eq_none_iff.1 h);simp only [jS,jeJ,jqs,this];omega
 |some l=>
  have h1:=jgM r.plan.prio r.id ids ((y.shelf[shN r.id]?).getD default,y.seq);have h2:=qj (f:=jaG) (zw r.plan.prio r.id ids ((y.shelf[shN r.id]?).getD default,y.seq)).1 h;simp only [jS,jeJ,jqs,List.length_set] at*;rw [h4,h4] at h2;rw [h,Option.getD_some] at*;omega
end Go.Proofs.Ytmnpailnelmpiaa
