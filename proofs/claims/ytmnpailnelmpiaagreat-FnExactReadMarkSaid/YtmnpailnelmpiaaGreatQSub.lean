/- Parts. -/
import Derived.Test.YtmnpailnelmpiaaGreatQSwept
set_option linter.unusedSimpArgs false
set_option linter.unusedVariables false
set_option maxHeartbeats 8000000
set_option maxRecDepth 100000
namespace Go.Proofs.YtmnpailnelmpiaaGreat
open Go.RowKit Go.Sort
section
variable {P:Program} {β:Nat} {s:St} {K:St→Prop} {Q:Ex→St→Prop}
theorem kQ {a:C} (h:WkK s (wpC P β a Q)):wpC P β (.gh a) Q s:=h
theorem WkK.of {K:St→Prop} (h:K s):WkK s K:=fun _ _ _ _ _ F hr=>⟨s,F,hr,h⟩
theorem WkK.wk {s':St} (h:Wk s s') (hk:WkK s' K):WkK s K:=fun B N w0 w a F hr=>let ⟨F',h1,_⟩:=h B N w0 w a F hr;hk B N w0 w a F' h1
theorem jon {u:Value} (h:∃A n c,u=.slice A n c):u.oneCell'=true:=by obtain ⟨_,_,_,rfl⟩:=h;rfl
theorem jwG {w:World} {own:Bool} {d:D} {u:Value} {S:List Nat} (hd:d.isSl=true) (h:Rep w own d u S):∃A n c,u=.slice A n c:=by
 cases d with
 |val _=>cases hd
 |sl _ _ _=>exact zz h
theorem qF (g c g2:Nat) {d:D} {η:jq} (ho:(s.o g).own c=some (d,η)) (h2:s.o g2=.none) (hne:g2≠g) (hk:(η []).oneCell'=true→WkK ((s.rm g c).setO g2 (.loose d η)) K):WkK s K:=by
 intro B N w0 w a F h;obtain ⟨u,S,F',j1,j2,j3,j4,j5,j6,j7,j8⟩:=h.rm ho;have e:η []=u:=by rw [j3,zT j1]
 exact hk (e▸jon (jwG j1 j2)) _ _ _ _ _ _ (j5.setO (g:=g2) (ob:=.loose d η) (S:=S) ⟨j1,u,j2,j3⟩ j4 (fun g' _ b hb=>j6 g' b hb))
theorem jnZ {B:Nat} {w:World} {d:D} {η:jq} {u:Value} {S2:List Nat} (hd:d.isSl=true) (hr:Rep w true d u S2) (hh:∀p,η p=hdr w p d u):∀{c:Nat} {l:List Cell} {us:List Value} {S:List Nat},CRel B w l us S→l[c]?=some (.a (.v u))→
 ∃S',CRel B w (l.set c (.own d η)) us S'∧S'.Perm (S++S2)
 |_,[],_,_,_,h=>by simp at h
 |0,.a x::l,_,S,⟨v,us',rfl,h1,h2⟩,h=>by
  simp at h;subst h;have:v=u:=h1;subst this;exact ⟨S2++S,⟨v,us',S2,S,rfl,rfl,hd,hr,hh,h2⟩,List.perm_append_comm⟩
 |0,.own e ε::l,_,_,_,h=>by simp at h
 |c+1,.a x::l,_,S,⟨v,us',rfl,h1,h2⟩,h=>by
  simp at h;obtain ⟨S',a1,a2⟩:=jnZ hd hr hh h2 h;exact ⟨S',⟨v,us',rfl,h1,a1⟩,a2⟩
 |c+1,.own e ε::l,_,_,⟨v,us',T1,T2,rfl,rfl,h1,h2,h3,h4⟩,h=>by
  simp at h;obtain ⟨S',a1,a2⟩:=jnZ hd hr hh h4 h;exact ⟨T1++S',⟨v,us',T1,S',rfl,rfl,h1,h2,h3,a1⟩,by rw [List.append_assoc];exact List.Perm.append_left _ a2⟩
theorem qw (g c g2:Nat) {b ty:Nat} {cs:List Cell} {d:D} {η:jq} (hb:s.o g=.box b ty cs) (hc:cs[c]?=some (.a (.v (η [])))) (h2:s.o g2=.loose d η) (hk:WkK ((s.setO g2 .none).setO g (.box b ty (cs.set c (.own d η)))) K):WkK s K:=by
 intro B N w0 w a F h;have hne:g2≠g:=fun e=>by rw [e,hb] at h2;cases h2
 have h3:=h.ob g2;rw [h2] at h3;obtain ⟨k1,u,k2,k3⟩:=h3;have e:η []=u:=by rw [k3,zT k1]
 rw [e] at hc;have h4:=h.ob g;rw [hb] at h4;obtain ⟨us,S1,q1,q2,q3⟩:=h4;obtain ⟨S',q4,q5⟩:=jnZ k1 k2 k3 q2 hc;have t1:=h.setO (g:=g2) (ob:=.none) (S:=[]) rfl (Fresh.nil _) (by simp)
 have hp:(b::S').Perm (F g++F g2):=by rw [q3];exact q5.cons b
 have hnd:(F g++F g2).Nodup:=List.nodup_append.2 ⟨(h.fr g).1,(h.fr g2).1,fun x hx y hy e=>h.dj g g2 (fun e=>hne e.symm) x hx (e▸hy)⟩
 refine hk _ _ _ _ _ _ (t1.setO (g:=g) (ob:=.box b ty (cs.set c (.own d η))) (S:=b::S') ⟨us,S',q1,q4,rfl⟩ ⟨hp.nodup_iff.2 hnd,fun x hx=>?_⟩ (fun g' hg' x hx=>?_))
 ·rcases List.mem_append.1 (hp.mem_iff.1 hx) with hx|hx
  ·exact (h.fr g).2 x hx
  ·exact (h.fr g2).2 x hx
 ·split
  ·simp
  ·rename_i hg2
   intro hh;rcases List.mem_append.1 (hp.mem_iff.1 hx) with hx|hx
   ·exact h.dj g' g hg' x hh hx
   ·exact h.dj g' g2 hg2 x hh hx
theorem je8 (g c k g2:Nat) {sz tyo size ty:Nat} {ds0 cs:List D} {η:jq} (ho:(s.o g).own c=some (.sl sz tyo ds0,η)) (hk:ds0[k]?=some (.sl size ty cs)) (h2:s.o g2=.none) (hne:g2≠g)
 (hK:∀η2 η',η' []=η []→η2 []=η [k]→(η [k]).oneCell'=true→WkK ((s.setO g ((s.o g).putOwn c (.sl sz tyo (ds0.set k (.val (η [k])))) η')).setO g2 (.loose (.sl size ty cs) η2)) K):WkK s K:=by
 intro B N w0 w a F h;obtain ⟨v,Sk,a1,a2,_,a4,a5,a6⟩:=jnR (h.ob g) ho hk;have hv:=a2 rfl;obtain ⟨η',S',b1,b2,R,b3,b4⟩:=a6 (.val v) [] ⟨rfl,rfl⟩;rw [List.append_nil] at b4;have hnd:=b3.nodup_iff.1 (h.fr g).1;have hsub:∀b∈S',b∈F g:=fun b hb=>b3.mem_iff.2 (List.mem_append.2 (.inl (b4.mem_iff.1 hb)))
 have t1:=h.setO (g:=g) b1 ⟨b4.nodup_iff.2 (List.nodup_append.1 hnd).1,fun b hb=>(h.fr g).2 b (hsub b hb)⟩ (fun g' hg' b hb hh=>h.dj g' g hg' b hh (hsub b hb))
 have t2:=t1.setO (g:=g2) (ob:=.loose (.sl size ty cs) (fun p=>hdr w p (.sl size ty cs) v)) (S:=Sk) ⟨rfl,v,a1,fun _=>rfl⟩ ⟨(List.nodup_append.1 hnd).2.1,fun b hb=>(h.fr g).2 b (a4 b hb)⟩ (fun g' _ b hb=>by
  split
  ·exact fun hh=>(List.nodup_append.1 hnd).2.2 b (b4.mem_iff.1 hh) b hb rfl
  ·rename_i hgg
   exact fun hh=>h.dj g' g hgg b hh (a4 b hb))
 have:=hK (fun p=>hdr w p (.sl size ty cs) v) η' b2 (by rw [hv];rfl) (by rw [hv];exact jon (zz a1))
 rw [hv] at this;exact this _ _ _ _ _ _ t2
theorem vi (g c k g2:Nat) {sz tyo size ty:Nat} {ds0 cs:List D} {e:D} {η η2:jq} (ho:(s.o g).own c=some (.sl sz tyo ds0,η)) (hk:ds0[k]?=some e) (he:e=.val (η2 [])∨e=jtK (some (size,ty)) (η2 [])) (h2:s.o g2=.loose (.sl size ty cs) η2) (hne:g2≠g)
 (hK:∀η',η' []=η []→WkK ((s.setO g2 .none).setO g ((s.o g).putOwn c (.sl sz tyo (ds0.set k (.sl size ty cs))) η')) K):WkK s K:=by
 intro B N w0 w a F h;have h3:=h.ob g2;rw [h2] at h3;obtain ⟨_,u,k2,k3⟩:=h3;have eu:η2 []=u:=by rw [k3];rfl
 rw [eu] at he;obtain ⟨v,Sk,a1,a2,a3,a4,a5,a6⟩:=jnR (h.ob g) ho hk
 have hX:∃X,Rep w true (.sl size ty cs) v X∧(X=F g2∨X=Sk):=by
  by_cases hn:u=.slice none 0 0∧e=jtK (some (size,ty)) u
  ·obtain ⟨hu,he'⟩:=hn
   subst hu
   have hcs:cs=[]:=by
    obtain ⟨vs,T,S',hrow,hrl,_⟩:=k2;rcases qP hrow with ⟨_,rfl⟩|⟨gg,nn,c2,e2,_⟩
    ·exact List.eq_nil_of_length_eq_zero (RepL.length _ hrl).symm
    ·cases e2
   subst hcs;subst he';exact ⟨Sk,a1,.inr rfl⟩
  ·refine ⟨F g2,?_,.inl rfl⟩
   have hvu:v=u:=by
    rcases he with he|he
    ·exact a3 u he
    ·refine a3 _ ?_
     by_cases hn':u=.slice none 0 0
     ·exact absurd ⟨hn',he⟩ hn
     ·rw [he]
      obtain ⟨A,n,cc,rfl⟩:=zz k2;unfold jtK;split
      ·rename_i e1;exact absurd e1 hn'
      ·rfl
   exact hvu▸k2
 obtain ⟨X,hX1,hX2⟩:=hX;obtain ⟨η',S',b1,b2,R,b3,b4⟩:=a6 (.sl size ty cs) X hX1;have t1:=h.setO (g:=g2) (ob:=.none) (S:=[]) rfl (Fresh.nil _) (by simp)
 have hnd:=b3.nodup_iff.1 (h.fr g).1;have hR:∀b∈R,b∈F g:=fun b hb=>b3.mem_iff.2 (List.mem_append.2 (.inl hb))
 have hX3:∀b∈X,b∈F g∨b∈F g2:=fun b hb=>by
  rcases hX2 with rfl|rfl
  ·exact .inr hb
  ·exact .inl (a4 b hb)
 have hnd2:(R++X).Nodup:=by
  rcases hX2 with rfl|rfl
  ·exact List.nodup_append.2 ⟨(List.nodup_append.1 hnd).1,(h.fr g2).1,fun x hx y hy e=>h.dj g g2 (fun e=>hne e.symm) x (hR x hx) (e▸hy)⟩
  ·exact hnd
 refine hK η' b2 _ _ _ _ _ _ (t1.setO (g:=g) (ob:=(s.o g).putOwn c (.sl sz tyo (ds0.set k (.sl size ty cs))) η') b1 ⟨b4.nodup_iff.2 hnd2,fun x hx=>?_⟩ (fun g' hg' x hx=>?_))
 ·rcases List.mem_append.1 (b4.mem_iff.1 hx) with hx|hx
  ·exact (h.fr g).2 x (hR x hx)
  ·rcases hX3 x hx with hx|hx
   ·exact (h.fr g).2 x hx
   ·exact (h.fr g2).2 x hx
 ·split
  ·simp
  ·rename_i hg2
   intro hh;rcases List.mem_append.1 (b4.mem_iff.1 hx) with hx|hx
   ·exact h.dj g' g hg' x hh (hR x hx)
   ·rcases hX3 x hx with hx|hx
    ·exact h.dj g' g hg' x hh hx
    ·exact h.dj g' g2 hg2 x hh hx
end
theorem juD {a b:Int} (ha:0≤a∧a<4294967296) (hb:0≤b∧b<4294967296):0≤jye a b∧jye a b<4294967296:=by
 obtain ⟨a,rfl⟩:=Int.eq_ofNat_of_zero_le ha.1;obtain ⟨b,rfl⟩:=Int.eq_ofNat_of_zero_le hb.1;have h1:a^^^b<2^32:=Nat.xor_lt_two_pow (by omega) (by omega)
 have h2:(BitVec.ofInt 64 (a:Int)^^^BitVec.ofInt 64 (b:Int)).toNat=a^^^b:=by
  rw [BitVec.toNat_xor,BitVec.ofInt_natCast,BitVec.ofInt_natCast,BitVec.toNat_ofNat,BitVec.toNat_ofNat,Nat.mod_eq_of_lt (by omega),Nat.mod_eq_of_lt (by omega)]
 rw [jye,h2,jj (by omega) (by omega)]
 omega
theorem jyA {c:Int} (h:0≤c∧c<4294967296):0≤jl2 c∧jl2 c<4294967296:=by
 have h2:c.tdiv 2=c/2:=Int.tdiv_eq_ediv_of_nonneg h.1;have h3:IntKind.i64.wrap (c.tdiv 2)=c/2:=by rw [h2];exact jj (by omega) (by omega)
 rw [jl2,h3];split
 ·exact juD (by omega) (by omega)
 ·omega
theorem jwF {c:Int} (h:0≤c∧c<4294967296):∀n,0≤jpe n c∧jpe n c<4294967296
 |0=>h
 |n+1=>jyA (jwF h n)
theorem jDM {c:Int} (h:0≤c∧c<4294967296) (b:UInt8):0≤jAs c b∧jAs c b<4294967296:=by
 have:=b.toNat_lt;refine jwF (juD h ?_) 8;rw [jj (by omega) (by omega)]
 omega
theorem jAr (b:ByteArray):0≤jl1 b∧jl1 b<4294967296:=by
 refine juD ?_ (by omega)
 have:∀(l:List UInt8) (c:Int),0≤c∧c<4294967296→0≤l.foldl jAs c∧l.foldl jAs c<4294967296:=by
  intro l
  induction l with
  |nil=>exact fun c h=>h
  |cons x l ih=>exact fun c h=>ih _ (jDM h x)
 exact this _ _ (by omega)
def shN (id:Int):Nat:=(jcT id).toNat
theorem jGa (id:Int):jcT id=(shN id:Int)∧shN id<4:=by
 have h:=jAr (jep id)
 have h1:0≤jcT id∧jcT id<4:=by
  unfold jcT;split
  ·omega
  ·rw [Int.tmod_eq_emod_of_nonneg h.1];omega
 unfold shN;omega
def jaH (prio id:Int) (ids:List Int) (s:List En×Int):List En×Int:=ids.foldl (fun s t=>(jil s.1 ⟨prio,s.2,id,t⟩,s.2+1)) s
theorem jf7 (prio id:Int) (ids:List Int) (t:Int) (s:List En×Int):jaH prio id (ids++[t]) s=(jil (jaH prio id ids s).1 ⟨prio,(jaH prio id ids s).2,id,t⟩,(jaH prio id ids s).2+1):=by simp [jaH]
theorem jjL (prio id:Int) (s:List En×Int):jaH prio id [] s=s:=rfl
theorem jd1 (prio id:Int):∀(ids:List Int) (s:List En×Int),(jaH prio id ids s).2=s.2+ids.length
 |[],s=>by simp [jaH]
 |t::ids,s=>by
  have:=jd1 prio id ids (jil s.1 ⟨prio,s.2,id,t⟩,s.2+1);simp only [jaH,List.foldl_cons,List.length_cons] at this⊢;rw [this];omega
theorem jd2 (prio id:Int):∀(ids:List Int) (s:List En×Int),(jaH prio id ids s).1.length=s.1.length+ids.length
 |[],s=>by simp [jaH]
 |t::ids,s=>by
  have:=jd2 prio id ids (jil s.1 ⟨prio,s.2,id,t⟩,s.2+1);simp only [jaH,List.foldl_cons,List.length_cons] at this⊢;rw [this,jrZ];omega
def jx7 (was ts:List Tk) (k:Nat):Bool:=(stT ts k==2)&&!(decide (k<was.length)&&(stT was k==2))
def jb9 (was ts:List Tk) (k:Nat):List Int:=((List.range k).filter (jx7 was ts)).map fun (j:Nat)=>(j:Int)
theorem jAN (was ts:List Tk):jb9 was ts 0=[]:=rfl
theorem jAM (was ts:List Tk) (k:Nat):jb9 was ts (k+1)=jb9 was ts k++(if jx7 was ts k then [(k:Int)] else []):=by
 cases h:jx7 was ts k<;>simp [jb9,List.range_succ,h]
theorem jf2 (was ts:List Tk) (k:Nat):(jb9 was ts k).length≤k:=by
 simp only [jb9,List.length_map];exact Nat.le_trans (List.length_filter_le _ _) (by simp)
theorem jzo (ts:List Tk) (k:Nat):jb9 [] ts k=jam 2 ts k:=by
 have:jx7 [] ts=fun (j:Nat)=>stT ts (j:Int)==2:=by funext j;simp [jx7]
 simp [jb9,jam,this]
def jCz (y:Yd) (r:Rn) (ids:List Int):Yd:=
 let p:=jaH r.plan.prio r.id ids ((y.shelf[shN r.id]?).getD default,y.seq)
 ⟨y.now,p.2,y.shelf.set (shN r.id) p.1,y.runs⟩
abbrev rnH (r:Rn) (x5 x7:Value):List D:=[.val (.int .i64 r.id),.val (.int .i64 r.plan.prio),.val (.int .i64 r.plan.most),.val (.int .i64 r.plan.wait),.val (.int .i64 r.plan.tasks),jtK (some (2,tEd)) x5,.val (.int .i64 r.state),jtK (some (4,tTk)) x7]
abbrev jpV (b ty:Nat) (r:Rn) (x5 x7:Value):Ob:=.box b ty [.a (.v (.int .i64 r.id)),.a (.v (.int .i64 r.plan.prio)),.a (.v (.int .i64 r.plan.most)),.a (.v (.int .i64 r.plan.wait)),.a (.v (.int .i64 r.plan.tasks)),.a (.v x5),.a (.v (.int .i64 r.state)),.a (.v x7)]
abbrev vG (b ty:Nat) (now seq:Int) (sh:List (List En)) (e1:jq) (d:D) (e2:jq):Ob:=.box b ty [.a (.v (.int .i64 now)),.a (.v (.int .i64 seq)),.own (kj sh) e1,.own d e2]
theorem jnr (k:Nat×Nat) {x:Value} (h:x.oneCell'=true) (l:List D):jlo (jtK (some k) x::l)=jlo l:=by
 unfold jtK;split<;>simp [jlo, *]
theorem jxW {P:Program} {β:Nat} {fl:Prop} [Decidable fl] {m1 m2 o:Prop} {a:C} {Q:Ex→St→Prop} {f g:jq→St} (st:jq→St) (h1:m1) (h2:m2) (ho:o) (hf:∀η,Wk (f η) (st η)) (hg:∀η,Wk (g η) (st η)) (key:∀η,WkK (st η) (wpC P β a Q)):
 if fl then m1∧m2∧∀η,wpC P β (.gh a) Q (f η) else o∧m1∧m2∧∀η,wpC P β (.gh a) Q (g η):=by
 split
 ·exact ⟨h1,h2,fun η=>kQ (WkK.wk (hf η) (key η))⟩
 ·exact ⟨ho,h1,h2,fun η=>kQ (WkK.wk (hg η) (key η))⟩
theorem jaW {sh:List (List En)} {n:Nat} (l:List En):D.put [] n [jk l] (kj sh)=kj (sh.set n l):=by
 simp only [kj,D.put,kI,jl8,List.map_set]
theorem jzp {ts:List Tk} {k:Nat} {x:Tk} (h:ts[k]?=some x):jx7 [] ts k=(x.state==2):=by
 simp [jx7,vQ h]
theorem jku {α:Type} {l:List α}:∀{L:List (List α)},l∈L→l.length≤L.flatten.length
 |[],h=>by simp at h
 |x::L,h=>by
  rcases List.mem_cons.1 h with rfl|h
  ·simp
  ·have:=jku h
   simp only [List.flatten_cons,List.length_append];omega
theorem zu {y:Yd} (ht:jt y≤2000000) {l:List En} (h:l∈y.shelf):l.length≤2000000:=Nat.le_trans (jku h) (zS ht)
theorem jhs (l:List Rn):(l.flatMap jd).length=l.length*8:=jM (enc:=jd) (fun _=>rfl) l
theorem jrV (l:List Rn) (row:List D) (j:Nat):(l.flatMap jd++row)[l.length*8+j]?=row[j]?:=by
 rw [List.getElem?_append_right (by rw [jhs];omega),jhs,Nat.add_sub_cancel_left]
theorem jm0 (l:List Rn) (row:List D) (j:Nat) (d:D):(l.flatMap jd++row).set (l.length*8+j) d=l.flatMap jd++row.set j d:=by
 rw [List.set_append_right _ _ (by rw [jhs];omega),jhs,Nat.add_sub_cancel_left]
theorem joD (l:List Rn) (r:Rn):D.sl 8 tRn (l.flatMap jd++jd r)=jN (l++[r]):=by simp [jN]
theorem jhn {P:Program} {β:Nat} {a b:C} {Q:Ex→St→Prop} {s:St} {ι:Type} (mk:ι→St) (h1:wpC P β a (Ex.thn (fun s'=>∃i,Wk s' (mk i)) Q) s) (h2:∀i,wpC P β b Q (mk i)):wpC P β (.seq a (.gh b)) Q s:=by
 rw [jpY];exact zX a (jfO (fun s' ⟨i,h⟩=>wp_gh (mk i) h (h2 i)) fun _ _ h=>h) h1
theorem jlx (y:Yd) (p:Pl) (ht:jt y≤2000000):jZ Tryz.prog 187 [.agg (jb y),.agg (ja p)] (.c (.val (.bool (jaU y p)))):=jhw ⟨_,Tryz.func187,by kernel_rfl,by kernel_rfl⟩ fun w a b ⟨S,ha⟩ ⟨S',hb⟩=>jtf y p a b S S' w false false ha hb ht
theorem jlD (y:Yd) (p:Pl) (ht:jt y≤2000000):jZ Tryz.prog 211 [.agg (jb y),.agg (ja p)] (.c (.val (.bool (jaU y p)))):=jhw ⟨_,Tryz.func211,by kernel_rfl,by kernel_rfl⟩ fun w a b ⟨S,ha⟩ ⟨S',hb⟩=>jt6 y p a b S S' w false false ha hb ht
open Classical in
noncomputable def jet (y:Yd) (id:Int) (p:Pl):Int:=if jB y=false then 8 else if¬(1≤id∧id≤9999) then 5 else if 0≤runAt y id then 6 else if jG p≠0 then jG p else if jaU y p=false then 7 else 0
noncomputable def jfE (y:Yd) (id:Int) (p:Pl):Yd:=if jet y id p=0 then jCz ⟨y.now,y.seq,y.shelf,y.runs++[vz id p]⟩ (vz id p) (zY 2 (vz id p).tasks) else y
def jgO:C:=iS [iA 3 (.box 37 4 (.t 0)),iA 5 (.box 71 5 (.t 2)),iA 6 (.alloc 37 [.int .i64 0,.int .i64 0,.slice none 0 0,.slice none 0 0]),iA 7 (iN 0)] (iS [iA 11 (iT 4 3),iA 12 (.call 105 [.t 11]),iA 8 (.alloc 37 [.int .i64 0,.int .i64 0,.slice none 0 0,.slice none 0 0]),iC (.st 4 [none,none,some (1,102),some (8,108)] (.t 8) (.t 12))] (.seq (.blk 0 (iS [iA 14 (iT 4 3),iA 15 (.call 72 [.t 14]),iA 16 (iU 15),iA 13 (iM 16)] (iD 13 (iS [iA 17 (iT 4 8),iC (.st 4 [none,none,some (1,102),some (8,108)] (.t 6) (.t 17)),iA 7 (iN 8)] .ret) (iS [iA 19 (iM 1),iA 20 (.call 74 [.t 19,.c (.int .i64 1),.c (.int .i64 9999)]),iA 21 (iU 20),iA 18 (iM 21)] (iD 18 (iS [iA 22 (iT 4 8),iC (.st 4 [none,none,some (1,102),some (8,108)] (.t 6) (.t 22)),iA 7 (iN 5)] .ret) (iS [iA 24 (iT 4 3),iA 25 (iM 1),iA 26 (.call 152 [.t 24,.t 25]),iA 27 (iQ .geq 3 26 0),iA 23 (iM 27)] (iD 23 (iS [iA 28 (iT 4 8),iC (.st 4 [none,none,some (1,102),some (8,108)] (.t 6) (.t 28)),iA 7 (iN 6)] .ret) (iS [iA 30 (iT 5 5),iA 31 (.call 186 [.t 30]),iA 32 (iQ .neq 3 31 0),iA 29 (iM 32)] (iD 29 (.seq (.dreg (T.pure 0 (iA 33 (iT 4 8)) (T.pure 1 (iA 34 (iT 5 5)) (T.alt (iA 35 (.call 186 [.t 34])) [0] (T.alt (iC (.st 4 [none,none,some (1,102),some (8,108)] (.t 6) (.t 33))) [] (T.pure 4 (iA 7 (iM 35)) T.done) T.stop) T.stop)))) .ret) (iS [iA 37 (iT 4 3),iA 38 (iT 5 5),iA 39 (.call 187 [.t 37,.t 38]),iA 40 (iU 39),iA 36 (iM 40)] (iD 36 (iS [iA 41 (iT 4 8),iC (.st 4 [none,none,some (1,102),some (8,108)] (.t 6) (.t 41)),iA 7 (iN 7)] .ret) .skip))))))))))) (iS [iA 43 (iM 1),iA 44 (iT 5 5),iA 45 (.call 188 [.t 43,.t 44]),iA 42 (iM 45),iA 46 (iE 42 0),iA 47 (iE 42 1),iA 9 (.alloc 108 [.int .i64 0,.int .i64 0,.int .i64 0,.int .i64 0,.int .i64 0,.slice none 0 0,.int .i64 0,.slice none 0 0]),iC (.st 8 [none,none,none,none,none,some (2,253),none,some (4,172)] (.t 9) (.t 46)),iA 10 (iM 47)] (iS [iA 48 (iF 3 8),iA 49 (iL 48),iA 50 (iT 8 9),iA 51 (.bsl 108 8 1 [none,none,none,none,none,some (2,253),none,some (4,172)] [(0,8,.t 50)]),iA 52 (.app 108 8 96 (.t 49) (.t 51)),iA 53 (iF 3 8),iC (.st 1 [some (8,108)] (.t 53) (.t 52))] (iS [iA 54 (iT 4 8),iA 55 (.bld [.int .i64 0,.int .i64 0,.int .i64 0,.int .i64 0,.int .i64 0,.slice none 0 0,.int .i64 0,.slice none 0 0] []),iA 56 (iT 8 9),iA 57 (.call 189 [.t 54,.t 55,.t 56]),iC (.st 4 [none,none,some (1,102),some (8,108)] (.t 6) (.t 57)),iA 7 (iN 0)] .ret)))))
theorem ji6:fnC Tryz.prog Tryz.f106=some (jgO,[.cell 6 true 4,.t 7],58):=by kernel_rfl
def jcj:C:=iS [iA 3 (.box 37 4 (.t 0)),iA 4 (.box 108 8 (.t 1)),iA 5 (.box 108 8 (.t 2)),iA 6 (.alloc 37 [.int .i64 0,.int .i64 0,.slice none 0 0,.slice none 0 0])] (iS [iA 9 (iF 0 5),iA 10 (iL 9),iA 11 (.call 65 [.t 10]),iA 7 (iM 11)] (.seq (iS [iA 8 (iN 0)] (.blk 0 (.loop (.seq (iS [iA 12 (iM 8),iA 13 (iF 7 5),iA 14 (iL 13),iA 15 (iG 14),iA 16 (iP .lss 3 12 15)] (iD 16 .skip (.exit 0))) (.seq (.blk 1 (.seq (iS [iA 19 (iF 7 5),iA 20 (iL 19),iA 21 (iM 8),iA 22 (iI 4 20 21),iA 23 (iF 0 22),iA 24 (iL 23),iA 25 (iQ .neq 3 24 2),iA 26 (iM 25),iB 27 26 false (iM 8),iB 28 26 false (iF 7 4),iB 29 26 false (iL 28),iB 30 26 false (iG 29),iB 31 26 false (iP .lss 3 27 30),iB 32 26 false (iM 31),iB 33 32 true (iF 7 4),iB 34 32 true (iL 33),iB 35 32 true (iM 8),iB 36 32 true (iI 4 34 35),iB 37 32 true (iF 0 36),iB 38 32 true (iL 37),iB 39 32 true (iQ .eql 3 38 2),iB 40 26 false (.pick (.t 32) (.t 39) (.c (.bool false))),iA 41 (.pick (.t 26) (.c (.bool true)) (.t 40))] (iD 41 (.exit 1) .skip)) (.seq (.dreg (T.pure 0 (iA 42 (iF 2 3)) (T.pure 1 (iA 43 (iL 42)) (T.pure 2 (iA 44 (iM 7)) (T.pure 3 (iA 45 (iF 2 3)) (T.pure 4 (iA 46 (iL 45)) (T.pure 5 (iA 47 (iM 7)) (T.pure 6 (iA 48 (iI 1 46 47)) (T.pure 7 (iA 49 (iL 48)) (T.pure 8 (iA 50 (iF 1 5)) (T.pure 9 (iA 51 (iF 0 50)) (T.pure 10 (iA 52 (iL 51)) (T.pure 11 (iA 53 (iF 1 3)) (T.pure 12 (iA 54 (iL 53)) (T.pure 13 (iA 55 (iF 0 5)) (T.pure 14 (iA 56 (iL 55)) (T.pure 15 (iA 57 (iM 8)) (T.pure 16 (iA 58 (.bld [.int .i64 0,.int .i64 0,.int .i64 0,.int .i64 0] [(0,1,.t 52),(1,1,.t 54),(2,1,.t 56),(3,1,.t 57)])) (T.alt (iA 59 (.call 260 [.t 49,.t 58])) [2,1,0] (T.pure 18 (iA 60 (iI 1 43 44)) (T.alt (iC (.st 1 [some (4,111)] (.t 60) (.t 59))) [] T.done T.stop)) T.stop))))))))))))))))))) (.reg [iA 61 (iF 1 3),iA 62 (iL 61),iA 63 (iQ .add 3 62 1),iA 64 (iF 1 3),iC (.st 1 [none] (.t 64) (.t 63))])))) (.reg [iA 17 (iM 8),iA 18 (iQ .add 3 17 1),iA 8 (iM 18)])))))) (iS [iA 65 (iT 4 3),iC (.st 4 [none,none,some (1,102),some (8,108)] (.t 6) (.t 65))] .ret)))
theorem jcs:fnC Tryz.prog Tryz.f189=some (jcj,[.cell 6 true 4],66):=by kernel_rfl
theorem jm6 (y:Yd) (id:Int) (p:Pl) (ht:jt y≤2000000) (hp:p.edges.length≤4000000):jZ Tryz.prog 106 [.agg (jb y),.c (.val (.int .i64 id)),.agg (ja p)] (.tup [(true,jb (jfE y id p)),(false,[.val (.int .i64 (jet y id p))])]):=by
 refine zf [[1,1,1,1,0],[1,1,1,1,1,0],[1,1,1,1,1,1]] Tryz.func106 ji6 (by simp) ?_
 unfold jgO;simp only [C.ghs,C.ghAt,List.foldr];simp only [go_sem,jb,ja];intro b3 b5 b6;refine jc (kp y ht) (by simp only [go_sem,jb,ja]) fun ηc=>?_
 simp only [go_sem,jb,ja];intro b8;refine jc (qg y ht) (by simp only [go_sem,jb,ja]) fun η=>?_
 simp only [go_sem,jb,ja];cases hok:jB y
 ·have hc:jet y id p=8:=by simp [jet,hok]
  have hy:jfE y id p=y:=by simp [jfE,hc]
  simp only [go_sem,jb,ja,hok,hc,hy];refine kK _ _ _ _ _ ?_;simp only [go_sem,jb,ja]
 simp only [go_sem,jb,ja,hok];refine jc (jO id 1 9999) (by simp only [go_sem,jb,ja]) fun η=>?_
 simp only [go_sem,jb,ja];cases hid:decide (1≤id∧id≤9999)
 ·have hc:jet y id p=5:=by simp [jet,hok,of_decide_eq_false hid]
  have hy:jfE y id p=y:=by simp [jfE,hc]
  simp only [go_sem,jb,ja,hid,hc,hy];refine kK _ _ _ _ _ ?_;simp only [go_sem,jb,ja]
 have hid':=of_decide_eq_true hid;simp only [go_sem,jb,ja,hid];refine jc (qA y id) (by simp only [go_sem,jb,ja]) fun η=>?_
 simp only [go_sem,jb,ja];by_cases hge:runAt y id≥0
 ·have hc:jet y id p=6:=by unfold jet;rw [if_neg (by simp [hok]),if_neg (by omega),if_pos hge]
  have hy:jfE y id p=y:=by simp [jfE,hc]
  simp only [go_sem,jb,ja,hge,hc,hy];refine kK _ _ _ _ _ ?_;simp only [go_sem,jb,ja]
 simp only [go_sem,jb,ja,hge];refine jc (ze p) (by simp only [go_sem,jb,ja]) fun η=>?_
 simp only [go_sem,jb,ja];cases hpf:jG p !=0;rotate_left
 ·have hpf':jG p≠0:=by simpa using hpf
  have hc:jet y id p=jG p:=by unfold jet;rw [if_neg (by simp [hok]),if_neg (by omega),if_neg (by omega),if_pos hpf']
  have hy:jfE y id p=y:=by rw [jfE,if_neg (by rw [hc];exact hpf')]
  simp only [go_sem,jb,ja,hpf];refine jc (ze p) (by simp only [go_sem,jb,ja]) fun η=>?_
  simp only [go_sem,jb,ja];rw [hc,hy];refine kK _ _ _ _ _ ?_;simp only [go_sem,jb,ja]
 have hpf':jG p=0:=by simpa using hpf
 simp only [go_sem,jb,ja,hpf];refine jc (jlx y p ht) (by simp only [go_sem,jb,ja]) fun η=>?_
 simp only [go_sem,jb,ja];cases hrf:jaU y p
 ·have hc:jet y id p=7:=by unfold jet;rw [if_neg (by simp [hok]),if_neg (by omega),if_neg (by omega),if_neg (by simp [hpf']),if_pos hrf]
  have hy:jfE y id p=y:=by simp [jfE,hc]
  simp only [go_sem,jb,ja,hrf,hc,hy];refine kK _ _ _ _ _ ?_;simp only [go_sem,jb,ja]
 have hc:jet y id p=0:=by unfold jet;rw [if_neg (by simp [hok]),if_neg (by omega),if_neg (by omega),if_neg (by simp [hpf']),if_neg (by simp [hrf])]
 rw [hc,jfE,if_pos hc];simp only [go_sem,jb,ja,hrf];refine jc (jm7 id p hid' hpf') (by simp only [go_sem,jb,ja,jd]) fun ηr=>?_
 simp only [go_sem,jb,ja,jd];intro b9;refine kQ ?_;obtain ⟨r,hr⟩:∃r,vz id p=r:=⟨_,rfl⟩;have hri:r.id=id:=by rw [←hr];rfl
 refine WkK.wk (s':=St.of [(6,Bx 600 b6),(8,Bx 800 b8),(9,Bx 900 b9)] [(600,ZYd b6 _),(800,kw b8 _ y.now y.seq y.shelf (ηc 2) y.runs (ηc 3)),(900,ja8 b9 _ r (ηr 5) (ηr 7))]) (ji [some 600,some 800,some 900] (by simp only [go_sem,jb,ja,jd,hr]<;>and_intros<;>first|rfl|assumption|trivial)) ?_
 refine qF 900 5 901 (d:=ju r.plan.edges) (η:=ηr 5) (by simp only [go_sem]) (by simp only [go_sem]) (by decide) fun hx5=>?_
 refine qF 900 7 902 (d:=jy r.tasks) (η:=ηr 7) (by simp only [go_sem]) (by simp only [go_sem]) (by decide) fun hx7=>?_
 refine WkK.of ?_;generalize ηr 5=η5 at*;generalize ηr 7=η7 at*;simp only [go_sem,hx5,hx7];have m1:y.runs.length+1≤maxLen:=by unfold maxLen;have:=(yard_iff.1 hok).eight;omega
 have m2:(y.runs.length+1)*96≤140737488355328:=by have:=(yard_iff.1 hok).eight;omega
 intro η51;refine jxW (fun ηR=>St.of [(6,Bx 600 b6),(8,Bx 800 b8),(9,Bx 900 b9)] [(600,ZYd b6 tYd),(800,vG b8 tYd y.now y.seq y.shelf (ηc 2) (.sl 8 tRn (y.runs.flatMap jd++rnH r (η5 []) (η7 []))) ηR),(900,jpV b9 tRn r (η5 []) (η7 [])),(901,.loose (ju r.plan.edges) η5),(902,.loose (jy r.tasks) η7)]) m1 m2 ?_ (fun ηR=>ji [some 600,some 800,some 900,some 901,some 902] (by simp only [go_sem]<;>and_intros<;>first|rfl|assumption)) (fun ηR=>ji [some 600,some 800,some 900,some 901,some 902] (by simp only [go_sem]<;>and_intros<;>first|rfl|assumption)) ?_
 ·simp only [jnr _ hx5,jnr _ hx7,jlo];rfl
 intro ηR;rw [hr];generalize hdR:D.sl 8 tRn (y.runs.flatMap jd++rnH r (η5 []) (η7 []))=dR;refine qw 900 5 901 (d:=ju r.plan.edges) (η:=η5) rfl rfl rfl ?_;refine qw 900 7 902 (d:=jy r.tasks) (η:=η7) rfl rfl rfl ?_;refine WkK.wk (s':=St.of [(6,Bx 600 b6),(8,Bx 800 b8),(9,Bx 900 b9)] [(600,ZYd b6 _),(800,vG b8 _ y.now y.seq y.shelf (ηc 2) dR ηR),(900,ja8 b9 _ r η5 η7)]) (ji [some 600,some 800,some 900] (by simp only [go_sem,jb,ja,jd]<;>and_intros<;>first|rfl|assumption|trivial)) ?_
 refine WkK.of ?_;simp only [go_sem];refine qd (vn (β:=7000000) Tryz.func189 jcs (by simp) ?_)
 unfold jcj;simp only [go_sem,jf,jo];intro b73 b74 b75 b76;refine jc (jex r.id) (by simp only [go_sem]) fun η=>?_
 simp only [go_sem];obtain ⟨hsn,hs4⟩:=jGa r.id;rw [hsn];have hLY:jCz ⟨y.now,y.seq,y.shelf,y.runs++[r]⟩ r (zY 2 r.tasks)=⟨y.now,(jaH r.plan.prio r.id (zY 2 r.tasks) ((y.shelf[shN r.id]?).getD default,y.seq)).2,y.shelf.set (shN r.id) (jaH r.plan.prio r.id (zY 2 r.tasks) ((y.shelf[shN r.id]?).getD default,y.seq)).1,y.runs++[r]⟩:=rfl;rw [hLY];generalize shN r.id=n at*;have h4:=(yard_iff.1 hok).four;have hq:=(yard_iff.1 hok).seq;have hn:n<y.shelf.length:=by omega
 have h0n:(n:Int)≥0:=by omega
 obtain ⟨l,hl⟩:=je hn;have hll:=zu ht (List.mem_of_getElem? hl);rw [hl,Option.getD_some];obtain ⟨t0,ht0,-,h12,-⟩:=jiQ hpf';have hrt:r.tasks.length≤12:=by rw [←hr,vz,jbN];omega
 have htin:jb9 [] r.tasks r.tasks.length=zY 2 r.tasks:=jzo _ _;refine jp (fun i:Nat×jq=>St.of [(3,Bx 3 b73),(4,Bx 4 b74),(5,Bx 5 b75),(6,Bx 66 b76),(7,Ni n),(8,Ni i.1)] [(600,ZYd b6 _),(3,vG b73 _ y.now (jaH r.plan.prio r.id (jb9 [] r.tasks i.1) (l,y.seq)).2 (y.shelf.set n (jaH r.plan.prio r.id (jb9 [] r.tasks i.1) (l,y.seq)).1) i.2 dR ηR),(4,ZRn b74 _),(5,ja8 b75 _ r η5 η7),(66,ZYd b76 _)]) (fun i=>i.1≤r.tasks.length) (fun i=>r.tasks.length-i.1) (0,ηc 2) (by (try dsimp only);first|omega|(simp;done)|(and_intros<;>first|omega|simp)) (ji [some 600,some 700000300,some 700000400,some 700000500,some 700000600] (by simp only [go_sem,jb,ja,jd,jAN,jjL,jaE hl]<;>and_intros<;>first|rfl|assumption|trivial)) ?_
 rintro ⟨k,η⟩ hk;dsimp only at hk;have hsq:=jd1 r.plan.prio r.id (jb9 [] r.tasks k) (l,y.seq);have hle:=jd2 r.plan.prio r.id (jb9 [] r.tasks k) (l,y.seq);have hnl:=jf2 [] r.tasks k;have hsnoc:=jf7 r.plan.prio r.id (jb9 [] r.tasks k) k (l,y.seq);have hnx:=jAM [] r.tasks k;dsimp only at hsq hle;by_cases hlt:k<r.tasks.length
 ·have hlt':(k:Int)<r.tasks.length:=by omega
  have h0k:(k:Int)≥0:=by omega
  have hk0:¬(k:Int)<0:=by omega
  obtain ⟨x,hx⟩:=je hlt;have hw:IntKind.i64.wrap ((k:Int)+1)=((k+1:Nat):Int):=jj (by omega) (by omega)
  rw [jzp hx] at hnx;have hw2:IntKind.i64.wrap ((jaH r.plan.prio r.id (jb9 [] r.tasks k) (l,y.seq)).2+1)=(jaH r.plan.prio r.id (jb9 [] r.tasks k) (l,y.seq)).2+1:=jj (by omega) (by omega)
  generalize hPe:jaH r.plan.prio r.id (jb9 [] r.tasks k) (l,y.seq)=P at*;obtain ⟨sh,hsh⟩:∃s,y.shelf.set n P.1=s:=⟨_,rfl⟩;have hSl:sh[n]?=some P.1:=by rw [←hsh];exact List.getElem?_set_self hn
  have hns:n<sh.length:=by rw [←hsh,List.length_set];exact hn
  have hss:∀L,sh.set n L=y.shelf.set n L:=fun L=>by rw [←hsh,List.set_set]
  have hi1:n+1≤(sh.flatMap fun es=>[jk es]).length:=by have:=jaJ hns;rwa [Nat.mul_one] at this
  have ha1:((sh.flatMap fun es=>[jk es]).drop n).take 1=[jk P.1]:=by have:=jbq hSl;rwa [Nat.mul_one] at this
  rw [hsh];cases h2:x.state !=2
  ·have h2':(x.state==2)=true:=by have:x.state=2:=by simpa using h2
                                  simp [this]
   rw [h2',if_pos rfl] at hnx;rw [←hnx] at hsnoc;simp only [go_sem,ja,jd,jo,hlt',h0k,hk0,hlt,jaz hx,vM hx,zG hx,qQ hx,h2];simp only [go_sem,hns,Nat.mul_one,ha1,hi1,h0n];refine jc (jaY P.1 ⟨r.plan.prio,P.2,r.id,k⟩ (by omega)) (by simp only [go_sem,jf,kn hSl]) fun ηp=>?_
   simp only [go_sem,jf,kn hSl];simp only [go_sem,hns,Nat.mul_one,hi1,ha1,h0n,jaW,hw2,hw,hss];refine fun η' hη'=>?_
   exact ⟨(k+1,η'),by (try dsimp only);first|omega|assumption|(and_intros<;>first|omega|assumption),(ji [some 600,some 3,some 4,some 5,some 66] (by simp only [go_sem,jb,ja,jd,hsnoc]<;>and_intros<;>first|rfl|assumption|trivial)),by (try dsimp only);omega⟩
  ·have h2':(x.state==2)=false:=by simpa using h2
   rw [h2'] at hnx;simp only [Bool.false_eq_true,if_false,List.append_nil] at hnx;simp only [go_sem,ja,jd,jo,hlt',h0k,hk0,hlt,jaz hx,vM hx,zG hx,qQ hx,h2,hw];exact ⟨(k+1,η),by (try dsimp only);first|omega|assumption|(and_intros<;>first|omega|assumption),(ji [some 600,some 3,some 4,some 5,some 66] (by simp only [go_sem,jb,ja,jd,hnx,hPe,hsh]<;>and_intros<;>first|rfl|assumption|trivial)),by (try dsimp only);omega⟩
 obtain rfl:k=r.tasks.length:=by omega
 have hlt':¬((r.tasks.length:Nat):Int)<r.tasks.length:=by omega
 rw [htin];generalize jaH r.plan.prio r.id (zY 2 r.tasks) (l,y.seq)=P at*;simp only [go_sem,hlt',ja,jd];refine kQ ?_;subst hdR;refine WkK.wk (s':=St.of [(6,Bx 600 b6),(7,Ni 0)] [(600,vG b6 _ y.now P.2 (y.shelf.set n P.1) η (.sl 8 tRn (y.runs.flatMap jd++rnH r (η5 []) (η7 []))) ηR),(5,ja8 b75 _ r η5 η7)]) (ji [some 600,some 5] (by simp only [go_sem,ja,jd]<;>and_intros<;>first|rfl|assumption|trivial)) ?_
 refine qF 5 5 901 (d:=ju r.plan.edges) (η:=η5) rfl rfl (by decide) fun _=>?_
 refine qF 5 7 902 (d:=jy r.tasks) (η:=η7) rfl rfl (by decide) fun _=>?_
 refine vi 600 3 (y.runs.length*8+5) 901 (η:=ηR) (η2:=η5) (cs:=r.plan.edges.flatMap jJ) rfl (jrV _ _ 5) (.inr rfl) rfl (by decide) fun ηA _=>?_
 rw [jm0];refine vi 600 3 (y.runs.length*8+7) 902 (η:=ηA) (η2:=η7) (cs:=r.tasks.flatMap jo) rfl (jrV _ _ 7) (.inr rfl) rfl (by decide) fun ηB _=>?_
 rw [jm0];refine WkK.of ?_;have hrow:(List.set (List.set (rnH r (η5 []) (η7 [])) 5 (.sl 2 tEd (r.plan.edges.flatMap jJ))) 7 (.sl 4 tTk (r.tasks.flatMap jo)))=jd r:=rfl;rw [hrow,joD];refine kK _ _ _ _ _ ?_;simp only [go_sem,jb]
def jg4:C:=iS [iA 3 (.box 37 4 (.t 0)),iA 5 (.box 71 5 (.t 2)),iA 6 (.alloc 37 [.int .i64 0,.int .i64 0,.slice none 0 0,.slice none 0 0]),iA 7 (iN 0)] (iS [iA 11 (iT 4 3),iA 12 (.call 118 [.t 11]),iA 8 (.alloc 37 [.int .i64 0,.int .i64 0,.slice none 0 0,.slice none 0 0]),iC (.st 4 [none,none,some (1,102),some (8,108)] (.t 8) (.t 12))] (.seq (.blk 0 (iS [iA 14 (iT 4 3),iA 15 (.call 59 [.t 14]),iA 16 (iU 15),iA 13 (iM 16)] (iD 13 (iS [iA 17 (iT 4 8),iC (.st 4 [none,none,some (1,102),some (8,108)] (.t 6) (.t 17)),iA 7 (iN 8)] .ret) (iS [iA 19 (iM 1),iA 20 (.call 78 [.t 19,.c (.int .i64 1),.c (.int .i64 9999)]),iA 21 (iU 20),iA 18 (iM 21)] (iD 18 (iS [iA 22 (iT 4 8),iC (.st 4 [none,none,some (1,102),some (8,108)] (.t 6) (.t 22)),iA 7 (iN 5)] .ret) (iS [iA 24 (iT 4 3),iA 25 (iM 1),iA 26 (.call 56 [.t 24,.t 25]),iA 27 (iQ .geq 3 26 0),iA 23 (iM 27)] (iD 23 (iS [iA 28 (iT 4 8),iC (.st 4 [none,none,some (1,102),some (8,108)] (.t 6) (.t 28)),iA 7 (iN 6)] .ret) (iS [iA 30 (iT 5 5),iA 31 (.call 210 [.t 30]),iA 32 (iQ .neq 3 31 0),iA 29 (iM 32)] (iD 29 (.seq (.dreg (T.pure 0 (iA 33 (iT 4 8)) (T.pure 1 (iA 34 (iT 5 5)) (T.alt (iA 35 (.call 210 [.t 34])) [0] (T.alt (iC (.st 4 [none,none,some (1,102),some (8,108)] (.t 6) (.t 33))) [] (T.pure 4 (iA 7 (iM 35)) T.done) T.stop) T.stop)))) .ret) (iS [iA 37 (iT 4 3),iA 38 (iT 5 5),iA 39 (.call 211 [.t 37,.t 38]),iA 40 (iU 39),iA 36 (iM 40)] (iD 36 (iS [iA 41 (iT 4 8),iC (.st 4 [none,none,some (1,102),some (8,108)] (.t 6) (.t 41)),iA 7 (iN 7)] .ret) .skip))))))))))) (iS [iA 43 (iM 1),iA 44 (iT 5 5),iA 45 (.call 212 [.t 43,.t 44]),iA 42 (iM 45),iA 46 (iE 42 0),iA 47 (iE 42 1),iA 9 (.alloc 108 [.int .i64 0,.int .i64 0,.int .i64 0,.int .i64 0,.int .i64 0,.slice none 0 0,.int .i64 0,.slice none 0 0]),iC (.st 8 [none,none,none,none,none,some (2,253),none,some (4,172)] (.t 9) (.t 46)),iA 10 (iM 47)] (iS [iA 48 (iF 3 8),iA 49 (iL 48),iA 50 (iT 8 9),iA 51 (.bsl 108 8 1 [none,none,none,none,none,some (2,253),none,some (4,172)] [(0,8,.t 50)]),iA 52 (.app 108 8 96 (.t 49) (.t 51)),iA 53 (iF 3 8),iC (.st 1 [some (8,108)] (.t 53) (.t 52))] (.seq (.dreg (T.pure 0 (iA 54 (iT 8 9)) (T.pure 1 (iA 55 (iT 8 9)) (T.alt (iA 56 (.call 214 [.t 55,.c (.int .i64 2)])) [0] (T.alt (iA 57 (.call 213 [.t 8,.t 54,.t 56])) [] T.done T.stop) T.stop)))) (iS [iA 58 (iT 4 8),iC (.st 4 [none,none,some (1,102),some (8,108)] (.t 6) (.t 58)),iA 7 (iN 0)] .ret))))))
theorem jjm:fnC Tryz.prog Tryz.f119=some (jg4,[.cell 6 true 4,.t 7],59):=by kernel_rfl
def jdB:C:=iS [iA 4 (.box 108 8 (.t 1))] (iS [iA 9 (iF 0 4),iA 10 (iL 9),iA 11 (.call 64 [.t 10]),iA 6 (iM 11)] (iS [iA 12 (iM 2),iA 13 (iG 12),iA 14 (iN 0)] (.blk 0 (.loop (iS [iA 15 (iP .lss 3 14 13)] (.seq (iD 15 .skip (.exit 0)) (.seq (.blk 1 (iS [iA 16 (iI 1 12 14),iA 17 (iL 16),iA 8 (iM 17)] (.seq (.dreg (T.pure 0 (iA 18 (iM 0)) (T.pure 1 (iA 19 (iF 0 18)) (T.pure 2 (iA 20 (iF 2 19)) (T.pure 3 (iA 21 (iL 20)) (T.pure 4 (iA 22 (iM 6)) (T.pure 5 (iA 23 (iM 0)) (T.pure 6 (iA 24 (iF 0 23)) (T.pure 7 (iA 25 (iF 2 24)) (T.pure 8 (iA 26 (iL 25)) (T.pure 9 (iA 27 (iM 6)) (T.pure 10 (iA 28 (iI 1 26 27)) (T.pure 11 (iA 29 (iL 28)) (T.pure 12 (iA 30 (iF 1 4)) (T.pure 13 (iA 31 (iF 0 30)) (T.pure 14 (iA 32 (iL 31)) (T.pure 15 (iA 33 (iM 0)) (T.pure 16 (iA 34 (iF 0 33)) (T.pure 17 (iA 35 (iF 1 34)) (T.pure 18 (iA 36 (iL 35)) (T.pure 19 (iA 37 (iF 0 4)) (T.pure 20 (iA 38 (iL 37)) (T.pure 21 (iA 39 (iM 8)) (T.pure 22 (iA 40 (.bld [.int .i64 0,.int .i64 0,.int .i64 0,.int .i64 0] [(0,1,.t 32),(1,1,.t 36),(2,1,.t 38),(3,1,.t 39)])) (T.alt (iA 41 (.call 274 [.t 29,.t 40])) [4,3,2,1,0] (T.pure 24 (iA 42 (iI 1 21 22)) (T.alt (iC (.st 1 [some (4,111)] (.t 42) (.t 41))) [] T.done T.stop)) T.stop))))))))))))))))))))))))) (.reg [iA 43 (iM 0),iA 44 (iF 0 43),iA 45 (iF 1 44),iA 46 (iL 45),iA 47 (iQ .add 3 46 1),iA 48 (iF 0 43),iA 49 (iF 1 48),iC (.st 1 [none] (.t 49) (.t 47))])))) (.reg [iA 50 (iQ .add 3 14 1),iA 14 (iM 50)]))))))))
theorem jdl:fnC Tryz.prog Tryz.f213=some (jdB,[],51):=by kernel_rfl
theorem jnh (y:Yd) (id:Int) (p:Pl) (ht:jt y≤2000000) (hp:p.edges.length≤4000000):jZ Tryz.prog 119 [.agg (jb y),.c (.val (.int .i64 id)),.agg (ja p)] (.tup [(true,jb (jfE y id p)),(false,[.val (.int .i64 (jet y id p))])]):=by
 refine zf [[1,1,1,1,0],[1,1,1,1,1,0],[1,1,1,1,1,1,1]] Tryz.func119 jjm (by simp) ?_
 unfold jg4;simp only [C.ghs,C.ghAt,List.foldr];simp only [go_sem,jb,ja];intro b3 b5 b6;refine jc (ka y ht) (by simp only [go_sem,jb,ja]) fun ηc=>?_
 simp only [go_sem,jb,ja];intro b8;refine jc (kU y ht) (by simp only [go_sem,jb,ja]) fun η=>?_
 simp only [go_sem,jb,ja];cases hok:jB y
 ·have hc:jet y id p=8:=by simp [jet,hok]
  have hy:jfE y id p=y:=by simp [jfE,hc]
  simp only [go_sem,jb,ja,hok,hc,hy];refine kK _ _ _ _ _ ?_;simp only [go_sem,jb,ja]
 simp only [go_sem,jb,ja,hok];refine jc (jC id 1 9999) (by simp only [go_sem,jb,ja]) fun η=>?_
 simp only [go_sem,jb,ja];cases hid:decide (1≤id∧id≤9999)
 ·have hc:jet y id p=5:=by simp [jet,hok,of_decide_eq_false hid]
  have hy:jfE y id p=y:=by simp [jfE,hc]
  simp only [go_sem,jb,ja,hid,hc,hy];refine kK _ _ _ _ _ ?_;simp only [go_sem,jb,ja]
 have hid':=of_decide_eq_true hid;simp only [go_sem,jb,ja,hid];refine jc (qB y id) (by simp only [go_sem,jb,ja]) fun η=>?_
 simp only [go_sem,jb,ja];by_cases hge:runAt y id≥0
 ·have hc:jet y id p=6:=by unfold jet;rw [if_neg (by simp [hok]),if_neg (by omega),if_pos hge]
  have hy:jfE y id p=y:=by simp [jfE,hc]
  simp only [go_sem,jb,ja,hge,hc,hy];refine kK _ _ _ _ _ ?_;simp only [go_sem,jb,ja]
 simp only [go_sem,jb,ja,hge];refine jc (qu p hp) (by simp only [go_sem,jb,ja]) fun η=>?_
 simp only [go_sem,jb,ja];cases hpf:jG p !=0;rotate_left
 ·have hpf':jG p≠0:=by simpa using hpf
  have hc:jet y id p=jG p:=by unfold jet;rw [if_neg (by simp [hok]),if_neg (by omega),if_neg (by omega),if_pos hpf']
  have hy:jfE y id p=y:=by rw [jfE,if_neg (by rw [hc];exact hpf')]
  simp only [go_sem,jb,ja,hpf];refine jc (qu p hp) (by simp only [go_sem,jb,ja]) fun η=>?_
  simp only [go_sem,jb,ja];rw [hc,hy];refine kK _ _ _ _ _ ?_;simp only [go_sem,jb,ja]
 have hpf':jG p=0:=by simpa using hpf
 simp only [go_sem,jb,ja,hpf];refine jc (jlD y p ht) (by simp only [go_sem,jb,ja]) fun η=>?_
 simp only [go_sem,jb,ja];cases hrf:jaU y p
 ·have hc:jet y id p=7:=by unfold jet;rw [if_neg (by simp [hok]),if_neg (by omega),if_neg (by omega),if_neg (by simp [hpf']),if_pos hrf]
  have hy:jfE y id p=y:=by simp [jfE,hc]
  simp only [go_sem,jb,ja,hrf,hc,hy];refine kK _ _ _ _ _ ?_;simp only [go_sem,jb,ja]
 have hc:jet y id p=0:=by unfold jet;rw [if_neg (by simp [hok]),if_neg (by omega),if_neg (by omega),if_neg (by simp [hpf']),if_neg (by simp [hrf])]
 rw [hc,jfE,if_pos hc];simp only [go_sem,jb,ja,hrf];refine jc (jni id p hid' hpf') (by simp only [go_sem,jb,ja,jd]) fun ηr=>?_
 simp only [go_sem,jb,ja,jd];intro b9;refine kQ ?_;obtain ⟨r,hr⟩:∃r,vz id p=r:=⟨_,rfl⟩;have hri:r.id=id:=by rw [←hr];rfl
 refine WkK.wk (s':=St.of [(6,Bx 600 b6),(8,Bx 800 b8),(9,Bx 900 b9)] [(600,ZYd b6 _),(800,kw b8 _ y.now y.seq y.shelf (ηc 2) y.runs (ηc 3)),(900,ja8 b9 _ r (ηr 5) (ηr 7))]) (ji [some 600,some 800,some 900] (by simp only [go_sem,jb,ja,jd,hr]<;>and_intros<;>first|rfl|assumption|trivial)) ?_
 refine qF 900 5 901 (d:=ju r.plan.edges) (η:=ηr 5) (by simp only [go_sem]) (by simp only [go_sem]) (by decide) fun hx5=>?_
 refine qF 900 7 902 (d:=jy r.tasks) (η:=ηr 7) (by simp only [go_sem]) (by simp only [go_sem]) (by decide) fun hx7=>?_
 refine WkK.of ?_;generalize ηr 5=η5 at*;generalize ηr 7=η7 at*;simp only [go_sem,hx5,hx7];have m1:y.runs.length+1≤maxLen:=by unfold maxLen;have:=(yard_iff.1 hok).eight;omega
 have m2:(y.runs.length+1)*96≤140737488355328:=by have:=(yard_iff.1 hok).eight;omega
 intro η51;refine jxW (fun ηR=>St.of [(6,Bx 600 b6),(8,Bx 800 b8),(9,Bx 900 b9)] [(600,ZYd b6 tYd),(800,vG b8 tYd y.now y.seq y.shelf (ηc 2) (.sl 8 tRn (y.runs.flatMap jd++rnH r (η5 []) (η7 []))) ηR),(900,jpV b9 tRn r (η5 []) (η7 [])),(901,.loose (ju r.plan.edges) η5),(902,.loose (jy r.tasks) η7)]) m1 m2 ?_ (fun ηR=>ji [some 600,some 800,some 900,some 901,some 902] (by simp only [go_sem]<;>and_intros<;>first|rfl|assumption)) (fun ηR=>ji [some 600,some 800,some 900,some 901,some 902] (by simp only [go_sem]<;>and_intros<;>first|rfl|assumption)) ?_
 ·simp only [jnr _ hx5,jnr _ hx7,jlo];rfl
 intro ηR;rw [hr];generalize hdR:D.sl 8 tRn (y.runs.flatMap jd++rnH r (η5 []) (η7 []))=dR;refine qw 900 5 901 (d:=ju r.plan.edges) (η:=η5) rfl rfl rfl ?_;refine qw 900 7 902 (d:=jy r.tasks) (η:=η7) rfl rfl rfl ?_;refine WkK.wk (s':=St.of [(6,Bx 600 b6),(8,Bx 800 b8),(9,Bx 900 b9)] [(600,ZYd b6 _),(800,vG b8 _ y.now y.seq y.shelf (ηc 2) dR ηR),(900,ja8 b9 _ r η5 η7)]) (ji [some 600,some 800,some 900] (by simp only [go_sem,jb,ja,jd]<;>and_intros<;>first|rfl|assumption|trivial)) ?_
 refine WkK.of ?_;obtain ⟨t0,ht0,-,h12,-⟩:=jiQ hpf';have hrt:r.tasks.length≤12:=by rw [←hr,vz,jbN];omega
 simp only [go_sem,jb,ja,jd];refine jc (qH r 2 (by omega)) (by simp only [go_sem,ja,jd]) fun ηi=>?_
 simp only [go_sem,ja,jd];refine qd (vn (β:=7000000) Tryz.func213 jdl (by simp) ?_)
 unfold jdB;simp only [go_sem,ja,jd];intro b74;refine jc (jez r.id) (by simp only [go_sem]) fun η=>?_
 simp only [go_sem];obtain ⟨hsn,hs4⟩:=jGa r.id;rw [hsn];have hLY:jCz ⟨y.now,y.seq,y.shelf,y.runs++[r]⟩ r (zY 2 r.tasks)=⟨y.now,(jaH r.plan.prio r.id (zY 2 r.tasks) ((y.shelf[shN r.id]?).getD default,y.seq)).2,y.shelf.set (shN r.id) (jaH r.plan.prio r.id (zY 2 r.tasks) ((y.shelf[shN r.id]?).getD default,y.seq)).1,y.runs++[r]⟩:=rfl;rw [hLY];generalize shN r.id=n at*;have h4:=(yard_iff.1 hok).four;have hq:=(yard_iff.1 hok).seq;have hn:n<y.shelf.length:=by omega
 have h0n:(n:Int)≥0:=by omega
 obtain ⟨l,hl⟩:=je hn;have hll:=zu ht (List.mem_of_getElem? hl);rw [hl,Option.getD_some];have hil:(zY 2 r.tasks).length≤12:=Nat.le_trans (jaD _ _ _) hrt;generalize zY 2 r.tasks=ids at*;refine jp (fun i:Nat×jq=>St.of [(0,Bx 800 b8),(4,Bx 4 b74),(6,Ni n),(12,Hd 56 (ηi 0)),(13,Ni ids.length),(14,Ni i.1)] [(600,ZYd b6 _),(800,vG b8 _ y.now (jaH r.plan.prio r.id (ids.take i.1) (l,y.seq)).2 (y.shelf.set n (jaH r.plan.prio r.id (ids.take i.1) (l,y.seq)).1) i.2 dR ηR),(4,ja8 b74 _ r η5 η7),(56,.loose (jh ids) (ηi 0))]) (fun i=>i.1≤ids.length) (fun i=>ids.length-i.1) (0,ηc 2) (by (try dsimp only);first|omega|(simp;done)|(and_intros<;>first|omega|simp)) (ji [some 600,some 800,some 700000400,some 5600] (by simp only [go_sem,jb,ja,jd,List.take_zero,jjL,jaE hl]<;>and_intros<;>first|rfl|assumption|trivial)) ?_
 rintro ⟨k,η⟩ hk;dsimp only at hk;have hsq:=jd1 r.plan.prio r.id (ids.take k) (l,y.seq);have hle:=jd2 r.plan.prio r.id (ids.take k) (l,y.seq);have hnl:(ids.take k).length=k:=by rw [List.length_take];omega
 dsimp only at hsq hle;by_cases hlt:k<ids.length
 ·have hlt':(k:Int)<ids.length:=by omega
  have h0k:(k:Int)≥0:=by omega
  obtain ⟨x,hx⟩:=je hlt;have hsnoc:=jf7 r.plan.prio r.id (ids.take k) x (l,y.seq);have hnx:ids.take (k+1)=ids.take k++[x]:=by rw [List.take_add_one,hx];rfl
  rw [←hnx] at hsnoc;have hw:IntKind.i64.wrap ((k:Int)+1)=((k+1:Nat):Int):=jj (by omega) (by omega)
  have hw2:IntKind.i64.wrap ((jaH r.plan.prio r.id (ids.take k) (l,y.seq)).2+1)=(jaH r.plan.prio r.id (ids.take k) (l,y.seq)).2+1:=jj (by omega) (by omega)
  generalize hPe:jaH r.plan.prio r.id (ids.take k) (l,y.seq)=P at*;obtain ⟨sh,hsh⟩:∃s,y.shelf.set n P.1=s:=⟨_,rfl⟩;have hSl:sh[n]?=some P.1:=by rw [←hsh];exact List.getElem?_set_self hn
  have hns:n<sh.length:=by rw [←hsh,List.length_set];exact hn
  have hss:∀L,sh.set n L=y.shelf.set n L:=fun L=>by rw [←hsh,List.set_set]
  have hi1:n+1≤(sh.flatMap fun es=>[jk es]).length:=by have:=jaJ hns;rwa [Nat.mul_one] at this
  have ha1:((sh.flatMap fun es=>[jk es]).drop n).take 1=[jk P.1]:=by have:=jbq hSl;rwa [Nat.mul_one] at this
  have hxi:k+1≤(ids.flatMap fun n=>[iv n]).length:=by have:=jm hlt;rwa [Nat.mul_one] at this
  have hxa:((ids.flatMap fun n=>[iv n]).drop k).take 1=[iv x]:=by have:=jn hx;rwa [Nat.mul_one] at this
  rw [hsh];simp only [go_sem,ja,jd,hlt',h0k,hlt,hxa,hxi,Nat.add_zero,hns,Nat.mul_one,ha1,hi1,h0n];refine jc (jaZ P.1 ⟨r.plan.prio,P.2,r.id,x⟩ (by omega)) (by simp only [go_sem,jf,kn hSl]) fun ηp=>?_
  simp only [go_sem,jf,kn hSl];simp only [go_sem,hns,Nat.mul_one,hi1,ha1,h0n,jaW,hw2,hw,hss,Nat.add_zero];refine fun η' hη'=>?_
  exact ⟨(k+1,η'),by (try dsimp only);first|omega|assumption|(and_intros<;>first|omega|assumption),(ji [some 600,some 800,some 4,some 56] (by simp only [go_sem,jb,ja,jd,hsnoc]<;>and_intros<;>first|rfl|assumption|trivial)),by (try dsimp only);omega⟩
 obtain rfl:k=ids.length:=by omega
 have hlt':¬((ids.length:Nat):Int)<ids.length:=by omega
 rw [List.take_length];generalize jaH r.plan.prio r.id ids (l,y.seq)=P at*;simp only [go_sem,hlt',ja,jd];refine kQ ?_;subst hdR;refine WkK.wk (s':=St.of [(6,Bx 600 b6),(7,Ni 0)] [(600,vG b6 _ y.now P.2 (y.shelf.set n P.1) η (.sl 8 tRn (y.runs.flatMap jd++rnH r (η5 []) (η7 []))) ηR),(5,ja8 b74 _ r η5 η7)]) (ji [some 600,some 4] (by simp only [go_sem,ja,jd]<;>and_intros<;>first|rfl|assumption|trivial)) ?_
 refine qF 5 5 901 (d:=ju r.plan.edges) (η:=η5) rfl rfl (by decide) fun _=>?_
 refine qF 5 7 902 (d:=jy r.tasks) (η:=η7) rfl rfl (by decide) fun _=>?_
 refine vi 600 3 (y.runs.length*8+5) 901 (η:=ηR) (η2:=η5) (cs:=r.plan.edges.flatMap jJ) rfl (jrV _ _ 5) (.inr rfl) rfl (by decide) fun ηA _=>?_
 rw [jm0];refine vi 600 3 (y.runs.length*8+7) 902 (η:=ηA) (η2:=η7) (cs:=r.tasks.flatMap jo) rfl (jrV _ _ 7) (.inr rfl) rfl (by decide) fun ηB _=>?_
 rw [jm0];refine WkK.of ?_;have hrow:(List.set (List.set (rnH r (η5 []) (η7 [])) 5 (.sl 2 tEd (r.plan.edges.flatMap jJ))) 7 (.sl 4 tTk (r.tasks.flatMap jo)))=jd r:=rfl;rw [hrow,joD];refine kK _ _ _ _ _ ?_;simp only [go_sem,jb]
theorem jaP {α:Type} {f:α→Nat} (v:α):∀{l:List α} {k:Nat} {x:α},l[k]?=some x→ke f (l.set k v)+f x=ke f l+f v
 |[],_,_,h=>by simp at h
 |y::l,0,x,h=>by
  simp at h;subst h;simp only [ke,List.set_cons_zero,List.map_cons,List.sum_cons];omega
 |y::l,k+1,x,h=>by
  have:=jaP (f:=f) v (l:=l) (k:=k) (by simpa using h)
  simp only [ke,List.set_cons_succ,List.map_cons,List.sum_cons] at this⊢;omega
theorem juR {y:Yd} {r:Rn} {ids:List Int}:jt (jCz y r ids)≤jt y+ids.length:=by
 have h4:∀l:List En,kH l=l.length:=fun _=>rfl
 cases h:y.shelf[shN r.id]? with
 |none=>
  have:y.shelf.set (shN r.id) (jaH r.plan.prio r.id ids ((y.shelf[shN r.id]?).getD default,y.seq)).1=y.shelf:=List.set_eq_of_length_le (List.getElem?_eq_none_iff.1 h);simp only [jt,vP,jCz,this];omega
 |some l=>
  have h1:=jd2 r.plan.prio r.id ids ((y.shelf[shN r.id]?).getD default,y.seq);have h2:=jaP (f:=kH) (jaH r.plan.prio r.id ids ((y.shelf[shN r.id]?).getD default,y.seq)).1 h;simp only [jt,vP,jCz,List.length_set] at*;rw [h4,h4] at h2;rw [h,Option.getD_some] at*;omega
def qr (y:Yd) (k:Nat) (r:Rn):Yd:=jCz ⟨y.now,y.seq,y.shelf,y.runs.set k r⟩ r (jb9 ((y.runs[k]?).getD default).tasks r.tasks r.tasks.length)
def jb5 (l:List Rn) (k:Nat) (row:List D):List D:=(l.take k).flatMap jd++(row++(l.drop (k+1)).flatMap jd)
abbrev rnV (r:Rn) (x5 x7:Value):List D:=[.val (.int .i64 r.id),.val (.int .i64 r.plan.prio),.val (.int .i64 r.plan.most),.val (.int .i64 r.plan.wait),.val (.int .i64 r.plan.tasks),.val x5,.val (.int .i64 r.state),.val x7]
section
variable {l:List Rn} {k:Nat} {r:Rn} {row row':List D}
theorem qT (hk:k<l.length):((l.take k).flatMap jd).length=k*8:=by rw [jhs,List.length_take,Nat.min_eq_left (Nat.le_of_lt hk)]
theorem jmZ (h:l[k]?=some r):l.flatMap jd=jb5 l k (jd r):=jbE (enc:=jd) h
theorem jbi (hk:k<l.length) (j:Nat) (hj:j<row.length):(jb5 l k row)[k*8+j]?=row[j]?:=by
 rw [jb5,List.getElem?_append_right (by rw [qT hk];omega),qT hk,Nat.add_sub_cancel_left,List.getElem?_append_left hj]
theorem jaF (hk:k<l.length) (j:Nat) (hj:j<row.length) (d:D):(jb5 l k row).set (k*8+j) d=jb5 l k (row.set j d):=by
 rw [jb5,List.set_append_right _ _ (by rw [qT hk];omega),qT hk,Nat.add_sub_cancel_left,List.set_append_left _ _ hj];rfl
theorem jvQ (hk:k<l.length) (h8:row.length=8):((jb5 l k row).drop (k*8)).take 8=row:=by
 rw [jb5,List.drop_append_of_le_length (by rw [qT hk];exact Nat.le_refl _),List.drop_eq_nil_of_le (by rw [qT hk];exact Nat.le_refl _),List.nil_append,←h8,List.take_left]
theorem jjG (hk:k<l.length) (h8:row.length=8):(jb5 l k row).length=l.length*8:=by
 have h1:=jhs (l.drop (k+1));rw [List.length_drop] at h1;rw [jb5,List.length_append,List.length_append,qT hk,h1,h8];omega
theorem jyU (hk:k<l.length) (h8:row.length=8) (h8':row'.length=8):kI (jb5 l k row) (k*8) row'=jb5 l k row':=by
 have h1:=qT hk;have h2:=jjG hk h8;rw [qc _ _ _ (by rw [h2,h8'];omega),jb5,List.take_left' h1,h8']
 have:((l.take k).flatMap jd++(row++(l.drop (k+1)).flatMap jd)).drop (k*8+8)=(l.drop (k+1)).flatMap jd:=by
  rw [←List.append_assoc];exact List.drop_left' (by rw [List.length_append,h1,h8])
 rw [this,jb5,List.append_assoc]
theorem joC (hk:k<l.length) (h8:row.length=8):(D.sl 8 tRn (jb5 l k row)).len=l.length:=by
 simp only [D.len,D.cells,D.size,jjG hk h8];exact Nat.mul_div_cancel _ (by decide)
theorem jmY (hk:k<l.length):D.sl 8 tRn (jb5 l k (jd r))=jN (l.set k r):=by
 have h1:(l.set k r)[k]?=some r:=List.getElem?_set_self hk;have h2:=jmZ h1
 have h3:jb5 (l.set k r) k (jd r)=jb5 l k (jd r):=by
  rw [jb5,jb5,List.take_set_of_le (Nat.le_refl _),List.drop_set_of_lt (Nat.lt_succ_self k)]
 rw [jN,h2,h3]
end
theorem jBy {flat:Bool} {p:List Nat} {k n:Nat} {η:jq} {K:jq→Prop} (h:∀η',K η'):stH flat p k n η K:=by
 cases flat with
 |true=>exact h _
 |false=>exact fun η' _=>h η'
theorem jff (r:Rn) (t:Int):(qO r t).tasks.length=r.tasks.length:=by
 unfold qO;split
 ·simp only [jlL,jdi]
 ·rfl
theorem qz (r:Rn) (t:Int):(jK r t).tasks.length=r.tasks.length:=by
 unfold jK;split
 ·unfold jcr
  split
  ·simp only [List.length_set]
  ·simp only [jae,List.length_set]
 ·rfl
theorem RunOkP.le12 {r:Rn} (h:RunOkP r):r.tasks.length≤12:=by
 obtain ⟨n,h1,_,h2,_⟩:=jiQ h.plan;have:=h.len;omega
theorem jCm {was ts:List Tk} {k:Nat} {x z:Tk} (h:ts[k]?=some x) (hz:was[k]?=some z):jx7 was ts k=((x.state==2)&&!(z.state==2)):=by
 have:=(List.getElem?_eq_some_iff.1 hz).1;simp [jx7,vQ h,vQ hz,this]
section
variable {P:Program} {β:Nat} {s:St} {K:St→Prop} {d:Option Nat} {g:Option (Nat×Bool)}
theorem Inl.weak {f:FuncId} {args:List AV} {o:Nat→Ob} {R R':AV→(Nat→Ob)→Prop} (h:Inl P f args o R) (hk:∀av o',R av o'→R' av o'):Inl P f args o R':=
 ⟨h.1,fun B w F xs h1 h2=>(h.2 B w F xs h1 h2).mono fun e w' ⟨v,av,o',F',k1,k2,k3,k4⟩=>⟨v,av,o',F',k1,k2,k3,hk _ _ k4⟩⟩
theorem jmc {f:Nat} {args:List X} {R:AV→(Nat→Ob)→Prop} (h:Inl P f (args.map s.ev) s.o R) (hk:∀av o',R av o'→K (St.put ⟨s.t,o'⟩ d av)):vp P β ⟨d,g,.call f args⟩ s K:=qd (h.weak hk)
theorem qs {f:Nat} {args:List X} {vs:List AV} {R:AV→(Nat→Ob)→Prop} (ha:args.map s.ev=vs) (h:Inl P f vs s.o R) (hk:∀av o',R av o'→K (St.put ⟨s.t,o'⟩ d av)):vp P β ⟨d,g,.call f args⟩ s K:=by subst ha;exact jmc h hk
theorem jor (x:A0):x.sim x=True:=by cases x<;>simp [A0.sim]
theorem jop:∀l:List A0,simL l l=True
 |[]=>rfl
 |x::l=>by simp [simL,jor,jop l]
theorem joo (x:Cell):x.sim x=True:=by cases x<;>simp [Cell.sim,jor]
theorem joq:∀l:List Cell,simC l l=True
 |[]=>rfl
 |x::l=>by simp [simC,joo,joq l]
theorem jU (x:Ob):x.sim x=True:=by cases x<;>simp [Ob.sim,joq]
end
abbrev jF6 (o o':Nat→Ob):Prop:=o' 92=o 92∧o' 93=o 93∧o' 94=o 94∧o' 95=o 95∧o' 96=o 96∧o' 97=o 97
def EpK (P:Program) (f:FuncId) (k:Nat) (t:Int) (y:Yd) (r2:Rn):Prop:=∀(o:Nat→Ob) (b:Nat) (e2 e3:jq),o 90=kw b tYd y.now y.seq y.shelf e2 y.runs e3→
 Inl P f [.c (.ep 90 3 [] (k*8) (e3 [])),Ni t] o fun av o'=>av=.tup []∧o' 90=kw b tYd y.now y.seq y.shelf e2 (y.runs.set k r2) e3∧o' 91=o 91∧jF6 o o'
def jx4 (P:Program) (f:FuncId) (caps:List A0) (H:Ob) (k:Nat) (y:Yd) (r2:Rn):Prop:=∀(o:Nat→Ob) (b:Nat) (e2 e3:jq),o 90=kw b tYd y.now y.seq y.shelf e2 y.runs e3→o 91=H→
 Turns P f ([.c (.ep 90 3 [] (k*8) (e3 []))]++caps.map .c) o fun rt o'=>rt=.tup []∧o' 90=kw b tYd y.now y.seq y.shelf e2 (y.runs.set k r2) e3∧o' 91=H∧jF6 o o'
section
variable {l:List Rn} {k:Nat} {r:Rn}
theorem vO (h:l[k]?=some r):((l.flatMap jd).drop (k*8+7)).take 1=[jy r.tasks]:=vf (enc:=jd) (size:=8) (fun _=>rfl) h (j:=7) (n:=1) (by decide)
theorem jBa (h:l[k]?=some r):((l.flatMap jd).drop (k*8+6)).take 1=[.val (.int .i64 r.state)]:=vf (enc:=jd) (size:=8) (fun _=>rfl) h (j:=6) (n:=1) (by decide)
theorem jF1 (h:l[k]?=some r):((l.flatMap jd).drop (k*8+1)).take 5=ja r.plan:=vf (enc:=jd) (size:=8) (fun _=>rfl) h (j:=1) (n:=5) (by decide)
theorem jF2 (h:l[k]?=some r):((l.flatMap jd).drop (k*8+1+1)).take 1=[.val (.int .i64 r.plan.most)]:=vf (enc:=jd) (size:=8) (fun _=>rfl) h (j:=2) (n:=1) (by decide)
theorem vZ (h:l[k]?=some r):k*8+7+1≤(l.flatMap jd).length:=vd (enc:=jd) (size:=8) (fun _=>rfl) h (j:=7) (n:=1) (by decide)
theorem jAS (h:l[k]?=some r):k*8+6+1≤(l.flatMap jd).length:=vd (enc:=jd) (size:=8) (fun _=>rfl) h (j:=6) (n:=1) (by decide)
theorem jFo (h:l[k]?=some r):k*8+1+5≤(l.flatMap jd).length:=vd (enc:=jd) (size:=8) (fun _=>rfl) h (j:=1) (n:=5) (by decide)
theorem jFp (h:l[k]?=some r):k*8+1+1+1≤(l.flatMap jd).length:=vd (enc:=jd) (size:=8) (fun _=>rfl) h (j:=2) (n:=1) (by decide)
theorem jv2 (h:l[k]?=some r) (v:Int):D.put [] (k*8+6) [.val (.int .i64 v)] (jN l)=jN (l.set k ⟨r.id,r.plan,v,r.tasks⟩):=jbK (enc:=jd) (size:=8) (fun _=>rfl) h (j:=6) rfl (by simp [jd,ja])
theorem qZ (h:l[k]?=some r) {ts:List Tk} {i:Nat} {ds:List D} (hp:D.put [] i ds (jy r.tasks)=jy ts):D.put [k*8+7] i ds (jN l)=jN (l.set k ⟨r.id,r.plan,r.state,ts⟩):=by
 have hk:=(List.getElem?_eq_some_iff.1 h).1;have h7:(l.flatMap jd)[k*8+7]?=some (jy r.tasks):=jqi (j:=7) h (by decide)
 have e:(l.flatMap jd).set (k*8+7) (jy ts)=jb5 l k (jd ⟨r.id,r.plan,r.state,ts⟩):=by
  rw [jmZ h,jaF hk 7 (by simp [jd,ja])];rfl
 rw [←jmY hk,←e];simp only [jN,D.put,h7,hp]
end
theorem jCZ {k t:Nat} {y:Yd} {r:Rn} (hr:y.runs[k]?=some r) (hrun:zx r t=true):EpK Tryz.prog 223 k t y (qO r t):=by
 intro o b10 e2 e3 h10;refine vn (β:=7000000) Tryz.func223 jlR (by simp) ?_
 unfold jlb;obtain ⟨t',x,ht',hx,hs,hP⟩:=jdS hrun;obtain rfl:t=t':=by omega
 obtain ⟨n,hn,hn1,h12,h30,hes,hnd,-⟩:=jiQ hP.plan;have hlen:=hP.len;have hkl:=(List.getElem?_eq_some_iff.1 hr).1;have htl':=(List.getElem?_eq_some_iff.1 hx).1;have h0t:(t:Int)≥0:=by omega
 have hx2:(r.tasks.set t ⟨4,x.need,x.tri,x.til⟩)[t]?=some ⟨4,x.need,x.tri,x.til⟩:=List.getElem?_set_self htl';have htl2:t<(r.tasks.set t ⟨4,x.need,x.tri,x.til⟩).length:=by rw [List.length_set];exact htl'
 have hS:∀r':Rn,(y.runs.set k r')[k]?=some r':=fun r'=>List.getElem?_set_self hkl
 have hr2:=hS ⟨r.id,r.plan,r.state,r.tasks.set t ⟨4,x.need,x.tri,x.til⟩⟩;have hr3:=hS ⟨r.id,r.plan,r.state,r.tasks.set t ⟨4,x.need,x.tri,0⟩⟩;simp only [go_sem,h10,Nat.add_zero,htl',h0t,vO hr,vZ hr,kt hr,qZ hr (jbu hx 4),qZ hr (jac hx 4),vM hx,qQ hx,jaz hx,zG hx,htl2,vO hr2,vZ hr2,kt hr2,jkD hx2,jxP hx2,qZ hr2 (jfg hx2 0),List.set_set,jF1 hr3,jFo hr3,ja,kh hr3];refine jc (jkp r.plan t hP.plan) (by simp only [go_sem,jd,ja,jnE hr3,kh hr3]) fun ηb=>?_
 simp only [go_sem,jd,ja,jnE hr3,kh hr3];have hbl:=jsF hn h12 h30 t;have hlD:(jdj r.plan r.tasks t x).length=r.tasks.length:=jdi _ _ _ _;have hR:qO r t=jlL r t x:=jkb hx hrun;generalize hts:r.tasks.set t ⟨4,x.need,x.tri,0⟩=ts0 at*;have htl:ts0.length=r.tasks.length:=by rw [←hts,List.length_set]
 have hdn:jdj r.plan r.tasks t x=(jhe r.plan t).foldl jb2 ts0:=by rw [←hts];rfl
 refine jp (fun i:Nat=>St.of [(0,.c (.ep 90 3 [] (k*8) (e3 []))),(26,Hd 26 (ηb 0)),(27,Ni (jhe r.plan t).length),(28,Ni i)] [(90,kw b10 tYd y.now y.seq y.shelf e2 (y.runs.set k ⟨r.id,r.plan,r.state,((jhe r.plan t).take i).foldl jb2 ts0⟩) e3),(91,o 91),(92,o 92),(93,o 93),(94,o 94),(95,o 95),(96,o 96),(97,o 97),(26,.loose (jh (jhe r.plan t)) (ηb 0))]) (fun i=>i≤(jhe r.plan t).length) (fun i=>(jhe r.plan t).length-i) 0 (by (try dsimp only);first|omega|(simp;done)|(and_intros<;>first|omega|simp)) (ji [some 90,some 91,some 92,some 93,some 94,some 95,some 96,some 97,some 700002600] (by simp only [go_sem,jd,ja,List.take_zero,List.foldl_nil,jU]<;>and_intros<;>first|rfl|assumption|trivial)) ?_
 rintro j hj;by_cases hlt:j<(jhe r.plan t).length
 ·have hlt':(j:Int)<(jhe r.plan t).length:=by omega
  obtain ⟨v,hv⟩:=je hlt;have hvb:=jxJ hn (List.mem_of_getElem? hv);have hfl:=jgg ((jhe r.plan t).take j) ts0;have hft:=jmu hv ts0;generalize ((jhe r.plan t).take j).foldl jb2 ts0=ts at*;have hvl:v.toNat<ts.length:=by omega
  have hv0:=hvb.1;obtain ⟨z,hz0⟩:=je hvl;have hw:IntKind.i64.wrap ((j:Int)+1)=((j+1:Nat):Int):=jj (by omega) (by omega)
  rw [jrF hz0] at hft;generalize hnd':IntKind.i64.wrap (z.need-1)=nd at*;have hy1:(ts.set v.toNat ⟨z.state,nd,z.tri,z.til⟩)[v.toNat]?=some ⟨z.state,nd,z.tri,z.til⟩:=List.getElem?_set_self hvl;have q1:=hS ⟨r.id,r.plan,r.state,ts⟩;have q2:=hS ⟨r.id,r.plan,r.state,ts.set v.toNat ⟨z.state,nd,z.tri,z.til⟩⟩;cases hz:nd==0
  ·have hz':¬nd=0:=by simpa using hz
   rw [if_neg hz'] at hft;simp only [go_sem,jd,ja,Nat.add_zero,hlt,hlt',jn hv,jm hlt,vO q1,vZ q1,kt q1,hvl,hv0,jsK hz0,jsh hz0,hnd',qZ q1 (jv1 hz0 nd),List.set_set,vO q2,vZ q2,kt q2,jsK hy1,jsh hy1,hz,hw];exact ⟨j+1,by (try dsimp only);first|omega|assumption|(and_intros<;>first|omega|assumption),(ji [some 90,some 91,some 92,some 93,some 94,some 95,some 96,some 97,some 26] (by simp only [go_sem,jd,ja,hft,jU]<;>and_intros<;>first|rfl|assumption|trivial)),by (try dsimp only);omega⟩
  ·have hz':nd=0:=by simpa using hz
   rw [if_pos hz'] at hft;simp only [go_sem,jd,ja,Nat.add_zero,hlt,hlt',jn hv,jm hlt,vO q1,vZ q1,kt q1,hvl,hv0,jsK hz0,jsh hz0,hnd',qZ q1 (jv1 hz0 nd),List.set_set,vO q2,vZ q2,kt q2,jsK hy1,jsh hy1,hz,vM hy1,qQ hy1,qZ q2 (jbu hy1 2),qZ q2 (jac hy1 2),hw];exact ⟨j+1,by (try dsimp only);first|omega|assumption|(and_intros<;>first|omega|assumption),(ji [some 90,some 91,some 92,some 93,some 94,some 95,some 96,some 97,some 26] (by simp only [go_sem,jd,ja,hft,jU]<;>and_intros<;>first|rfl|assumption|trivial)),by (try dsimp only);omega⟩
 have hlt':¬(j:Int)<(jhe r.plan t).length:=by omega
 rw [List.take_of_length_le (by omega)]
 rw [hR,←hdn];have hrr:jlL r t x=⟨r.id,r.plan,if (zY 4 (jdj r.plan r.tasks t x)).length=r.tasks.length then 2 else r.state,jdj r.plan r.tasks t x⟩:=rfl
 rw [hrr];generalize jdj r.plan r.tasks t x=tD at*;have q3:=hS ⟨r.id,r.plan,r.state,tD⟩;simp only [go_sem,jd,ja,Nat.add_zero,hlt',jlW q3,jgc q3,vO q3,vZ q3,kt q3,kx q3,kh q3];refine jc (qH ⟨r.id,r.plan,r.state,tD⟩ 4 (by simp only;omega)) (by simp only [go_sem,jd,ja,kh q3,kx q3,kt q3]) fun η=>?_
 simp only [go_sem,jd,ja,kh q3,kx q3,kt q3];rw [←hlD];generalize hq:(zY 4 tD).length=q at*;cases he:(q:Int)==(tD.length:Int)
 ·have he':¬q=tD.length:=jwT he
  rw [if_neg he'];simp only [go_sem,jd,ja,Nat.add_zero,he,hq];exact ⟨rfl,rfl,rfl,rfl,rfl,rfl⟩
 ·have he':q=tD.length:=jwS he
  rw [if_pos he'];simp only [go_sem,jd,ja,Nat.add_zero,he,hq,jBa q3,jAS q3,jv2 q3,List.set_set];exact ⟨rfl,rfl,rfl,rfl,rfl,rfl⟩
section
variable {s:St} {K:St→Prop}
theorem ju0 (g c sz lo n:Nat) (p:List Nat) (x:Value) (l:List A0) (R:List Cell→St→Prop):kL s (.hs g c p x sz lo n::l) R=kL s l (fun cs s'=>R (.a (.hs g c p x sz lo n)::cs) s'):=by simp [kL,A0.one]
theorem jrE {w:World} {d:D} {u:Value} {S:List Nat} (hd:d.isSl=true) (hs:0<d.size) (h:Rep w true d u S):jjC u d.size 0 d.len=u:=by
 cases d with
 |val _=>cases hd
 |sl size ty cs=>
  obtain ⟨vs,T,S',hr,hl,_⟩:=h;have hlen:=RepL.length _ hl;rcases qP hr with ⟨rfl,rfl⟩|⟨g,n,c,rfl,_,h3,_⟩
  ·have:cs=[]:=List.eq_nil_of_length_eq_zero (by simpa using hlen.symm)
   subst this;simp [jjC,D.len,D.cells,D.size]
  ·have e:(D.sl size ty cs).len=n:=by
    simp only [D.len,D.cells,D.size];rw [←hlen,h3];exact Nat.mul_div_cancel _ hs
   rw [e];simp only [jjC,Nat.zero_mul,Nat.sub_zero];split
   ·rfl
   ·simp [Addr.add_lit]
theorem jle {B:Nat} {w:World} {a a':A0} (h:∀u,A0Rel B w a u→A0Rel B w a' u):∀{c:Nat} {l:List Cell} {us:List Value} {S:List Nat},CRel B w l us S→l[c]?=some (.a a)→CRel B w (l.set c (.a a')) us S
 |_,[],_,_,_,hc=>by simp at hc
 |0,.a x::l,_,S,⟨v,us',e,h1,h2⟩,hc=>by
  simp at hc;subst hc;exact ⟨v,us',e,h _ h1,h2⟩
 |0,.own e ε::l,_,_,_,hc=>by simp at hc
 |c+1,.a x::l,_,S,⟨v,us',e,h1,h2⟩,hc=>by
  simp at hc;exact ⟨v,us',e,h1,jle h h2 hc⟩
 |c+1,.own e ε::l,_,_,⟨v,us',T1,T2,e1,e2,h1,h2,h3,h4⟩,hc=>by
  simp at hc;exact ⟨v,us',T1,T2,e1,e2,h1,h2,h3,jle h h4 hc⟩
theorem jn6 (g c:Nat) {b ty:Nat} {cs:List Cell} {a a':A0} (hb:s.o g=.box b ty cs) (hc:cs[c]?=some (.a a)) (h:∀(B N:Nat) (w0 w:World) (act:Act) (F:Nat→List Nat),RelF B w0 N s act w F→∀u,A0Rel B w a u→A0Rel B w a' u) (hk:WkK (s.setO g (.box b ty (cs.set c (.a a')))) K):WkK s K:=by
 intro B N w0 w act F hr;have h4:=hr.ob g;rw [hb] at h4;obtain ⟨us,S1,q1,q2,q3⟩:=h4;refine hk _ _ _ _ _ _ (hr.setO (g:=g) (ob:=.box b ty (cs.set c (.a a'))) (S:=F g) ⟨us,S1,q1,jle (h _ _ _ _ _ _ hr) q2 hc,q3⟩ (hr.fr g) fun g' hg' x hx hx'=>hr.dj g' g hg' x hx' hx)
theorem jjT (g c g2:Nat) {b ty:Nat} {cs:List Cell} {d:D} {η:jq} (hb:s.o g=.box b ty cs) (hc:cs[c]?=some (.own d η)) (h2:s.o g2=.none) (hne:g2≠g) (hsz:0<d.size)
 (hk:WkK (((s.rm g c).setO g2 (.loose d η)).setO g (.box b ty (cs.set c (.a (.hs g2 0 [] (η []) d.size 0 d.len))))) K):WkK s K:=by
 have hcl:=(List.getElem?_eq_some_iff.1 hc).1;have ho:(s.o g).own c=some (d,η):=by rw [hb];simp [Ob.own,hc]
 refine qF g c g2 ho h2 hne fun hone=>?_
 have hrm:(s.rm g c).o g=.box b ty (cs.set c (.a (.v (η [])))):=by
  show (if g=g then (s.o g).rm c else _)=_
  rw [if_pos rfl,hb];simp only [Ob.rm,hc,rmC]
 refine jn6 g c (a:=.v (η [])) (b:=b) (ty:=ty) (cs:=cs.set c (.a (.v (η [])))) (by
  show (if g=g2 then _ else (s.rm g c).o g)=_
  rw [if_neg (Ne.symm hne)];exact hrm) (List.getElem?_set_self hcl) (a':=.hs g2 0 [] (η []) d.size 0 d.len) (fun B N w0 w act F hr u hu=>?_) ?_
 ·have h3:=hr.ob g2
  have e:((s.rm g c).setO g2 (.loose d η)).o g2=.loose d η:=by show (if g2=g2 then _ else _)=_;rw [if_pos rfl]
  rw [e] at h3;obtain ⟨k1,u',k2,k3⟩:=h3;have e2:η []=u':=by rw [k3,zT k1]
  have hu':u=η []:=hu;rw [hu'];exact ⟨.inl (by rw [e2,jrE k1 hsz k2]),hone⟩
 ·rw [List.set_set];exact hk
theorem jfJ (g c g2:Nat) {g3 sz n b ty:Nat} {cs:List Cell} {d:D} {η:jq} {x:Value} (hb:s.o g=.box b ty cs) (hc:cs[c]?=some (.a (.hs g3 0 [] x sz 0 n))) (hx:x=η []) (hs:sz=d.size) (hn:n=d.len) (h2:s.o g2=.loose d η) (hsz:0<d.size)
 (hk:WkK (((s.setO g (.box b ty (cs.set c (.a (.v (η [])))))).setO g2 .none).setO g (.box b ty (cs.set c (.own d η)))) K):WkK s K:=by
 have hcl:=(List.getElem?_eq_some_iff.1 hc).1;have hne:g2≠g:=fun e=>by rw [e,hb] at h2;cases h2
 subst hx hs hn;refine jn6 g c (a:=.hs g3 0 [] (η []) d.size 0 d.len) hb hc (a':=.v (η [])) (fun B N w0 w act F hr u hu=>?_) ?_
 ·have h3:=hr.ob g2
  rw [h2] at h3;obtain ⟨k1,u',k2,k3⟩:=h3;have e2:η []=u':=by rw [k3,zT k1]
  obtain ⟨h5,_⟩:=hu;have h5:=h5.resolve_right fun h=>absurd h.1 (Nat.lt_irrefl 0)
  show u=η [];rw [h5,e2,jrE k1 hsz k2]
 ·refine qw g c g2 (b:=b) (ty:=ty) (cs:=cs.set c (.a (.v (η [])))) (d:=d) (η:=η) (by show (if g=g then _ else _)=_;rw [if_pos rfl]) (List.getElem?_set_self hcl) (by show (if g2=g then _ else s.o g2)=_;rw [if_neg hne];exact h2) ?_
  rw [List.set_set];exact hk
end
attribute [go_sem] ju0
theorem jfa {α:Type} (f:α→Nat) (m:Nat):∀l:List α,(∀x∈l,f x≤m)→ke f l≤m*l.length
 |[],_=>by simp [ke]
 |x::l,h=>by
  have h1:=h x (by simp)
  have h2:=jfa f m l fun x hx=>h x (by simp [hx])
  simp only [ke,List.map_cons,List.sum_cons,List.length_cons,Nat.mul_succ] at h2⊢;omega
theorem YardOkP.small {y:Yd} (h:YardOkP y):jt y≤700:=by
 have h1:=jfa kH 80 y.shelf fun l hl=>(h.shelves l hl).most
 have h2:=jfa kq 42 y.runs fun r hr=>by
  have hR:=h.right r hr;obtain ⟨n,hn,_,h12,h30,_⟩:=jiQ hR.plan;have:=hR.len;have h30':r.plan.edges.length≤30:=h30;simp only [kq,jah];omega
 have h3:=h.four;have h4:=h.eight;simp only [jt,vP,qx];omega
end Go.Proofs.YtmnpailnelmpiaaGreat
