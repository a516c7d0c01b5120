/- Parts. -/
import Derived.Test.YtmnpailnelmpiaaQRunP
import Derived.Test.YtmnpailnelmpiaaQW
set_option linter.unusedSimpArgs false
set_option linter.unusedVariables false
namespace Go.Proofs.Ytmnpailnelmpiaa
open Go.RowKit Go.Sort
def jb0:List UInt8→Nat
 |[]=>0
 |b::l=>b.toNat%128+128*jb0 l
def ja8:List UInt8→Bool
 |[]=>false
 |[b]=>decide (b.toNat<128)
 |b::c::l=>decide (128≤b.toNat)&&ja8 (c::l)
theorem jgC {v:Nat} (h:v<128):kS v=[UInt8.ofNat v]:=by unfold kS;rw [if_pos h]
theorem jiU {v:Nat} (h:¬v<128):kS v=UInt8.ofNat (128+v%128)::kS (v/128):=by rw [kS,if_neg h]
theorem jc2 (v:Nat):kS v≠ []:=by
 by_cases h:v<128
 ·rw [jgC h];simp
 ·rw [jiU h];simp
theorem jmB (v:Nat):ja8 (kS v)=true∧jb0 (kS v)=v:=by
 induction v using Nat.strongRecOn with
 |_ v ih=>
  by_cases h:v<128
  ·rw [jgC h]
   have:(UInt8.ofNat v).toNat=v:=by simp [Nat.mod_eq_of_lt (show v<256 by omega)]
   simp only [ja8,jb0,this,decide_eq_true_eq];omega
  ·rw [jiU h]
   obtain ⟨h1,h2⟩:=ih (v/128) (by omega)
   have hb:(UInt8.ofNat (128+v%128)).toNat=128+v%128:=by simp [Nat.mod_eq_of_lt (show 128+v%128<256 by omega)]
   refine ⟨?_,by simp only [jb0,hb,h2];omega⟩
   cases hl:kS (v/128) with
   |nil=>exact absurd hl (jc2 _)
   |cons c l=>rw [hl] at h1;simp only [ja8,hb,Bool.and_eq_true,decide_eq_true_eq];exact ⟨by omega,h1⟩
theorem jhe:∀l:List UInt8,ja8 l=true→(kS (jb0 l)).length≤l.length∧((kS (jb0 l)).length=l.length→kS (jb0 l)=l)
 |[],h=>by simp [ja8] at h
 |[b],h=>by
  have hb:b.toNat<128:=by simpa [ja8] using h
  have e:jb0 [b]=b.toNat:=by simp only [jb0];omega
  rw [e,jgC hb];exact ⟨by simp,fun _=>by simp⟩
 |b::c::l,h=>by
  simp only [ja8,Bool.and_eq_true,decide_eq_true_eq] at h;obtain ⟨h1,h2⟩:=jhe (c::l) h.2;have hb:=h.1;have hb2:=b.toNat_lt;have e:jb0 (b::c::l)=b.toNat%128+128*jb0 (c::l):=rfl;by_cases hz:jb0 (b::c::l)<128
  ·rw [jgC hz];exact ⟨by simp,fun hl=>by simp at hl⟩
  ·have e1:jb0 (b::c::l)/128=jb0 (c::l):=by omega
   have e2:128+jb0 (b::c::l)%128=b.toNat:=by omega
   rw [jiU hz,e1,e2];refine ⟨by simp only [List.length_cons] at h1⊢;omega,fun hl=>?_⟩
   rw [h2 (by simpa using hl)]
   simp
def vGo:Nat→List UInt8→Nat→Nat→Option (Nat×Nat)
 |0,_,_,_=>none
 |_+1,[],_,_=>none
 |f+1,b::l,n,i=>if b.toNat<128 then (if n+b.toNat%128*128^i≤1000000000∧(kS (n+b.toNat%128*128^i)).length=i+1 then some (n+b.toNat%128*128^i,i+1) else none)
  else vGo f l (n+b.toNat%128*128^i) (i+1)
theorem vE (l:List UInt8) (b:UInt8):jb0 (l++[b])=jb0 l+b.toNat%128*128^l.length:=by
 induction l with
 |nil=>simp [jb0]
 |cons c l ih=>
  simp only [List.cons_append,jb0,ih,List.length_cons,Nat.pow_succ];generalize b.toNat%128=q;generalize 128^l.length=z;rw [Nat.mul_add,←Nat.add_assoc,Nat.mul_left_comm 128 q z,Nat.mul_comm 128 z]
theorem jfd:∀(l:List UInt8) (b:UInt8),(∀c∈l,128≤c.toNat)→b.toNat<128→ja8 (l++[b])=true
 |[],b,_,hb=>by simpa [ja8] using hb
 |[c],b,h,hb=>by have:=h c (by simp);simp [ja8,hb,this]
 |c::d::l,b,h,hb=>by
  have:=jfd (d::l) b (fun x hx=>h x (by simp [hx])) hb
  have h1:=h c (by simp)
  simp only [List.cons_append,ja8,Bool.and_eq_true,decide_eq_true_eq] at this⊢;exact ⟨h1,this⟩
theorem jqM:∀(f:Nat) (l p:List UInt8) (v k:Nat),(∀c∈p,128≤c.toNat)→vGo f l (jb0 p) p.length=some (v,k)→v≤1000000000∧∃r,p++l=kS v++r∧k=(kS v).length
 |0,_,_,_,_,_,h=>by simp [vGo] at h
 |_+1,[],_,_,_,_,h=>by simp [vGo] at h
 |f+1,b::l,p,v,k,hp,h=>by
  simp only [vGo] at h;split at h
  ·rename_i hb
   split at h
   ·rename_i hc
    simp only [Option.some.injEq,Prod.mk.injEq] at h;obtain ⟨rfl,rfl⟩:=h;rw [←vE] at hc⊢;have hg:=jfd p b hp hb;have:=(jhe _ hg).2 (by rw [hc.2];simp)
    exact ⟨hc.1,l,by rw [this];simp,hc.2.symm⟩
   ·simp at h
  ·rename_i hb
   rw [←vE] at h;have e:p.length+1=(p++[b]).length:=by simp
   rw [e] at h
   obtain ⟨h1,r,h2,h3⟩:=jqM f l (p++[b]) v k (fun c hc=>by
    rcases List.mem_append.1 hc with hc|hc
    ·exact hp c hc
    ·simp at hc;subst hc;omega) h
   exact ⟨h1,r,by rw [←h2];simp,h3⟩
theorem jo8 {v:Nat} (h:v≤1000000000):(kS v).length≤5:=by
 have:=jbD (v:Int)
 rwa [jai h] at this
theorem jgs:∀l:List UInt8,ja8 l=true→∃p b,l=p++[b]∧(∀c∈p,128≤c.toNat)∧b.toNat<128
 |[],h=>by simp [ja8] at h
 |[b],h=>⟨[],b,rfl,by simp,by simpa [ja8] using h⟩
 |b::c::l,h=>by
  simp only [ja8,Bool.and_eq_true,decide_eq_true_eq] at h;obtain ⟨p,d,h1,h2,h3⟩:=jgs (c::l) h.2
  exact ⟨b::p,d,by rw [h1];rfl,fun x hx=>by
   rcases List.mem_cons.1 hx with rfl|hx
   ·exact h.1
   ·exact h2 x hx,h3⟩
theorem jiV:∀(f:Nat) (q p l:List UInt8) (b:UInt8),(∀c∈q,128≤c.toNat)→b.toNat<128→q.length+1≤f→
 vGo f (q++b::l) (jb0 p) p.length=if jb0 (p++q++[b])≤1000000000∧(kS (jb0 (p++q++[b]))).length=p.length+q.length+1 then some (jb0 (p++q++[b]),p.length+q.length+1) else none
 |0,_,_,_,_,_,_,h=>by omega
 |f+1,[],p,l,b,_,hb,_=>by
  simp only [List.nil_append,vGo,if_pos hb,List.append_nil,←vE,List.length_nil,Nat.add_zero]
 |f+1,c::q,p,l,b,hq,hb,hf=>by
  have hc:=hq c (by simp)
  have:=jiV f q (p++[c]) l b (fun x hx=>hq x (by simp [hx])) hb (by simp at hf;omega)
  simp only [List.cons_append,vGo,if_neg (show¬c.toNat<128 by omega),←vE]
  rw [show p.length+1=(p++[c]).length by simp,this]
  have e1:p++[c]++q++[b]=p++c::q++[b]:=by simp
  have e2:(p++[c]).length+q.length+1=p.length+(c::q).length+1:=by simp;omega
  rw [e1,e2]
def vS (l:List UInt8):Option (Nat×Nat):=vGo 5 l 0 0
theorem qN {l:List UInt8} {v k:Nat} (h:vS l=some (v,k)):v≤1000000000∧∃r,l=kS v++r∧k=(kS v).length:=by
 obtain ⟨h1,r,h2,h3⟩:=jqM 5 l [] v k (by simp) h
 exact ⟨h1,r,h2,h3⟩
theorem jhA {v:Nat} (h:v≤1000000000) (r:List UInt8):vS (kS v++r)=some (v,(kS v).length):=by
 obtain ⟨h1,h2⟩:=jmB v;obtain ⟨p,b,h3,h4,h5⟩:=jgs _ h1;have h6:=jo8 h;have e:kS v++r=p++b::r:=by rw [h3];simp
 have h7:(kS v).length=p.length+1:=by rw [h3];simp
 have:=jiV 5 p [] r b h4 h5 (by omega)
 rw [vS,e];simp only [List.nil_append,List.length_nil,Nat.zero_add] at this;rw [←h3,h2] at this;rw [show vGo 5 (p++b::r) 0 0=vGo 5 (p++b::r) (jb0 []) 0 from rfl,this,if_pos ⟨h,by rw [h7]⟩,h7]
def vAt (s:ByteArray) (k:Int):Int×Int:=if k<0 then (0,-1) else match vS (s.data.toList.drop k.toNat) with
 |some (v,m)=>((v:Int),k+(m:Int))
 |none=>(0,-1)
def enI (e:En):List Int:=[e.prio,e.seq,e.run,e.task]
def edI (e:Ed):List Int:=[e.src,e.dst]
def tkI (t:Tk):List Int:=[t.state,t.need,t.tri,t.til]
def plI (p:Pl):List Int:=[p.prio,p.most,p.wait,p.tasks,(p.edges.length:Int)]++p.edges.flatMap edI
def rnI (r:Rn):List Int:=(r.id::plI r.plan)++(r.state::r.tasks.flatMap tkI)
def shI (l:List En):List Int:=(l.length:Int)::l.flatMap enI
def zw (y:Yd):List Int:=([y.now,y.seq]++y.shelf.flatMap shI)++((y.runs.length:Int)::y.runs.flatMap rnI)
noncomputable def jae (y:Yd):ByteArray:=if jG y=true then kB (zw y) else ⟨⟨[]⟩⟩
theorem jjQ {α β:Type} {f:α→List β} {c:Nat}:∀{L:List α},(∀x∈L,(f x).length≤c)→(L.flatMap f).length≤c*L.length
 |[],_=>by simp
 |x::L,h=>by
  have h1:=h x (by simp)
  have h2:=jjQ (L:=L) (c:=c) fun y hy=>h y (by simp [hy])
  rw [List.flatMap_cons,List.length_append,List.length_cons,Nat.mul_succ];omega
theorem zn {α β:Type} {f:α→List β} {c:Nat} {L:List α} (h:∀x∈L,(f x).length≤c) (k:Nat):((L.take k).flatMap f).length≤c*L.length:=by
 have h1:=jjQ (L:=L.take k) (c:=c) fun y hy=>h y (List.mem_of_mem_take hy)
 have h2:(L.take k).length≤L.length:=by rw [List.length_take];omega
 exact Nat.le_trans h1 (Nat.mul_le_mul_left _ h2)
theorem jfh {α β:Type} {f:α→List β} {L:List α} {k:Nat} {x:α} (h:L[k]?=some x):(L.take (k+1)).flatMap f=(L.take k).flatMap f++f x:=by
 rw [List.take_add_one,h];simp
theorem jqW {p:Pl} (h:p.edges.length≤30):(plI p).length≤65:=by
 have:=jjQ (f:=edI) (c:=2) (L:=p.edges) fun _ _=>Nat.le_refl 2
 simp only [plI,List.length_append,List.length_cons,List.length_nil];omega
theorem jqR {r:Rn} (h:RunOkP r):(rnI r).length≤120:=by
 obtain ⟨n,hn,hn1,h12,h30,-⟩:=jnx h.plan;have h1:=jqW h30;have h2:=jjQ (f:=tkI) (c:=4) (L:=r.tasks) fun _ _=>Nat.le_refl 4
 have h3:=h.len;simp only [rnI,List.length_append,List.length_cons];omega
theorem jqP {l:List En} (h:jbC l):(shI l).length≤330:=by
 have:=jjQ (f:=enI) (c:=4) (L:=l) fun _ _=>Nat.le_refl 4
 have:=h.most;simp only [shI,List.length_cons];omega
theorem jo1 {y:Yd} (h:YardOkP y):(zw y).length≤3000:=by
 have h1:=jjQ (f:=shI) (c:=330) (L:=y.shelf) fun l hl=>jqP (h.shelves l hl)
 have h2:=jjQ (f:=rnI) (c:=120) (L:=y.runs) fun r hr=>jqR (h.right r hr)
 have h3:=h.four;have h4:=h.eight;simp only [zw,List.length_append,List.length_cons,List.length_nil];omega
theorem joZ (y:Yd):(jae y).size≤15000:=by
 unfold jae;split
 ·rename_i h
  have h1:=jo1 (yard_iff.1 h);have h2:=jgB (zw y);rw [jc1];omega
 ·exact Nat.zero_le _
theorem jhB {l:List UInt8} {v k:Nat} (h:vS l=some (v,k)):0<k∧k≤l.length:=by
 obtain ⟨_,r,h1,h2⟩:=qN h;have:=List.length_pos_iff.2 (jc2 v);rw [h1,List.length_append];omega
def rvF:Nat→List UInt8→Option (List Int)
 |_,[]=>some []
 |0,_::_=>none
 |f+1,b::l=>match vS (b::l) with
  |some (v,k)=>(rvF f ((b::l).drop k)).map fun r=>(v:Int)::r
  |none=>none
def qG (n:Int):Prop:=0≤n∧n≤1000000000
theorem jj8 {n:Int} (h:qG n):∃v:Nat,n=v∧v≤1000000000∧(zy n).data.toList=kS v:=by
 obtain ⟨v,rfl⟩:=Int.eq_ofNat_of_zero_le h.1;have h2:=h.2;exact ⟨v,rfl,by omega,by rw [jai (by omega)]⟩
theorem zd (n:Int) (l:List Int):kG (n::l)=(zy n).data.toList++kG l:=by simp [kG]
theorem jgJ:∀(L:List Int) (f:Nat),(∀n∈L,qG n)→(kG L).length≤f→rvF f (kG L)=some L
 |[],f,_,_=>by cases f<;>simp [kG,rvF]
 |n::L,f,h,hf=>by
  obtain ⟨v,rfl,hv,e⟩:=jj8 (h n (by simp))
  have hne:=jc2 v;rw [zd,e] at hf⊢;rw [List.length_append] at hf;have hp:=List.length_pos_iff.2 hne;obtain ⟨f,rfl⟩:∃g,f=g+1:=⟨f-1,by omega⟩
  cases hl:kS v++kG L with
  |nil=>simp [hne] at hl
  |cons b l=>
   have hh:=jhA hv (kG L);rw [hl] at hh;simp only [rvF,hh];have hd:(b::l).drop (kS v).length=kG L:=by rw [←hl];simp
   rw [hd,jgJ L f (fun m hm=>h m (by simp [hm])) (by omega)]
   rfl
theorem jet:∀(f:Nat) (l:List UInt8) (L:List Int),rvF f l=some L→l=kG L∧∀n∈L,qG n
 |0,[],L,h=>by simp [rvF] at h;subst h;simp [kG]
 |_+1,[],L,h=>by simp [rvF] at h;subst h;simp [kG]
 |0,_::_,L,h=>by simp [rvF] at h
 |f+1,b::l,L,h=>by
  simp only [rvF] at h;cases hv:vS (b::l) with
  |none=>rw [hv] at h;simp at h
  |some p=>
   obtain ⟨v,k⟩:=p;rw [hv] at h;simp only [Option.map_eq_some_iff] at h;obtain ⟨r,h1,rfl⟩:=h;obtain ⟨h2,h3⟩:=jet f _ _ h1;obtain ⟨h4,q,h5,rfl⟩:=qN hv;refine ⟨?_,fun n hn=>?_⟩
   ·rw [zd,jai h4,←h2,h5];simp
   ·rcases List.mem_cons.1 hn with rfl|hn
    ·exact ⟨by omega,by omega⟩
    ·exact h3 n hn
section
variable {σ:Type}
def RdSeq (nx:σ→Int×σ) (bd:σ→Bool):σ→List Int→σ→Prop
 |s,[],s'=>s'=s
 |s,x::l,s'=>bd s=false∧(nx s).1=x∧RdSeq nx bd (nx s).2 l s'
variable {nx:σ→Int×σ} {bd:σ→Bool} {sb:σ→σ}
theorem RdSeq.app:∀{l m:List Int} {s s' s'':σ},RdSeq nx bd s l s'→RdSeq nx bd s' m s''→RdSeq nx bd s (l++m) s''
 |[],_,_,_,_,h,h'=>by rw [show _=_ from h] at h';exact h'
 |_::_,_,_,_,_,⟨h1,h2,h3⟩,h'=>⟨h1,h2,h3.app h'⟩
theorem RdSeq.split:∀{l m:List Int} {s s'':σ},RdSeq nx bd s (l++m) s''→∃s',RdSeq nx bd s l s'∧RdSeq nx bd s' m s''
 |[],_,s,_,h=>⟨s,rfl,h⟩
 |_::_,_,_,_,⟨h1,h2,h3⟩=>by
  obtain ⟨s',h4,h5⟩:=RdSeq.split h3;exact ⟨s',⟨h1,h2,h4⟩,h5⟩
def kb {α:Type} (bd:σ→Bool) (rd:σ→α×σ):Nat→List α×σ→List α×σ
 |0,s=>s
 |n+1,s=>if bd s.2=true then s else kb bd rd n (s.1++[(rd s.2).1],(rd s.2).2)
theorem qy {α:Type} {rd:σ→α×σ} {s:List α×σ} (h:bd s.2=true):∀n,kb bd rd n s=s
 |0=>rfl
 |n+1=>by rw [kb,if_pos h]
theorem vz {α:Type} {rd:σ→α×σ} {pr:α→List Int} (hne:∀x,pr x≠ []) (ok:α→Prop) (h:∀x s s',ok x→RdSeq nx bd s (pr x) s'→rd s=(x,s')):
 ∀(l:List α) (acc:List α) (s s':σ),(∀x∈l,ok x)→RdSeq nx bd s (l.flatMap pr) s'→kb bd rd l.length (acc,s)=(acc++l,s')
 |[],acc,s,s',_,h'=>by simp only [List.length_nil,kb,List.append_nil];rw [show s'=s from h']
 |x::l,acc,s,s',ho,h'=>by
  rw [List.flatMap_cons] at h';obtain ⟨s1,h1,h2⟩:=h'.split;have e:=h x s s1 (ho x (by simp)) h1
  have hb:bd s=false:=by
   cases hx:pr x with
   |nil=>exact absurd hx (hne x)
   |cons a m=>rw [hx] at h1;exact h1.1
  rw [List.length_cons,kb,if_neg (by rw [hb];decide),e,vz hne ok h l _ s1 s' (fun z hz=>ho z (by simp [hz])) h2]
  simp
theorem jc5 {α:Type} {rd:σ→α×σ} {pr:α→List Int} (hbad:∀s,bd s=true→bd (rd s).2=true) (h:∀s,bd (rd s).2=false→RdSeq nx bd s (pr (rd s).1) (rd s).2):
 ∀(n:Nat) (acc:List α) (s:σ),bd (kb bd rd n (acc,s)).2=false→∃l,l.length=n∧(kb bd rd n (acc,s)).1=acc++l∧RdSeq nx bd s (l.flatMap pr) (kb bd rd n (acc,s)).2
 |0,acc,s,_=>⟨[],rfl,by simp [kb],rfl⟩
 |n+1,acc,s,hb=>by
  rw [kb] at hb⊢;by_cases h0:bd s=true
  ·rw [if_pos h0] at hb;simp only at hb;rw [h0] at hb;cases hb
  ·rw [if_neg h0] at hb⊢
   have h1:bd (rd s).2=false:=by
    cases hq:bd (rd s).2 with
    |false=>rfl
    |true=>rw [qy (by exact hq)] at hb;simp only at hb;rw [hq] at hb;cases hb
   obtain ⟨l,e1,e2,e3⟩:=jc5 hbad h n (acc++[(rd s).1]) (rd s).2 hb;exact ⟨(rd s).1::l,by simp [e1],by rw [e2];simp,by rw [List.flatMap_cons];exact (h s h1).app e3⟩
def jhT (nx:σ→Int×σ) (s:σ):Ed×σ:=(⟨(nx s).1,(nx (nx s).2).1⟩,(nx (nx s).2).2)
def jhw (nx:σ→Int×σ) (s:σ):Tk×σ:=let a:=nx s;let b:=nx a.2;let c:=nx b.2;let d:=nx c.2;(⟨a.1,b.1,c.1,d.1⟩,d.2)
def ji9 (nx:σ→Int×σ) (s:σ):En×σ:=let a:=nx s;let b:=nx a.2;let c:=nx b.2;let d:=nx c.2;(⟨a.1,b.1,c.1,d.1⟩,d.2)
def zb (cap:Option Int) (sb:σ→σ) (m:Int) (s:σ):σ:=match cap with
 |some c=>if m>c then sb s else s
 |none=>s
def rdPl (cap:Option Int) (nx:σ→Int×σ) (bd:σ→Bool) (sb:σ→σ) (s:σ):Pl×σ:=
 let a:=nx s;let b:=nx a.2;let c:=nx b.2;let d:=nx c.2;let m:=nx d.2
 let e:=kb bd (jhT nx) m.1.toNat ([],zb cap sb m.1 m.2)
 (⟨a.1,b.1,c.1,d.1,e.1⟩,e.2)
def rdNt (cap:Option Int) (nx:σ→Int×σ) (bd:σ→Bool) (sb:σ→σ) (s:σ):Nt×σ:=
 let q:=nx s;let k:=nx q.2
 if k.1=1 then
  let r:=nx k.2;let p:=rdPl cap nx bd sb r.2
  (⟨q.1,⟨k.1,r.1,p.1,0,0,0,0⟩⟩,p.2)
 else if k.1=2 then
  let w:=nx k.2;let d:=nx w.2
  (⟨q.1,⟨k.1,0,⟨0,0,0,0,[]⟩,0,0,w.1,d.1⟩⟩,d.2)
 else if k.1=3∨k.1=4 then
  let r:=nx k.2;let t:=nx r.2;let y:=nx t.2
  (⟨q.1,⟨k.1,r.1,⟨0,0,0,0,[]⟩,t.1,y.1,0,0⟩⟩,y.2)
 else if k.1=6∨k.1=7 then
  let r:=nx k.2
  (⟨q.1,⟨k.1,r.1,⟨0,0,0,0,[]⟩,0,0,0,0⟩⟩,r.2)
 else (⟨q.1,⟨k.1,0,⟨0,0,0,0,[]⟩,0,0,0,0⟩⟩,k.2)
theorem jsL (x:Ed) (s s':σ) (h:RdSeq nx bd s (edI x) s'):jhT nx s=(x,s'):=by
 obtain ⟨_,h1,_,h2,h3⟩:=h;rw [show s'=_ from h3,jhT,h1,h2]
theorem jfy {cap:Option Int} {m:Int} {s:σ} (h:∀c,cap=some c→m≤c):zb cap sb m s=s:=by
 unfold zb;split
 ·rename_i c;rw [if_neg (by have:=h c rfl;omega)]
 ·rfl
theorem jnw {cap:Option Int} {p:Pl} {s s':σ} (hc:∀c,cap=some c→(p.edges.length:Int)≤c) (h:RdSeq nx bd s (plI p) s'):rdPl cap nx bd sb s=(p,s'):=by
 obtain ⟨s1,h1,h2⟩:=RdSeq.split (l:=[p.prio,p.most,p.wait,p.tasks,(p.edges.length:Int)]) h;obtain ⟨_,e1,_,e2,_,e3,_,e4,_,e5,e6⟩:=h1;have hr:=vz (rd:=jhT nx) (pr:=edI) (by intro x;simp [edI]) (fun _=>True) (fun x s s' _ h=>jsL x s s' h) p.edges [] s1 s' (by simp) h2
 rw [show s1=_ from e6] at hr
 simp only [rdPl,e1,e2,e3,e4,e5,Int.toNat_natCast,jfy hc,hr,List.nil_append]
end
end Go.Proofs.Ytmnpailnelmpiaa
