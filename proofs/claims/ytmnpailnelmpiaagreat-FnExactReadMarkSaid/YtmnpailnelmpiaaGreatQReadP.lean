/- Parts. -/
import Derived.Test.YtmnpailnelmpiaaGreatQVarP
set_option linter.unusedSimpArgs false
set_option linter.unusedVariables false
namespace Go.Proofs.YtmnpailnelmpiaaGreat
open Go.RowKit Go.Sort
theorem jog {l:List UInt8} {v k:Nat} (h:jbt l=some (v,k)):0<k∧k≤l.length:=by
 obtain ⟨_,r,h1,h2⟩:=zR h;have:=List.length_pos_iff.2 (je9 v);rw [h1,List.length_append];omega
def rvF:Nat→List UInt8→Option (List Int)
 |_,[]=>some []
 |0,_::_=>none
 |f+1,b::l=>match jbt (b::l) with
  |some (v,k)=>(rvF f ((b::l).drop k)).map fun r=>(v:Int)::r
  |none=>none
def jcK (n:Int):Prop:=0≤n∧n≤1000000000
theorem jmF {n:Int} (h:jcK n):∃v:Nat,n=v∧v≤1000000000∧(jep n).data.toList=vq v:=by
 obtain ⟨v,rfl⟩:=Int.eq_ofNat_of_zero_le h.1;have h2:=h.2;exact ⟨v,rfl,by omega,by rw [jcN (by omega)]⟩
theorem jaL (n:Int) (l:List Int):vl (n::l)=(jep n).data.toList++vl l:=by simp [vl]
theorem jrM:∀(L:List Int) (f:Nat),(∀n∈L,jcK n)→(vl L).length≤f→rvF f (vl L)=some L
 |[],f,_,_=>by cases f<;>simp [vl,rvF]
 |n::L,f,h,hf=>by
  obtain ⟨v,rfl,hv,e⟩:=jmF (h n (by simp))
  have hne:=je9 v;rw [jaL,e] at hf⊢;rw [List.length_append] at hf;have hp:=List.length_pos_iff.2 hne;obtain ⟨f,rfl⟩:∃g,f=g+1:=⟨f-1,by omega⟩
  cases hl:vq v++vl L with
  |nil=>simp [hne] at hl
  |cons b l=>
   have hh:=jof hv (vl L);rw [hl] at hh;simp only [rvF,hh];have hd:(b::l).drop (vq v).length=vl L:=by rw [←hl];simp
   rw [hd,jrM L f (fun m hm=>h m (by simp [hm])) (by omega)]
   rfl
theorem jmV:∀(f:Nat) (l:List UInt8) (L:List Int),rvF f l=some L→l=vl L∧∀n∈L,jcK n
 |0,[],L,h=>by simp [rvF] at h;subst h;simp [vl]
 |_+1,[],L,h=>by simp [rvF] at h;subst h;simp [vl]
 |0,_::_,L,h=>by simp [rvF] at h
 |f+1,b::l,L,h=>by
  simp only [rvF] at h;cases hv:jbt (b::l) with
  |none=>rw [hv] at h;simp at h
  |some p=>
   obtain ⟨v,k⟩:=p;rw [hv] at h;simp only [Option.map_eq_some_iff] at h;obtain ⟨r,h1,rfl⟩:=h;obtain ⟨h2,h3⟩:=jmV f _ _ h1;obtain ⟨h4,q,h5,rfl⟩:=zR hv;refine ⟨?_,fun n hn=>?_⟩
   ·rw [jaL,jcN h4,←h2,h5];simp
   ·rcases List.mem_cons.1 hn with rfl|hn
    ·exact ⟨by omega,by omega⟩
    ·exact h3 n hn
section
variable {σ:Type}
def RdSeq (nx:σ→Int×σ) (bd:σ→Bool):σ→List Int→σ→Prop
 |s,[],s'=>s'=s
 |s,x::l,s'=>bd s=false∧(nx s).1=x∧RdSeq nx bd (nx s).2 l s'
variable {nx:σ→Int×σ} {bd:σ→Bool} {sb:σ→σ}
theorem RdSeq.app:∀{l m:List Int} {s s' s'':σ},RdSeq nx bd s l s'→RdSeq nx bd s' m s''→RdSeq nx bd s (l++m) s''
 |[],_,_,_,_,h,h'=>by rw [show _=_ from h] at h';exact h'
 |_::_,_,_,_,_,⟨h1,h2,h3⟩,h'=>⟨h1,h2,h3.app h'⟩
theorem RdSeq.split:∀{l m:List Int} {s s'':σ},RdSeq nx bd s (l++m) s''→∃s',RdSeq nx bd s l s'∧RdSeq nx bd s' m s''
 |[],_,s,_,h=>⟨s,rfl,h⟩
 |_::_,_,_,_,⟨h1,h2,h3⟩=>by
  obtain ⟨s',h4,h5⟩:=RdSeq.split h3;exact ⟨s',⟨h1,h2,h4⟩,h5⟩
def kX {α:Type} (bd:σ→Bool) (rd:σ→α×σ):Nat→List α×σ→List α×σ
 |0,s=>s
 |n+1,s=>if bd s.2=true then s else kX bd rd n (s.1++[(rd s.2).1],(rd s.2).2)
theorem zy {α:Type} {rd:σ→α×σ} {s:List α×σ} (h:bd s.2=true):∀n,kX bd rd n s=s
 |0=>rfl
 |n+1=>by rw [kX,if_pos h]
theorem jaT {α:Type} {rd:σ→α×σ} {pr:α→List Int} (hne:∀x,pr x≠ []) (ok:α→Prop) (h:∀x s s',ok x→RdSeq nx bd s (pr x) s'→rd s=(x,s')):
 ∀(l:List α) (acc:List α) (s s':σ),(∀x∈l,ok x)→RdSeq nx bd s (l.flatMap pr) s'→kX bd rd l.length (acc,s)=(acc++l,s')
 |[],acc,s,s',_,h'=>by simp only [List.length_nil,kX,List.append_nil];rw [show s'=s from h']
 |x::l,acc,s,s',ho,h'=>by
  rw [List.flatMap_cons] at h';obtain ⟨s1,h1,h2⟩:=h'.split;have e:=h x s s1 (ho x (by simp)) h1
  have hb:bd s=false:=by
   cases hx:pr x with
   |nil=>exact absurd hx (hne x)
   |cons a m=>rw [hx] at h1;exact h1.1
  rw [List.length_cons,kX,if_neg (by rw [hb];decide),e,jaT hne ok h l _ s1 s' (fun z hz=>ho z (by simp [hz])) h2]
  simp
theorem jhr {α:Type} {rd:σ→α×σ} {pr:α→List Int} (hbad:∀s,bd s=true→bd (rd s).2=true) (h:∀s,bd (rd s).2=false→RdSeq nx bd s (pr (rd s).1) (rd s).2):
 ∀(n:Nat) (acc:List α) (s:σ),bd (kX bd rd n (acc,s)).2=false→∃l,l.length=n∧(kX bd rd n (acc,s)).1=acc++l∧RdSeq nx bd s (l.flatMap pr) (kX bd rd n (acc,s)).2
 |0,acc,s,_=>⟨[],rfl,by simp [kX],rfl⟩
 |n+1,acc,s,hb=>by
  rw [kX] at hb⊢;by_cases h0:bd s=true
  ·rw [if_pos h0] at hb;simp only at hb;rw [h0] at hb;cases hb
  ·rw [if_neg h0] at hb⊢
   have h1:bd (rd s).2=false:=by
    cases hq:bd (rd s).2 with
    |false=>rfl
    |true=>rw [zy (by exact hq)] at hb;simp only at hb;rw [hq] at hb;cases hb
   obtain ⟨l,e1,e2,e3⟩:=jhr hbad h n (acc++[(rd s).1]) (rd s).2 hb;exact ⟨(rd s).1::l,by simp [e1],by rw [e2];simp,by rw [List.flatMap_cons];exact (h s h1).app e3⟩
def joE (nx:σ→Int×σ) (s:σ):Ed×σ:=(⟨(nx s).1,(nx (nx s).2).1⟩,(nx (nx s).2).2)
def jn3 (nx:σ→Int×σ) (s:σ):Tk×σ:=let a:=nx s;let b:=nx a.2;let c:=nx b.2;let d:=nx c.2;(⟨a.1,b.1,c.1,d.1⟩,d.2)
def jqm (nx:σ→Int×σ) (s:σ):En×σ:=let a:=nx s;let b:=nx a.2;let c:=nx b.2;let d:=nx c.2;(⟨a.1,b.1,c.1,d.1⟩,d.2)
def jbA (cap:Option Int) (sb:σ→σ) (m:Int) (s:σ):σ:=match cap with
 |some c=>if m>c then sb s else s
 |none=>s
def rdPl (cap:Option Int) (nx:σ→Int×σ) (bd:σ→Bool) (sb:σ→σ) (s:σ):Pl×σ:=
 let a:=nx s;let b:=nx a.2;let c:=nx b.2;let d:=nx c.2;let m:=nx d.2
 let e:=kX bd (joE nx) m.1.toNat ([],jbA cap sb m.1 m.2)
 (⟨a.1,b.1,c.1,d.1,e.1⟩,e.2)
theorem jC1 (x:Ed) (s s':σ) (h:RdSeq nx bd s (edI x) s'):joE nx s=(x,s'):=by
 obtain ⟨_,h1,_,h2,h3⟩:=h;rw [show s'=_ from h3,joE,h1,h2]
theorem jk6 {cap:Option Int} {m:Int} {s:σ} (h:∀c,cap=some c→m≤c):jbA cap sb m s=s:=by
 unfold jbA;split
 ·rename_i c;rw [if_neg (by have:=h c rfl;omega)]
 ·rfl
theorem jCb {cap:Option Int} {p:Pl} {s s':σ} (hc:∀c,cap=some c→(p.edges.length:Int)≤c) (h:RdSeq nx bd s (plI p) s'):rdPl cap nx bd sb s=(p,s'):=by
 obtain ⟨s1,h1,h2⟩:=RdSeq.split (l:=[p.prio,p.most,p.wait,p.tasks,(p.edges.length:Int)]) h;obtain ⟨_,e1,_,e2,_,e3,_,e4,_,e5,e6⟩:=h1;have hr:=jaT (rd:=joE nx) (pr:=edI) (by intro x;simp [edI]) (fun _=>True) (fun x s s' _ h=>jC1 x s s' h) p.edges [] s1 s' (by simp) h2
 rw [show s1=_ from e6] at hr
 simp only [rdPl,e1,e2,e3,e4,e5,Int.toNat_natCast,jk6 hc,hr,List.nil_append]
end
end Go.Proofs.YtmnpailnelmpiaaGreat
