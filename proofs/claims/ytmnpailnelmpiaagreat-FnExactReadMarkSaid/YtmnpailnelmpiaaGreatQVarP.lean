/- Parts. -/
import Derived.Test.YtmnpailnelmpiaaGreatQW
set_option linter.unusedSimpArgs false
set_option linter.unusedVariables false
namespace Go.Proofs.YtmnpailnelmpiaaGreat
open Go.RowKit Go.Sort
def jfG:List UInt8→Nat
 |[]=>0
 |b::l=>b.toNat%128+128*jfG l
def jec:List UInt8→Bool
 |[]=>false
 |[b]=>decide (b.toNat<128)
 |b::c::l=>decide (128≤b.toNat)&&jec (c::l)
theorem jmG {v:Nat} (h:v<128):vq v=[UInt8.ofNat v]:=by unfold vq;rw [if_pos h]
theorem jp1 {v:Nat} (h:¬v<128):vq v=UInt8.ofNat (128+v%128)::vq (v/128):=by rw [vq,if_neg h]
theorem je9 (v:Nat):vq v≠ []:=by
 by_cases h:v<128
 ·rw [jmG h];simp
 ·rw [jp1 h];simp
theorem juN (v:Nat):jec (vq v)=true∧jfG (vq v)=v:=by
 induction v using Nat.strongRecOn with
 |_ v ih=>
  by_cases h:v<128
  ·rw [jmG h]
   have:(UInt8.ofNat v).toNat=v:=by simp [Nat.mod_eq_of_lt (show v<256 by omega)]
   simp only [jec,jfG,this,decide_eq_true_eq];omega
  ·rw [jp1 h]
   obtain ⟨h1,h2⟩:=ih (v/128) (by omega)
   have hb:(UInt8.ofNat (128+v%128)).toNat=128+v%128:=by simp [Nat.mod_eq_of_lt (show 128+v%128<256 by omega)]
   refine ⟨?_,by simp only [jfG,hb,h2];omega⟩
   cases hl:vq (v/128) with
   |nil=>exact absurd hl (je9 _)
   |cons c l=>rw [hl] at h1;simp only [jec,hb,Bool.and_eq_true,decide_eq_true_eq];exact ⟨by omega,h1⟩
theorem jnD:∀l:List UInt8,jec l=true→(vq (jfG l)).length≤l.length∧((vq (jfG l)).length=l.length→vq (jfG l)=l)
 |[],h=>by simp [jec] at h
 |[b],h=>by
  have hb:b.toNat<128:=by simpa [jec] using h
  have e:jfG [b]=b.toNat:=by simp only [jfG];omega
  rw [e,jmG hb];exact ⟨by simp,fun _=>by simp⟩
 |b::c::l,h=>by
  simp only [jec,Bool.and_eq_true,decide_eq_true_eq] at h;obtain ⟨h1,h2⟩:=jnD (c::l) h.2;have hb:=h.1;have hb2:=b.toNat_lt;have e:jfG (b::c::l)=b.toNat%128+128*jfG (c::l):=rfl;by_cases hz:jfG (b::c::l)<128
  ·rw [jmG hz];exact ⟨by simp,fun hl=>by simp at hl⟩
  ·have e1:jfG (b::c::l)/128=jfG (c::l):=by omega
   have e2:128+jfG (b::c::l)%128=b.toNat:=by omega
   rw [jp1 hz,e1,e2];refine ⟨by simp only [List.length_cons] at h1⊢;omega,fun hl=>?_⟩
   rw [h2 (by simpa using hl)]
   simp
def vGo:Nat→List UInt8→Nat→Nat→Option (Nat×Nat)
 |0,_,_,_=>none
 |_+1,[],_,_=>none
 |f+1,b::l,n,i=>if b.toNat<128 then (if n+b.toNat%128*128^i≤1000000000∧(vq (n+b.toNat%128*128^i)).length=i+1 then some (n+b.toNat%128*128^i,i+1) else none)
  else vGo f l (n+b.toNat%128*128^i) (i+1)
theorem ja3 (l:List UInt8) (b:UInt8):jfG (l++[b])=jfG l+b.toNat%128*128^l.length:=by
 induction l with
 |nil=>simp [jfG]
 |cons c l ih=>
  simp only [List.cons_append,jfG,ih,List.length_cons,Nat.pow_succ];generalize b.toNat%128=q;generalize 128^l.length=z;rw [Nat.mul_add,←Nat.add_assoc,Nat.mul_left_comm 128 q z,Nat.mul_comm 128 z]
theorem jkE:∀(l:List UInt8) (b:UInt8),(∀c∈l,128≤c.toNat)→b.toNat<128→jec (l++[b])=true
 |[],b,_,hb=>by simpa [jec] using hb
 |[c],b,h,hb=>by have:=h c (by simp);simp [jec,hb,this]
 |c::d::l,b,h,hb=>by
  have:=jkE (d::l) b (fun x hx=>h x (by simp [hx])) hb
  have h1:=h c (by simp)
  simp only [List.cons_append,jec,Bool.and_eq_true,decide_eq_true_eq] at this⊢;exact ⟨h1,this⟩
theorem jAp:∀(f:Nat) (l p:List UInt8) (v k:Nat),(∀c∈p,128≤c.toNat)→vGo f l (jfG p) p.length=some (v,k)→v≤1000000000∧∃r,p++l=vq v++r∧k=(vq v).length
 |0,_,_,_,_,_,h=>by simp [vGo] at h
 |_+1,[],_,_,_,_,h=>by simp [vGo] at h
 |f+1,b::l,p,v,k,hp,h=>by
  simp only [vGo] at h;split at h
  ·rename_i hb
   split at h
   ·rename_i hc
    simp only [Option.some.injEq,Prod.mk.injEq] at h;obtain ⟨rfl,rfl⟩:=h;rw [←ja3] at hc⊢;have hg:=jkE p b hp hb;have:=(jnD _ hg).2 (by rw [hc.2];simp)
    exact ⟨hc.1,l,by rw [this];simp,hc.2.symm⟩
   ·simp at h
  ·rename_i hb
   rw [←ja3] at h;have e:p.length+1=(p++[b]).length:=by simp
   rw [e] at h
   obtain ⟨h1,r,h2,h3⟩:=jAp f l (p++[b]) v k (fun c hc=>by
    rcases List.mem_append.1 hc with hc|hc
    ·exact hp c hc
    ·simp at hc;subst hc;omega) h
   exact ⟨h1,r,by rw [←h2];simp,h3⟩
theorem jyi {v:Nat} (h:v≤1000000000):(vq v).length≤5:=by
 have:=jp0 (v:Int)
 rwa [jcN h] at this
theorem jmt:∀l:List UInt8,jec l=true→∃p b,l=p++[b]∧(∀c∈p,128≤c.toNat)∧b.toNat<128
 |[],h=>by simp [jec] at h
 |[b],h=>⟨[],b,rfl,by simp,by simpa [jec] using h⟩
 |b::c::l,h=>by
  simp only [jec,Bool.and_eq_true,decide_eq_true_eq] at h;obtain ⟨p,d,h1,h2,h3⟩:=jmt (c::l) h.2
  exact ⟨b::p,d,by rw [h1];rfl,fun x hx=>by
   rcases List.mem_cons.1 hx with rfl|hx
   ·exact h.1
   ·exact h2 x hx,h3⟩
theorem jp4:∀(f:Nat) (q p l:List UInt8) (b:UInt8),(∀c∈q,128≤c.toNat)→b.toNat<128→q.length+1≤f→
 vGo f (q++b::l) (jfG p) p.length=if jfG (p++q++[b])≤1000000000∧(vq (jfG (p++q++[b]))).length=p.length+q.length+1 then some (jfG (p++q++[b]),p.length+q.length+1) else none
 |0,_,_,_,_,_,_,h=>by omega
 |f+1,[],p,l,b,_,hb,_=>by
  simp only [List.nil_append,vGo,if_pos hb,List.append_nil,←ja3,List.length_nil,Nat.add_zero]
 |f+1,c::q,p,l,b,hq,hb,hf=>by
  have hc:=hq c (by simp)
  have:=jp4 f q (p++[c]) l b (fun x hx=>hq x (by simp [hx])) hb (by simp at hf;omega)
  simp only [List.cons_append,vGo,if_neg (show¬c.toNat<128 by omega),←ja3]
  rw [show p.length+1=(p++[c]).length by simp,this]
  have e1:p++[c]++q++[b]=p++c::q++[b]:=by simp
  have e2:(p++[c]).length+q.length+1=p.length+(c::q).length+1:=by simp;omega
  rw [e1,e2]
def jbt (l:List UInt8):Option (Nat×Nat):=vGo 5 l 0 0
theorem zR {l:List UInt8} {v k:Nat} (h:jbt l=some (v,k)):v≤1000000000∧∃r,l=vq v++r∧k=(vq v).length:=by
 obtain ⟨h1,r,h2,h3⟩:=jAp 5 l [] v k (by simp) h
 exact ⟨h1,r,h2,h3⟩
theorem jof {v:Nat} (h:v≤1000000000) (r:List UInt8):jbt (vq v++r)=some (v,(vq v).length):=by
 obtain ⟨h1,h2⟩:=juN v;obtain ⟨p,b,h3,h4,h5⟩:=jmt _ h1;have h6:=jyi h;have e:vq v++r=p++b::r:=by rw [h3];simp
 have h7:(vq v).length=p.length+1:=by rw [h3];simp
 have:=jp4 5 p [] r b h4 h5 (by omega)
 rw [jbt,e];simp only [List.nil_append,List.length_nil,Nat.zero_add] at this;rw [←h3,h2] at this;rw [show vGo 5 (p++b::r) 0 0=vGo 5 (p++b::r) (jfG []) 0 from rfl,this,if_pos ⟨h,by rw [h7]⟩,h7]
def vAt (s:ByteArray) (k:Int):Int×Int:=if k<0 then (0,-1) else match jbt (s.data.toList.drop k.toNat) with
 |some (v,m)=>((v:Int),k+(m:Int))
 |none=>(0,-1)
end Go.Proofs.YtmnpailnelmpiaaGreat
