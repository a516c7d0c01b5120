/- Parts. -/
import Derived.Test.YtmnpailnelmpiaaQVarP
set_option linter.unusedSimpArgs false
set_option linter.unusedVariables false
namespace Go.Proofs.Ytmnpailnelmpiaa
open Go.RowKit Go.Sort
section
variable {σ:Type} {nx:σ→Int×σ} {bd:σ→Bool} {sb:σ→σ}
theorem jnI {cap:Option Int} {n:Nt} {s s':σ} (hc:∀c,cap=some c→(n.deed.plan.edges.length:Int)≤c) (hd:jI n.deed=true) (h:RdSeq nx bd s (je8 n) s'):rdNt cap nx bd sb s=(n,s'):=by
 obtain ⟨q,k,r,p,t,y,w,d⟩:=n;obtain ⟨_,e1,_,e2,h3⟩:=h;dsimp only at e1 e2 hc hd;simp only [rdNt,e1,e2]
 have hno:∀p:Pl,qa p=true→p=⟨0,0,0,0,[]⟩:=fun p hp=>by
  obtain ⟨a,b,c,d,e⟩:=p;simp only [qa,Bool.and_eq_true,beq_iff_eq] at hp;have:e=[]:=List.eq_nil_of_length_eq_zero (by omega)
  simp [hp,this]
 by_cases k1:k=1
 ·subst k1
  simp only [jI,if_true,Bool.and_eq_true,beq_iff_eq] at hd;have hL:kp ⟨1,r,p,t,y,w,d⟩=r::plI p:=rfl;rw [hL] at h3;obtain ⟨_,e3,h4⟩:=h3;simp only [if_true,e3,jnw hc h4];simp [hd]
 by_cases k2:k=2
 ·subst k2
  simp only [jI,Bool.and_eq_true,beq_iff_eq] at hd;simp at hd;have hL:kp ⟨2,r,p,t,y,w,d⟩=[w,d]:=rfl;rw [hL] at h3;obtain ⟨_,e3,_,e4,h4⟩:=h3;have hp:=hno p hd.2;simp only [e3,e4,show s'=_ from h4]
  simp [hd,hp]
 by_cases k3:k=3∨k=4
 ·have hd':qA r=true∧qA t=true∧qA y=true∧w=0∧d=0∧qa p=true:=by
   rw [jI,if_neg k1,if_neg k2,if_pos k3] at hd;simpa [and_assoc] using hd
  have hL:kp ⟨k,r,p,t,y,w,d⟩=[r,t,y]:=by rw [kp,if_neg k1,if_neg k2,if_pos k3]
  rw [hL] at h3;obtain ⟨_,e3,_,e4,_,e5,h4⟩:=h3;have hp:=hno p hd'.2.2.2.2.2;simp only [if_neg k1,if_neg k2,if_pos k3,e3,e4,e5,show s'=_ from h4]
  simp [hd',hp]
 by_cases k4:k=6∨k=7
 ·have hk58:¬(k=5∨k=8):=by omega
  have hL:kp ⟨k,r,p,t,y,w,d⟩=[r]:=by rw [kp,if_neg k1,if_neg k2,if_neg k3,if_pos k4]
  rw [hL] at h3;obtain ⟨_,e3,h4⟩:=h3;rw [jI] at hd;simp only [k1,k2,k3,k4,hk58,if_false,if_true,Bool.and_eq_true,beq_iff_eq] at hd;have hp:=hno p (by first|exact hd.2|(simp at hd;exact hd.2))
  simp only [if_neg k1,if_neg k2,if_neg k3,if_pos k4,e3,show s'=_ from h4]
  simp_all
 ·have hL:kp ⟨k,r,p,t,y,w,d⟩=[]:=by rw [kp,if_neg k1,if_neg k2,if_neg k3,if_neg k4]
  rw [hL] at h3;rw [jI] at hd;simp only [k1,k2,k3,k4,if_false] at hd;split at hd
  ·simp only [Bool.and_eq_true,beq_iff_eq] at hd
   have hp:=hno p hd.2;simp only [if_neg k1,if_neg k2,if_neg k3,if_neg k4,show s'=_ from h3]
   simp [hd,hp]
  ·simp at hd
end
def kE (L:List Int) (s:Nat×Bool):Int×(Nat×Bool):=match L[s.1]? with
 |some v=>(v,(s.1+1,s.2))
 |none=>(0,(s.1,true))
theorem jg4 {L:List Int}:∀(xs:List Int) {rest:List Int} {lo:Nat},L.drop lo=xs++rest→RdSeq (kE L) (·.2) (lo,false) xs (lo+xs.length,false)
 |[],_,_,_=>rfl
 |x::xs,rest,lo,h=>by
  have h0:L[lo]?=some x:=by
   have:=congrArg (·[0]?) h
   simpa using this
  have h1:L.drop (lo+1)=xs++rest:=by
   have:=congrArg List.tail h;simpa using this
  have e:kE L (lo,false)=(x,(lo+1,false)):=by simp only [kE,h0]
  refine ⟨rfl,by rw [e],?_⟩
  rw [e];have:=jg4 xs h1;rw [List.length_cons,show lo+(xs.length+1)=lo+1+xs.length by omega]
  exact this
def kh (t:ByteArray) (s:Int×Bool):Int×(Int×Bool):=if s.2=true then (0,s) else if (vAt t s.1).2<0 then (0,(s.1,true)) else ((vAt t s.1).1,((vAt t s.1).2,false))
theorem jg2 {t:ByteArray}:∀(xs:List Int) {rest:List UInt8} {k:Nat},(∀n∈xs,qG n)→t.data.toList.drop k=kG xs++rest→RdSeq (kh t) (·.2) ((k:Int),false) xs (((k+(kG xs).length:Nat):Int),false)
 |[],_,_,_,_=>by simp [RdSeq,kG]
 |x::xs,rest,k,hx,h=>by
  obtain ⟨v,rfl,hv,e⟩:=jj8 (hx x (by simp))
  rw [zd,e,List.append_assoc] at h;have hh:vS (t.data.toList.drop k)=some (v,(kS v).length):=by rw [h];exact jhA hv _
  have hA:vAt t (k:Int)=((v:Int),((k+(kS v).length:Nat):Int)):=by
   rw [vAt,if_neg (by omega),Int.toNat_natCast,hh];simp
  have e1:kh t ((k:Int),false)=((v:Int),(((k+(kS v).length:Nat):Int),false)):=by
   simp only [kh,hA,Bool.false_eq_true,if_false];rw [if_neg (by omega)]
  refine ⟨rfl,by rw [e1],?_⟩
  rw [e1]
  have h1:t.data.toList.drop (k+(kS v).length)=kG xs++rest:=by
   rw [←List.drop_drop,h];simp
  have:=jg2 xs (fun n hn=>hx n (by simp [hn])) h1
  rw [zd,e,List.length_append,←Nat.add_assoc];exact this
theorem jr4 {d:Dd} (h:jI d=true):qG d.kind∧∀m∈kp d,qG m:=by
 obtain ⟨k,r,p,t,y,w,d⟩:=d;have hn:∀a,qA a=true→qG a:=fun a ha=>by simpa [qA,qG] using ha
 unfold jI at h;unfold kp;dsimp only at h⊢;by_cases k1:k=1
 ·subst k1
  simp only [if_true,Bool.and_eq_true,beq_iff_eq] at h;obtain ⟨⟨⟨⟨⟨h1,-⟩,-⟩,-⟩,-⟩,h2⟩:=h;simp only [jb8,Bool.and_eq_true,decide_eq_true_eq,List.all_eq_true] at h2;obtain ⟨⟨⟨⟨⟨q1,q2⟩,q3⟩,q4⟩,q5⟩,q6⟩:=h2;refine ⟨by simp [qG],fun m hm=>?_⟩
  simp only [if_true] at hm;rcases List.mem_append.1 hm with hm|hm
  ·simp only [List.mem_cons,List.not_mem_nil,or_false] at hm
   rcases hm with rfl|rfl|rfl|rfl|rfl|rfl
   ·exact hn _ h1
   ·exact hn _ q1
   ·exact hn _ q2
   ·exact hn _ q3
   ·exact hn _ q4
   ·exact ⟨by omega,by omega⟩
  ·obtain ⟨e,he,hm⟩:=List.mem_flatMap.1 hm
   have:=q6 e he;simp only [edB,Bool.and_eq_true] at this;simp only [List.mem_cons,List.not_mem_nil,or_false] at hm;rcases hm with rfl|rfl
   ·exact hn _ this.1
   ·exact hn _ this.2
 by_cases k2:k=2
 ·subst k2
  simp at h⊢;exact ⟨by simp [qG],hn _ h.1.1.2,hn _ h.1.2⟩
 by_cases k3:k=3∨k=4
 ·simp only [k1,k2,k3,if_false,if_true,Bool.and_eq_true,beq_iff_eq] at h⊢
  simp only [List.mem_cons,List.not_mem_nil,or_false];refine ⟨by rcases k3 with rfl|rfl<;>simp [qG],fun m hm=>?_⟩
  rcases hm with rfl|rfl|rfl
  ·exact hn _ h.1.1.1.1.1
  ·exact hn _ h.1.1.1.1.2
  ·exact hn _ h.1.1.1.2
 by_cases k4:k=6∨k=7
 ·have k5:¬(k=5∨k=8):=by omega
  simp only [k1,k2,k3,k4,k5,if_false,if_true,Bool.and_eq_true,beq_iff_eq] at h⊢;simp only [List.mem_cons,List.not_mem_nil,or_false];refine ⟨by rcases k4 with rfl|rfl<;>simp [qG],fun m hm=>?_⟩
  subst hm;exact hn _ h.1.1.1.1.1
 ·simp only [k1,k2,k3,k4,if_false] at h⊢
  refine ⟨?_,by simp⟩
  split at h
  ·rename_i k5
   rcases k5 with rfl|rfl<;>simp [qG]
  ·simp at h
theorem jjs {n:Nt} {t:ByteArray} (h:qk n=t) (hz:t.size≠0):jI n.deed=true∧(∀m∈je8 n,qG m)∧t=kB (je8 n)∧t.size≤400:=by
 unfold qk at h;split at h
 ·rename_i hc
  simp only [Bool.and_eq_true,decide_eq_true_eq] at hc;obtain ⟨h1,h2⟩:=jr4 hc.1;unfold jfG at h;split at h
  ·subst h;exact absurd rfl hz
  ·subst h
   refine ⟨hc.1,fun m hm=>?_,rfl,by omega⟩
   rcases List.mem_cons.1 hm with rfl|hm
   ·exact ⟨by omega,by omega⟩
   rcases List.mem_cons.1 hm with rfl|hm
   ·exact h1
   ·exact h2 m hm
 ·subst h;exact absurd rfl hz
abbrev ntZ:Nt:=⟨0,⟨0,0,⟨0,0,0,0,[]⟩,0,0,0,0⟩⟩
open Classical in
noncomputable def kF (t:ByteArray):Nt×Bool:=if h:∃n,qk n=t∧t.size≠0 then (h.choose,true) else (ntZ,false)
def jfJ (t:ByteArray):Nt×Bool:=match rvF t.size t.data.toList with
 |none=>(ntZ,false)
 |some L=>if (rdNt none (kE L) (·.2) (fun s=>(s.1,true)) (0,false)).2.2=true∨(qk (rdNt none (kE L) (·.2) (fun s=>(s.1,true)) (0,false)).1).size=0∨qk (rdNt none (kE L) (·.2) (fun s=>(s.1,true)) (0,false)).1≠t then (ntZ,false)
  else ((rdNt none (kE L) (·.2) (fun s=>(s.1,true)) (0,false)).1,true)
def jfI (t:ByteArray):Nt×Bool:=if 400<t.size then (ntZ,false)
 else if (rdNt (some 31) (kh t) (·.2) (fun s=>(s.1,true)) (0,false)).2.2=true∨t.size=0∨qk (rdNt (some 31) (kh t) (·.2) (fun s=>(s.1,true)) (0,false)).1≠t then (ntZ,false)
  else ((rdNt (some 31) (kh t) (·.2) (fun s=>(s.1,true)) (0,false)).1,true)
theorem jeD (l:List Int):(kB l).data.toList=kG l:=rfl
theorem juz {n:Nt} {t:ByteArray} (h:qk n=t) (hz:t.size≠0):jfJ t=(n,true):=by
 obtain ⟨h1,h2,h3,h4⟩:=jjs h hz
 have hr:rvF t.size t.data.toList=some (je8 n):=by
  subst h3;exact jgJ _ _ h2 (Nat.le_refl _)
 have hb:=jnI (cap:=none) (sb:=fun s:Nat×Bool=>(s.1,true)) (by simp) h1 (jg4 (L:=je8 n) (je8 n) (rest:=[]) (lo:=0) (by simp))
 simp only [jfJ,hr,hb];rw [if_neg];rintro (g|g|g)
 ·cases g
 ·rw [h] at g;exact hz g
 ·exact g h
theorem juy {n:Nt} {t:ByteArray} (h:qk n=t) (hz:t.size≠0):jfI t=(n,true):=by
 obtain ⟨h1,h2,h3,h4⟩:=jjs h hz
 have he:(n.deed.plan.edges.length:Int)≤31:=by
  have hd:=h1;unfold jI at hd;split at hd
  ·simp only [jb8,Bool.and_eq_true,decide_eq_true_eq] at hd;omega
  ·have hno:qa n.deed.plan=true→(n.deed.plan.edges.length:Int)=0:=fun hp=>by
    simp only [qa,Bool.and_eq_true,beq_iff_eq] at hp;exact hp.2
   have:qa n.deed.plan=true:=by
    repeat' split at hd
    all_goals first|(simp only [Bool.and_eq_true] at hd;exact hd.2)|cases hd
   have:=hno this;omega
 have hs:=jg2 (t:=t) (je8 n) (rest:=[]) (k:=0) h2 (by subst h3;simp [jeD])
 have hb:=jnI (cap:=some 31) (sb:=fun s:Int×Bool=>(s.1,true)) (fun c hc=>by cases hc;exact he) h1 hs
 simp only [jfI,if_neg (show¬400<t.size by omega)]
 have e0:(((0:Nat):Int),false)=((0:Int),false):=rfl;rw [e0] at hb;rw [hb,if_neg];rintro (g|g|g)
 ·cases g
 ·exact hz g
 ·exact g h
theorem jpD (t:ByteArray):jfJ t=kF t:=by
 unfold kF;split
 ·rename_i h
  exact juz h.choose_spec.1 h.choose_spec.2
 ·rename_i h
  unfold jfJ;split
  ·rfl
  ·split
   ·rfl
   ·rename_i hc
    have g:=Classical.byContradiction fun g=>hc (.inr (.inr g))
    exact absurd ⟨_,g,fun hz=>hc (.inr (.inl (by rw [g];exact hz)))⟩ h
theorem jpC (t:ByteArray):jfI t=kF t:=by
 unfold kF;split
 ·rename_i h
  exact juy h.choose_spec.1 h.choose_spec.2
 ·rename_i h
  unfold jfI;split
  ·rfl
  ·split
   ·rfl
   ·rename_i hc
    exact absurd ⟨_,Classical.byContradiction fun g=>hc (.inr (.inr g)),fun hz=>hc (.inr (.inl hz))⟩ h
end Go.Proofs.Ytmnpailnelmpiaa
