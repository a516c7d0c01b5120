/- Parts. -/
import Derived.Test.YtmnpailnelmpiaaGreatQReadV
import Derived.Test.YtmnpailnelmpiaaGreatQReadY
set_option linter.unusedSimpArgs false
set_option linter.unusedVariables false
namespace Go.Proofs.YtmnpailnelmpiaaGreat
open Go.RowKit Go.Sort
section
variable {σ:Type} {nx:σ→Int×σ} {bd:σ→Bool} {sb:σ→σ} {φ:σ→Nat}
structure Pot (nx:σ→Int×σ) (bd:σ→Bool) (sb:σ→σ) (φ:σ→Nat):Prop where
 le:∀s,φ (nx s).2≤φ s
 lt:∀s,bd s=false→φ (nx s).2+1≤φ s
 sb:∀s,φ (sb s)≤φ s
theorem Pot.cap (h:Pot nx bd sb φ) (c:Option Int) (m:Int) (s:σ):φ (jbA c sb m s)≤φ s:=by
 unfold jbA;split
 ·split
  ·exact h.sb s
  ·exact Nat.le_refl _
 ·exact Nat.le_refl _
theorem joi {α:Type} (w:α→Nat) (l:List α) (x:α):ke w (l++[x])=ke w l+w x:=by simp [ke]
theorem jbI {α:Type} {rd:σ→α×σ} (w:α→Nat) (h:∀s,bd s=false→φ (rd s).2+w (rd s).1≤φ s):∀(n:Nat) (acc:List α) (s:σ),ke w (kX bd rd n (acc,s)).1+φ (kX bd rd n (acc,s)).2≤ke w acc+φ s
 |0,acc,s=>Nat.le_refl _
 |n+1,acc,s=>by
  rw [kX];split
  ·exact Nat.le_refl _
  ·rename_i hb
   have h1:=jbI w h n (acc++[(rd s).1]) (rd s).2;have h2:=h s (by cases hq:bd s with|false=>rfl|true=>exact absurd hq hb)
   rw [joi] at h1;dsimp only at h1⊢;omega
theorem joz {α:Type} {rd:σ→α×σ} (w:α→Nat) (h:∀s,φ (rd s).2+w (rd s).1≤φ s):∀(n:Nat) (acc:List α) (s:σ),ke w (jao rd n (acc,s)).1+φ (jao rd n (acc,s)).2≤ke w acc+φ s
 |0,acc,s=>Nat.le_refl _
 |n+1,acc,s=>by
  rw [jao];have h1:=joz w h n (acc++[(rd s).1]) (rd s).2;have h2:=h s;rw [joi] at h1;dsimp only at h1⊢;omega
theorem jjy {α:Type}:∀l:List α,ke (fun _=>1) l=l.length
 |[]=>rfl
 |a::l=>by have:=jjy l;simp [ke] at this⊢;omega
theorem joj {α:Type} (w:α→Nat):∀l:List α,ke (fun x=>w x+1) l=l.length+ke w l
 |[]=>rfl
 |a::l=>by have:=joj w l;simp [ke] at this⊢;omega
theorem joA {α:Type} {rd:σ→α×σ}:∀(n:Nat) (acc:List α) (s:σ),(jao rd n (acc,s)).1.length=acc.length+n
 |0,acc,s=>rfl
 |n+1,acc,s=>by rw [jao,joA n];simp;omega
theorem joB {α:Type} {rd:σ→α×σ}:∀(n:Nat) (acc:List α) (s:σ),(kX bd rd n (acc,s)).1.length≤acc.length+n
 |0,acc,s=>Nat.le_refl _
 |n+1,acc,s=>by
  rw [kX];split
  ·simp
  ·have:=joB (rd:=rd) n (acc++[(rd s).1]) (rd s).2;simp at this;dsimp only;omega
theorem Pot.nx2 (h:Pot nx bd sb φ) (s:σ):φ (nx (nx s).2).2≤φ s:=Nat.le_trans (h.le _) (h.le s)
theorem Pot.rdSh (h:Pot nx bd sb φ) (c:Option Int) (s:σ):φ (rdSh c nx bd sb s).2+kH (rdSh c nx bd sb s).1≤φ s:=by
 have h1:=jbI (rd:=jqm nx) (bd:=bd) (φ:=φ) (fun _=>1) (fun s hs=>by
  have a1:=h.lt s hs;have a2:=h.nx2 (nx s).2;have a3:=h.le (nx (nx (nx s).2).2).2;simp only [jqm];omega) (nx s).1.toNat [] (jbA c sb (nx s).1 (nx s).2)
 have h2:=h.cap c (nx s).1 (nx s).2;have h3:=h.le s;rw [jjy] at h1;simp only [Go.Proofs.YtmnpailnelmpiaaGreat.rdSh,kH];have:ke (fun _:En=>1) []=0:=rfl
 omega
theorem Pot.rdPl (h:Pot nx bd sb φ) (c:Option Int) (s:σ):φ (rdPl c nx bd sb s).2+jah (rdPl c nx bd sb s).1≤φ s:=by
 have h1:=fun n s=>jbI (rd:=joE nx) (bd:=bd) (φ:=φ) (fun _=>1) (fun s hs=>by
  have a1:=h.lt s hs;have a2:=h.le (nx s).2;simp only [joE];omega) n [] s
 simp only [Go.Proofs.YtmnpailnelmpiaaGreat.rdPl,jah];have h3:=h.nx2 s;have h4:=h.nx2 (nx (nx s).2).2;have h5:=h.le (nx (nx (nx (nx s).2).2).2).2;have h2:=h.cap c (nx (nx (nx (nx (nx s).2).2).2).2).1 (nx (nx (nx (nx (nx s).2).2).2).2).2;have h1':=h1 (nx (nx (nx (nx (nx s).2).2).2).2).1.toNat (jbA c sb (nx (nx (nx (nx (nx s).2).2).2).2).1 (nx (nx (nx (nx (nx s).2).2).2).2).2);rw [jjy] at h1';have:ke (fun _:Ed=>1) []=0:=rfl
 omega
theorem Pot.rdRn (h:Pot nx bd sb φ) (c c':Option Int) (s:σ) (hs:bd s=false):φ (rdRn c c' nx bd sb s).2+(kq (rdRn c c' nx bd sb s).1+1)≤φ s:=by
 have h1:=fun n s=>jbI (rd:=jn3 nx) (bd:=bd) (φ:=φ) (fun _=>1) (fun s hs=>by
  have a1:=h.lt s hs;have a2:=h.nx2 (nx s).2;have a3:=h.le (nx (nx (nx s).2).2).2;simp only [jn3];omega) n [] s
 simp only [Go.Proofs.YtmnpailnelmpiaaGreat.rdRn,kq];have h3:=h.lt s hs;have h4:=h.rdPl c (nx s).2;generalize Go.Proofs.YtmnpailnelmpiaaGreat.rdPl c nx bd sb (nx s).2=p at*;have h5:=h.le p.2;have h2:=h.cap c' p.1.tasks (nx p.2).2;have h1':=h1 p.1.tasks.toNat (jbA c' sb p.1.tasks (nx p.2).2);rw [jjy] at h1';have:ke (fun _:Tk=>1) []=0:=rfl
 omega
theorem Pot.runs (h:Pot nx bd sb φ) (c c':Option Int) (n:Nat) (s:σ):qx (kX bd (Go.Proofs.YtmnpailnelmpiaaGreat.rdRn c c' nx bd sb) n ([],s)).1+φ (kX bd (Go.Proofs.YtmnpailnelmpiaaGreat.rdRn c c' nx bd sb) n ([],s)).2≤φ s:=by
 have:=jbI (bd:=bd) (φ:=φ) (rd:=Go.Proofs.YtmnpailnelmpiaaGreat.rdRn c c' nx bd sb) (fun r=>kq r+1) (fun s hs=>h.rdRn c c' s hs) n [] s
 rw [joj] at this;have e:ke (fun r:Rn=>kq r+1) []=0:=rfl
 simp only [qx];omega
theorem Pot.rdYI (h:Pot nx bd sb φ) (s:σ):jt (rdYI nx bd sb s).1+φ (rdYI nx bd sb s).2≤φ s+4:=by
 have h1:=h.nx2 s;have h2:=joz (φ:=φ) (rd:=Go.Proofs.YtmnpailnelmpiaaGreat.rdSh none nx bd sb) kH (fun s=>h.rdSh none s) 4 [] (nx (nx s).2).2
 have h3:=joA (rd:=Go.Proofs.YtmnpailnelmpiaaGreat.rdSh none nx bd sb) 4 [] (nx (nx s).2).2;simp only [Go.Proofs.YtmnpailnelmpiaaGreat.rdYI,jt,vP];generalize jao (Go.Proofs.YtmnpailnelmpiaaGreat.rdSh none nx bd sb) 4 ([],(nx (nx s).2).2)=S at*;have h4:=h.le S.2;have h5:=h.runs none none (nx S.2).1.toNat (nx S.2).2;have e:ke kH []=0:=rfl;simp at h3;omega
theorem Pot.rdYS (h:Pot nx bd sb φ) (s:σ):jt (rdYS nx bd sb s).1+φ (rdYS nx bd sb s).2≤φ s+4:=by
 have h1:=h.nx2 s;have h2:=jbI (bd:=bd) (φ:=φ) (rd:=Go.Proofs.YtmnpailnelmpiaaGreat.rdSh (some 80) nx bd sb) kH (fun s _=>h.rdSh _ s) 4 [] (nx (nx s).2).2
 have h3:=joB (bd:=bd) (rd:=Go.Proofs.YtmnpailnelmpiaaGreat.rdSh (some 80) nx bd sb) 4 [] (nx (nx s).2).2;simp only [Go.Proofs.YtmnpailnelmpiaaGreat.rdYS,jt,vP];generalize kX bd (Go.Proofs.YtmnpailnelmpiaaGreat.rdSh (some 80) nx bd sb) 4 ([],(nx (nx s).2).2)=S at*;have h4:=h.le S.2;have h6:=h.cap (some 8) (nx S.2).1 (nx S.2).2;have h5:=h.runs (some 31) (some 12) (nx S.2).1.toNat (jbA (some 8) sb (nx S.2).1 (nx S.2).2);have e:ke kH []=0:=rfl;simp at h3;omega
end
def jwz (L:List Int) (s:Nat×Bool):Nat:=L.length-s.1+if s.2 then 0 else 1
def jtY (t:ByteArray) (s:Int×Bool):Nat:=(t.size-s.1).toNat+if s.2 then 0 else 1
theorem pot_L (L:List Int):Pot (jai L) (·.2) (fun s=>(s.1,true)) (jwz L):=by
 refine ⟨fun s=>?_,fun s hs=>?_,fun s=>?_⟩
 ·unfold jai jwz
  split
  ·dsimp only;omega
  ·dsimp only;simp
 ·obtain ⟨k,b⟩:=s
  dsimp only at hs;subst hs;unfold jai jwz;split
  ·rename_i v hv
   have:=(List.getElem?_eq_some_iff.1 hv).1;simp at this⊢;omega
  ·simp
 ·unfold jwz;simp
theorem jDB (t:ByteArray) (k:Int) (h:¬(vAt t k).2<0):0≤k∧k+1≤(vAt t k).2∧(vAt t k).2≤t.size:=by
 rw [vAt] at h⊢;split at h
 ·dsimp only at h;omega
 ·rename_i hk
  rw [if_neg hk];cases hv:jbt (t.data.toList.drop k.toNat) with
  |none=>rw [hv] at h;exact absurd (show (-1:Int)<0 by decide) h
  |some p=>
   obtain ⟨v,m⟩:=p;have hp:=jog hv;rw [List.length_drop,Array.length_toList] at hp;have hz:t.data.size=t.size:=rfl;dsimp only;omega
theorem pot_S (t:ByteArray):Pot (vC t) (·.2) (fun s=>(s.1,true)) (jtY t):=by
 have key:∀s:Int×Bool,s.2=false→jtY t (vC t s).2+1≤jtY t s:=fun s hs=>by
  obtain ⟨k,b⟩:=s;dsimp only at hs;subst hs;unfold vC jtY;simp only [Bool.false_eq_true,if_false];split
  ·simp
  ·rename_i hn
   have:=jDB t k hn;simp;omega
 refine ⟨fun s=>?_,key,fun s=>?_⟩
 ·cases hs:s.2 with
  |false=>have:=key s hs;omega
  |true=>unfold vC;rw [if_pos hs];exact Nat.le_refl _
 ·unfold jtY;simp
theorem jvD:∀(f:Nat) (l:List UInt8) (L:List Int),rvF f l=some L→L.length≤l.length
 |0,[],L,h=>by simp [rvF] at h;subst h;simp
 |_+1,[],L,h=>by simp [rvF] at h;subst h;simp
 |0,_::_,L,h=>by simp [rvF] at h
 |f+1,b::l,L,h=>by
  simp only [rvF] at h;cases hv:jbt (b::l) with
  |none=>rw [hv] at h;simp at h
  |some p=>
   obtain ⟨v,k⟩:=p;rw [hv] at h;simp only [Option.map_eq_some_iff] at h;obtain ⟨r,h1,rfl⟩:=h;have h2:=jvD f _ _ h1;have h3:=jog hv;rw [List.length_drop] at h2;simp only [List.length_cons] at*;omega
theorem jsH (a b:ByteArray):(a.toList==b.toList)=decide (a=b):=by
 rw [ByteArray.toList_eq,ByteArray.toList_eq,Bool.eq_iff_iff,beq_iff_eq,decide_eq_true_iff];constructor
 ·intro h;cases a;cases b;congr 1;exact Array.toList_inj.1 h
 ·rintro rfl;rfl
theorem jDG (L:List Int):jt (nI L).1≤L.length+5:=by
 have:=(pot_L L).rdYI (0,false);simp only [jwz] at this;unfold nI;simp at this;omega
theorem jDF (t:ByteArray):jt (nS t).1≤t.size+5:=by
 have:=(pot_S t).rdYS (0,false);simp only [jtY] at this;unfold nS;simp at this;omega
end Go.Proofs.YtmnpailnelmpiaaGreat
