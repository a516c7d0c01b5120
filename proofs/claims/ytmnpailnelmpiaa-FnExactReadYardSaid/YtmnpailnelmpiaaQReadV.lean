/- Parts. -/
import Derived.Test.YtmnpailnelmpiaaQReadY
import Derived.Test.YtmnpailnelmpiaaQVarAt
set_option linter.unusedSimpArgs false
set_option linter.unusedVariables false
set_option maxHeartbeats 4000000
set_option maxRecDepth 100000
namespace Go.Proofs.Ytmnpailnelmpiaa
open Go.RowKit Go.Sort
theorem jkl:∀(f g:Nat) (l:List UInt8),l.length≤f→l.length≤g→rvF f l=rvF g l
 |f,g,[],_,_=>by cases f<;>cases g<;>rfl
 |0,_,_::_,h,_=>by simp at h
 |_,0,_::_,_,h=>by simp at h
 |f+1,g+1,b::l,h1,h2=>by
  simp only [rvF];cases hv:vS (b::l) with
  |none=>rfl
  |some p=>
   obtain ⟨v,k⟩:=p;obtain ⟨_,q,h5,rfl⟩:=qN hv;have hne:=List.length_pos_iff.2 (jc2 v);simp only [List.length_cons] at h1 h2;dsimp only;rw [jkl f g]
   ·rw [List.length_drop,List.length_cons];omega
   ·rw [List.length_drop,List.length_cons];omega
structure RvTo (t:ByteArray) (k:Nat) (L:List Int):Prop where
 le:k≤t.size
 len:L.length≤k
 eq:rvF t.size t.data.toList=(rvF t.size (t.data.toList.drop k)).map fun r=>L++r
theorem RvTo.start (t:ByteArray):RvTo t 0 []:=⟨Nat.zero_le _,Nat.le_refl _,by simp⟩
theorem RvTo.step {t:ByteArray} {k:Nat} {L:List Int} (h:RvTo t k L) (hk:k<t.size):
 (vAt t (k:Int)).2=-1∧rvF t.size t.data.toList=none∨∃v m:Nat,vAt t (k:Int)=((v:Int),(m:Int))∧k<m∧RvTo t m (L++[(v:Int)]):=by
 have hs:t.data.toList.length=t.size:=by rw [Array.length_toList];rfl
 have hv:vAt t (k:Int)=match vS (t.data.toList.drop k) with
  |some (v,m)=>((v:Int),(k:Int)+(m:Int))
  |none=>(0,-1):=by rw [vAt,if_neg (by omega),Int.toNat_natCast];rfl
 have hl:(t.data.toList.drop k).length=t.size-k:=by rw [List.length_drop,hs]
 have heq:=h.eq;cases hd:t.data.toList.drop k with
 |nil=>rw [hd] at hl;simp at hl;omega
 |cons b l=>
  rw [hd] at hv hl heq;obtain ⟨f,hf⟩:∃f,t.size=f+1:=⟨t.size-1,by omega⟩
  cases hh:vS (b::l) with
  |none=>
   left;rw [hv,hh];refine ⟨rfl,?_⟩;rw [heq,hf];simp only [rvF,hh,Option.map_none]
  |some p=>
   obtain ⟨v,m⟩:=p;right;obtain ⟨_,q,h5,rfl⟩:=qN hh;have hne:=List.length_pos_iff.2 (jc2 v);have hlq:=congrArg List.length h5;rw [List.length_append] at hlq;refine ⟨v,k+(kS v).length,?_,by omega,by omega,?_,?_⟩
   ·rw [hv,hh];simp
   ·have:=h.len;simp;omega
   ·have e1:rvF (f+1) (b::l)=(rvF f ((b::l).drop (kS v).length)).map fun r=>(v:Int)::r:=by simp only [rvF,hh]
    rw [heq]
    conv=>lhs;rw [hf,e1]
    rw [←List.drop_drop,hd,jkl f t.size ((b::l).drop (kS v).length) (by rw [List.length_drop];omega) (by rw [List.length_drop];omega),Option.map_map]
    congr 1
    funext r
    simp
theorem RvTo.done {t:ByteArray} {k:Nat} {L:List Int} (h:RvTo t k L) (hk:¬k<t.size):rvF t.size t.data.toList=some L:=by
 have hs:t.data.toList.length=t.size:=by rw [Array.length_toList];rfl
 rw [h.eq,List.drop_eq_nil_of_le (by omega)]
 cases t.size<;>simp [rvF]
theorem jp6 (l:List Int) (a:Int):D.sl 1 jiY (l.flatMap (fun n=>[iv n])++[iv a])=jj (l++[a]):=by simp [jj]
def rvR (t:ByteArray):List Int×Bool:=match rvF t.size t.data.toList with
 |some L=>(L,true)
 |none=>([],false)
theorem jap {s:St} {a b g c:Nat} {x u:Value} {d:D} {η:jm} (ha:s.t a=.c (.h g c [] x)) (ho:(s.o g).own c=some (d,η)) (hx:η []=x) (hb:s.t b=.c (.v u)) (hu:u.oneCell'=true:=by rfl):joO [.t a,.t b] (.tup [(false,[d]),(false,[.val u])]) s:=by
 simp only [jrV,jno,ha,hb,jnn,jgL,jeM];refine ⟨by simp,?_⟩
 simp [ka,A0.one,hu,ho,IsD,RT.flat];exact ⟨_,_,⟨rfl,rfl⟩,hx,rfl⟩
theorem jqS {s:St} {a b:Nat} {u:Value} {size:Nat} {ty:TypeId} (ha:s.t a=.c (.v (.slice none 0 0))) (hb:s.t b=.c (.v u)) (hu:u.oneCell'=true:=by rfl):joO [.t a,.t b] (.tup [(false,[.sl size ty []]),(false,[.val u])]) s:=by
 simp only [jrV,jno,ha,hb,jnn,jgL,jeM];refine ⟨by simp,?_⟩
 simp only [List.flatMap_cons,List.flatMap_nil,List.append_nil,List.cons_append,List.nil_append,ka,A0.one,hu,RT.flat,IsD];simp [jp5,IsD];rfl
theorem jaq (t:ByteArray) (ht:t.size≤1000000000):kg Try.prog 31 [.c (.val (.string t))] (.tup [(false,[jj (rvR t).1]),(false,[.val (.bool (rvR t).2)])]):=by
 refine jr Try.func31 jcx (by simp) ?_
 unfold jaN;simp only [go_sem];refine jp (fun i:(List Int×Nat)×jm=>St.of [(0,.c (.v (.string t))),(4,Hd 7 i.2),(5,Ni i.1.2)] [(7,.loose (jj i.1.1) i.2)]) (fun i=>RvTo t i.1.2 i.1.1) (fun i=>t.size-i.1.2) (([],0),jad) (RvTo.start t) (jo [none] (by simp only [go_sem]<;>and_intros<;>first|rfl|assumption|trivial)) ?_
 rintro ⟨⟨L,k⟩,η⟩ hi;dsimp only at hi;have hle:=hi.le;have hlen:=hi.len;by_cases hlt:k<t.size;rotate_left
 ·have hlt':¬(k:Int)<(t.size:Int):=by omega
  have hr:rvR t=(L,true):=by rw [rvR,hi.done hlt]
  rw [hr];simp only [go_sem,hlt'];exact jap (g:=7) (c:=0) (d:=jj L) (η:=η) (x:=η []) (by simp only [go_sem]) (by simp only [go_sem]) rfl (by simp only [go_sem])
 have hlt':(k:Int)<(t.size:Int):=by omega
 have hm1:L.length+1≤maxLen:=by unfold maxLen;omega
 have hm2:(L.length+1)*8≤140737488355328:=by omega
 simp only [go_sem,hlt'];refine jb (jdL t (k:Int) ht (by omega)) (by simp only [go_sem]) fun η=>?_
 simp only [go_sem];rcases hi.step hlt with ⟨e1,e2⟩|⟨v,m,e1,hkm,hn⟩
 ·have hr:rvR t=([],false):=by rw [rvR,e2]
  have hneg:(-1:Int)<0:=by omega
  rw [hr];simp only [go_sem,e1,hneg];exact jqS (by simp only [go_sem]) (by simp only [go_sem])
 ·have hneg:¬(m:Int)<0:=by omega
  have hmle:=hn.le;simp only [go_sem,e1,hneg,hm1,hm2];intro η2 η3;exact ⟨((L++[(v:Int)],m),η3),hn,(jo [some 2300] (by simp only [go_sem,jp6]<;>and_intros<;>first|rfl|assumption|trivial)),by (try dsimp only);omega⟩
section
variable {σ:Type} {nx:σ→Int×σ} {bd:σ→Bool} {sb:σ→σ} {φ:σ→Nat}
structure Pot (nx:σ→Int×σ) (bd:σ→Bool) (sb:σ→σ) (φ:σ→Nat):Prop where
 le:∀s,φ (nx s).2≤φ s
 lt:∀s,bd s=false→φ (nx s).2+1≤φ s
 sb:∀s,φ (sb s)≤φ s
theorem Pot.cap (h:Pot nx bd sb φ) (c:Option Int) (m:Int) (s:σ):φ (zb c sb m s)≤φ s:=by
 unfold zb;split
 ·split
  ·exact h.sb s
  ·exact Nat.le_refl _
 ·exact Nat.le_refl _
theorem jhD {α:Type} (w:α→Nat) (l:List α) (x:α):jP w (l++[x])=jP w l+w x:=by simp [jP]
theorem zh {α:Type} {rd:σ→α×σ} (w:α→Nat) (h:∀s,bd s=false→φ (rd s).2+w (rd s).1≤φ s):∀(n:Nat) (acc:List α) (s:σ),jP w (kb bd rd n (acc,s)).1+φ (kb bd rd n (acc,s)).2≤jP w acc+φ s
 |0,acc,s=>Nat.le_refl _
 |n+1,acc,s=>by
  rw [kb];split
  ·exact Nat.le_refl _
  ·rename_i hb
   have h1:=zh w h n (acc++[(rd s).1]) (rd s).2;have h2:=h s (by cases hq:bd s with|false=>rfl|true=>exact absurd hq hb)
   rw [jhD] at h1;dsimp only at h1⊢;omega
theorem jhP {α:Type} {rd:σ→α×σ} (w:α→Nat) (h:∀s,φ (rd s).2+w (rd s).1≤φ s):∀(n:Nat) (acc:List α) (s:σ),jP w (qZ rd n (acc,s)).1+φ (qZ rd n (acc,s)).2≤jP w acc+φ s
 |0,acc,s=>Nat.le_refl _
 |n+1,acc,s=>by
  rw [qZ];have h1:=jhP w h n (acc++[(rd s).1]) (rd s).2;have h2:=h s;rw [jhD] at h1;dsimp only at h1⊢;omega
theorem jep {α:Type}:∀l:List α,jP (fun _=>1) l=l.length
 |[]=>rfl
 |a::l=>by have:=jep l;simp [jP] at this⊢;omega
theorem jhF {α:Type} (w:α→Nat):∀l:List α,jP (fun x=>w x+1) l=l.length+jP w l
 |[]=>rfl
 |a::l=>by have:=jhF w l;simp [jP] at this⊢;omega
theorem jhQ {α:Type} {rd:σ→α×σ}:∀(n:Nat) (acc:List α) (s:σ),(qZ rd n (acc,s)).1.length=acc.length+n
 |0,acc,s=>rfl
 |n+1,acc,s=>by rw [qZ,jhQ n];simp;omega
theorem jhR {α:Type} {rd:σ→α×σ}:∀(n:Nat) (acc:List α) (s:σ),(kb bd rd n (acc,s)).1.length≤acc.length+n
 |0,acc,s=>Nat.le_refl _
 |n+1,acc,s=>by
  rw [kb];split
  ·simp
  ·have:=jhR (rd:=rd) n (acc++[(rd s).1]) (rd s).2;simp at this;dsimp only;omega
theorem Pot.nx2 (h:Pot nx bd sb φ) (s:σ):φ (nx (nx s).2).2≤φ s:=Nat.le_trans (h.le _) (h.le s)
theorem Pot.rdSh (h:Pot nx bd sb φ) (c:Option Int) (s:σ):φ (rdSh c nx bd sb s).2+vM (rdSh c nx bd sb s).1≤φ s:=by
 have h1:=zh (rd:=ji9 nx) (bd:=bd) (φ:=φ) (fun _=>1) (fun s hs=>by
  have a1:=h.lt s hs;have a2:=h.nx2 (nx s).2;have a3:=h.le (nx (nx (nx s).2).2).2;simp only [ji9];omega) (nx s).1.toNat [] (zb c sb (nx s).1 (nx s).2)
 have h2:=h.cap c (nx s).1 (nx s).2;have h3:=h.le s;rw [jep] at h1;simp only [Go.Proofs.Ytmnpailnelmpiaa.rdSh,vM];have:jP (fun _:En=>1) []=0:=rfl
 omega
theorem Pot.rdPl (h:Pot nx bd sb φ) (c:Option Int) (s:σ):φ (rdPl c nx bd sb s).2+jdY (rdPl c nx bd sb s).1≤φ s:=by
 have h1:=fun n s=>zh (rd:=jhT nx) (bd:=bd) (φ:=φ) (fun _=>1) (fun s hs=>by
  have a1:=h.lt s hs;have a2:=h.le (nx s).2;simp only [jhT];omega) n [] s
 simp only [Go.Proofs.Ytmnpailnelmpiaa.rdPl,jdY];have h3:=h.nx2 s;have h4:=h.nx2 (nx (nx s).2).2;have h5:=h.le (nx (nx (nx (nx s).2).2).2).2;have h2:=h.cap c (nx (nx (nx (nx (nx s).2).2).2).2).1 (nx (nx (nx (nx (nx s).2).2).2).2).2;have h1':=h1 (nx (nx (nx (nx (nx s).2).2).2).2).1.toNat (zb c sb (nx (nx (nx (nx (nx s).2).2).2).2).1 (nx (nx (nx (nx (nx s).2).2).2).2).2);rw [jep] at h1';have:jP (fun _:Ed=>1) []=0:=rfl
 omega
theorem Pot.rdRn (h:Pot nx bd sb φ) (c c':Option Int) (s:σ) (hs:bd s=false):φ (rdRn c c' nx bd sb s).2+(jac (rdRn c c' nx bd sb s).1+1)≤φ s:=by
 have h1:=fun n s=>zh (rd:=jhw nx) (bd:=bd) (φ:=φ) (fun _=>1) (fun s hs=>by
  have a1:=h.lt s hs;have a2:=h.nx2 (nx s).2;have a3:=h.le (nx (nx (nx s).2).2).2;simp only [jhw];omega) n [] s
 simp only [Go.Proofs.Ytmnpailnelmpiaa.rdRn,jac];have h3:=h.lt s hs;have h4:=h.rdPl c (nx s).2;generalize Go.Proofs.Ytmnpailnelmpiaa.rdPl c nx bd sb (nx s).2=p at*;have h5:=h.le p.2;have h2:=h.cap c' p.1.tasks (nx p.2).2;have h1':=h1 p.1.tasks.toNat (zb c' sb p.1.tasks (nx p.2).2);rw [jep] at h1';have:jP (fun _:Tk=>1) []=0:=rfl
 omega
theorem Pot.runs (h:Pot nx bd sb φ) (c c':Option Int) (n:Nat) (s:σ):jb2 (kb bd (Go.Proofs.Ytmnpailnelmpiaa.rdRn c c' nx bd sb) n ([],s)).1+φ (kb bd (Go.Proofs.Ytmnpailnelmpiaa.rdRn c c' nx bd sb) n ([],s)).2≤φ s:=by
 have:=zh (bd:=bd) (φ:=φ) (rd:=Go.Proofs.Ytmnpailnelmpiaa.rdRn c c' nx bd sb) (fun r=>jac r+1) (fun s hs=>h.rdRn c c' s hs) n [] s
 rw [jhF] at this;have e:jP (fun r:Rn=>jac r+1) []=0:=rfl
 simp only [jb2];omega
theorem Pot.rdYI (h:Pot nx bd sb φ) (s:σ):kH (rdYI nx bd sb s).1+φ (rdYI nx bd sb s).2≤φ s+4:=by
 have h1:=h.nx2 s;have h2:=jhP (φ:=φ) (rd:=Go.Proofs.Ytmnpailnelmpiaa.rdSh none nx bd sb) vM (fun s=>h.rdSh none s) 4 [] (nx (nx s).2).2
 have h3:=jhQ (rd:=Go.Proofs.Ytmnpailnelmpiaa.rdSh none nx bd sb) 4 [] (nx (nx s).2).2;simp only [Go.Proofs.Ytmnpailnelmpiaa.rdYI,kH,jeF];generalize qZ (Go.Proofs.Ytmnpailnelmpiaa.rdSh none nx bd sb) 4 ([],(nx (nx s).2).2)=S at*;have h4:=h.le S.2;have h5:=h.runs none none (nx S.2).1.toNat (nx S.2).2;have e:jP vM []=0:=rfl;simp at h3;omega
theorem Pot.rdYS (h:Pot nx bd sb φ) (s:σ):kH (rdYS nx bd sb s).1+φ (rdYS nx bd sb s).2≤φ s+4:=by
 have h1:=h.nx2 s;have h2:=zh (bd:=bd) (φ:=φ) (rd:=Go.Proofs.Ytmnpailnelmpiaa.rdSh (some 80) nx bd sb) vM (fun s _=>h.rdSh _ s) 4 [] (nx (nx s).2).2
 have h3:=jhR (bd:=bd) (rd:=Go.Proofs.Ytmnpailnelmpiaa.rdSh (some 80) nx bd sb) 4 [] (nx (nx s).2).2;simp only [Go.Proofs.Ytmnpailnelmpiaa.rdYS,kH,jeF];generalize kb bd (Go.Proofs.Ytmnpailnelmpiaa.rdSh (some 80) nx bd sb) 4 ([],(nx (nx s).2).2)=S at*;have h4:=h.le S.2;have h6:=h.cap (some 8) (nx S.2).1 (nx S.2).2;have h5:=h.runs (some 31) (some 12) (nx S.2).1.toNat (zb (some 8) sb (nx S.2).1 (nx S.2).2);have e:jP vM []=0:=rfl;simp at h3;omega
end
def jlT (L:List Int) (s:Nat×Bool):Nat:=L.length-s.1+if s.2 then 0 else 1
def jjB (t:ByteArray) (s:Int×Bool):Nat:=(t.size-s.1).toNat+if s.2 then 0 else 1
theorem juh (L:List Int):Pot (kE L) (·.2) (fun s=>(s.1,true)) (jlT L):=by
 refine ⟨fun s=>?_,fun s hs=>?_,fun s=>?_⟩
 ·unfold kE jlT
  split
  ·dsimp only;omega
  ·dsimp only;simp
 ·obtain ⟨k,b⟩:=s
  dsimp only at hs;subst hs;unfold kE jlT;split
  ·rename_i v hv
   have:=(List.getElem?_eq_some_iff.1 hv).1;simp at this⊢;omega
  ·simp
 ·unfold jlT;simp
theorem jhC (t:ByteArray) (k:Int) (h:¬(vAt t k).2<0):0≤k∧k+1≤(vAt t k).2∧(vAt t k).2≤t.size:=by
 rw [vAt] at h⊢;split at h
 ·dsimp only at h;omega
 ·rename_i hk
  rw [if_neg hk];cases hv:vS (t.data.toList.drop k.toNat) with
  |none=>rw [hv] at h;exact absurd (show (-1:Int)<0 by decide) h
  |some p=>
   obtain ⟨v,m⟩:=p;have hp:=jhB hv;rw [List.length_drop,Array.length_toList] at hp;have hz:t.data.size=t.size:=rfl;dsimp only;omega
theorem jug (t:ByteArray):Pot (kh t) (·.2) (fun s=>(s.1,true)) (jjB t):=by
 have key:∀s:Int×Bool,s.2=false→jjB t (kh t s).2+1≤jjB t s:=fun s hs=>by
  obtain ⟨k,b⟩:=s;dsimp only at hs;subst hs;unfold kh jjB;simp only [Bool.false_eq_true,if_false];split
  ·simp
  ·rename_i hn
   have:=jhC t k hn;simp;omega
 refine ⟨fun s=>?_,key,fun s=>?_⟩
 ·cases hs:s.2 with
  |false=>have:=key s hs;omega
  |true=>unfold kh;rw [if_pos hs];exact Nat.le_refl _
 ·unfold jjB;simp
theorem ji4:∀(f:Nat) (l:List UInt8) (L:List Int),rvF f l=some L→L.length≤l.length
 |0,[],L,h=>by simp [rvF] at h;subst h;simp
 |_+1,[],L,h=>by simp [rvF] at h;subst h;simp
 |0,_::_,L,h=>by simp [rvF] at h
 |f+1,b::l,L,h=>by
  simp only [rvF] at h;cases hv:vS (b::l) with
  |none=>rw [hv] at h;simp at h
  |some p=>
   obtain ⟨v,k⟩:=p;rw [hv] at h;simp only [Option.map_eq_some_iff] at h;obtain ⟨r,h1,rfl⟩:=h;have h2:=ji4 f _ _ h1;have h3:=jhB hv;rw [List.length_drop] at h2;simp only [List.length_cons] at*;omega
theorem jcW (a b:ByteArray):(a.toList==b.toList)=decide (a=b):=by
 rw [ByteArray.toList_eq,ByteArray.toList_eq,Bool.eq_iff_iff,beq_iff_eq,decide_eq_true_iff];constructor
 ·intro h;cases a;cases b;congr 1;exact Array.toList_inj.1 h
 ·rintro rfl;rfl
theorem jtl (L:List Int):kH (nI L).1≤L.length+5:=by
 have:=(juh L).rdYI (0,false);simp only [jlT] at this;unfold nI;simp at this;omega
theorem jtk (t:ByteArray):kH (nS t).1≤t.size+5:=by
 have:=(jug t).rdYS (0,false);simp only [jjB] at this;unfold nS;simp at this;omega
end Go.Proofs.Ytmnpailnelmpiaa
