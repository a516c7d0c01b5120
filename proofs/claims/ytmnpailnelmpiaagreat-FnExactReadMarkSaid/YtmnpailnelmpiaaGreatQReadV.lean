/- Parts. -/
import Derived.Test.YtmnpailnelmpiaaGreatQVarAt
set_option linter.unusedSimpArgs false
set_option linter.unusedVariables false
set_option maxHeartbeats 4000000
set_option maxRecDepth 100000
namespace Go.Proofs.YtmnpailnelmpiaaGreat
open Go.RowKit Go.Sort
theorem jrN:∀(f g:Nat) (l:List UInt8),l.length≤f→l.length≤g→rvF f l=rvF g l
 |f,g,[],_,_=>by cases f<;>cases g<;>rfl
 |0,_,_::_,h,_=>by simp at h
 |_,0,_::_,_,h=>by simp at h
 |f+1,g+1,b::l,h1,h2=>by
  simp only [rvF];cases hv:jbt (b::l) with
  |none=>rfl
  |some p=>
   obtain ⟨v,k⟩:=p;obtain ⟨_,q,h5,rfl⟩:=zR hv;have hne:=List.length_pos_iff.2 (je9 v);simp only [List.length_cons] at h1 h2;dsimp only;rw [jrN f g]
   ·rw [List.length_drop,List.length_cons];omega
   ·rw [List.length_drop,List.length_cons];omega
structure RvTo (t:ByteArray) (k:Nat) (L:List Int):Prop where
 le:k≤t.size
 len:L.length≤k
 eq:rvF t.size t.data.toList=(rvF t.size (t.data.toList.drop k)).map fun r=>L++r
theorem RvTo.start (t:ByteArray):RvTo t 0 []:=⟨Nat.zero_le _,Nat.le_refl _,by simp⟩
theorem RvTo.step {t:ByteArray} {k:Nat} {L:List Int} (h:RvTo t k L) (hk:k<t.size):
 (vAt t (k:Int)).2=-1∧rvF t.size t.data.toList=none∨∃v m:Nat,vAt t (k:Int)=((v:Int),(m:Int))∧k<m∧RvTo t m (L++[(v:Int)]):=by
 have hs:t.data.toList.length=t.size:=by rw [Array.length_toList];rfl
 have hv:vAt t (k:Int)=match jbt (t.data.toList.drop k) with
  |some (v,m)=>((v:Int),(k:Int)+(m:Int))
  |none=>(0,-1):=by rw [vAt,if_neg (by omega),Int.toNat_natCast];rfl
 have hl:(t.data.toList.drop k).length=t.size-k:=by rw [List.length_drop,hs]
 have heq:=h.eq;cases hd:t.data.toList.drop k with
 |nil=>rw [hd] at hl;simp at hl;omega
 |cons b l=>
  rw [hd] at hv hl heq;obtain ⟨f,hf⟩:∃f,t.size=f+1:=⟨t.size-1,by omega⟩
  cases hh:jbt (b::l) with
  |none=>
   left;rw [hv,hh];refine ⟨rfl,?_⟩;rw [heq,hf];simp only [rvF,hh,Option.map_none]
  |some p=>
   obtain ⟨v,m⟩:=p;right;obtain ⟨_,q,h5,rfl⟩:=zR hh;have hne:=List.length_pos_iff.2 (je9 v);have hlq:=congrArg List.length h5;rw [List.length_append] at hlq;refine ⟨v,k+(vq v).length,?_,by omega,by omega,?_,?_⟩
   ·rw [hv,hh];simp
   ·have:=h.len;simp;omega
   ·have e1:rvF (f+1) (b::l)=(rvF f ((b::l).drop (vq v).length)).map fun r=>(v:Int)::r:=by simp only [rvF,hh]
    rw [heq]
    conv=>lhs;rw [hf,e1]
    rw [←List.drop_drop,hd,jrN f t.size ((b::l).drop (vq v).length) (by rw [List.length_drop];omega) (by rw [List.length_drop];omega),Option.map_map]
    congr 1
    funext r
    simp
theorem RvTo.done {t:ByteArray} {k:Nat} {L:List Int} (h:RvTo t k L) (hk:¬k<t.size):rvF t.size t.data.toList=some L:=by
 have hs:t.data.toList.length=t.size:=by rw [Array.length_toList];rfl
 rw [h.eq,List.drop_eq_nil_of_le (by omega)]
 cases t.size<;>simp [rvF]
theorem jzB (l:List Int) (a:Int):D.sl 1 jfc (l.flatMap (fun n=>[iv n])++[iv a])=jh (l++[a]):=by simp [jh]
def rvR (t:ByteArray):List Int×Bool:=match rvF t.size t.data.toList with
 |some L=>(L,true)
 |none=>([],false)
theorem jEu {s:St} {a b g c:Nat} {x u:Value} {d:D} {η:jq} (ha:s.t a=.c (.h g c [] x)) (ho:(s.o g).own c=some (d,η)) (hx:η []=x) (hb:s.t b=.c (.v u)) (hu:u.oneCell'=true:=by rfl):juB [.t a,.t b] (.tup [(false,[d]),(false,[.val u])]) s:=by
 simp only [qf,vW,ha,hb,vV,jI,jw];refine ⟨by simp,?_⟩
 simp [kL,A0.one,hu,ho,IsD,RT.flat];exact ⟨_,_,⟨rfl,rfl⟩,hx,rfl⟩
theorem jEt {s:St} {a b:Nat} {u:Value} {size:Nat} {ty:TypeId} (ha:s.t a=.c (.v (.slice none 0 0))) (hb:s.t b=.c (.v u)) (hu:u.oneCell'=true:=by rfl):juB [.t a,.t b] (.tup [(false,[.sl size ty []]),(false,[.val u])]) s:=by
 simp only [qf,vW,ha,hb,vV,jI,jw];refine ⟨by simp,?_⟩
 simp only [List.flatMap_cons,List.flatMap_nil,List.append_nil,List.cons_append,List.nil_append,kL,A0.one,hu,RT.flat,IsD];simp [jzA,IsD];rfl
theorem jkk (t:ByteArray) (ht:t.size≤1000000000):jZ Tryz.prog 168 [.c (.val (.string t))] (.tup [(false,[jh (rvR t).1]),(false,[.val (.bool (rvR t).2)])]):=by
 refine jr Tryz.func168 jgv (by simp) ?_
 unfold jdC;simp only [go_sem];refine jp (fun i:(List Int×Nat)×jq=>St.of [(0,.c (.v (.string t))),(4,Hd 7 i.2),(5,Ni i.1.2)] [(7,.loose (jh i.1.1) i.2)]) (fun i=>RvTo t i.1.2 i.1.1) (fun i=>t.size-i.1.2) (([],0),jeA) (RvTo.start t) (ji [none] (by simp only [go_sem]<;>and_intros<;>first|rfl|assumption|trivial)) ?_
 rintro ⟨⟨L,k⟩,η⟩ hi;dsimp only at hi;have hle:=hi.le;have hlen:=hi.len;by_cases hlt:k<t.size;rotate_left
 ·have hlt':¬(k:Int)<(t.size:Int):=by omega
  have hr:rvR t=(L,true):=by rw [rvR,hi.done hlt]
  rw [hr];simp only [go_sem,hlt'];exact jEu (g:=7) (c:=0) (d:=jh L) (η:=η) (x:=η []) (by simp only [go_sem]) (by simp only [go_sem]) rfl (by simp only [go_sem])
 have hlt':(k:Int)<(t.size:Int):=by omega
 have hm1:L.length+1≤maxLen:=by unfold maxLen;omega
 have hm2:(L.length+1)*8≤140737488355328:=by omega
 simp only [go_sem,hlt'];refine jc (joQ t (k:Int) ht (by omega)) (by simp only [go_sem]) fun η=>?_
 simp only [go_sem];rcases hi.step hlt with ⟨e1,e2⟩|⟨v,m,e1,hkm,hn⟩
 ·have hr:rvR t=([],false):=by rw [rvR,e2]
  have hneg:(-1:Int)<0:=by omega
  rw [hr];simp only [go_sem,e1,hneg];exact jEt (by simp only [go_sem]) (by simp only [go_sem])
 ·have hneg:¬(m:Int)<0:=by omega
  have hmle:=hn.le;simp only [go_sem,e1,hneg,hm1,hm2];intro η2 η3;exact ⟨((L++[(v:Int)],m),η3),hn,(ji [some 2300] (by simp only [go_sem,jzB]<;>and_intros<;>first|rfl|assumption|trivial)),by (try dsimp only);omega⟩
end Go.Proofs.YtmnpailnelmpiaaGreat
