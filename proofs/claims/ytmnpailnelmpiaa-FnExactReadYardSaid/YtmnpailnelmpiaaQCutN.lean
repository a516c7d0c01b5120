/- Parts. -/
import Derived.Test.YtmnpailnelmpiaaQE4e
set_option linter.unusedSimpArgs false
set_option linter.unusedVariables false
namespace Go.Proofs.Ytmnpailnelmpiaa
open Go.RowKit Go.Sort
section
variable {P:Program} {B:Nat} {w w0:World} {F:Nat→List Nat} {o:Nat→Ob}
theorem jgh {own:Bool}:∀{k:Nat} {cs:List D} {vs:List Value} {S:List Nat} {d:D},RepL w own cs vs S→cs[k]?=some d→
 ∃v SA Sd SC,vs[k]?=some v∧S=SA++Sd++SC∧Rep w own d v Sd∧∀d' Sd',Rep w own d' v Sd'→RepL w own (cs.set k d') vs (SA++Sd'++SC)
 |_,[],_,_,_,_,h=>by simp at h
 |0,e::cs,_,_,d,⟨v,vs',S1,S2,rfl,rfl,h1,h2⟩,h=>by
  simp at h;subst h;exact ⟨v,[],S1,S2,rfl,by simp,h1,fun d' Sd' h3=>⟨v,vs',Sd',S2,rfl,by simp,h3,h2⟩⟩
 |k+1,e::cs,_,_,d,⟨v,vs',S1,S2,rfl,rfl,h1,h2⟩,h=>by
  simp at h;obtain ⟨v2,SA,Sd,SC,a1,rfl,a3,a4⟩:=jgh h2 h;exact ⟨v2,S1++SA,Sd,SC,by simpa using a1,by simp,a3,fun d' Sd' h3=>⟨v,vs',S1,SA++Sd'++SC,rfl,by simp,h1,a4 d' Sd' h3⟩⟩
theorem jdC:∀{c:Nat} {l:List Cell} {us:List Value} {S:List Nat} {d:D} {η:jm},CRel B w l us S→l[c]?=some (.own d η)→
 ∃u SA Sd SC,S=SA++Sd++SC∧d.isSl=true∧Rep w true d u Sd∧(∀p,η p=hdr w p d u)∧∀d' η' Sd',d'.isSl=true→Rep w true d' u Sd'→(∀p,η' p=hdr w p d' u)→CRel B w (l.set c (.own d' η')) us (SA++Sd'++SC)
 |_,[],_,_,_,_,_,h=>by simp at h
 |0,.a _::l,_,_,d,η,_,h=>by simp at h
 |0,.own e ε::l,_,_,d,η,⟨u,us',S1,S2,rfl,rfl,h1,h2,h3,h4⟩,h=>by
  simp at h;obtain ⟨rfl,rfl⟩:=h;exact ⟨u,[],S1,S2,by simp,h1,h2,h3,fun d' η' Sd' a1 a2 a3=>⟨u,us',Sd',S2,rfl,by simp,a1,a2,a3,h4⟩⟩
 |c+1,.a x::l,_,_,d,η,⟨u,us',rfl,h1,h2⟩,h=>by
  simp at h;obtain ⟨v,SA,Sd,SC,a1,a2,a3,a4,a5⟩:=jdC h2 h;exact ⟨v,SA,Sd,SC,a1,a2,a3,a4,fun d' η' Sd' b1 b2 b3=>⟨u,us',rfl,h1,a5 d' η' Sd' b1 b2 b3⟩⟩
 |c+1,.own e ε::l,_,_,d,η,⟨u,us',S1,S2,rfl,rfl,h1,h2,h3,h4⟩,h=>by
  simp at h;obtain ⟨v,SA,Sd,SC,rfl,a2,a3,a4,a5⟩:=jdC h4 h;exact ⟨v,S1++SA,Sd,SC,by simp,a2,a3,a4,fun d' η' Sd' b1 b2 b3=>⟨u,us',S1,SA++Sd'++SC,rfl,by simp,h1,h2,h3,a5 d' η' Sd' b1 b2 b3⟩⟩
theorem jlG {ob:Ob} {c:Nat} {S:List Nat} {d:D} {η:jm} (ho:ORel B w ob S) (h:ob.own c=some (d,η)):
 ∃u SA Sd SC,S=SA++Sd++SC∧d.isSl=true∧Rep w true d u Sd∧(∀p,η p=hdr w p d u)∧∀d' η' Sd',d'.isSl=true→Rep w true d' u Sd'→(∀p,η' p=hdr w p d' u)→ORel B w (ob.putOwn c d' η') (SA++Sd'++SC):=by
 cases ob with
 |none=>cases h
 |loose e ε=>
  cases c with
  |succ c=>cases h
  |zero=>
   simp only [Ob.own,Option.some.injEq,Prod.mk.injEq] at h;obtain ⟨rfl,rfl⟩:=h;obtain ⟨h1,u,h2,h3⟩:=ho;exact ⟨u,[],S,[],by simp,h1,h2,h3,fun d' η' Sd' a1 a2 a3=>⟨a1,u,by simpa using a2,a3⟩⟩
 |box b ty l=>
  simp only [Ob.own] at h;split at h
  ·rename_i e ε he
   simp only [Option.some.injEq,Prod.mk.injEq] at h;obtain ⟨rfl,rfl⟩:=h;obtain ⟨us,S1,h1,h2,rfl⟩:=ho;obtain ⟨u,SA,Sd,SC,rfl,a2,a3,a4,a5⟩:=jdC h2 he;exact ⟨u,b::SA,Sd,SC,by simp,a2,a3,a4,fun d' η' Sd' b1 b2 b3=>⟨us,SA++Sd'++SC,h1,a5 d' η' Sd' b1 b2 b3,by simp⟩⟩
  ·cases h
theorem jqu {B:Nat} {w:World} {ob:Ob} {S:List Nat} {c k sz tyo:Nat} {ds0:List D} {e:D} {η:jm} (h:ORel B w ob S) (ho:ob.own c=some (.sl sz tyo ds0,η)) (hk:ds0[k]?=some e):
 ∃v Sk,Rep w true e v Sk∧(e.isSl=true→η [k]=v)∧(∀x,e=.val x→v=x)∧(∀b∈Sk,b∈S)∧(S.Nodup→Sk.Nodup)∧∀e' Sk',Rep w true e' v Sk'→∃η' S',ORel B w (ob.putOwn c (.sl sz tyo (ds0.set k e')) η') S'∧η' []=η []∧∃R,S.Perm (R++Sk)∧S'.Perm (R++Sk'):=by
 obtain ⟨u,SA,Sd,SC,e1,a1,a2,a3,a4⟩:=jlG h ho;obtain ⟨vs,T,S',hrow,hrl,rfl⟩:=a2;obtain ⟨v,SA',Sk,SC',b1,rfl,b3,b4⟩:=jgh hrl hk
 have hperm:∀X:List Nat,(SA++(T++(SA'++X++SC'))++SC).Perm ((SA++(T++(SA'++[]++SC'))++SC)++X):=fun X=>by
  have e1:SA++(T++(SA'++X++SC'))++SC=(SA++(T++SA'))++(X++(SC'++SC)):=by simp
  have e2:(SA++(T++(SA'++[]++SC'))++SC)++X=(SA++(T++SA'))++((SC'++SC)++X):=by simp
  rw [e1,e2];exact List.Perm.append_left _ List.perm_append_comm
 refine ⟨v,Sk,b3,fun hs=>?_,fun x hx=>?_,fun b hb=>by rw [e1];simp [hb],fun hnd=>?_,fun e' Sk' hr=>?_⟩
 ·rw [a3]
  rcases kY hrow with ⟨_,rfl⟩|⟨gg,nn,cc,rfl,_,_,hcell,_⟩
  ·simp at b1
  ·simp only [hdr,hk,Nat.zero_add,hcell k v b1,Option.getD_some]
   exact vb hs
 ·subst hx;exact b3.1
 ·rw [e1] at hnd
  exact (List.nodup_append.1 ((hperm Sk).nodup_iff.1 hnd)).2.1
 ·have hrep:Rep w true (.sl sz tyo (ds0.set k e')) u (T++(SA'++Sk'++SC')):=⟨vs,T,_,hrow,b4 _ _ hr,rfl⟩
  refine ⟨fun p=>hdr w p (.sl sz tyo (ds0.set k e')) u,_,a4 _ _ _ rfl hrep (fun _=>rfl),by rw [a3];rfl,_,by rw [e1];exact hperm Sk,hperm Sk'⟩
end
end Go.Proofs.Ytmnpailnelmpiaa
