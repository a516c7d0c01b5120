/- Parts. -/
import Derived.Test.YtmnpailnelmpiaaGreatQSub
set_option linter.unusedSimpArgs false
set_option linter.unusedVariables false
namespace Go.Proofs.YtmnpailnelmpiaaGreat
open Go.RowKit Go.Sort
section
variable {s:St} {K:St→Prop}
theorem jw1 (g c sz lo n:Nat) (p:List Nat) (x:Value) (l:List A0) (R:List Cell→St→Prop):kI s (.hs g c p x sz lo n::l) R=kI s l (fun cs s'=>R (.a (.hs g c p x sz lo n)::cs) s'):=by simp [kI,A0.one]
theorem joF {w:World} {d:D} {u:Value} {S:List Nat} (hd:d.isSl=true) (hs:0<d.size) (h:Rep w true d u S):jhH u d.size 0 d.len=u:=by
 cases d with
 |val _=>cases hd
 |sl size ty cs=>
  obtain ⟨vs,T,S',hr,hl,_⟩:=h;have hlen:=RepL.length _ hl;rcases qw hr with ⟨rfl,rfl⟩|⟨g,n,c,rfl,_,h3,_⟩
  ·have:cs=[]:=List.eq_nil_of_length_eq_zero (by simpa using hlen.symm)
   subst this;simp [jhH,D.len,D.cells,D.size]
  ·have e:(D.sl size ty cs).len=n:=by
    simp only [D.len,D.cells,D.size];rw [←hlen,h3];exact Nat.mul_div_cancel _ hs
   rw [e];simp only [jhH,Nat.zero_mul,Nat.sub_zero];split
   ·rfl
   ·simp [Addr.add_lit]
theorem jiY {B:Nat} {w:World} {a a':A0} (h:∀u,A0Rel B w a u→A0Rel B w a' u):∀{c:Nat} {l:List Cell} {us:List Value} {S:List Nat},CRel B w l us S→l[c]?=some (.a a)→CRel B w (l.set c (.a a')) us S
 |_,[],_,_,_,hc=>by simp at hc
 |0,.a x::l,_,S,⟨v,us',e,h1,h2⟩,hc=>by
  simp at hc;subst hc;exact ⟨v,us',e,h _ h1,h2⟩
 |0,.own e ε::l,_,_,_,hc=>by simp at hc
 |c+1,.a x::l,_,S,⟨v,us',e,h1,h2⟩,hc=>by
  simp at hc;exact ⟨v,us',e,h1,jiY h h2 hc⟩
 |c+1,.own e ε::l,_,_,⟨v,us',T1,T2,e1,e2,h1,h2,h3,h4⟩,hc=>by
  simp at hc;exact ⟨v,us',T1,T2,e1,e2,h1,h2,h3,jiY h h4 hc⟩
theorem jlH (g c:Nat) {b ty:Nat} {cs:List Cell} {a a':A0} (hb:s.o g=.box b ty cs) (hc:cs[c]?=some (.a a)) (h:∀(B N:Nat) (w0 w:World) (act:Act) (F:Nat→List Nat),RelF B w0 N s act w F→∀u,A0Rel B w a u→A0Rel B w a' u) (hk:WkK (s.setO g (.box b ty (cs.set c (.a a')))) K):WkK s K:=by
 intro B N w0 w act F hr;have h4:=hr.ob g;rw [hb] at h4;obtain ⟨us,S1,q1,q2,q3⟩:=h4;refine hk _ _ _ _ _ _ (hr.setO (g:=g) (ob:=.box b ty (cs.set c (.a a'))) (S:=F g) ⟨us,S1,q1,jiY (h _ _ _ _ _ _ hr) q2 hc,q3⟩ (hr.fr g) fun g' hg' x hx hx'=>hr.dj g' g hg' x hx' hx)
theorem jkm (g c g2:Nat) {b ty:Nat} {cs:List Cell} {d:D} {η:jp} (hb:s.o g=.box b ty cs) (hc:cs[c]?=some (.own d η)) (h2:s.o g2=.none) (hne:g2≠g) (hsz:0<d.size)
 (hk:WkK (((s.rm g c).setO g2 (.loose d η)).setO g (.box b ty (cs.set c (.a (.hs g2 0 [] (η []) d.size 0 d.len))))) K):WkK s K:=by
 have hcl:=(List.getElem?_eq_some_iff.1 hc).1;have ho:(s.o g).own c=some (d,η):=by rw [hb];simp [Ob.own,hc]
 refine vi g c g2 ho h2 hne fun hone=>?_
 have hrm:(s.rm g c).o g=.box b ty (cs.set c (.a (.v (η [])))):=by
  show (if g=g then (s.o g).rm c else _)=_
  rw [if_pos rfl,hb];simp only [Ob.rm,hc,rmC]
 refine jlH g c (a:=.v (η [])) (b:=b) (ty:=ty) (cs:=cs.set c (.a (.v (η [])))) (by
  show (if g=g2 then _ else (s.rm g c).o g)=_
  rw [if_neg (Ne.symm hne)];exact hrm) (List.getElem?_set_self hcl) (a':=.hs g2 0 [] (η []) d.size 0 d.len) (fun B N w0 w act F hr u hu=>?_) ?_
 ·have h3:=hr.ob g2
  have e:((s.rm g c).setO g2 (.loose d η)).o g2=.loose d η:=by show (if g2=g2 then _ else _)=_;rw [if_pos rfl]
  rw [e] at h3;obtain ⟨k1,u',k2,k3⟩:=h3;have e2:η []=u':=by rw [k3,zj k1]
  have hu':u=η []:=hu;rw [hu'];exact ⟨.inl (by rw [e2,joF k1 hsz k2]),hone⟩
 ·rw [List.set_set];exact hk
theorem jei (g c g2:Nat) {g3 sz n b ty:Nat} {cs:List Cell} {d:D} {η:jp} {x:Value} (hb:s.o g=.box b ty cs) (hc:cs[c]?=some (.a (.hs g3 0 [] x sz 0 n))) (hx:x=η []) (hs:sz=d.size) (hn:n=d.len) (h2:s.o g2=.loose d η) (hsz:0<d.size)
 (hk:WkK (((s.setO g (.box b ty (cs.set c (.a (.v (η [])))))).setO g2 .none).setO g (.box b ty (cs.set c (.own d η)))) K):WkK s K:=by
 have hcl:=(List.getElem?_eq_some_iff.1 hc).1;have hne:g2≠g:=fun e=>by rw [e,hb] at h2;cases h2
 subst hx hs hn;refine jlH g c (a:=.hs g3 0 [] (η []) d.size 0 d.len) hb hc (a':=.v (η [])) (fun B N w0 w act F hr u hu=>?_) ?_
 ·have h3:=hr.ob g2
  rw [h2] at h3;obtain ⟨k1,u',k2,k3⟩:=h3;have e2:η []=u':=by rw [k3,zj k1]
  obtain ⟨h5,_⟩:=hu;have h5:=h5.resolve_right fun h=>absurd h.1 (Nat.lt_irrefl 0)
  show u=η [];rw [h5,e2,joF k1 hsz k2]
 ·refine vo g c g2 (b:=b) (ty:=ty) (cs:=cs.set c (.a (.v (η [])))) (d:=d) (η:=η) (by show (if g=g then _ else _)=_;rw [if_pos rfl]) (List.getElem?_set_self hcl) (by show (if g2=g then _ else s.o g2)=_;rw [if_neg hne];exact h2) ?_
  rw [List.set_set];exact hk
end
attribute [go_sem] jw1
end Go.Proofs.YtmnpailnelmpiaaGreat
