/- Parts. -/
import Derived.Test.YtmnpailnelmpiaaQYardB
import Derived.Shelf.Spec.SlicesInsertGrow
import Derived.Lib.Overlaps
set_option linter.unusedSimpArgs false
set_option linter.unusedVariables false
set_option maxRecDepth 100000
namespace Go.Proofs.Ytmnpailnelmpiaa
open Go.RowKit Go.Sort
section
variable {P:Program} {B:Nat} {w w0:World} {F:Nat→List Nat} {o:Nat→Ob}
variable {s:St} {K:St→Prop} {β:Nat} {gd:Option (Nat×Bool)} {d:Option Nat}
theorem jlN (g c i:Nat) (p:List Nat) (η:jm) (e:D) (l:List D):jdg g c p η i (e::l)=e.toOwn g c (p++[i]) η::jdg g c p η (i+1) l:=(rfl)
end
attribute [go_sem] jlN
section
variable {P:Program} {s:St}
def jpz (s:St) (ds:List D) (d:D) (l:List A0):AV→Prop
 |.c a=>l.length=ds.length∧ka s (l++[a]) fun cs _=>IsD cs (ds++[d])
 |_=>False
def jrW (s:St) (k:Nat) (ds:List D) (d:D) (b:AV):AV→Prop
 |.c (.bp g c bb)=>ldB (s.o g) g c bb k fun l=>jpz s ds d l b
 |_=>False
theorem vT (n k m:Nat) (ds:List D) (d:D) (h:jrW s k ds d (s.t m) (s.t n)):joO [.cell n true k,.t m] (.tup [(true,ds),(false,[d])]) s:=by
 unfold jrW at h;split at h
 ·rename_i g c bb he
  simp only [ldB] at h;split at h
  ·rename_i b ty cs ho
   obtain ⟨e1,e2,h⟩:=h;unfold jpz at h;split at h
   ·rename_i a ha
    obtain ⟨h1,h2⟩:=h;simp only [joO,jhv,ha,he];refine ⟨_,⟨ty,cs,by rw [ho,e1],e2,rfl⟩,.inl trivial,?_⟩
    refine ⟨⟨by simp,by simp [h1]⟩,?_⟩
    simpa [RT.flat] using h2
   ·exact h.elim
  ·exact h.elim
 ·exact h.elim
theorem jt8 (ds:List D) (d:D) (l:List A0) (a:A0):jpz s ds d l (.c a)=(l.length=ds.length∧ka s (l++[a]) fun cs _=>IsD cs (ds++[d])):=(rfl)
theorem jt7 (k g c bb:Nat) (ds:List D) (d:D) (b:AV):jrW s k ds d b (.c (.bp g c bb))=ldB (s.o g) g c bb k fun l=>jpz s ds d l b:=(rfl)
end
attribute [go_sem] jt8 jt7
open Go.RowKit Go.Sort Go.Lib
theorem jkj (sh:List (List En)):(sh.flatMap fun es=>[js es])=sh.map js:=by induction sh<;>simp_all
theorem jsy {sh:List (List En)} {k:Nat} {l:List En} (h:sh[k]?=some l):(sh.flatMap fun es=>[js es])[k]?=some (.sl 4 tEn (l.flatMap jk)):=by
 rw [jkj,List.getElem?_map,h];rfl
def jbh (sh:List (List En)) (n:Nat) (v:Value):D:=.sl 1 joQ ((sh.flatMap fun es=>[js es]).set n (.val v))
theorem jn4 (sh:List (List En)) (n:Nat) (v:Value):D.sl 1 joQ ((sh.flatMap fun es=>[js es]).set n (.val v))=jbh sh n v:=rfl
theorem jrt (sh:List (List En)) (n:Nat) (v:Value):(jbh sh n v).isSl=true:=rfl
theorem jro (sh:List (List En)) (n:Nat) (v:Value):(jbh sh n v).size=1:=rfl
theorem jp0 (sh:List (List En)) (n:Nat) (v:Value):(jbh sh n v).len=sh.length:=by simp [jbh,D.len,D.cells,D.size,jkj]
theorem jmd (sh:List (List En)) (n:Nat) (v:Value):(jbh sh n v).cells.length=sh.length:=by simp [jbh,D.cells,jkj]
theorem jpG {sh:List (List En)} {n:Nat} (v:Value) (l:List En) (h:n<sh.length):D.put [] n [js l] (jbh sh n v)=kO (sh.set n l):=by
 simp only [jbh,D.put,kD,kO,jkj,List.set_set,List.map_set]
def C.sub:List Nat→C→C
 |[],c=>c
 |0::p,.seq a _=>a.sub p
 |_::p,.seq _ b=>b.sub p
 |0::p,.cond _ a _=>a.sub p
 |_::p,.cond _ _ b=>b.sub p
 |_::p,.blk _ a=>a.sub p
 |_::p,.loop a=>a.sub p
 |_,c=>c
section
variable {s:St}
def resT (s:St) (rs:List R) (K:List (Bool×List A0)→Prop):AV→Prop
 |.agg l=>jhv s rs fun ps=>K ((true,l)::ps)
 |.c a=>jhv s rs fun ps=>K ((false,[a])::ps)
 |_=>False
theorem jrV (rs:List R) (rt:RT):joO rs rt s=jhv s rs fun ps=>jfF rt ps∧ka s (ps.flatMap (·.2)) fun cs _=>IsD cs rt.flat:=rfl
theorem jgL (K:List (Bool×List A0)→Prop):jhv s [] K=K []:=rfl
theorem jno (n:Nat) (rs:List R) (K:List (Bool×List A0)→Prop):jhv s (.t n::rs) K=resT s rs K (s.t n):=by
 simp only [jhv,resT];split<;>simp_all
theorem jnn (rs:List R) (K:List (Bool×List A0)→Prop) (a:A0):resT s rs K (.c a)=jhv s rs fun ps=>K ((false,[a])::ps):=rfl
theorem jeM (l:List (Bool×List D)) (ps:List (Bool×List A0)):jfF (.tup l) ps=(ps.length≠1∧ps.map (fun p=>(p.1,p.2.length))=l.map (fun p=>(p.1,p.2.length))):=rfl
end
open Go.RowKit Go.Sort Go.BigFrame
section
variable {P:Program} {β:Nat} {s:St} {K:St→Prop} {Q:Ex→St→Prop}
theorem qW {a:C} (h:WkK s (wpC P β a Q)):wpC P β (.gh a) Q s:=h
theorem WkK.of {K:St→Prop} (h:K s):WkK s K:=fun _ _ _ _ _ F hr=>⟨s,F,hr,h⟩
theorem WkK.wk {s':St} (h:Wk s s') (hk:WkK s' K):WkK s K:=fun B N w0 w a F hr=>let ⟨F',h1,_⟩:=h B N w0 w a F hr;hk B N w0 w a F' h1
theorem jmS {u:Value} (h:∃A n c,u=.slice A n c):u.oneCell'=true:=by obtain ⟨_,_,_,rfl⟩:=h;rfl
theorem jnT {w:World} {own:Bool} {d:D} {u:Value} {S:List Nat} (hd:d.isSl=true) (h:Rep w own d u S):∃A n c,u=.slice A n c:=by
 cases d with
 |val _=>cases hd
 |sl _ _ _=>exact vl h
theorem jc0 (g c g2:Nat) {d:D} {η:jm} (ho:(s.o g).own c=some (d,η)) (h2:s.o g2=.none) (hne:g2≠g) (hk:(η []).oneCell'=true→WkK ((s.rm g c).setO g2 (.loose d η)) K):WkK s K:=by
 intro B N w0 w a F h;obtain ⟨u,S,F',j1,j2,j3,j4,j5,j6,j7,j8⟩:=h.rm ho;have e:η []=u:=by rw [j3,vb j1]
 exact hk (e▸jmS (jnT j1 j2)) _ _ _ _ _ _ (j5.setO (g:=g2) (ob:=.loose d η) (S:=S) ⟨j1,u,j2,j3⟩ j4 (fun g' _ b hb=>j6 g' b hb))
theorem jhq {B:Nat} {w:World} {d:D} {η:jm} {u:Value} {S2:List Nat} (hd:d.isSl=true) (hr:Rep w true d u S2) (hh:∀p,η p=hdr w p d u):∀{c:Nat} {l:List Cell} {us:List Value} {S:List Nat},CRel B w l us S→l[c]?=some (.a (.v u))→
 ∃S',CRel B w (l.set c (.own d η)) us S'∧S'.Perm (S++S2)
 |_,[],_,_,_,h=>by simp at h
 |0,.a x::l,_,S,⟨v,us',rfl,h1,h2⟩,h=>by
  simp at h;subst h;have:v=u:=h1;subst this;exact ⟨S2++S,⟨v,us',S2,S,rfl,rfl,hd,hr,hh,h2⟩,List.perm_append_comm⟩
 |0,.own e ε::l,_,_,_,h=>by simp at h
 |c+1,.a x::l,_,S,⟨v,us',rfl,h1,h2⟩,h=>by
  simp at h;obtain ⟨S',a1,a2⟩:=jhq hd hr hh h2 h;exact ⟨S',⟨v,us',rfl,h1,a1⟩,a2⟩
 |c+1,.own e ε::l,_,_,⟨v,us',T1,T2,rfl,rfl,h1,h2,h3,h4⟩,h=>by
  simp at h;obtain ⟨S',a1,a2⟩:=jhq hd hr hh h4 h;exact ⟨T1++S',⟨v,us',T1,S',rfl,rfl,h1,h2,h3,a1⟩,by rw [List.append_assoc];exact List.Perm.append_left _ a2⟩
theorem zc (g c g2:Nat) {b ty:Nat} {cs:List Cell} {d:D} {η:jm} (hb:s.o g=.box b ty cs) (hc:cs[c]?=some (.a (.v (η [])))) (h2:s.o g2=.loose d η) (hk:WkK ((s.setO g2 .none).setO g (.box b ty (cs.set c (.own d η)))) K):WkK s K:=by
 intro B N w0 w a F h;have hne:g2≠g:=fun e=>by rw [e,hb] at h2;cases h2
 have h3:=h.ob g2;rw [h2] at h3;obtain ⟨k1,u,k2,k3⟩:=h3;have e:η []=u:=by rw [k3,vb k1]
 rw [e] at hc;have h4:=h.ob g;rw [hb] at h4;obtain ⟨us,S1,q1,q2,q3⟩:=h4;obtain ⟨S',q4,q5⟩:=jhq k1 k2 k3 q2 hc;have t1:=h.setO (g:=g2) (ob:=.none) (S:=[]) rfl (Fresh.nil _) (by simp)
 have hp:(b::S').Perm (F g++F g2):=by rw [q3];exact q5.cons b
 have hnd:(F g++F g2).Nodup:=List.nodup_append.2 ⟨(h.fr g).1,(h.fr g2).1,fun x hx y hy e=>h.dj g g2 (fun e=>hne e.symm) x hx (e▸hy)⟩
 refine hk _ _ _ _ _ _ (t1.setO (g:=g) (ob:=.box b ty (cs.set c (.own d η))) (S:=b::S') ⟨us,S',q1,q4,rfl⟩ ⟨hp.nodup_iff.2 hnd,fun x hx=>?_⟩ (fun g' hg' x hx=>?_))
 ·rcases List.mem_append.1 (hp.mem_iff.1 hx) with hx|hx
  ·exact (h.fr g).2 x hx
  ·exact (h.fr g2).2 x hx
 ·split
  ·simp
  ·rename_i hg2
   intro hh;rcases List.mem_append.1 (hp.mem_iff.1 hx) with hx|hx
   ·exact h.dj g' g hg' x hh hx
   ·exact h.dj g' g2 hg2 x hh hx
end
theorem jc3 {P:Program} {β:Nat} {a b:C} {Q:Ex→St→Prop} {s:St} {ι:Type} (mk:ι→St) (h1:wpC P β a (Ex.thn (fun s'=>∃i,Wk s' (mk i)) Q) s) (h2:∀i,wpC P β b Q (mk i)):wpC P β (.seq a (.gh b)) Q s:=by
 rw [jgA];exact qt a (jaW (fun s' ⟨i,h⟩=>wp_gh (mk i) h (h2 i)) fun _ _ h=>h) h1
section
variable {s:St} {K:St→Prop}
theorem jmF (g c sz lo n:Nat) (p:List Nat) (x:Value) (l:List A0) (R:List Cell→St→Prop):ka s (.hs g c p x sz lo n::l) R=ka s l (fun cs s'=>R (.a (.hs g c p x sz lo n)::cs) s'):=by simp [ka,A0.one]
theorem jpg {w:World} {d:D} {u:Value} {S:List Nat} (hd:d.isSl=true) (hs:0<d.size) (h:Rep w true d u S):jla u d.size 0 d.len=u:=by
 cases d with
 |val _=>cases hd
 |sl size ty cs=>
  obtain ⟨vs,T,S',hr,hl,_⟩:=h;have hlen:=RepL.length _ hl;rcases kY hr with ⟨rfl,rfl⟩|⟨g,n,c,rfl,_,h3,_⟩
  ·have:cs=[]:=List.eq_nil_of_length_eq_zero (by simpa using hlen.symm)
   subst this;simp [jla,D.len,D.cells,D.size]
  ·have e:(D.sl size ty cs).len=n:=by
    simp only [D.len,D.cells,D.size];rw [←hlen,h3];exact Nat.mul_div_cancel _ hs
   rw [e];simp only [jla,Nat.zero_mul,Nat.sub_zero];split
   ·rfl
   ·simp [Addr.add_lit]
theorem jfA {B:Nat} {w:World} {a a':A0} (h:∀u,A0Rel B w a u→A0Rel B w a' u):∀{c:Nat} {l:List Cell} {us:List Value} {S:List Nat},CRel B w l us S→l[c]?=some (.a a)→CRel B w (l.set c (.a a')) us S
 |_,[],_,_,_,hc=>by simp at hc
 |0,.a x::l,_,S,⟨v,us',e,h1,h2⟩,hc=>by
  simp at hc;subst hc;exact ⟨v,us',e,h _ h1,h2⟩
 |0,.own e ε::l,_,_,_,hc=>by simp at hc
 |c+1,.a x::l,_,S,⟨v,us',e,h1,h2⟩,hc=>by
  simp at hc;exact ⟨v,us',e,h1,jfA h h2 hc⟩
 |c+1,.own e ε::l,_,_,⟨v,us',T1,T2,e1,e2,h1,h2,h3,h4⟩,hc=>by
  simp at hc;exact ⟨v,us',T1,T2,e1,e2,h1,h2,h3,jfA h h4 hc⟩
theorem jmv (g c:Nat) {b ty:Nat} {cs:List Cell} {a a':A0} (hb:s.o g=.box b ty cs) (hc:cs[c]?=some (.a a)) (h:∀(B N:Nat) (w0 w:World) (act:Act) (F:Nat→List Nat),RelF B w0 N s act w F→∀u,A0Rel B w a u→A0Rel B w a' u) (hk:WkK (s.setO g (.box b ty (cs.set c (.a a')))) K):WkK s K:=by
 intro B N w0 w act F hr;have h4:=hr.ob g;rw [hb] at h4;obtain ⟨us,S1,q1,q2,q3⟩:=h4;refine hk _ _ _ _ _ _ (hr.setO (g:=g) (ob:=.box b ty (cs.set c (.a a'))) (S:=F g) ⟨us,S1,q1,jfA (h _ _ _ _ _ _ hr) q2 hc,q3⟩ (hr.fr g) fun g' hg' x hx hx'=>hr.dj g' g hg' x hx' hx)
theorem jmw (g c g2:Nat) {b ty:Nat} {cs:List Cell} {d:D} {η:jm} (hb:s.o g=.box b ty cs) (hc:cs[c]?=some (.own d η)) (h2:s.o g2=.none) (hne:g2≠g) (hsz:0<d.size)
 (hk:WkK (((s.rm g c).setO g2 (.loose d η)).setO g (.box b ty (cs.set c (.a (.hs g2 0 [] (η []) d.size 0 d.len))))) K):WkK s K:=by
 have hcl:=(List.getElem?_eq_some_iff.1 hc).1;have ho:(s.o g).own c=some (d,η):=by rw [hb];simp [Ob.own,hc]
 refine jc0 g c g2 ho h2 hne fun hone=>?_
 have hrm:(s.rm g c).o g=.box b ty (cs.set c (.a (.v (η [])))):=by
  show (if g=g then (s.o g).rm c else _)=_
  rw [if_pos rfl,hb];simp only [Ob.rm,hc,rmC]
 refine jmv g c (a:=.v (η [])) (b:=b) (ty:=ty) (cs:=cs.set c (.a (.v (η [])))) (by
  show (if g=g2 then _ else (s.rm g c).o g)=_
  rw [if_neg (Ne.symm hne)];exact hrm) (List.getElem?_set_self hcl) (a':=.hs g2 0 [] (η []) d.size 0 d.len) (fun B N w0 w act F hr u hu=>?_) ?_
 ·have h3:=hr.ob g2
  have e:((s.rm g c).setO g2 (.loose d η)).o g2=.loose d η:=by show (if g2=g2 then _ else _)=_;rw [if_pos rfl]
  rw [e] at h3;obtain ⟨k1,u',k2,k3⟩:=h3;have e2:η []=u':=by rw [k3,vb k1]
  have hu':u=η []:=hu;rw [hu'];exact ⟨.inl (by rw [e2,jpg k1 hsz k2]),hone⟩
 ·rw [List.set_set];exact hk
end
attribute [go_sem] jmF
end Go.Proofs.Ytmnpailnelmpiaa
