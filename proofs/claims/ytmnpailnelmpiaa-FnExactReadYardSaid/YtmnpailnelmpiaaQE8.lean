/- Parts. -/
import Derived.Test.YtmnpailnelmpiaaQE7
set_option linter.unusedSimpArgs false
set_option linter.unusedVariables false
namespace Go.Proofs.Ytmnpailnelmpiaa
open Go.RowKit Go.Sort
section
variable {P:Program} {f:FuncId}
theorem jtg {w:World} {v1 v2:View} {xs:List Value} (h:qU w [v1,v2] xs):∃a b,xs=[a,b]∧ViewRel w v1 a∧ViewRel w v2 b:=by
 obtain ⟨a,_,rfl,h1,b,_,rfl,h2,h3⟩:=h;rw [show _=_ from h3]
 exact ⟨a,b,rfl,h1,h2⟩
theorem jth {w:World} {v1:View} {xs:List Value} (h:qU w [v1] xs):∃a,xs=[a]∧ViewRel w v1 a:=by
 obtain ⟨a,_,rfl,h1,h3⟩:=h;rw [show _=_ from h3]
 exact ⟨a,rfl,h1⟩
theorem jgN {v1 v2:View} {u:Value} (hn:jf2 P f) (h:∀w a b,ViewRel w v1 a→ViewRel w v2 b→Calls P f #[a,b] w fun e w'=>e=.returned u∧Below w.heap.size w w'):kg P f [v1,v2] (.c (.val u)):=by
 refine ⟨hn,fun w xs hv=>?_⟩
 obtain ⟨a,b,rfl,h1,h2⟩:=jtg hv;exact (h w a b h1 h2).mono fun e w' ⟨he,hb⟩=>⟨u,[],he,⟨rfl,rfl⟩,Fresh.nil _,hb⟩
theorem jue {v1:View} {u:Value} (hn:jf2 P f) (h:∀w a,ViewRel w v1 a→Calls P f #[a] w fun e w'=>e=.returned u∧Below w.heap.size w w'):kg P f [v1] (.c (.val u)):=by
 refine ⟨hn,fun w xs hv=>?_⟩
 obtain ⟨a,rfl,h1⟩:=jth hv;exact (h w a h1).mono fun e w' ⟨he,hb⟩=>⟨u,[],he,⟨rfl,rfl⟩,Fresh.nil _,hb⟩
theorem zx {w:World} {u a:Value} (h:ViewRel w (.c (.val u)) a):a=u:=by obtain ⟨S,h1,_⟩:=h;exact h1
end
def jbY (o:Nat→Ob):A0→Prop
 |.h g c _ x=>(o g=.none∧c=0)∨∃b ty cs,o g=.box b ty cs∧cs[c]?=some (.a (.v x))
 |_=>True
def jcX (o:Nat→Ob) (l:List A0):Prop:=∀a∈l,jbY o a
theorem jnv {s:St} {l:List A0} {g c:Nat} {d:D} {η:jm} (h:jcX s.o l) (ho:(s.o g).own c=some (d,η)):jcX (s.rm g c).o l:=by
 intro a ha;have h1:=h a ha;cases a with
 |h g' c' p x=>
  by_cases hg:g'=g
  ·subst hg
   rcases h1 with ⟨h2,_⟩|⟨b,ty,cs,h2,h3⟩
   ·rw [h2] at ho;simp [Ob.own] at ho
   ·right
    rw [h2,jji] at ho;refine ⟨b,ty,rmC cs c cs[c]?,?_,?_⟩
    ·show (if g'=g' then (s.o g').rm c else s.o g')=_
     rw [if_pos rfl,h2];rfl
    ·by_cases hc:c=c'
     ·subst hc;rw [h3] at ho;simp [jr2] at ho
     ·cases hq:cs[c]? with
      |none=>simpa [rmC] using h3
      |some y=>
       cases y with
       |a y=>simpa [rmC] using h3
       |own d0 η0=>simp only [rmC];rw [List.getElem?_set_ne hc];exact h3
  ·have e:(s.rm g c).o g'=s.o g':=by
    show (if g'=g then _ else s.o g')=_
    rw [if_neg hg]
   simp only [jbY,e];exact h1
 |_=>trivial
theorem jbG:∀{l:List A0} {s:St} {l0:List A0} {K:List Cell→St→Prop},jcX s.o l0→ka s l K→ka s l fun cs s1=>K cs s1∧jcX s1.o (l0++l)
 |[],s,l0,K,h,hk=>⟨hk,by rw [List.append_nil];exact h⟩
 |x::l,s,l0,K,h,hk=>by
  have plain:∀a:A0,(∀o,jbY o a)→ka s l (fun cs s'=>K (.a a::cs) s')→ka s l (fun cs s'=>K (.a a::cs) s'∧jcX s'.o (l0++a::l)):=fun a ha hk=>by
   have:=jbG (l0:=l0++[a]) (fun b hb=>by rcases List.mem_append.1 hb with hb|hb;exact h b hb;simp at hb;subst hb;exact ha _) hk
   exact qh (fun cs s1 ⟨h1,h2⟩=>⟨h1,by simpa using h2⟩) this
  cases x with
  |h g c p x=>
   obtain ⟨rfl,d,η,h1,h2,h3⟩:=hk;refine ⟨rfl,d,η,h1,h2,?_⟩
   have hp:jbY (s.rm g c).o (.h g c [] x):=by
    have e:(s.rm g c).o g=(s.o g).rm c:=by show (if g=g then _ else _)=_;rw [if_pos rfl]
    simp only [jbY,e];cases hob:s.o g with
    |none=>rw [hob] at h1;simp [Ob.own] at h1
    |loose d0 η0=>
     rw [hob] at h1;cases c with
     |succ c=>simp [Ob.own] at h1
     |zero=>left;exact ⟨rfl,rfl⟩
    |box b ty cs=>
     rw [hob,jji] at h1;right;cases hq:cs[c]? with
     |none=>rw [hq] at h1;simp [jr2] at h1
     |some y=>
      cases y with
      |a y=>rw [hq] at h1;simp [jr2] at h1
      |own d0 η0=>
       rw [hq] at h1;simp [jr2] at h1;obtain ⟨rfl,rfl⟩:=h1;refine ⟨b,ty,_,rfl,?_⟩;simp only [rmC,hq];rw [List.getElem?_set_self (List.getElem?_eq_some_iff.1 hq).1,h2]
   have:=jbG (l0:=l0++[.h g c [] x]) (s:=s.rm g c) (fun b hb=>by rcases List.mem_append.1 hb with hb|hb;exact jnv h h1 b hb;simp at hb;subst hb;exact hp) h3
   exact qh (fun cs s1 ⟨h1,h2⟩=>⟨h1,by simpa using h2⟩) this
  |v x=>exact ⟨hk.1,plain _ (fun _=>trivial) hk.2⟩
  |ro x=>exact ⟨hk.1,plain _ (fun _=>trivial) hk.2⟩
  |rp x=>exact ⟨hk.1,plain _ (fun _=>trivial) hk.2⟩
  |bp x y z=>exact ⟨hk.1,plain _ (fun _=>trivial) hk.2⟩
  |ep x y z i j=>exact ⟨hk.1,plain _ (fun _=>trivial) hk.2⟩
  |un=>exact ⟨hk.1,plain _ (fun _=>trivial) hk.2⟩
  |hs=>exact ⟨hk.1,plain _ (fun _=>trivial) hk.2⟩
def jdX (ob:Ob) (c:Nat) (d:D) (η:jm):Ob:=match ob with
 |.box b ty cs=>.box b ty (cs.set c (.own d η))
 |_=>.loose d η
def jdD (o:Nat→Ob):List A0→List D→(Nat→jm)→Nat→Ob
 |.h g c _ _::l,d::ds,η=>jdD (fun k=>if k=g then jdX (o g) c d (η 0) else o k) l ds fun i=>η (i+1)
 |_::l,_::ds,η=>jdD o l ds fun i=>η (i+1)
 |_,_,_=>o
def qR:List A0→(Nat→jm)→Prop
 |.h _ _ _ x::l,η=>η 0 []=x∧qR l fun i=>η (i+1)
 |_::l,η=>qR l fun i=>η (i+1)
 |[],_=>True
def jdG:List A0→List D→Prop
 |.h _ _ _ _::l,d::ds=>d.isSl=true∧jdG l ds
 |.v x::l,d::ds=>d=.val x∧jdG l ds
 |[],[]=>True
 |_,_=>False
section
variable {B N:Nat} {w w' w0:World} {s:St} {a:Act} {F:Nat→List Nat} {P:Program} {f:FuncId}
theorem CRel.back {η:jm} {d:D} {u:Value} {S1:List Nat} (hs:d.isSl=true) (hr:Rep w true d u S1) (hη:∀p,η p=hdr w p d u):∀{cs:List Cell} {us:List Value} {S:List Nat} {c:Nat},CRel B w cs us S→(S++S1).Nodup→cs[c]?=some (.a (.v u))→
 ∃S',CRel B w (cs.set c (.own d η)) us S'∧S'.Nodup∧∀b,b∈S'↔b∈S∨b∈S1
 |[],_,_,_,_,_,h=>by simp at h
 |.a x::cs,us,S,0,⟨u',us',h1,h2,h3⟩,hnd,h=>by
  simp at h;subst h;subst h1;have h2:u'=u:=h2;subst h2;exact ⟨S1++S,⟨u',us',S1,S,rfl,rfl,hs,hr,hη,h3⟩,(List.perm_append_comm.nodup_iff).1 hnd,fun b=>by simp [or_comm]⟩
 |.a x::cs,us,S,c+1,⟨u',us',h1,h2,h3⟩,hnd,h=>by
  obtain ⟨S',k1,k2,k3⟩:=CRel.back hs hr hη h3 hnd (by simpa using h)
  exact ⟨S',⟨u',us',h1,h2,k1⟩,k2,k3⟩
 |.own d0 η0::cs,us,S,0,hr0,hnd,h=>by simp at h
 |.own d0 η0::cs,us,S,c+1,⟨u',us',T1,T2,h1,h2,h3,h4,h5,h6⟩,hnd,h=>by
  subst h2;rw [List.append_assoc] at hnd;have hn:=List.nodup_append.1 hnd;obtain ⟨S',k1,k2,k3⟩:=CRel.back hs hr hη h6 hn.2.1 (by simpa using h)
  refine ⟨T1++S',⟨u',us',T1,S',h1,rfl,h3,h4,h5,k1⟩,List.nodup_append.2 ⟨hn.1,k2,fun x hx y hy e=>hn.2.2 x hx y (by rw [List.mem_append];exact (k3 y).1 hy) e⟩,fun b=>?_⟩
  rw [List.mem_append,List.mem_append,k3];constructor
  ·rintro (h|h|h)<;>simp [h]
  ·rintro ((h|h)|h)<;>simp [h]
theorem back1 {o:Nat→Ob} (h:RelF B w0 0 (.only o) Act.bare w F) {g c:Nat} {x:Value} {d:D} {S:List Nat} (hp:jbY o (.h g c [] x)) (hs:d.isSl=true) (hr:Rep w true d x S) (hF:Fresh B S) (hd:∀k,∀b∈S,b∉F k):
 ∃F' η,η []=x∧RelF B w0 0 (.only fun k=>if k=g then jdX (o g) c d η else o k) Act.bare w F'∧∀k b,b∈F' k→b∈F k∨b∈S:=by
 have hog:=h.ob g;have hη:(fun q=>hdr w q d x) []=x:=vb hs
 rcases hp with ⟨h1,rfl⟩|⟨b,ty,cs,h1,h2⟩
 ·have:=h.setO (g:=g) (ob:=.loose d (fun q=>hdr w q d x)) (S:=S) ⟨hs,x,hr,fun _=>rfl⟩ hF (fun g' _ b hb=>hd g' b hb)
  refine ⟨fun k=>if k=g then S else F k,fun q=>hdr w q d x,hη,?_,fun k b hb=>?_⟩
  ·have e:jdX (o g) 0 d (fun q=>hdr w q d x)=.loose d (fun q=>hdr w q d x):=by rw [h1];rfl
   rw [e];exact this
  ·have hb:b∈(if k=g then S else F k):=hb
   split at hb
   ·exact .inr hb
   ·exact .inl hb
 ·have hog':ORel B w (.box b ty cs) (F g):=by rw [←h1];exact hog
  obtain ⟨us,S1,k1,k2,k3⟩:=hog';have hfg:=h.fr g;rw [k3] at hfg;have hn:=List.nodup_cons.1 hfg.1;have hdg:∀b'∈S,b'∉b::S1:=fun b' hb' hh=>hd g b' hb' (by rw [k3];exact hh)
  obtain ⟨S',m1,m2,m3⟩:=CRel.back (η:=fun q=>hdr w q d x) hs hr (fun _=>rfl) k2 (List.nodup_append.2 ⟨hn.2,hF.1,fun y hy z hz e=>hdg z hz (by rw [←e];simp [hy])⟩) h2
  have:=h.setO (g:=g) (ob:=.box b ty (cs.set c (.own d (fun q=>hdr w q d x)))) (S:=b::S') ⟨us,S',k1,m1,rfl⟩ ⟨List.nodup_cons.2 ⟨fun hb=>by
   rcases (m3 b).1 hb with h|h
   ·exact hn.1 h
   ·exact hdg b h (by simp),m2⟩,fun y hy=>by
   rcases List.mem_cons.1 hy with rfl|hy
   ·exact hfg.2 y (by simp)
   ·rcases (m3 y).1 hy with h|h
    ·exact hfg.2 y (by simp [h])
    ·exact hF.2 y h⟩ (fun g' hg' y hy=>by
   rcases List.mem_cons.1 hy with rfl|hy
   ·exact fun hh=>h.dj g' g hg' y hh (by rw [k3];simp)
   ·rcases (m3 y).1 hy with h'|h'
    ·exact fun hh=>h.dj g' g hg' y hh (by rw [k3];simp [h'])
    ·exact hd g' y h')
  refine ⟨fun k=>if k=g then b::S' else F k,fun q=>hdr w q d x,hη,?_,fun k y hy=>?_⟩
  ·have e:jdX (o g) c d (fun q=>hdr w q d x)=.box b ty (cs.set c (.own d (fun q=>hdr w q d x))):=by rw [h1];rfl
   rw [e];exact this
  ·have hy2:y∈(if k=g then b::S' else F k):=hy
   clear hy;by_cases e:k=g
   ·rw [if_pos e] at hy2
    subst e;rcases List.mem_cons.1 hy2 with rfl|hy
    ·exact .inl (by rw [k3];simp)
    ·rcases (m3 y).1 hy with h|h
     ·exact .inl (by rw [k3];simp [h])
     ·exact .inr h
   ·rw [if_neg e] at hy2;exact .inl hy2
theorem jjb {o:Nat→Ob} {l:List A0} {g c:Nat} {d:D} {η:jm} (h:jcX o l) (hno:∀a∈l,∀(g' c':Nat) (p:List Nat) (x:Value),a=.h g' c' p x→(g',c')≠(g,c)) (hbox:∀a∈l,∀c' p x,a=.h g c' p x→o g≠.none):jcX (fun k=>if k=g then jdX (o g) c d η else o k) l:=by
 intro a ha;have h1:=h a ha;cases a with
 |h g' c' p x=>
  by_cases hg:g'=g
  ·subst hg
   rcases h1 with ⟨h2,_⟩|⟨b,ty,cs,h2,h3⟩
   ·exact absurd h2 (hbox _ ha _ _ _ rfl)
   ·right
    refine ⟨b,ty,cs.set c (.own d η),?_,?_⟩
    ·show (if g'=g' then _ else _)=_
     rw [if_pos rfl,h2];rfl
    ·have hc:c≠c':=fun e=>hno _ ha _ _ _ _ rfl (by rw [e])
     rw [List.getElem?_set_ne hc];exact h3
  ·simp only [jbY,if_neg hg];exact h1
 |_=>trivial
def jj6:List A0→Prop
 |[]=>True
 |.h g c _ _::l=>(∀a∈l,∀g' c' p x,a=.h g' c' p x→(g',c')≠(g,c))∧jj6 l
 |_::l=>jj6 l
theorem jhs:∀{l:List A0} {ds:List D} {us:List Value} {S:List Nat} {o:Nat→Ob} {F:Nat→List Nat},RelF B w0 0 (.only o) Act.bare w F→A0RelL B w l us→jdG l ds→jcX o l→jj6 l→(∀a∈l,∀g c p x,a=.h g c p x→p=[]∧(o g=.none→∀b∈l,∀c' p' x',b=.h g c' p' x'→c'=c))→RepL w true ds us S→Fresh B S→(∀k,∀b∈S,b∉F k)→
 ∃F' η,qR l η∧RelF B w0 0 (.only (jdD o l ds η)) Act.bare w F'
 |[],[],us,S,o,F,h,_,_,_,_,_,_,_,_=>⟨F,fun _ _=>undef,trivial,h⟩
 |[],_::_,_,_,_,_,_,_,h,_,_,_,_,_,_=>h.elim
 |.h g c p x::l,[],_,_,_,_,_,_,h,_,_,_,_,_,_=>h.elim
 |.v x::l,[],_,_,_,_,_,_,h,_,_,_,_,_,_=>h.elim
 |.h g c p x::l,d::ds,us,S,o,F,h,⟨u,us',hu,h2,h3⟩,⟨h4,h5⟩,hp,⟨ha1,ha2⟩,hnone,⟨v,vs',S1,S2,e1,e2,r1,r2⟩,hF,hd=>by
  subst hu e2;cases e1;have hux:u=x:=h2.1;subst hux;have hq:=hnone (.h g c p u) (by simp) g c p u rfl
  obtain ⟨rfl,hn1⟩:=hq;obtain ⟨F1,η0,k1,k2,k3⟩:=back1 (d:=d) h (hp (.h g c [] u) (by simp)) h4 r1 hF.left (fun k b hb=>hd k b (by simp [hb]))
  have hbox:∀a∈l,∀c' p' x',a=.h g c' p' x'→o g≠.none:=fun a ha c' p' x' e hh=>by
   have:=hn1 hh a (by simp [ha]) c' p' x' e
   exact ha1 a ha g c' p' x' e (by rw [this])
  obtain ⟨F2,η,k4,k5⟩:=jhs (us:=us') (S:=S2) k2 h3 h5 (jjb (fun a ha=>hp a (by simp [ha])) ha1 hbox) ha2 (fun a ha g' c' p' x' e=>by
   obtain ⟨e1,e2⟩:=hnone a (by simp [ha]) g' c' p' x' e
   refine ⟨e1,fun hh b hb c'' p'' x'' eb=>?_⟩
   by_cases hg:g'=g
   ·subst hg
    rw [if_pos rfl] at hh;exfalso;cases ho:o g'<;>rw [ho] at hh<;>cases hh
   ·rw [if_neg hg] at hh
    exact e2 hh b (by simp [hb]) c'' p'' x'' eb) r2 hF.right (fun k b hb hh=>by
   rcases k3 k b hh with h'|h'
   ·exact hd k b (by simp [hb]) h'
   ·exact hF.apart b h' hb)
  refine ⟨F2,fun i=>match i with|0=>η0|i+1=>η i,⟨k1,k4⟩,k5⟩
 |.v x::l,d::ds,us,S,o,F,h,⟨u,us',hu,h2,h3⟩,⟨h4,h5⟩,hp,ha,hnone,⟨v,vs',S1,S2,e1,e2,r1,r2⟩,hF,hd=>by
  subst hu e2;cases e1
  obtain ⟨F2,η,k4,k5⟩:=jhs (us:=us') (S:=S2) h h3 h5 (fun a ha=>hp a (by simp [ha])) ha (fun a ha g' c' p' x' e=>by
   obtain ⟨e1,e2⟩:=hnone a (by simp [ha]) g' c' p' x' e
   exact ⟨e1,fun hh b hb=>e2 hh b (by simp [hb])⟩) r2 hF.right (fun k b hb=>hd k b (by simp [hb]))
  exact ⟨F2,fun i=>match i with|0=>fun _=>undef|i+1=>η i,k4,k5⟩
 |.ro _::_,_,_,_,_,_,_,_,h,_,_,_,_,_,_=>h.elim
 |.rp _::_,_,_,_,_,_,_,_,h,_,_,_,_,_,_=>h.elim
 |.bp _ _ _::_,_,_,_,_,_,_,_,h,_,_,_,_,_,_=>h.elim
 |.ep _ _ _ _ _::_,_,_,_,_,_,_,_,h,_,_,_,_,_,_=>h.elim
 |.un::_,_,_,_,_,_,_,_,h,_,_,_,_,_,_=>h.elim
 |.hs _ _ _ _ _ _ _::_,_,_,_,_,_,_,_,h,_,_,_,_,_,_=>h.elim
def NoPath:List A0→Prop
 |[]=>True
 |.h _ _ p _::l=>p=[]∧NoPath l
 |_::l=>NoPath l
theorem NoPath.all {l:List A0} (h:NoPath l):∀a∈l,∀g c p x,a=.h g c p x→p=[]:=by
 induction l with
 |nil=>intro a ha;cases ha
 |cons y l ih=>
  intro a ha g c p x e;rcases List.mem_cons.1 ha with ha|ha
  ·subst ha;subst e;exact h.1
  ·have h':NoPath l:=by cases y<;>first|exact h|exact h.2
   exact ih h' a ha g c p x e
theorem jja {o:Nat→Ob} {l:List A0} (h:jcX o l) (hp:NoPath l):∀a∈l,∀g c p x,a=.h g c p x→p=[]∧(o g=.none→∀b∈l,∀c' p' x',b=.h g c' p' x'→c'=c):=by
 intro a ha g c p x e;refine ⟨hp.all a ha g c p x e,fun hn b hb c' p' x' e'=>?_⟩
 have h1:=h a ha;have h2:=h b hb;subst e e';rcases h1 with ⟨_,rfl⟩|⟨_,_,_,k,_⟩
 ·rcases h2 with ⟨_,rfl⟩|⟨_,_,_,k,_⟩
  ·rfl
  ·rw [hn] at k;cases k
 ·rw [hn] at k;cases k
theorem qw:∀{l:List A0} {s:St} {K:List Cell→St→Prop},ka s l K→ka (.only s.o) l fun cs s1=>K cs ⟨s.t,s1.o⟩
 |[],s,K,hk=>hk
 |.h g c p x::l,s,K,⟨h1,d,η,h2,h3,h4⟩=>⟨h1,d,η,h2,h3,qw h4⟩
 |.v _::l,s,K,⟨h1,h2⟩=>⟨h1,qw h2⟩
 |.ro _::l,s,K,⟨h1,h2⟩=>⟨h1,qw h2⟩
 |.rp _::l,s,K,⟨h1,h2⟩=>⟨h1,qw h2⟩
 |.bp _ _ _::l,s,K,⟨h1,h2⟩=>⟨h1,qw h2⟩
 |.ep _ _ _ _ _::l,s,K,⟨h1,h2⟩=>⟨h1,qw h2⟩
 |.un::l,s,K,⟨h1,h2⟩=>⟨h1,qw h2⟩
 |.hs _ _ _ _ _ _ _::l,s,K,⟨h1,h2⟩=>⟨h1,qw h2⟩
theorem jic {l:List A0} {ds ds':List D} {us:List Value} {v r:Value} {args:Array Value} {Kr:(Nat→Ob)→Prop} (hal:jdG l ds') (hap:jj6 l) (hnp:NoPath l) (ho:RelF B w 0 (.only s.o) Act.bare w F) (hus:A0RelL B w l us)
 (hc:∀S,RepL w true ds us S→Fresh B S→Calls P f args w fun e w'=>e=.returned r∧RepL w' true ds' us S∧Only S w w') (hr:r.oneCell'=true)
 (hk:ka s l fun cs s1=>IsD cs ds∧∀η,qR l η→Kr (jdD s1.o l ds' η)):
 Calls P f args w fun e w'=>∃v rt o' S F',e=.returned v∧RelF B w 0 (.only o') Act.bare w' F'∧jiP w' rt v S∧Fresh B S∧(∀g,∀b∈S,b∉F' g)∧(rt=.c (.val r)∧Kr o'):=by
 have hk2:=jbG (l0:=[]) (by intro a ha;cases ha) (qw hk)
 obtain ⟨cs,s1,S,F1,⟨⟨k1,k2⟩,k3⟩,k4,k5,k6,k7,_⟩:=zA ho hus hk2;have hrep:=jha k4 k1;have hB:B≤w.heap.size:=Nat.le_trans ho.hB ho.below.size;refine (hc S hrep k6).mono fun e w' ⟨he,hrep',hon⟩=>?_
 have hb:Below B w w':=hon.below k6.2 hB;have k5':RelF B w 0 s1 Act.bare w' F1:=k5.world' hb fun g b hb'=>hon.block b ((k5.ob g).lt b hb') fun hh=>k7 g b hh hb'
 have k5'':RelF B w 0 (.only s1.o) Act.bare w' F1:=⟨k5'.below,k5'.hB,rfl,rfl,fun _=>trivial,k5'.ob,k5'.fr,k5'.dj⟩
 have hus':A0RelL B w' l us:=hus.mono hb;obtain ⟨F2,η,m1,m2⟩:=jhs k5'' hus' hal (by simpa using k3) hap (jja (by simpa using k3) hnp) hrep' k6 (fun k b hb=>k7 k b hb)
 exact ⟨r,.c (.val r),_,[],F2,he,m2,⟨rfl,rfl⟩,Fresh.nil _,by simp,rfl,k2 η m1⟩
theorem jhN {β:Nat} {d:Option Nat} {gd:Option (Nat×Bool)} {x y:X} {l:List A0} {ds ds':List D} {k r:Int} {K:St→Prop} (hn:jf2 P f)
 (hc:∀(B:Nat) (w:World) (v:Value) (S:List Nat),AggRep w true ds v S→Fresh B S→Calls P f #[v,.int .i64 k] w fun e w'=>e=.returned (.int .i64 r)∧AggRep w' true ds' v S∧Only S w w')
 (hx:s.ev x=.agg l) (hy:s.ev y=.c (.v (.int .i64 k))) (hal:jdG l ds') (hap:jj6 l) (hnp:NoPath l)
 (hk:ka s l fun cs s1=>IsD cs ds∧∀η,qR l η→K (St.put ⟨s.t,jdD s1.o l ds' η⟩ d (.c (.v (.int .i64 r))))):
 qb P β ⟨d,gd,.call f [x,y]⟩ s K:=by
 refine jkm (R:=fun rt o'=>rt=.c (.val (.int .i64 r))∧K (St.put ⟨s.t,o'⟩ d (.c (.v (.int .i64 r))))) ⟨hn,fun B w F xs ho hv=>?_⟩ (fun rt o' ⟨h1,h2⟩ η=>by subst h1;exact h2)
 simp only [List.map_cons,List.map_nil,hx,hy] at hv;obtain ⟨v,xs',rfl,⟨us,hve,hus⟩,hv2⟩:=hv;subst hve;obtain ⟨kv,xs'',rfl,hkv,hv3⟩:=hv2;obtain rfl:xs''=[]:=hv3;obtain rfl:kv=.int .i64 k:=hkv;refine jic (s:=s) (F:=F) (ds':=ds') (r:=.int .i64 r) (Kr:=fun o'=>K (St.put ⟨s.t,o'⟩ d (.c (.v (.int .i64 r))))) (v:=.agg us.toArray) hal hap hnp ho hus (fun S hrep hF=>?_) rfl hk
 refine (hc B w (.agg us.toArray) S ⟨us,rfl,hrep⟩ hF).mono fun e w' ⟨he,⟨us',e',hrep'⟩,hon⟩=>⟨he,?_,hon⟩
 have:us=us':=by simpa using e'
 subst this;exact hrep'
theorem jlp {β:Nat} {d:Option Nat} {gd:Option (Nat×Bool)} {x y:X} {a:A0} {dd dd':D} {k r:Int} {K:St→Prop} (hn:jf2 P f)
 (hc:∀(B:Nat) (w:World) (v:Value) (S:List Nat),Rep w true dd v S→Fresh B S→Calls P f #[v,.int .i64 k] w fun e w'=>e=.returned (.int .i64 r)∧Rep w' true dd' v S∧Only S w w')
 (hx:s.ev x=.c a) (hy:s.ev y=.c (.v (.int .i64 k))) (hal:jdG [a] [dd']) (hap:jj6 [a]) (hnp:NoPath [a])
 (hk:ka s [a] fun cs s1=>IsD cs [dd]∧∀η,qR [a] η→K (St.put ⟨s.t,jdD s1.o [a] [dd'] η⟩ d (.c (.v (.int .i64 r))))):
 qb P β ⟨d,gd,.call f [x,y]⟩ s K:=by
 refine jkm (R:=fun rt o'=>rt=.c (.val (.int .i64 r))∧K (St.put ⟨s.t,o'⟩ d (.c (.v (.int .i64 r))))) ⟨hn,fun B w F xs ho hv=>?_⟩ (fun rt o' ⟨h1,h2⟩ η=>by subst h1;exact h2)
 simp only [List.map_cons,List.map_nil,hx,hy] at hv;obtain ⟨v,xs',rfl,hva,hv2⟩:=hv;obtain ⟨kv,xs'',rfl,hkv,hv3⟩:=hv2;obtain rfl:xs''=[]:=hv3;obtain rfl:kv=.int .i64 k:=hkv;refine jic (s:=s) (F:=F) (ds:=[dd]) (ds':=[dd']) (us:=[v]) (r:=.int .i64 r) (Kr:=fun o'=>K (St.put ⟨s.t,o'⟩ d (.c (.v (.int .i64 r))))) (v:=v) hal hap hnp ho ⟨v,[],rfl,hva,rfl⟩ (fun S hrep hF=>?_) rfl hk
 obtain ⟨v1,vs',S1,S2,e1,rfl,h1,h2⟩:=hrep;cases e1;obtain rfl:S2=[]:=h2.2;simp only [List.append_nil] at hF⊢;refine (hc B w v S1 h1 hF).mono fun e w' ⟨he,hrep',hon⟩=>⟨he,?_,hon⟩
 have:=RepL.cons_ hrep' (RepL.nil_ (w:=w') (own:=true));simpa using this
end
def NoLoc (g c:Nat):List A0→Prop
 |[]=>True
 |.h g' c' _ _::l=>¬(g'=g∧c'=c)∧NoLoc g c l
 |_::l=>NoLoc g c l
def ApartN:List A0→Prop
 |[]=>True
 |.h g c _ _::l=>NoLoc g c l∧ApartN l
 |_::l=>ApartN l
theorem NoLoc.all {g c:Nat} {l:List A0} (h:NoLoc g c l):∀a∈l,∀g' c' p x,a=.h g' c' p x→(g',c')≠(g,c):=by
 induction l with
 |nil=>intro a ha;cases ha
 |cons y l ih=>
  intro a ha g' c' p x e;rcases List.mem_cons.1 ha with ha|ha
  ·subst ha;subst e
   intro e2;simp only [Prod.mk.injEq] at e2;exact h.1 e2
  ·have h':NoLoc g c l:=by cases y<;>first|exact h|exact h.2
   exact ih h' a ha g' c' p x e
theorem ApartN.apart:∀{l:List A0},ApartN l→jj6 l
 |[],_=>trivial
 |.h _ _ _ _::_,h=>⟨h.1.all,ApartN.apart h.2⟩
 |.v _::l,h=>ApartN.apart (l:=l) h
 |.ro _::l,h=>ApartN.apart (l:=l) h
 |.rp _::l,h=>ApartN.apart (l:=l) h
 |.bp _ _ _::l,h=>ApartN.apart (l:=l) h
 |.ep _ _ _ _ _::l,h=>ApartN.apart (l:=l) h
 |.un::l,h=>ApartN.apart (l:=l) h
 |.hs _ _ _ _ _ _ _::l,h=>ApartN.apart (l:=l) h
def jnM (s:St) (d:Option Nat) (K:St→Prop) (l:List A0) (ds ds':List D) (r:Int):Prop:=(jdG l ds'∧ApartN l∧NoPath l)∧ka s l fun cs s1=>IsD cs ds∧∀η,qR l η→K (St.put ⟨s.t,jdD s1.o l ds' η⟩ d (.c (.v (.int .i64 r))))
def jsb (s:St) (d:Option Nat) (K:St→Prop) (ds ds':List D) (k r:Int) (x y:AV):Prop:=match x,y with
 |.agg l,.c (.v (.int .i64 k'))=>k'=k∧jnM s d K l ds ds' r
 |_,_=>False
def jsa (s:St) (d:Option Nat) (K:St→Prop) (dd dd':D) (k r:Int) (x y:AV):Prop:=match x,y with
 |.c a,.c (.v (.int .i64 k'))=>k'=k∧jnM s d K [a] [dd] [dd'] r
 |_,_=>False
section
variable {P:Program} {f:FuncId} {s:St} {β:Nat} {d:Option Nat} {gd:Option (Nat×Bool)} {x y:X} {k r:Int} {K:St→Prop}
theorem jky {ds ds':List D} (hn:jf2 P f)
 (hc:∀(B:Nat) (w:World) (v:Value) (S:List Nat),AggRep w true ds v S→Fresh B S→Calls P f #[v,.int .i64 k] w fun e w'=>e=.returned (.int .i64 r)∧AggRep w' true ds' v S∧Only S w w')
 (h:jsb s d K ds ds' k r (s.ev x) (s.ev y)):qb P β ⟨d,gd,.call f [x,y]⟩ s K:=by
 unfold jsb at h;split at h
 ·rename_i l k' hx hy
  obtain ⟨rfl,⟨h1,h2,h3⟩,h4⟩:=h;exact jhN hn hc hx hy h1 h2.apart h3 h4
 ·exact h.elim
theorem juC {dd dd':D} (hn:jf2 P f)
 (hc:∀(B:Nat) (w:World) (v:Value) (S:List Nat),Rep w true dd v S→Fresh B S→Calls P f #[v,.int .i64 k] w fun e w'=>e=.returned (.int .i64 r)∧Rep w' true dd' v S∧Only S w w')
 (h:jsa s d K dd dd' k r (s.ev x) (s.ev y)):qb P β ⟨d,gd,.call f [x,y]⟩ s K:=by
 unfold jsa at h;split at h
 ·rename_i a k' hx hy
  obtain ⟨rfl,⟨h1,h2,h3⟩,h4⟩:=h;exact jlp hn hc hx hy h1 h2.apart h3 h4
 ·exact h.elim
theorem juE (l:List A0) (ds ds':List D) (k':Int):jsb s d K ds ds' k r (.agg l) (.c (.v (.int .i64 k')))=(k'=k∧jnM s d K l ds ds' r):=(rfl)
theorem juD (a:A0) (dd dd':D) (k':Int):jsa s d K dd dd' k r (.c a) (.c (.v (.int .i64 k')))=(k'=k∧jnM s d K [a] [dd] [dd'] r):=(rfl)
theorem juF (l:List A0) (ds ds':List D):jnM s d K l ds ds' r=((jdG l ds'∧ApartN l∧NoPath l)∧ka s l fun cs s1=>IsD cs ds∧∀η,qR l η→K (St.put ⟨s.t,jdD s1.o l ds' η⟩ d (.c (.v (.int .i64 r))))):=(rfl)
end
theorem js4 (g c:Nat) (p:List Nat) (x:Value) (l:List A0) (d:D) (ds:List D):jdG (.h g c p x::l) (d::ds)=(d.isSl=true∧jdG l ds):=(rfl)
theorem js2 (x:Value) (l:List A0) (d:D) (ds:List D):jdG (.v x::l) (d::ds)=(d=.val x∧jdG l ds):=(rfl)
theorem js3:jdG [] []=True:=(rfl)
theorem js0 (g c:Nat) (p:List Nat) (x:Value) (l:List A0):ApartN (.h g c p x::l)=(NoLoc g c l∧ApartN l):=(rfl)
theorem jsY (x:Value) (l:List A0):ApartN (.v x::l)=ApartN l:=(rfl)
theorem jsZ:ApartN []=True:=(rfl)
theorem jr7 (g' c' g c:Nat) (p:List Nat) (x:Value) (l:List A0):NoLoc g' c' (.h g c p x::l)=(¬(g=g'∧c=c')∧NoLoc g' c' l):=(rfl)
theorem jr5 (g' c':Nat) (x:Value) (l:List A0):NoLoc g' c' (.v x::l)=NoLoc g' c' l:=(rfl)
theorem jr6 (g' c':Nat):NoLoc g' c' []=True:=(rfl)
theorem jpU (g c:Nat) (p:List Nat) (x:Value) (l:List A0):NoPath (.h g c p x::l)=(p=[]∧NoPath l):=(rfl)
theorem jpS (x:Value) (l:List A0):NoPath (.v x::l)=NoPath l:=(rfl)
theorem jpT:NoPath []=True:=(rfl)
attribute [go_sem] juE juD juF js4 js2 js3 js0 jsY jsZ jr7 jr5 jr6 jpU jpS jpT and_false false_and
theorem jvd (o:Nat→Ob) (g c:Nat) (p:List Nat) (x:Value) (l:List A0) (d:D) (ds:List D) (η:Nat→jm):jdD o (.h g c p x::l) (d::ds) η=jdD (fun k=>if k=g then jdX (o g) c d (η 0) else o k) l ds fun i=>η (i+1):=(rfl)
theorem jvb (o:Nat→Ob) (x:Value) (l:List A0) (d:D) (ds:List D) (η:Nat→jm):jdD o (.v x::l) (d::ds) η=jdD o l ds fun i=>η (i+1):=(rfl)
theorem jvc (o:Nat→Ob) (η:Nat→jm):jdD o [] [] η=o:=(rfl)
theorem jmh (b ty:Nat) (cs:List Cell) (c:Nat) (d:D) (η:jm):jdX (.box b ty cs) c d η=.box b ty (cs.set c (.own d η)):=(rfl)
theorem jj1 (c:Nat) (d:D) (η:jm):jdX .none c d η=.loose d η:=(rfl)
theorem jsx (g c:Nat) (p:List Nat) (x:Value) (l:List A0) (η:Nat→jm):qR (.h g c p x::l) η=(η 0 []=x∧qR l fun i=>η (i+1)):=(rfl)
theorem jsv (x:Value) (l:List A0) (η:Nat→jm):qR (.v x::l) η=qR l fun i=>η (i+1):=(rfl)
theorem jsw (η:Nat→jm):qR [] η=True:=(rfl)
attribute [go_sem] jvd jvb jvc jmh jj1 jsx jsv jsw
end Go.Proofs.Ytmnpailnelmpiaa
