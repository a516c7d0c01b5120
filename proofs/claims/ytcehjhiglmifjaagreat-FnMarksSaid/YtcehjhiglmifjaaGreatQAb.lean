/- Parts. -/
import Derived.Test.YtcehjhiglmifjaaGreatQE4g
set_option linter.all false
set_option maxHeartbeats 4000000
set_option maxRecDepth 100000
namespace Go.Proofs.YtcehjhiglmifjaaGreat
open Go.RowKit Go.Sort
def jbL:jf
 |[]=>.slice none 0 0
 |_::_=>undef
def A0.sim:A0->A0->Prop
 |.v x,.v y=>x=y
 |.v x,.h _ _ _ y=>x=y/\x.oneCell'=true
 |.h _ _ _ x,.h _ _ _ y=>x=y
 |.bp _ c b,.bp _ c' b'=>c=c'/\b=b'
 |.ep _ _ _ i x,.ep _ _ _ i' x'=>i=i'/\x=x'
 |.hs _ _ _ x s l n,.hs _ _ _ y s' l' n'=>x=y/\s=s'/\l=l'/\n=n'
 |.ro d,.ro d'=>d=d'
 |.rp ds,.rp ds'=>ds=ds'
 |.un,.un=>True
 |_,_=>False
def simL:List A0->List A0->Prop
 |[],[]=>True
 |a::l,b::m=>a.sim b/\simL l m
 |_,_=>False
def AV.sim:AV->AV->Prop
 |.c a,.c b=>a.sim b
 |.agg l,.agg m=>simL l m
 |.fn f l,.fn f' m=>f=f'/\simL l m
 |.tup l,.tup m=>l=m
 |_,.unk=>True
 |_,_=>False
def Cell.sim:Cell->Cell->Prop
 |.a x,.a y=>x.sim y
 |.own d η,.own d' aC=>d=d'/\η=aC
 |.a (.v x),.own d η=>x=.slice none 0 0/\d.isSl=true/\d.cells=[]/\η=jbL
 |_,_=>False
def simC:List Cell->List Cell->Prop
 |[],[]=>True
 |a::l,b::m=>a.sim b/\simC l m
 |_,_=>False
def Ob.sim:Ob->Ob->Prop
 |.loose d η,.loose d' aC=>d=d'/\η=aC
 |.box b ty cs,.box b' ty' cs'=>b=b'/\ty=ty'/\simC cs cs'
 |.none,.none=>True
 |_,_=>False
def nilOb:Ob->Prop
 |.loose d η=>d.isSl=true/\d.cells=[]/\η=jbL
 |_=>False
def lkT:List (Nat×AV)->Nat->AV
 |[],_=>.unk
 |(k,v)::T,n=>if n=k then v else lkT T n
def lkO:List (Nat×Ob)->Nat->Ob
 |[],_=>.none
 |(k,v)::T,n=>if n=k then v else lkO T n
def St.of (T:List (Nat×AV)) (O:List (Nat×Ob)):St:=⟨lkT T,lkO O⟩
def jA5 (s:St):List (Nat×AV)->Prop
 |[]=>True
 |(n,v)::T=>(s.t n).sim v/\jA5 s T
def jsp (s:St):List (Option Nat)->List (Nat×Ob)->Prop
 |[],[]=>True
 |some k::ks,(_,ob)::O=>(s.o k).sim ob/\jsp s ks O
 |none::ks,(_,ob)::O=>nilOb ob/\jsp s ks O
 |_,_=>False
def fp (F:Nat->List Nat):List (Option Nat)->List (Nat×Ob)->Nat->List Nat
 |k::ks,(g',_)::O,g=>if g=g' then (match k with|some k=>F k|none=>[]) else fp F ks O g
 |_,_,_=>[]
def jsX:List (Option Nat)->List Nat
 |[]=>[]
 |some k::ks=>k::jsX ks
 |none::ks=>jsX ks
def jjs:List Nat->Bool
 |[]=>true
 |k::ks=>!ks.contains k&&jjs ks
section
variable {B N:Nat} {w0 w:World} {s:St} {a:Act} {F:Nat->List Nat}
theorem A0.sim.rel:∀{a b:A0} {u:Value},a.sim b->A0Rel B w a u->A0Rel B w b u
 |.v x,.v y,u,hh,hr=>by rw [show x=y from hh] at hr;exact hr
 |.v x,.h _ _ _ y,u,hh,hr=>by obtain ⟨h1,h2⟩:=hh;subst h1;exact ⟨hr,h2⟩
 |.h _ _ _ x,.h _ _ _ y,u,hh,hr=>by rw [show x=y from hh] at hr;exact hr
 |.bp _ c b,.bp _ c' b',u,hh,hr=>by obtain ⟨h1,h2⟩:=hh;subst h1 h2;exact hr
 |.ep _ _ _ i x,.ep _ _ _ i' x',u,hh,hr=>by obtain ⟨h1,h2⟩:=hh;subst h1 h2;exact hr
 |.hs _ _ _ x s l n,.hs _ _ _ y s' l' n',u,hh,hr=>by obtain ⟨h1,h2,h3,h4⟩:=hh;subst h1 h2 h3 h4;exact hr
 |.ro d,.ro d',u,hh,hr=>by rw [show d=d' from hh] at hr;exact hr
 |.rp ds,.rp ds',u,hh,hr=>by rw [show ds=ds' from hh] at hr;exact hr
 |.un,.un,_,_,hr=>hr
theorem simL.rel:∀{l m:List A0} {us:List Value},simL l m->A0RelL B w l us->A0RelL B w m us
 |[],[],_,_,hr=>hr
 |_::_,_::_,_,⟨h1,h2⟩,⟨u,us',e,h3,h4⟩=>⟨u,us',e,h1.rel h3,h2.rel h4⟩
theorem AV.sim.rel {v v':AV} {u:Value} (h:v.sim v') (hr:VRel B w v u):VRel B w v' u:=by
 cases v' with
 |unk=>trivial
 |c b=>cases v<;>first|exact A0.sim.rel h hr|exact h.elim
 |agg m=>cases v<;>first|(obtain ⟨us,e,h1⟩:=hr;exact ⟨us,e,simL.rel h h1⟩)|exact h.elim
 |fn f m=>cases v<;>first|(obtain ⟨us,e,h1⟩:=hr;obtain ⟨rfl,h2⟩:=h;exact ⟨us,e,h2.rel h1⟩)|exact h.elim
 |tup m=>cases v<;>first|(rw [show _=m from h] at hr;exact hr)|exact h.elim
theorem jxL {d:D} (hs:d.isSl=true) (hc:d.cells=[]):(∃size ty,d=.sl size ty [])/\∀p,jbL p=hdr w p d (.slice none 0 0):=by
 cases d with
 |val u=>cases hs
 |sl size ty cs=>
  obtain rfl:cs=[]:=hc;exact ⟨⟨_,_,rfl⟩,λp=>by cases p<;>rfl⟩
theorem simC.rel:∀{cs cs':List Cell} {us:List Value} {S:List Nat},simC cs cs'->CRel B w cs us S->CRel B w cs' us S
 |[],[],_,_,_,hr=>hr
 |.a x::l,.a y::m,_,_,⟨h1,h2⟩,⟨u,us',e,h3,h4⟩=>⟨u,us',e,A0.sim.rel h1 h3,h2.rel h4⟩
 |.own d η::l,.own d' aC::m,_,_,⟨⟨h1,cW⟩,h2⟩,⟨u,us',S1,S2,e,e',h3,h4,h5,h6⟩=>by
  subst h1 cW;exact ⟨u,us',S1,S2,e,e',h3,h4,h5,h2.rel h6⟩
 |.a (.v x)::l,.own d η::m,_,S,⟨⟨h1,h2,h3,h4⟩,h5⟩,⟨u,us',e,h6,h7⟩=>by
  subst h1 h4;obtain ⟨⟨size,ty,rfl⟩,k2⟩:=jxL (w:=w) h2 h3;refine ⟨u,us',[],S,e,rfl,h2,?_,λp=>?_,h5.rel h7⟩
  ·rw [show u=_ from h6];exact Rep.nil_ w size ty
  ·rw [show u=_ from h6];exact k2 p
theorem Ob.sim.rel {ob ob':Ob} {S:List Nat} (h:ob.sim ob') (hr:ORel B w ob S):ORel B w ob' S:=by
 cases ob<;>cases ob'<;>first|exact h.elim|skip
 ·exact hr
 ·obtain ⟨rfl,rfl⟩:=h;exact hr
 ·obtain ⟨rfl,rfl,h⟩:=h;obtain ⟨us,S1,h1,h2,h3⟩:=hr;exact ⟨us,S1,h1,h.rel h2,h3⟩
theorem nilOb.rel {ob:Ob} (h:nilOb ob):ORel B w ob []:=by
 cases ob with
 |loose d η=>
  obtain ⟨h1,h2,rfl⟩:=h;obtain ⟨⟨size,ty,rfl⟩,k2⟩:=jxL (w:=w) h1 h2;exact ⟨h1,_,Rep.nil_ w size ty,k2⟩
 |_=>exact h.elim
theorem jgE:∀{ks:List (Option Nat)} {O:List (Nat×Ob)} {g b:Nat},b∈fp F ks O g->∃k∈jsX ks,b∈F k
 |[],_,_,_,h=>by simp [fp] at h
 |_::_,[],_,_,h=>by simp [fp] at h
 |k::ks,(g',ob)::O,g,b,h=>by
  simp only [fp] at h;split at h
  ·cases k with
   |some k=>exact ⟨k,by simp [jsX],h⟩
   |none=>simp at h
  ·obtain ⟨k',h1,h2⟩:=jgE h
   exact ⟨k',by cases k<;>simp [jsX,h1],h2⟩
theorem jcu:∀{l:List Nat},jjs l=true->l.Nodup
 |[],_=>List.nodup_nil
 |k::l,h=>by
  simp only [jjs,aOF,Bool.not_eq_true',List.contains_eq_mem,aOV] at h;exact aPX.2 ⟨h.1,jcu h.2⟩
theorem jA0 (n4:∀g g',g≠g'->∀b∈F g,b∉F g'):∀{ks:List (Option Nat)} {O:List (Nat×Ob)},(jsX ks).Nodup->∀g g',g≠g'->∀b∈fp F ks O g,b∉fp F ks O g'
 |[],_,_,_,_,_,b,h=>by simp [fp] at h
 |_::_,[],_,_,_,_,b,h=>by simp [fp] at h
 |k::ks,(g0,ob)::O,hn,g,g',aJ,b,h=>by
  have l5:(jsX ks).Nodup:=by cases k with
   |none=>exact hn
   |some k=>exact (aPX.1 hn).2
  have key:∀{g g':Nat},g=g0->g'≠g0->b∈fp F (k::ks) ((g0,ob)::O) g->b∉fp F (k::ks) ((g0,ob)::O) g':=by
   intro g g' e bO h h';simp only [fp,if_pos e] at h;simp only [fp,if_neg bO] at h';cases k with
   |none=>simp at h
   |some k=>
    obtain ⟨k',h1,h2⟩:=jgE h';have:k≠k':=λe=>(aPX.1 hn).1 (by rw [e];exact h1)
    exact n4 _ _ this b h h2
  by_cases e:g=g0
  ·exact key e (λe'=>aJ (e.trans e'.symm)) h
  ·by_cases e':g'=g0
   ·exact λh'=>key e' e h' h
   ·simp only [fp,if_neg e] at h
    simp only [fp,if_neg e'];exact jA0 n4 l5 g g' aJ b h
theorem jyj (h:∀g,ORel B w (s.o g) (F g)):∀{ks:List (Option Nat)} {O:List (Nat×Ob)},jsp s ks O->∀g,ORel B w (lkO O g) (fp F ks O g)
 |[],[],_,_=>rfl
 |[],_::_,hf,_=>hf.elim
 |some _::_,[],hf,_=>hf.elim
 |none::_,[],hf,_=>hf.elim
 |some k::ks,(g',ob)::O,⟨h1,h2⟩,g=>by
  simp only [lkO,fp];by_cases e:g=g'
  ·rw [if_pos e,if_pos e];exact h1.rel (h k)
  ·rw [if_neg e,if_neg e];exact jyj h h2 g
 |none::ks,(g',ob)::O,⟨h1,h2⟩,g=>by
  simp only [lkO,fp];by_cases e:g=g'
  ·rw [if_pos e,if_pos e];exact h1.rel
  ·rw [if_neg e,if_neg e];exact jyj h h2 g
theorem jAZ (h:∀g,Fresh B (F g)):∀(ks:List (Option Nat)) (O:List (Nat×Ob)) (g:Nat),Fresh B (fp F ks O g)
 |[],_,_=>Fresh.nil _
 |_::_,[],_=>Fresh.nil _
 |k::ks,(g',ob)::O,g=>by
  simp only [fp];split
  ·cases k with
   |some k=>exact h k
   |none=>exact Fresh.nil _
  ·exact jAZ h ks O g
theorem jA3 (h:∀n,VRel B w (s.t n) (a.tmps.getD n undef)):∀{T:List (Nat×AV)},jA5 s T->∀n,VRel B w (lkT T n) (a.tmps.getD n undef)
 |[],_,_=>trivial
 |(k,v)::T,⟨h1,h2⟩,n=>by
  simp only [lkT];by_cases e:n=k
  ·rw [if_pos e];subst e;exact h1.rel (h n)
  ·rw [if_neg e];exact jA3 h h2 n
theorem ze (ks:List (Option Nat)) {T:List (Nat×AV)} {O:List (Nat×Ob)} (h:jA5 s T/\jsp s ks O) (hn:jjs (jsX ks)=true:=by decide):Wk s (St.of T O):=
 λB N w0 w a F hr=>⟨fp F ks O,⟨hr.below,hr.hB,hr.df,hr.sz,jA3 hr.sl h.1,jyj hr.ob h.2,jAZ hr.fr ks O,jA0 hr.dj (jcu hn)⟩,
  λg b hb=>by obtain ⟨k,_,h2⟩:=jgE hb;exact ⟨k,h2⟩⟩
end
section
variable {P:Program} {β:Nat} {s:St} {Q:Ex->St->Prop}
theorem kg {ι:Type} {a:C} (mk:ι->St) (J:ι->Prop) (μ:ι->Nat) (i0:ι) (h0:J i0) (hw:Wk s (mk i0)) (hr:∀i,J i->wpC P β a (Ex.thn (λs'=>∃i',J i'/\Wk s' (mk i')/\μ i'<μ i) Q) (mk i)):wpC P β (.loop a) Q s:=⟨ι,mk,J,μ,⟨i0,h0,hw⟩,hr⟩
theorem wp_gh {a:C} (s':St) (h:Wk s s') (hk:wpC P β a Q s'):wpC P β (.gh a) Q s:=λ_ _ _ _ _ _ hr=>let ⟨F',h1,_⟩:=h _ _ _ _ _ _ hr;⟨s',F',h1,hk⟩
end
section
variable {s:St}
theorem of_t (T:List (Nat×AV)) (O:List (Nat×Ob)) (n:Nat):(St.of T O).t n=lkT T n:=(rfl)
theorem of_o (T:List (Nat×AV)) (O:List (Nat×Ob)) (n:Nat):(St.of T O).o n=lkO O n:=(rfl)
theorem jAH (k n:Nat) (v:AV) (T:List (Nat×AV)):lkT ((k,v)::T) n=if n=k then v else lkT T n:=(rfl)
theorem jDM (n:Nat):lkO [] n=.none:=(rfl)
theorem jAI (k n:Nat) (v:Ob) (T:List (Nat×Ob)):lkO ((k,v)::T) n=if n=k then v else lkO T n:=(rfl)
theorem jA4:jA5 s []=True:=(rfl)
theorem jyq (n:Nat) (v:AV) (T:List (Nat×AV)):jA5 s ((n,v)::T)=((s.t n).sim v/\jA5 s T):=(rfl)
theorem jA6:jsp s [] []=True:=(rfl)
theorem jGH (k g:Nat) (ob:Ob) (ks:List (Option Nat)) (O:List (Nat×Ob)):jsp s (some k::ks) ((g,ob)::O)=((s.o k).sim ob/\jsp s ks O):=(rfl)
theorem jGI (g:Nat) (ob:Ob) (ks:List (Option Nat)) (O:List (Nat×Ob)):jsp s (none::ks) ((g,ob)::O)=(nilOb ob/\jsp s ks O):=(rfl)
theorem jGj (d:D) (η:jf):nilOb (.loose d η)=(d.isSl=true/\d.cells=[]/\η=jbL):=(rfl)
theorem nilH_:jbL []=.slice none 0 0:=(rfl)
theorem sim_c (a b:A0):AV.sim (.c a) (.c b)=a.sim b:=(rfl)
theorem jCV (l m:List A0):AV.sim (.agg l) (.agg m)=simL l m:=(rfl)
theorem jFd (f f':Nat) (l m:List A0):AV.sim (.fn f l) (.fn f' m)=(f=f'/\simL l m):=(rfl)
theorem jz4:simL [] []=True:=(rfl)
theorem jwQ (a b:A0) (l m:List A0):simL (a::l) (b::m)=(a.sim b/\simL l m):=(rfl)
theorem sim_v (x y:Value):A0.sim (.v x) (.v y)=(x=y):=(rfl)
theorem jE9 (x y:Value) (g c:Nat) (p:List Nat):A0.sim (.v x) (.h g c p y)=(x=y/\x.oneCell'=true):=(rfl)
theorem sim_h (x y:Value) (g c g' c':Nat) (p p':List Nat):A0.sim (.h g c p x) (.h g' c' p' y)=(x=y):=(rfl)
theorem jFf (g c b g' c' b':Nat):A0.sim (.bp g c b) (.bp g' c' b')=(c=c'/\b=b'):=(rfl)
theorem jFe (g c i g' c' i':Nat) (p p':List Nat) (x x':Value):A0.sim (.ep g c p i x) (.ep g' c' p' i' x')=(i=i'/\x=x'):=(rfl)
theorem jFc (g c g' c' sz lo n sz' lo' n':Nat) (p p':List Nat) (x x':Value):A0.sim (.hs g c p x sz lo n) (.hs g' c' p' x' sz' lo' n')=(x=x'/\sz=sz'/\lo=lo'/\n=n'):=(rfl)
theorem jFb (d d':D):A0.sim (.ro d) (.ro d')=(d=d'):=(rfl)
theorem jFa (d d':List D):A0.sim (.rp d) (.rp d')=(d=d'):=(rfl)
theorem jE8 (x y:A0):Cell.sim (.a x) (.a y)=x.sim y:=by cases x<;>rfl
theorem jz2 (d d':D) (η aC:jf):Cell.sim (.own d η) (.own d' aC)=(d=d'/\η=aC):=(rfl)
theorem jz3 (x:Value) (d:D) (η:jf):Cell.sim (.a (.v x)) (.own d η)=(x=.slice none 0 0/\d.isSl=true/\d.cells=[]/\η=jbL):=(rfl)
theorem jz5:simC [] []=True:=(rfl)
theorem jwR (a b:Cell) (l m:List Cell):simC (a::l) (b::m)=(a.sim b/\simC l m):=(rfl)
theorem jFg (d d':D) (η aC:jf):Ob.sim (.loose d η) (.loose d' aC)=(d=d'/\η=aC):=(rfl)
theorem jFh (b ty b' ty':Nat) (cs cs':List Cell):Ob.sim (.box b ty cs) (.box b' ty' cs')=(b=b'/\ty=ty'/\simC cs cs'):=(rfl)
end
attribute [go_sem] of_t of_o jAH jDM jAI jA4 jyq jA6 jGH jGI jGj nilH_ sim_c jCV jFd jz4 jwQ sim_v jE9 sim_h jFf jFe jFc jFb jFa jE8 jz2 jz3 jz5 jwR jFg jFh
section
variable {P:Program} {β:Nat} {s:St}
theorem jr7 (l:List Int):(jb l).len=l.length:=jaa (enc:=λn=>[iv n]) (λ_=>rfl) (by decide) _ _
theorem zd {l:List Int} {k:Nat} {x:Int} (h:l[k]?=some x):(jb l).elem k=[iv x]:=vN (enc:=λn=>[iv n]) (λ_=>rfl) h
theorem juv (l:List Int):(jb l).isSl=true:=(rfl)
theorem juq (l:List Int):(jb l).size=1:=(rfl)
theorem juM (l:List Int):(jb l).toRo=.ro (jb l):=(rfl)
theorem jr1 (l:List Int) (g:Nat) (η:jf):(jb l).obj g η=[(g,.loose (jb l) η)]:=(rfl)
theorem jrX (l:List Int) (g c:Nat) (p:List Nat) (η:jf):(jb l).toOwn g c p η=.h g c p (η p):=(rfl)
theorem joV (l:List Int):(jb l).cells=l.flatMap (λn=>[iv n]):=(rfl)
theorem jeq (l:List Ed):(js l).len=l.length:=jaa (enc:=jK) (λ_=>rfl) (by decide) _ _
theorem jD {l:List Ed} {k:Nat} {x:Ed} (h:l[k]?=some x):(js l).elem k=jK x:=vN (enc:=jK) (λ_=>rfl) h
theorem jwN (l:List Ed):(js l).isSl=true:=(rfl)
theorem jwA (l:List Ed):(js l).size=2:=(rfl)
theorem jvc (l:List Ed) (g:Nat) (η:jf):(js l).obj g η=[(g,.loose (js l) η)]:=(rfl)
theorem ju3 (l:List Ed) (g c:Nat) (p:List Nat) (η:jf):(js l).toOwn g c p η=.h g c p (η p):=(rfl)
theorem jqT (l:List Ed):(js l).cells=l.flatMap (jK):=(rfl)
theorem jvb (l:List En) (g:Nat) (η:jf):(jg l).obj g η=[(g,.loose (jg l) η)]:=(rfl)
theorem ju2 (l:List En) (g c:Nat) (p:List Nat) (η:jf):(jg l).toOwn g c p η=.h g c p (η p):=(rfl)
theorem jqS (l:List En):(jg l).cells=l.flatMap (jk):=(rfl)
theorem ju6 (l:List Tk) (g:Nat) (η:jf):(jx l).obj g η=[(g,.loose (jx l) η)]:=(rfl)
theorem juX (l:List Tk) (g c:Nat) (p:List Nat) (η:jf):(jx l).toOwn g c p η=.h g c p (η p):=(rfl)
theorem jqO (l:List Tk):(jx l).cells=l.flatMap (jH):=(rfl)
theorem ju8 (l:List Rn) (g:Nat) (η:jf):(jE l).obj g η=[(g,.loose (jE l) η)]:=(rfl)
theorem juZ (l:List Rn) (g c:Nat) (p:List Nat) (η:jf):(jE l).toOwn g c p η=.h g c p (η p):=(rfl)
theorem jqQ (l:List Rn):(jE l).cells=l.flatMap (je):=(rfl)
theorem jxH (l:List (List En)) (g:Nat) (η:jf):(ki l).obj g η=[(g,.loose (ki l) η)]:=(rfl)
theorem jxD (l:List (List En)) (g c:Nat) (p:List Nat) (η:jf):(ki l).toOwn g c p η=.h g c p (η p):=(rfl)
theorem jsz (l:List (List En)):(ki l).cells=l.flatMap (λes=>[jg es]):=(rfl)
theorem jm5 (l:List Nt):(ql l).len=l.length:=jaa (enc:=qL) (λ_=>rfl) (by decide) _ _
theorem zP {l:List Nt} {k:Nat} {x:Nt} (h:l[k]?=some x):(ql l).elem k=qL x:=vN (enc:=qL) (λ_=>rfl) h
theorem jwK (l:List Nt):(ql l).isSl=true:=(rfl)
theorem jwx (l:List Nt):(ql l).size=12:=(rfl)
theorem jw8 (l:List Nt):(ql l).toRo=.ro (ql l):=(rfl)
theorem ju9 (l:List Nt) (g:Nat) (η:jf):(ql l).obj g η=[(g,.loose (ql l) η)]:=(rfl)
theorem ju0 (l:List Nt) (g c:Nat) (p:List Nat) (η:jf):(ql l).toOwn g c p η=.h g c p (η p):=(rfl)
theorem jvk (l:List Dd):(qJ l).len=l.length:=jaa (enc:=jR) (λ_=>rfl) (by decide) _ _
theorem jlm {l:List Dd} {k:Nat} {x:Dd} (h:l[k]?=some x):(qJ l).elem k=jR x:=vN (enc:=jR) (λ_=>rfl) h
theorem jwO (l:List Dd):(qJ l).isSl=true:=(rfl)
theorem jwB (l:List Dd):(qJ l).size=11:=(rfl)
theorem jxa (l:List Dd):(qJ l).toRo=.ro (qJ l):=(rfl)
theorem jvd (l:List Dd) (g:Nat) (η:jf):(qJ l).obj g η=[(g,.loose (qJ l) η)]:=(rfl)
theorem ju4 (l:List Dd) (g c:Nat) (p:List Nat) (η:jf):(qJ l).toOwn g c p η=.h g c p (η p):=(rfl)
theorem jrt (l:List Int) (e:Nat) (k:List D->Prop):slK (jb l) e 1 k=(jeP=e/\k (l.flatMap (λn=>[iv n]))):=by rw [show jb l=.sl 1 jeP (l.flatMap (λn=>[iv n])) from rfl,jvZ];simp
theorem jsx (l:List Int):(l.flatMap (λn=>[iv n])).length/1=l.length:=by rw [jC (enc:=λn=>[iv n]) (size:=1) (λ_=>rfl)];exact aOS _ (by decide)
theorem jr4:D.sl 1 jeP []=jb []:=rfl
theorem jgJ (l:List Int):ka (l.flatMap (λn=>[iv n]))=true:=by
 induction l with
 |nil=>rfl
 |cons x l ih=>rw [aOM,vO,ih];rfl
theorem juC (l:List Ed) (e:Nat) (k:List D->Prop):slK (js l) e 2 k=(tEd=e/\k (l.flatMap (jK))):=by rw [show js l=.sl 2 tEd (l.flatMap (jK)) from rfl,jvZ];simp
theorem jli (l:List Ed):D.sl 2 tEd (l.flatMap (jK))=js l:=rfl
theorem jvK (l:List Ed):(l.flatMap (jK)).length/2=l.length:=by rw [jC (enc:=jK) (size:=2) (λ_=>rfl)];exact aOS _ (by decide)
theorem jnv (l:List Ed) (x:Ed):D.sl 2 tEd (l.flatMap (jK)++(jK) x)=js (l++[x]):=by simp [js]
theorem jqB (l:List Ed):ka (l.flatMap (jK))=true:=by
 induction l with
 |nil=>rfl
 |cons x l ih=>rw [aOM,vO,ih];rfl
theorem joH (l:List Ed) (r:List D):ka (js l::r)=false:=(rfl)
theorem jr0 (l:List Ed) (r:List D):jkn (js l::r)=jkn r:=(rfl)
theorem juB (l:List En) (e:Nat) (k:List D->Prop):slK (jg l) e 4 k=(tEn=e/\k (l.flatMap (jk))):=by rw [show jg l=.sl 4 tEn (l.flatMap (jk)) from rfl,jvZ];simp
theorem jsn (l:List En):D.sl 4 tEn (l.flatMap (jk))=jg l:=rfl
theorem jvJ (l:List En):(l.flatMap (jk)).length/4=l.length:=by rw [jC (enc:=jk) (size:=4) (λ_=>rfl)];exact aOS _ (by decide)
theorem jif:D.sl 4 tEn []=jg []:=rfl
theorem jvV (l:List En) (x:En):D.sl 4 tEn (l.flatMap (jk)++(jk) x)=jg (l++[x]):=by simp [jg]
theorem jbi (l:List En):ka (l.flatMap (jk))=true:=by
 induction l with
 |nil=>rfl
 |cons x l ih=>rw [aOM,vO,ih];rfl
theorem joG (l:List En) (r:List D):ka (jg l::r)=false:=(rfl)
theorem jrZ (l:List En) (r:List D):jkn (jg l::r)=jkn r:=(rfl)
theorem juw (l:List Tk) (e:Nat) (k:List D->Prop):slK (jx l) e 4 k=(tTk=e/\k (l.flatMap (jH))):=by rw [show jx l=.sl 4 tTk (l.flatMap (jH)) from rfl,jvZ];simp
theorem jvE (l:List Tk):(l.flatMap (jH)).length/4=l.length:=by rw [jC (enc:=jH) (size:=4) (λ_=>rfl)];exact aOS _ (by decide)
theorem jvT (l:List Tk) (x:Tk):D.sl 4 tTk (l.flatMap (jH)++(jH) x)=jx (l++[x]):=by simp [jx]
theorem jje (l:List Tk):ka (l.flatMap (jH))=true:=by
 induction l with
 |nil=>rfl
 |cons x l ih=>rw [aOM,vO,ih];rfl
theorem jrY (l:List Tk) (r:List D):jkn (jx l::r)=jkn r:=(rfl)
theorem juy (l:List Rn) (e:Nat) (k:List D->Prop):slK (jE l) e 8 k=(tRn=e/\k (l.flatMap (je))):=by rw [show jE l=.sl 8 tRn (l.flatMap (je)) from rfl,jvZ];simp
theorem jvG (l:List Rn):(l.flatMap (je)).length/8=l.length:=by rw [jC (enc:=je) (size:=8) (λ_=>rfl)];exact aOS _ (by decide)
theorem jwP (l:List (List En)) (e:Nat) (k:List D->Prop):slK (ki l) e 1 k=(jro=e/\k (l.flatMap (λes=>[jg es]))):=by rw [show ki l=.sl 1 jro (l.flatMap (λes=>[jg es])) from rfl,jvZ];simp
theorem jyM (l:List (List En)):(l.flatMap (λes=>[jg es])).length/1=l.length:=by rw [jC (enc:=λes=>[jg es]) (size:=1) (λ_=>rfl)];exact aOS _ (by decide)
theorem juz (l:List Nt) (e:Nat) (k:List D->Prop):slK (ql l) e 12 k=(tNt=e/\k (l.flatMap (qL))):=by rw [show ql l=.sl 12 tNt (l.flatMap (qL)) from rfl,jvZ];simp
theorem jvH (l:List Nt):(l.flatMap (qL)).length/12=l.length:=by rw [jC (enc:=qL) (size:=12) (λ_=>rfl)];exact aOS _ (by decide)
theorem jvU (l:List Nt) (x:Nt):D.sl 12 tNt (l.flatMap (qL)++(qL) x)=ql (l++[x]):=by simp [ql]
theorem juD (l:List Dd) (e:Nat) (k:List D->Prop):slK (qJ l) e 11 k=(tDd=e/\k (l.flatMap (jR))):=by rw [show qJ l=.sl 11 tDd (l.flatMap (jR)) from rfl,jvZ];simp
theorem jvL (l:List Dd):(l.flatMap (jR)).length/11=l.length:=by rw [jC (enc:=jR) (size:=11) (λ_=>rfl)];exact aOS _ (by decide)
theorem jm1:D.sl 11 tDd []=qJ []:=rfl
theorem jGb (u:Value) (l:List D):jkn (.val u::l)=(u.oneCell'&&jkn l):=(rfl)
theorem jAx:jkn []=true:=(rfl)
theorem jqo (l:List Cell) (ds:List D):IsD (.a (.v (.slice none 0 0))::l) (jb []::ds)=IsD l ds:=jes l _ _ ds
theorem jsd (l:List Cell) (ds:List D):IsD (.a (.v (.slice none 0 0))::l) (jg []::ds)=IsD l ds:=jes l _ _ ds
theorem jsb (l:List Cell) (ds:List D):IsD (.a (.v (.slice none 0 0))::l) (jE []::ds)=IsD l ds:=jes l _ _ ds
theorem jvq (l:List Cell) (ds:List D):IsD (.a (.v (.slice none 0 0))::l) (ki []::ds)=IsD l ds:=jes l _ _ ds
theorem jsc (l:List Cell) (ds:List D):IsD (.a (.v (.slice none 0 0))::l) (ql []::ds)=IsD l ds:=jes l _ _ ds
theorem jvp:Is s (.v (.slice none 0 0)) (js [])=True:=jB9 _ _
theorem jm9 (l:List Int) (a b:Int):D.sl 1 jeP (l.flatMap (λn=>[iv n])++[iv a,iv b])=jb (l++[a,b]):=by simp [jb]
theorem jq {l:List Int} {k:Nat} {x:Int} (h:l[k]?=some x):((l.flatMap (λn=>[iv n])).drop (k*1)).take 1=[iv x]:=zd h
theorem jp {l:List Int} {k:Nat} (h:k<l.length):k*1+1<=(l.flatMap (λn=>[iv n])).length:=by rw [jC (enc:=λn=>[iv n]) (size:=1) (λ_=>rfl)];omega
theorem jq5 {l:List Ed} {k:Nat} {x:Ed} (h:l[k]?=some x):((l.flatMap (jK)).drop (k*2)).take 2=jK x:=jD h
theorem jqq {l:List Ed} {k:Nat} (h:k<l.length):k*2+2<=(l.flatMap (jK)).length:=by rw [jC (enc:=jK) (size:=2) (λ_=>rfl)];omega
theorem jbo {l:List (List En)} {k:Nat} {x:List En} (h:l[k]?=some x):((l.flatMap (λes=>[jg es])).drop (k*1)).take 1=[jg x]:=qg h
theorem jaD {l:List (List En)} {k:Nat} (h:k<l.length):k*1+1<=(l.flatMap (λes=>[jg es])).length:=by rw [jC (enc:=λes=>[jg es]) (size:=1) (λ_=>rfl)];omega
theorem jDK (g c:Nat) (p:List Nat) (η:jf) (i:Nat) (v:Value) (l:List D):jig g c p η i (.val v::l)=.v v::jig g c p η (i+1) l:=(rfl)
theorem jDL (g c:Nat) (p:List Nat) (η:jf) (i:Nat):jig g c p η i []=[]:=(rfl)
end
attribute [go_sem] jDK jDL jvp jqo jsd jsb jvq jsc jgJ jrt jsx joV jqB juC jvK jqT joH jr0 jbi juB jvJ jqS joG jrZ jje juw jvE jqO jrY juy jvG jqQ jwP jyM jsz juz jvH juD jvL jGb jAx Bool.and_false Bool.false_and Bool.and_true Bool.true_and jr7 juv juq juM jr1 jrX jeq jwN jwA jw9 jvc ju3 jep jwM jwz jpC jvb ju2 jeo jwH jwv jw6 ju6 juX vA jwJ jww jw7 ju8 juZ jaU jz1 jzT jAe jxH jxD jm5 jwK jwx jw8 ju9 ju0 jvk jwO jwB jxa jvd ju4
abbrev Ni (n:Int):AV:=.c (.v (.int .i64 n))
abbrev Hd (g:Nat) (η:jf):AV:=.c (.h g 0 [] (η []))
abbrev Bx (g b:Nat):AV:=.c (.bp g 0 b)
abbrev Ro (d:D):AV:=.c (.ro d)
abbrev Bi (b ty:Nat) (ds:List D):Ob:=.box b ty (ds.map λx=>.a x.toRo)
theorem jA2 (s t:Nat) (cs l:List D):ka (.sl s t cs::l)=false:=(rfl)
theorem jDE (s t:Nat) (cs l:List D):jkn (.sl s t cs::l)=jkn l:=(rfl)
attribute [go_sem] jA2 jDE
theorem qf {ι:Type} {mk:ι->St} {J:ι->Prop} {μ:ι->Nat} {n:Nat} {s':St} (i:ι) (h:Wk s' (mk i)) (hj:J i:=by (try dsimp only);first|omega|assumption|(and_intros<;>first|omega|assumption)) (hm:μ i<n:=by (try dsimp only);omega):∃i',J i'/\Wk s' (mk i')/\μ i'<n:=⟨i,hj,h,hm⟩
theorem qY {P:Program} {β:Nat} {s:St} {Q:Ex->St->Prop} {ι:Type} {a:C} (mk:ι->St) (J:ι->Prop) (μ:ι->Nat) (i0:ι) (hw:Wk s (mk i0)) (hr:∀i,J i->wpC P β a (Ex.thn (λs'=>∃i',J i'/\Wk s' (mk i')/\μ i'<μ i) Q) (mk i)) (h0:J i0:=by (try dsimp only);first|omega|(simp;done)|(and_intros<;>first|omega|simp)):wpC P β (.loop a) Q s:=kg mk J μ i0 h0 hw hr
theorem jm {P:Program} {β:Nat} {d:Option Nat} {g:Option (Nat×Bool)} {s:St} {K:St->Prop} {f:Nat} {args:List X} {vs:List View} {rt:RT} (hp:jW P f vs rt) (hk:∀η:Nat->jf,K ((s.addO (jl3 (100*(β+d.getD 0)) η 0 rt.flat)).put d (rt.av (100*(β+d.getD 0)) η))) (ha:zR s (args.map s.ev) vs:=by first|(simp only [go_sem];done)|simp only [go_sem,jR,jK,jk,qL,jd,je,jH,jc]):vp P β ⟨d,g,.call f args⟩ s K:=jG hp ha hk
theorem kx (k:Nat) (h:(k:Int)+1<9223372036854775808:=by omega):IntKind.i64.wrap ((k:Int)+1)=((k+1:Nat):Int):=kS (by omega) (by omega)
theorem jt {s:St} {T:List (Nat×AV)} {O:List (Nat×Ob)} (ks:List Nat) (h:jA5 s T/\jsp s (ks.map some) O:=by simp only [go_sem]<;>trivial) (hn:jjs (jsX (ks.map some))=true:=by decide):Wk s (St.of T O):=ze (ks.map some) h hn
theorem pf_ {P:Program} {N:Nat} {f:FuncId} {fn:Func} {c:C} {vs:List View} {rs:List R} {rt:RT} (hc:fnC P fn=some (c,rs,N)) (hw:wpC P 0 c (jAj rs rt) (St.init vs)) (hf:P.funcs[f]?=some fn:=by kernel_rfl) (hN:vs.length<=N:=by simp):jW P f vs rt:=jfH hf hc hN hw
theorem vF {x:Int} (h:-9223372036854775808<=x:=by omega) (h':x<9223372036854775808:=by omega):IntKind.i64.wrap x=x:=kS h h'
theorem zy {n:Nat} (h:n<=9223372036854775807:=by omega):n<=maxLen:=h
theorem qX (k:Nat):(k:Int)>=0:=by omega
theorem jGQ {P:Program} {ty:Nat} {xs ys:List Value} {b:Bool} (h:∀w,(Op.equalIn 10000 ty (.agg xs.toArray) (.agg ys.toArray)).run P w=.ok b w) (hg:P.eqGuardType P.depth ty=false):EqR P .eql ty xs ys b:=λw=>⟨by rw [run_eql_struct,h w];rfl,λx y=>run_eqGuard_agg _ _ _ _ _ _ _ hg⟩
theorem jyw {P:Program} {ty:Nat} {xs ys:List Value} {b:Bool} (h:∀w,(Op.equalIn 10000 ty (.agg xs.toArray) (.agg ys.toArray)).run P w=.ok b w) (hg:P.eqGuardType P.depth ty=false):EqR P .neq ty xs ys (!b):=λw=>⟨by rw [run_neq_struct,h w];rfl,λx y=>run_eqGuard_agg _ _ _ _ _ _ _ hg⟩
theorem w_any:Nonempty World:=⟨default⟩
theorem jkt {P:Program} {d:Option Nat} {s:St} {K:St->Prop} {op:BinOp} {ty:Nat} {l m:List A0} {xs ys:List Value} {b:Bool} (hx:jc2 l=some xs) (hy:jc2 m=some ys) (h:EqR P op ty xs ys b):jze P d s K op ty (.agg l) (.agg m)=K (s.put d (.c (.v (.bool b)))):=by
 apply propext
 constructor
 ·rintro ⟨av,(⟨_,_,_,h1,_⟩|⟨l',m',xs',ys',b',h1,h2,h3,h4,h5,rfl⟩),h6⟩
  ·cases h1
  ·cases h1;cases h2
   rw [hx] at h3;rw [hy] at h4;cases h3;cases h4;obtain ⟨w⟩:=w_any;have e1:=(h w).1;rw [(h5 w).1] at e1;simp at e1;subst e1;exact h6
 ·intro hk
  exact ⟨_,.inr ⟨l,m,xs,ys,b,rfl,rfl,hx,hy,h,rfl⟩,hk⟩
theorem jCf (w:World) (x y:Ed):(Op.equalIn 10000 161 (.agg #[.int .i64 x.src,.int .i64 x.dst]) (.agg #[.int .i64 y.src,.int .i64 y.dst])).run Tryz.prog w=.ok (decide (x=y)) w:=by
 have u3:=Tryz.underlying3;have a3:=Tryz.isAgg3;have z3:=Tryz.sizeOf3;rw [show (10000:Nat)=9999+1 from rfl,run_equalIn_agg w 9999 161 _ _ (by kernel_rfl) (by kernel_rfl)]
 simp only [Program.fieldsOf,Tryz.underlying161];obtain ⟨xsrc,xdst⟩:=x;obtain ⟨ysrc,ydst⟩:=y
 go_simp
 by_cases h0:xsrc=ysrc<;>by_cases h1:xdst=ydst<;>simp [h0,h1]
theorem jzd {d:Option Nat} {s:St} {K:St->Prop} (x y:Ed):jze Tryz.prog d s K .eql 161 (.agg [.v (.int .i64 x.src),.v (.int .i64 x.dst)]) (.agg [.v (.int .i64 y.src),.v (.int .i64 y.dst)])=K (s.put d (.c (.v (.bool (decide (x=y)))))):=jkt rfl rfl (jGQ (λw=>jCf w x y) (by kernel_rfl))
theorem jzc {d:Option Nat} {s:St} {K:St->Prop} (x y:Ed):jze Tryz.prog d s K .neq 161 (.agg [.v (.int .i64 x.src),.v (.int .i64 x.dst)]) (.agg [.v (.int .i64 y.src),.v (.int .i64 y.dst)])=K (s.put d (.c (.v (.bool (!decide (x=y)))))):=jkt rfl rfl (jyw (λw=>jCf w x y) (by kernel_rfl))
attribute [go_sem] jzd jzc
theorem jGT (w:World) (x y:En):(Op.equalIn 10000 44 (.agg #[.int .i64 x.aNI,.int .i64 x.seq,.int .i64 x.run,.int .i64 x.aNH]) (.agg #[.int .i64 y.aNI,.int .i64 y.seq,.int .i64 y.run,.int .i64 y.aNH])).run Tryz.prog w=.ok (decide (x=y)) w:=by
 have u3:=Tryz.underlying3;have a3:=Tryz.isAgg3;have z3:=Tryz.sizeOf3;rw [show (10000:Nat)=9999+1 from rfl,run_equalIn_agg w 9999 44 _ _ (by kernel_rfl) (by kernel_rfl)]
 simp only [Program.fieldsOf,Tryz.underlying44];obtain ⟨xprio,xseq,xrun,xtask⟩:=x;obtain ⟨yprio,yseq,yrun,ytask⟩:=y
 go_simp
 by_cases h0:xprio=yprio<;>by_cases h1:xseq=yseq<;>by_cases h2:xrun=yrun<;>by_cases h3:xtask=ytask<;>simp [h0,h1,h2,h3]
theorem jzb {d:Option Nat} {s:St} {K:St->Prop} (x y:En):jze Tryz.prog d s K .neq 44 (.agg [.v (.int .i64 x.aNI),.v (.int .i64 x.seq),.v (.int .i64 x.run),.v (.int .i64 x.aNH)]) (.agg [.v (.int .i64 y.aNI),.v (.int .i64 y.seq),.v (.int .i64 y.run),.v (.int .i64 y.aNH)])=K (s.put d (.c (.v (.bool (!decide (x=y)))))):=jkt rfl rfl (jyw (λw=>jGT w x y) (by kernel_rfl))
attribute [go_sem] jzb
theorem jGS (w:World) (x y:Tk):(Op.equalIn 10000 46 (.agg #[.int .i64 x.aND,.int .i64 x.aNL,.int .i64 x.tri,.int .i64 x.til]) (.agg #[.int .i64 y.aND,.int .i64 y.aNL,.int .i64 y.tri,.int .i64 y.til])).run Tryz.prog w=.ok (decide (x=y)) w:=by
 have u3:=Tryz.underlying3;have a3:=Tryz.isAgg3;have z3:=Tryz.sizeOf3;rw [show (10000:Nat)=9999+1 from rfl,run_equalIn_agg w 9999 46 _ _ (by kernel_rfl) (by kernel_rfl)]
 simp only [Program.fieldsOf,Tryz.underlying46];obtain ⟨xstate,xneed,xtri,xtil⟩:=x;obtain ⟨ystate,yneed,ytri,ytil⟩:=y
 go_simp
 by_cases h0:xstate=ystate<;>by_cases h1:xneed=yneed<;>by_cases h2:xtri=ytri<;>by_cases h3:xtil=ytil<;>simp [h0,h1,h2,h3]
theorem jza {d:Option Nat} {s:St} {K:St->Prop} (x y:Tk):jze Tryz.prog d s K .neq 46 (.agg [.v (.int .i64 x.aND),.v (.int .i64 x.aNL),.v (.int .i64 x.tri),.v (.int .i64 x.til)]) (.agg [.v (.int .i64 y.aND),.v (.int .i64 y.aNL),.v (.int .i64 y.tri),.v (.int .i64 y.til)])=K (s.put d (.c (.v (.bool (!decide (x=y)))))):=jkt rfl rfl (jyw (λw=>jGS w x y) (by kernel_rfl))
attribute [go_sem] jza
def jfj:C:=iS [aN 2 0] (iS [aM 4 0,iA 5 (iK 159 [4]),aM 3 5] (.seq (iS [aM 6 3,iA 7 (.bin .eql 9 (.t 6) (.c (.string ⟨⟨[]⟩⟩)))] (iD 7 (iS [aN 2 0] .ret) .skip)) (iS [aM 8 3,iA 9 (iK 195 [8]),aQ 10 .rem 3 9 4,aM 2 10] .ret)))
theorem jiF:fnC Tryz.prog Tryz.f170=some (jfj,[.t 2],11):=by kernel_rfl
def jfv:C:=iS [aN 2 0] (iS [aM 4 0,iA 5 (iK 153 [4]),aM 3 5] (.seq (iS [aM 6 3,iA 7 (.bin .eql 9 (.t 6) (.c (.string ⟨⟨[]⟩⟩)))] (iD 7 (iS [aN 2 0] .ret) .skip)) (iS [aM 8 3,iA 9 (iK 98 [8]),aQ 10 .rem 3 9 4,aM 2 10] .ret)))
theorem jiR:fnC Tryz.prog Tryz.f165=some (jfv,[.t 2],11):=by kernel_rfl
def jfg:C:=iS [iA 2 (.mov (.c (.string ⟨⟨[]⟩⟩)))] (.seq (iS [aM 4 0,iA 5 (.call 68 [.t 4,oI 0,oI 1000000000]),aU 6 5] (iD 6 (iS [iA 2 (.mov (.c (.string ⟨⟨[]⟩⟩)))] .ret) .skip)) (iS [iA 7 (.bsl 5 1 0 [] []),aM 3 7] (.seq (.blk 0 (.loop (.seq (iS [aM 8 0,aQ 9 .gtr 3 8 127] (iD 9 .skip (.exit 0))) (.blk 1 (iS [aM 10 3,aM 11 0,aQ 12 .rem 3 11 128,iA 13 (.bin .add 3 (oI 128) (.t 12)),iA 14 (.cv (.num .u8) 0 (.t 13)),iA 15 (.bsl 5 1 1 [none] [(0,1,.t 14)]),iA 16 (.app 5 1 1 (.t 10) (.t 15)),aM 3 16] (.reg [aM 17 0,aQ 18 .quo 3 17 128,aM 0 18])))))) (iS [aM 19 3,aM 20 0,iA 21 (.cv (.num .u8) 0 (.t 20)),iA 22 (.bsl 5 1 1 [none] [(0,1,.t 21)]),iA 23 (.app 5 1 1 (.t 19) (.t 22)),iA 24 (.cv .text 5 (.t 23)),aM 2 24] .ret))))
theorem jiC:fnC Tryz.prog Tryz.f159=some (jfg,[.t 2],25):=by kernel_rfl
def jfr:C:=iS [iA 2 (.mov (.c (.string ⟨⟨[]⟩⟩)))] (.seq (iS [aM 4 0,iA 5 (.call 62 [.t 4,oI 0,oI 1000000000]),aU 6 5] (iD 6 (iS [iA 2 (.mov (.c (.string ⟨⟨[]⟩⟩)))] .ret) .skip)) (iS [iA 3 (.mov (.c (.slice none 0 0)))] (.seq (.blk 0 (.loop (.seq (iS [aM 7 0,aQ 8 .geq 3 7 128] (iD 8 .skip (.exit 0))) (.blk 1 (iS [aM 9 3,aM 10 0,aQ 11 .rem 3 10 128,aQ 12 .add 3 11 128,iA 13 (.cv (.num .u8) 0 (.t 12)),iA 14 (.bsl 5 1 1 [none] [(0,1,.t 13)]),iA 15 (.app 5 1 1 (.t 9) (.t 14)),aM 3 15] (.reg [aM 16 0,aQ 17 .quo 3 16 128,aM 0 17])))))) (iS [aM 18 3,aM 19 0,iA 20 (.cv (.num .u8) 0 (.t 19)),iA 21 (.bsl 5 1 1 [none] [(0,1,.t 20)]),iA 22 (.app 5 1 1 (.t 18) (.t 21)),iA 23 (.cv .text 5 (.t 22)),aM 2 23] .ret))))
theorem jiN:fnC Tryz.prog Tryz.f153=some (jfr,[.t 2],24):=by kernel_rfl
def jdK:C:=iS [aN 2 0] (iS [aN 3 4294967295] (.seq (iS [aN 4 0] (.blk 0 (.loop (.seq (iS [aM 7 4,aM 8 0,iA 9 (.len true (.t 8)),aP 10 .lss 3 7 9] (iD 10 .skip (.exit 0))) (.seq (.blk 1 (iS [aM 13 3,aM 14 0,aM 15 4,iA 16 (.sidx (.t 14) (.t 15)),iA 17 (.cv (.num .i64) 0 (.t 16)),aP 18 .xor 3 13 17,aM 3 18] (iS [aN 5 0] (.blk 2 (.loop (.seq (iS [aM 19 5,aQ 20 .lss 3 19 8] (iD 20 .skip (.exit 2))) (.seq (.blk 3 (iS [aM 23 3,aQ 24 .rem 3 23 2,aQ 25 .eql 3 24 1,aM 6 25] (iS [aM 26 3,aQ 27 .quo 3 26 2,aM 3 27] (iS [aM 28 6] (iD 28 (.reg [aM 29 3,aQ 30 .xor 3 29 3988292384,aM 3 30]) .skip))))) (.reg [aM 21 5,aQ 22 .add 3 21 1,aM 5 22])))))))) (.reg [aM 11 4,aQ 12 .add 3 11 1,aM 4 12])))))) (iS [aM 31 3,aQ 32 .xor 3 31 4294967295,aM 2 32] .ret)))
theorem jlz:fnC Tryz.prog Tryz.f195=some (jdK,[.t 2],33):=by kernel_rfl
def jqX:C:=iS [aN 2 0] (iS [aN 3 4294967295] (.seq (iS [aN 4 0] (.blk 0 (.loop (.seq (iS [aM 7 4,aM 8 0,iA 9 (.len true (.t 8)),aP 10 .lss 3 7 9] (iD 10 .skip (.exit 0))) (.seq (.blk 1 (iS [aM 13 3,aM 14 0,aM 15 4,iA 16 (.sidx (.t 14) (.t 15)),iA 17 (.cv (.num .i64) 0 (.t 16)),aP 18 .xor 3 13 17,aM 3 18] (iS [aN 5 0] (.blk 2 (.loop (.seq (iS [aM 19 5,aQ 20 .lss 3 19 8] (iD 20 .skip (.exit 2))) (.seq (.blk 3 (iS [aM 23 3,aQ 24 .rem 3 23 2,aQ 25 .eql 3 24 1,aM 6 25] (iS [aM 26 3,aQ 27 .quo 3 26 2,aM 3 27] (iS [aM 28 6] (iD 28 (.reg [aM 29 3,aQ 30 .xor 3 29 3988292384,aM 3 30]) .skip))))) (.reg [aM 21 5,aQ 22 .add 3 21 1,aM 5 22])))))))) (.reg [aM 11 4,aQ 12 .add 3 11 1,aM 4 12])))))) (iS [aM 31 3,aQ 32 .xor 3 31 4294967295,aM 2 32] .ret)))
theorem jlH:fnC Tryz.prog Tryz.f98=some (jqX,[.t 2],33):=by kernel_rfl
def jjf:C:=iS [aO 6 false] (iS [aM 7 0,aM 8 1,aP 9 .geq 3 7 8,aM 10 9,iB 11 10 true (iM 0),iB 12 10 true (iM 2),iB 13 10 true (iP .leq 3 11 12),iA 14 (iY 10 (.t 13) (oF)),aM 6 14] .ret)
theorem jlx:fnC Tryz.prog Tryz.f68=some (jjf,[.t 6],15):=by kernel_rfl
def jhs:C:=iS [aO 6 false] (iS [aM 7 0,aM 8 1,aP 9 .geq 3 7 8,aM 10 9,iB 11 10 true (iM 0),iB 12 10 true (iM 2),iB 13 10 true (iP .leq 3 11 12),iA 14 (iY 10 (.t 13) (oF)),aM 6 14] .ret)
theorem jjS:fnC Tryz.prog Tryz.f62=some (jhs,[.t 6],15):=by kernel_rfl
theorem jI (a b c:Int):jW Tryz.prog 68 [.c (.val (.int .i64 a)),.c (.val (.int .i64 b)),.c (.val (.int .i64 c))] (.c (.val (.bool (decide (b<=a/\a<=c))))):=by
 refine pf_ jlx ?_;unfold jjf;by_cases h:b<=a
 ·simp only [go_sem,h]
 ·simp only [go_sem,h]
theorem jw (a b c:Int):jW Tryz.prog 62 [.c (.val (.int .i64 a)),.c (.val (.int .i64 b)),.c (.val (.int .i64 c))] (.c (.val (.bool (decide (b<=a/\a<=c))))):=by
 refine pf_ jjS ?_;unfold jhs;by_cases h:b<=a
 ·simp only [go_sem,h]
 ·simp only [go_sem,h]
def vY (v:Nat):List UInt8:=if v<128 then [UInt8.ofNat v] else UInt8.ofNat (128+v%128)::vY (v/128)
termination_by v
decreasing_by omega
theorem jnB (v:Nat):(vY v).length<=v+1:=by
 induction v using Nat.strongRecOn with
 |_ v ih=>
  unfold vY;split
  ·simp
  ·have:=ih (v/128) (by omega)
   simp only [aOD];omega
def jeb (n:Int):ByteArray:=if 0<=n/\n<=1000000000 then ⟨(vY n.toNat).toArray⟩ else ⟨#[]⟩
theorem jBr {v:Nat} (h:v<256):D.val (.int .u8 (IntKind.u8.wrap (v:Int)))=qe (UInt8.ofNat v):=by
 have:IntKind.u8.wrap (v:Int)=v:=IntWalk.u8_in _ (by omega)
 rw [this];simp [qe,Nat.mod_eq_of_lt h]
theorem jnF (v:Nat):Int.tdiv (v:Int) 128=((v/128:Nat):Int):=rfl
theorem jnE (v:Nat):Int.tmod (v:Int) 128=((v%128:Nat):Int):=rfl
theorem jhT {n:Nat} (h:n<=1000000000):jeb (n:Int)=⟨(vY n).toArray⟩:=by simp [jeb];omega
theorem jeU (n:Int):jW Tryz.prog 159 [.c (.val (.int .i64 n))] (.c (.val (.string (jeb n)))):=by
 refine pf_ jiC ?_;unfold jfg;simp only [go_sem];refine jm (jI n 0 1000000000) λη=>?_
 by_cases h:0<=n/\n<=1000000000
 ·obtain ⟨n,rfl⟩:=Int.eq_ofNat_of_zero_le h.1
  have hn:n<=1000000000:=by omega
  rw [jhT hn];simp only [go_sem,h];intro eH;have hl0:=jnB n;refine qT (λs=>∃(l:List UInt8) (v:Nat) (g:Nat) (η:jf),l++vY v=vY n/\v<=n/\(g=700\/g=1600)/\s.t 0=.c (.v (.int .i64 v))/\s.t 3=.c (.h g 0 [] (η []))/\s.o g=.loose (.sl 1 5 (l.map qe)) η) (λs=>s.n 0) ?_ ?_
  ·exact ⟨[],n,700,eH,rfl,aOC _,.inl rfl,by simp only [go_sem],by simp only [go_sem],by simp only [go_sem]⟩
  ·rintro s ⟨l,v,g,η,hl,hv,hg,h0,h3,ho⟩
   have eQ:l.length<=1000000001:=by have:=congrArg List.length hl;simp only [aNR] at this;omega
   by_cases aB:128<=v
   ·have aA:(127:Int)<v:=by omega
    have hw:IntKind.i64.wrap (128+((v%128:Nat):Int))=((128+v%128:Nat):Int):=by rw [kS (by omega) (by omega)];omega
    have bV:IntKind.i64.wrap ((v/128:Nat):Int)=((v/128:Nat):Int):=vF;have hb:=jBr (v:=128+v%128) (by omega)
    have e':l++vY v=(l++[UInt8.ofNat (128+v%128)])++vY (v/128):=by rw [vY,if_neg (by omega)];simp
    rcases hg with rfl|rfl
    ·simp only [go_sem,h0,h3,ho,aA,jnF,jnE,hw,bV]
     intro aS;refine ⟨by simp [maxLen];try omega,by simp;try omega,λcI=>⟨⟨_,v/128,1600,cI,e'.symm.trans hl,by omega,.inr rfl,rfl,rfl,by simp only [go_sem,hb,aPZ]⟩,?_⟩⟩
     rw [jbr (k:=.i64) (n:=((v/128:Nat):Int)) (by simp only [go_sem]),jbr h0];omega
    ·simp only [go_sem,h0,h3,ho,aA,jnF,jnE,hw,bV]
     intro aS;refine ⟨by simp [maxLen];try omega,by simp;try omega,λcI=>⟨⟨_,v/128,1600,cI,e'.symm.trans hl,by omega,.inr rfl,rfl,rfl,by simp only [go_sem,hb,aPZ]⟩,?_⟩⟩
     rw [jbr (k:=.i64) (n:=((v/128:Nat):Int)) (by simp only [go_sem]),jbr h0];omega
   ·have aA:¬(127:Int)<v:=by omega
    have hb:=jBr (v:=v) (by omega)
    have e':l++vY v=l++[UInt8.ofNat v]:=by rw [vY,if_pos (by omega)]
    have bQ:vY n=l++[UInt8.ofNat v]:=by rw [<-hl,e']
    rcases hg with rfl|rfl
    ·simp only [go_sem,h0,h3,ho,aA]
     intro aS;refine ⟨by simp [maxLen];try omega,by simp;try omega,λcI=>jex (bs:=vY n) rfl rfl (by rw [bQ];simp only [go_sem,hb,aPZ]) ?_⟩
     simp only [go_sem]
    ·simp only [go_sem,h0,h3,ho,aA]
     intro aS;refine ⟨by simp [maxLen];try omega,by simp;try omega,λcI=>jex (bs:=vY n) rfl rfl (by rw [bQ];simp only [go_sem,hb,aPZ]) ?_⟩
     simp only [go_sem]
 ·simp only [go_sem,h]
  simp [jeb,h]
theorem zY (n:Int):jW Tryz.prog 153 [.c (.val (.int .i64 n))] (.c (.val (.string (jeb n)))):=by
 refine pf_ jiN ?_;unfold jfr;simp only [go_sem];refine jm (jw n 0 1000000000) λη=>?_
 by_cases h:0<=n/\n<=1000000000
 ·obtain ⟨n,rfl⟩:=Int.eq_ofNat_of_zero_le h.1
  have hn:n<=1000000000:=by omega
  rw [jhT hn];simp only [go_sem,h];have hl0:=jnB n;refine qT (λs=>∃(l:List UInt8) (v:Nat),l++vY v=vY n/\v<=n/\s.t 0=.c (.v (.int .i64 v))/\((l=[]/\s.t 3=.c (.v (.slice none 0 0)))\/∃η,s.t 3=.c (.h 1500 0 [] (η []))/\s.o 1500=.loose (.sl 1 5 (l.map qe)) η)) (λs=>s.n 0) ?_ ?_
  ·exact ⟨[],n,rfl,aOC _,by simp only [go_sem],.inl ⟨rfl,by simp only [go_sem]⟩⟩
  ·rintro s ⟨l,v,hl,hv,h0,hg⟩
   have eQ:l.length<=1000000001:=by have:=congrArg List.length hl;simp only [aNR] at this;omega
   by_cases aB:128<=v
   ·have aA:(128:Int)<=v:=by omega
    have hw:IntKind.i64.wrap (((v%128:Nat):Int)+128)=((128+v%128:Nat):Int):=by rw [kS (by omega) (by omega)];omega
    have bV:IntKind.i64.wrap ((v/128:Nat):Int)=((v/128:Nat):Int):=vF;have hb:=jBr (v:=128+v%128) (by omega)
    have e':l++vY v=(l++[UInt8.ofNat (128+v%128)])++vY (v/128):=by rw [vY,if_neg (by omega)];simp
    rcases hg with ⟨rfl,h3⟩|⟨η,h3,ho⟩
    ·simp only [go_sem,h0,h3,aOR,aA,maxLen,jnF,jnE,hw,bV]
     intro aS;intro cI;refine ⟨⟨_,v/128,e'.symm.trans hl,by omega,rfl,.inr ⟨cI,rfl,by simp only [go_sem,hb]⟩⟩,?_⟩
     rw [jbr (k:=.i64) (n:=((v/128:Nat):Int)) (by simp only [go_sem]),jbr h0];omega
    ·simp only [go_sem,h0,h3,ho,aA,jnF,jnE,hw,bV]
     intro aS;refine ⟨by simp [maxLen];try omega,by simp;try omega,λcI=>⟨⟨_,v/128,e'.symm.trans hl,by omega,rfl,.inr ⟨cI,rfl,by simp only [go_sem,hb,aPZ]⟩⟩,?_⟩⟩
     rw [jbr (k:=.i64) (n:=((v/128:Nat):Int)) (by simp only [go_sem]),jbr h0];omega
   ·have aA:¬(128:Int)<=v:=by omega
    have hb:=jBr (v:=v) (by omega)
    have e':l++vY v=l++[UInt8.ofNat v]:=by rw [vY,if_pos (by omega)]
    have bQ:vY n=l++[UInt8.ofNat v]:=by rw [<-hl,e']
    rcases hg with ⟨rfl,h3⟩|⟨η,h3,ho⟩
    ·simp only [go_sem,h0,h3,aOR,aA,maxLen]
     intro aS cI;refine jex (bs:=vY n) rfl rfl (by rw [bQ];simp only [go_sem,hb]) ?_
     simp only [go_sem]
    ·simp only [go_sem,h0,h3,ho,aA]
     intro aS;refine ⟨by simp [maxLen];try omega,by simp;try omega,λcI=>jex (bs:=vY n) rfl rfl (by rw [bQ];simp only [go_sem,hb,aPZ]) ?_⟩
     simp only [go_sem]
 ·simp only [go_sem,h]
  simp [jeb,h]
def jvY (a b:Int):Int:=IntKind.i64.wrap ((BitVec.ofInt 64 a^^^BitVec.ofInt 64 b).toNat)
def jmG (c:Int):Int:=if (c.tmod 2==1)=true then jvY (IntKind.i64.wrap (c.tdiv 2)) 3988292384 else IntKind.i64.wrap (c.tdiv 2)
def jql:Nat->Int->Int
 |0,c=>c
 |n+1,c=>jmG (jql n c)
def jBJ (c:Int) (b:UInt8):Int:=jql 8 (jvY c (IntKind.i64.wrap b.toNat))
def jrq (b:ByteArray):Int:=jvY (b.data.toList.foldl jBJ 4294967295) 4294967295
theorem jvy {α β:Type} (f:β->α->β) (c:β) {l:List α} {k:Nat} {x:α} (h:l[k]?=some x):(l.take (k+1)).foldl f c=f ((l.take k).foldl f c) x:=by
 rw [aOA,h];simp
theorem jwf {P:Program} (b:ByteArray) (hb:b.size<9223372036854775807):wpC P 0 jdK (jAj [.t 2] (.c (.val (.int .i64 (jrq b))))) (St.init [.c (.val (.string b))]):=by
 unfold jdK;simp only [go_sem];refine qT (λs=>∃k:Nat,k<=b.size/\s.t 0=.c (.v (.string b))/\s.t 4=.c (.v (.int .i64 k))/\s.t 3=.c (.v (.int .i64 ((b.data.toList.take k).foldl jBJ 4294967295)))) (λs=>b.size-s.n 4) ?_ ?_
 ·exact ⟨0,aOL _,by simp only [go_sem],by simp only [go_sem]<;>rfl,by simp only [go_sem]<;>rfl⟩
 ·rintro s ⟨k,hk,h0,h4,h3⟩
  by_cases aB:k<b.size
  ·have aA:(k:Int)<b.size:=by omega
   obtain ⟨u,hu⟩:∃u,b[k]?=some u:=⟨b[k],by simp [aB]⟩
   have hu':b.data.toList[k]?=some u:=by
    rw [<-hu,getElem?_pos b k aB];simp only [Array.getElem?_toList];exact getElem?_pos b.data k aB
   have hw4:=kx k;simp only [go_sem,h0,h3,h4,aA];refine ⟨u,hu,?_⟩;refine qT (λs=>∃j:Nat,j<=8/\s.t 0=.c (.v (.string b))/\s.t 4=.c (.v (.int .i64 k))/\s.t 5=.c (.v (.int .i64 j))/\s.t 3=.c (.v (.int .i64 (jql j (jvY ((b.data.toList.take k).foldl jBJ 4294967295) (IntKind.i64.wrap u.toNat)))))) (λs=>8-s.n 5) ?_ ?_
   ·exact ⟨0,aOL _,by simp only [go_sem,h0],by simp only [go_sem,h4],by simp only [go_sem]<;>rfl,by simp only [go_sem]<;>rfl⟩
   ·rintro s' ⟨j,hj,eU,sD,mH,lG⟩
    by_cases hj':j<8
    ·have nF:(j:Int)<8:=by omega
     have hw:=kx j;cases rK:(jql j (jvY ((b.data.toList.take k).foldl jBJ 4294967295) (IntKind.i64.wrap u.toNat))).tmod 2==1 with
     |true=>
      simp only [go_sem,eU,sD,mH,lG,nF,rK,hw];exact ⟨⟨j+1,by omega,rfl,by simp only [jql,jmG,rK,↓reduceIte];rfl⟩,by rw [jbr (k:=.i64) (n:=((j+1:Nat):Int)) (by simp only [go_sem]),jbr mH];omega⟩
     |false=>
      simp only [go_sem,eU,sD,mH,lG,nF,rK,hw];exact ⟨⟨j+1,by omega,rfl,by simp only [jql,jmG,rK,aQF,↓reduceIte]⟩,by rw [jbr (k:=.i64) (n:=((j+1:Nat):Int)) (by simp only [go_sem]),jbr mH];omega⟩
    ·have nF:¬(j:Int)<8:=by omega
     have hj8:j=8:=by omega
     subst hj8;simp only [go_sem,eU,sD,mH,lG,hw4];exact ⟨⟨k+1,by omega,rfl,by rw [jvy _ _ hu'];rfl⟩,by rw [jbr (k:=.i64) (n:=((k+1:Nat):Int)) (by simp only [go_sem]),jbr h4];omega⟩
  ·have aA:¬(k:Int)<b.size:=by omega
   have z9:b.data.toList.take k=b.data.toList:=aNU (by simp only [aQB];exact Nat.le_of_not_lt aB)
   simp only [go_sem,h0,h3,h4,aA,z9];rfl
theorem jpO (b:ByteArray) (hb:b.size<9223372036854775807):jW Tryz.prog 195 [.c (.val (.string b))] (.c (.val (.int .i64 (jrq b)))):=
 jfH Tryz.func195 jlz (by simp) (jwf b hb)
theorem ji8 (b:ByteArray) (hb:b.size<9223372036854775807):jW Tryz.prog 98 [.c (.val (.string b))] (.c (.val (.int .i64 (jrq b)))):=
 jfH Tryz.func98 jlH (by simp) (jwf b hb)
def jdc (n:Int):Int:=if ((jeb n).toList==ByteArray.toList ⟨⟨[]⟩⟩)=true then 0 else (jrq (jeb n)).tmod 4
theorem jmE (n:Int):(jeb n).size<9223372036854775807:=by
 unfold jeb;split
 ·have:=jnB n.toNat
  show (vY n.toNat).toArray.size<_;simp only [List.size_toArray];omega
 ·decide
theorem jeV (n:Int):jW Tryz.prog 170 [.c (.val (.int .i64 n))] (.c (.val (.int .i64 (jdc n)))):=by
 refine pf_ jiF ?_;unfold jfj;simp only [go_sem];refine jm (jeU n) λη=>?_
 cases he:(jeb n).toList==ByteArray.toList ⟨⟨[]⟩⟩ with
 |true=>
  simp only [go_sem,he];simp only [jdc,he,if_true]
 |false=>
  simp only [go_sem,he];refine jm (jpO _ (jmE n)) λη=>?_
  simp only [go_sem];simp only [jdc,he,aQF,if_false]
theorem jeX (n:Int):jW Tryz.prog 165 [.c (.val (.int .i64 n))] (.c (.val (.int .i64 (jdc n)))):=by
 refine pf_ jiR ?_;unfold jfv;simp only [go_sem];refine jm (zY n) λη=>?_
 cases he:(jeb n).toList==ByteArray.toList ⟨⟨[]⟩⟩ with
 |true=>
  simp only [go_sem,he];simp only [jdc,he,if_true]
 |false=>
  simp only [go_sem,he];refine jm (ji8 _ (jmE n)) λη=>?_
  simp only [go_sem];simp only [jdc,he,aQF,if_false]
def jfc:C:=iS [iA 1 (.box 49 5 (.t 0)),iA 2 wAS] (iS [iA 3 (.bsl 161 2 0 [] []),aF 4 4 1,aL 5 4,iA 6 (.app 161 2 16 (.t 3) (.t 5)),aF 7 4 1,wAK 7 6] (iS [aT 8 5 1,wAG 2 8] .ret))
theorem jiy:fnC Tryz.prog Tryz.f168=some (jfc,[.cell 2 true 5],9):=by kernel_rfl
def jdX:C:=iS [iA 1 (.box 49 5 (.t 0)),iA 2 wAS] (iS [aF 3 4 1,aL 4 3,iA 5 (.app 161 2 16 (.c (.slice none 0 0)) (.t 4)),aF 6 4 1,wAK 6 5] (iS [aT 7 5 1,wAG 2 7] .ret))
theorem jg1:fnC Tryz.prog Tryz.f163=some (jdX,[.cell 2 true 5],8):=by kernel_rfl
def jdZ:C:=iS [iA 1 (.box 60 11 (.t 0)),iA 2 wAT] (iS [aF 3 2 1,aT 4 5 3,iA 5 (iK 163 [4]),aF 6 2 1,wAG 6 5] (iS [aT 7 11 1,wAE 2 7] .ret))
theorem jg3:fnC Tryz.prog Tryz.f152=some (jdZ,[.cell 2 true 11],8):=by kernel_rfl
def jdY:C:=iS [iA 1 (.box 70 12 (.t 0)),iA 2 wAU] (.seq (.dreg (tA 0 3 (iF 0 1) (tA 1 4 (iL 3) (tA 2 5 (iF 1 1) (tA 3 6 (iT 11 5) (tC 7 (iK 152 [6]) [1,0] (tA 5 8 (wAZ [(0,1,.t 4),(1,11,.t 7)]) (.alt (wAL 2 8) [] .done .stop)) .stop)))))) .ret)
theorem jg2:fnC Tryz.prog Tryz.f99=some (jdY,[.cell 2 true 12],9):=by kernel_rfl
theorem jeT (p:Pl) (hb:p.aNF.length<=4000000):jW Tryz.prog 168 [.agg (jd p)] (.agg (jd p)):=by
 refine pf_ jiy ?_;unfold jfc;have h1:p.aNF.length<=maxLen:=zy;have h2:p.aNF.length*16<=140737488355328:=by omega
 simp only [go_sem,jd,h1,h2,jli]
theorem jaQ (p:Pl) (hb:p.aNF.length<=4000000):jW Tryz.prog 163 [.agg (jd p)] (.agg (jd p)):=by
 refine pf_ jg1 ?_;unfold jdX;have h1:p.aNF.length<=maxLen:=zy;have h2:p.aNF.length*16<=140737488355328:=by omega
 simp only [go_sem,jd,h1,h2,jli]
theorem jk3 (d:Dd) (hb:d.aNB.aNF.length<=4000000):jW Tryz.prog 152 [.agg (jR d)] (.agg (jR d)):=by
 refine pf_ jg3 ?_;unfold jdZ;simp only [go_sem,jR,jd];intro b b1;refine jm (jaQ d.aNB hb) λη=>?_
 simp only [go_sem,jd]
theorem jdm (n:Nt) (hb:n.aNO.aNB.aNF.length<=4000000):jW Tryz.prog 99 [.agg (qL n)] (.agg (qL n)):=by
 refine pf_ jg2 ?_;unfold jdY;simp only [go_sem,qL,jR,jd];intro b b1;refine jm (jk3 n.aNO hb) λη=>?_
 simp only [go_sem,jR,jd]
def jhf:C:=iS [aO 2 false] (iS [aM 3 0,iA 4 (.call 68 [.t 3,oI 0,oI 1000000000]),aM 2 4] .ret)
theorem jjF:fnC Tryz.prog Tryz.f186=some (jhf,[.t 2],5):=by kernel_rfl
def jcG:C:=iS [iA 1 (.box 49 5 (.t 0)),aO 2 false] (iS [aF 3 0 1,aL 4 3,aQ 5 .eql 3 4 0,aM 6 5,iB 7 6 true (iF 1 1),iB 8 6 true (iL 7),iB 9 6 true (iQ .eql 3 8 0),iA 10 (iY 6 (.t 9) (oF)),aM 11 10,iB 12 11 true (iF 2 1),iB 13 11 true (iL 12),iB 14 11 true (iQ .eql 3 13 0),iA 15 (iY 11 (.t 14) (oF)),aM 16 15,iB 17 16 true (iF 3 1),iB 18 16 true (iL 17),iB 19 16 true (iQ .eql 3 18 0),iA 20 (iY 16 (.t 19) (oF)),aM 21 20,iB 22 21 true (iF 4 1),iB 23 21 true (iL 22),iB 24 21 true (iG 23),iB 25 21 true (iQ .eql 3 24 0),iA 26 (iY 21 (.t 25) (oF)),aM 2 26] .ret)
theorem jfO:fnC Tryz.prog Tryz.f188=some (jcG,[.t 2],27):=by kernel_rfl
def je1:C:=iS [iA 1 (.box 49 5 (.t 0)),aO 2 false] (.seq (iS [aF 4 0 1,aL 5 4,iA 6 (iK 186 [5]),aU 7 6,aM 8 7,iB 9 8 false (iF 1 1),iB 10 8 false (iL 9),iB 11 8 false (iK 186 [10]),iB 12 8 false (iU 11),iA 13 (iY 8 (oT) (.t 12)),aM 14 13,iB 15 14 false (iF 2 1),iB 16 14 false (iL 15),iB 17 14 false (iK 186 [16]),iB 18 14 false (iU 17),iA 19 (iY 14 (oT) (.t 18)),aM 20 19,iB 21 20 false (iF 3 1),iB 22 20 false (iL 21),iB 23 20 false (iK 186 [22]),iB 24 20 false (iU 23),iA 25 (iY 20 (oT) (.t 24)),aM 26 25,iB 27 26 false (iF 4 1),iB 28 26 false (iL 27),iB 29 26 false (iG 28),iB 30 26 false (iQ .gtr 3 29 31),iA 31 (iY 26 (oT) (.t 30))] (iD 31 (iS [aO 2 false] .ret) .skip)) (.seq (iS [aN 3 0] (.blk 0 (.loop (.seq (iS [aM 32 3,aF 33 4 1,aL 34 33,aG 35 34,aP 36 .lss 3 32 35] (iD 36 .skip (.exit 0))) (.seq (.blk 1 (iS [aF 39 4 1,aL 40 39,aM 41 3,aI 42 2 40 41,aF 43 0 42,aL 44 43,iA 45 (iK 186 [44]),aU 46 45,aM 47 46,iB 48 47 false (iF 4 1),iB 49 47 false (iL 48),iB 50 47 false (iM 3),iB 51 47 false (iI 2 49 50),iB 52 47 false (iF 1 51),iB 53 47 false (iL 52),iB 54 47 false (iK 186 [53]),iB 55 47 false (iU 54),iA 56 (iY 47 (oT) (.t 55))] (iD 56 (iS [aO 2 false] .ret) .skip))) (.reg [aM 37 3,aQ 38 .add 3 37 1,aM 3 38])))))) (iS [aO 2 true] .ret)))
theorem jin:fnC Tryz.prog Tryz.f187=some (je1,[.t 2],57):=by kernel_rfl
def jhq:C:=iS [iA 1 (.box 60 11 (.t 0)),aO 2 false] (.seq (iS [aF 6 0 1,aL 7 6,iA 8 (.call 68 [.t 7,oI 1,oI 8]),aU 9 8] (iD 9 (iS [aO 2 false] .ret) .skip)) (iS [aF 10 0 1,aL 11 10,aQ 12 .eql 3 11 2,aM 3 12] (iS [aF 13 0 1,aL 14 13,aQ 15 .eql 3 14 3,aM 16 15,iB 17 16 false (iF 0 1),iB 18 16 false (iL 17),iB 19 16 false (iQ .eql 3 18 4),iA 20 (iY 16 (oT) (.t 19)),aM 4 20] (iS [aM 21 3,aU 22 21,aM 23 22,iB 24 23 true (iF 0 1),iB 25 23 true (iL 24),iB 26 23 true (iQ .neq 3 25 5),iA 27 (iY 23 (.t 26) (oF)),aM 28 27,iB 29 28 true (iF 0 1),iB 30 28 true (iL 29),iB 31 28 true (iQ .neq 3 30 8),iA 32 (iY 28 (.t 31) (oF)),aM 5 32] (.seq (iS [aM 33 5,aM 34 33,iB 35 34 true (iF 1 1),iB 36 34 true (iL 35),iB 37 34 true (iK 186 [36]),iB 38 34 true (iU 37),iA 39 (iY 34 (.t 38) (oF)),aM 40 39,iB 41 40 false (iM 5),iB 42 40 false (iU 41),iB 43 40 false (iM 42),iB 44 43 true (iF 1 1),iB 45 43 true (iL 44),iB 46 43 true (iQ .neq 3 45 0),iB 47 40 false (iY 43 (.t 46) (oF)),iA 48 (iY 40 (oT) (.t 47)),aM 49 48,iB 50 49 false (iM 4),iB 51 49 false (iM 50),iB 52 51 true (iF 7 1),iB 53 51 true (iL 52),iB 54 51 true (iK 186 [53]),iB 55 51 true (iU 54),iB 56 51 true (iM 55),iB 57 56 false (iF 8 1),iB 58 56 false (iL 57),iB 59 56 false (iK 186 [58]),iB 60 56 false (iU 59),iB 61 51 true (iY 56 (oT) (.t 60)),iB 62 49 false (iY 51 (.t 61) (oF)),iA 63 (iY 49 (oT) (.t 62)),aM 64 63,iB 65 64 false (iM 4),iB 66 64 false (iU 65),iB 67 64 false (iM 66),iB 68 67 true (iF 7 1),iB 69 67 true (iL 68),iB 70 67 true (iQ .neq 3 69 0),iB 71 67 true (iM 70),iB 72 71 false (iF 8 1),iB 73 71 false (iL 72),iB 74 71 false (iQ .neq 3 73 0),iB 75 67 true (iY 71 (oT) (.t 74)),iB 76 64 false (iY 67 (.t 75) (oF)),iA 77 (iY 64 (oT) (.t 76)),aM 78 77,iB 79 78 false (iM 3),iB 80 78 false (iM 79),iB 81 80 true (iF 9 1),iB 82 80 true (iL 81),iB 83 80 true (iK 186 [82]),iB 84 80 true (iU 83),iB 85 80 true (iM 84),iB 86 85 false (iF 10 1),iB 87 85 false (iL 86),iB 88 85 false (iK 186 [87]),iB 89 85 false (iU 88),iB 90 80 true (iY 85 (oT) (.t 89)),iB 91 78 false (iY 80 (.t 90) (oF)),iA 92 (iY 78 (oT) (.t 91)),aM 93 92,iB 94 93 false (iM 3),iB 95 93 false (iU 94),iB 96 93 false (iM 95),iB 97 96 true (iF 9 1),iB 98 96 true (iL 97),iB 99 96 true (iQ .neq 3 98 0),iB 100 96 true (iM 99),iB 101 100 false (iF 10 1),iB 102 100 false (iL 101),iB 103 100 false (iQ .neq 3 102 0),iB 104 96 true (iY 100 (oT) (.t 103)),iB 105 93 false (iY 96 (.t 104) (oF)),iA 106 (iY 93 (oT) (.t 105))] (iD 106 (iS [aO 2 false] .ret) .skip)) (.seq (iS [aF 107 0 1,aL 108 107,aQ 109 .eql 3 108 1] (iD 109 (iS [aF 110 2 1,aT 111 5 110,iA 112 (iK 187 [111]),aM 2 112] .ret) .skip)) (iS [aF 113 2 1,aT 114 5 113,iA 115 (iK 188 [114]),aM 2 115] .ret)))))))
theorem jjQ:fnC Tryz.prog Tryz.f147=some (jhq,[.t 2],116):=by kernel_rfl
def qd:C:=iS [iA 1 (.box 60 11 (.t 0)),iA 2 wAT] (iS [aF 4 0 1,aL 5 4,iA 6 (wAX [(0,1,.t 5)]),iA 3 wAT,wAE 3 6] (.seq (iS [aF 7 0 1,aL 8 7] (.blk 0 (iS [aQ 10 .eql 3 8 1,aM 9 10] (iD 9 (.dreg (tA 0 11 (iF 1 1) (tA 1 12 (iL 11) (tA 2 13 (iF 2 1) (tA 3 14 (iT 5 13) (tA 4 15 (iF 1 3) (.alt (wAD 15 12) [3,2] (tA 6 16 (iF 2 3) (.alt (wAG 16 14) [] .done .stop)) .stop))))))) (iS [aQ 18 .eql 3 8 2,aM 17 18] (iD 17 (.dreg (tA 0 19 (iF 9 1) (tA 1 20 (iL 19) (tA 2 21 (iF 10 1) (tA 3 22 (iL 21) (tA 4 23 (iF 9 3) (.alt (wAD 23 20) [3,2] (tA 6 24 (iF 10 3) (.alt (wAD 24 22) [] .done .stop)) .stop))))))) (.seq (iS [aQ 26 .eql 3 8 3,aM 25 26] (iD 25 .skip (.reg [aQ 27 .eql 3 8 4,aM 25 27]))) (iD 25 (.dreg (tA 0 28 (iF 1 1) (tA 1 29 (iL 28) (tA 2 30 (iF 7 1) (tA 3 31 (iL 30) (tA 4 32 (iF 8 1) (tA 5 33 (iL 32) (tA 6 34 (iF 1 3) (.alt (wAD 34 29) [5,4,3,2] (tA 8 35 (iF 7 3) (.alt (wAD 35 31) [5,4] (tA 10 36 (iF 8 3) (.alt (wAD 36 33) [] .done .stop)) .stop)) .stop))))))))) (.seq (iS [aQ 38 .eql 3 8 6,aM 37 38] (iD 37 .skip (.reg [aQ 39 .eql 3 8 7,aM 37 39]))) (iD 37 (.reg [aF 40 1 1,aL 41 40,aF 42 1 3,wAD 42 41]) .skip)))))))))) (iS [aT 43 11 3,wAE 2 43] .ret)))
theorem kD:fnC Tryz.prog Tryz.f93=some (qd,[.cell 2 true 11],44):=by kernel_rfl
def jbm:C:=iS [iA 1 (.box 60 11 (.t 0)),iA 2 (.mov (.c (.slice none 0 0)))] (.seq (iS [aF 6 0 1,aL 7 6] (.blk 0 (iS [aQ 9 .eql 3 7 1,aM 8 9] (iD 8 (iS [aF 10 1 1,aL 11 10,aF 12 2 1,aF 13 0 12,aL 14 13,aF 15 2 1,aF 16 1 15,aL 17 16,aF 18 2 1,aF 19 2 18,aL 20 19,aF 21 2 1,aF 22 3 21,aL 23 22,aF 24 2 1,aF 25 4 24,aL 26 25,aG 27 26,iA 28 (.bsl 3 1 6 [none,none,none,none,none,none] [(0,1,.t 11),(1,1,.t 14),(2,1,.t 17),(3,1,.t 20),(4,1,.t 23),(5,1,.t 27)]),aM 3 28] (.seq (iS [aF 29 2 1,aF 30 4 29,aL 31 30,aG 32 31,aN 33 0] (.blk 1 (.loop (iS [aP 34 .lss 3 33 32] (.seq (iD 34 .skip (.exit 1)) (.seq (.blk 2 (iS [aI 35 2 31 33,aT 36 2 35,iA 5 wAP,wAH 5 36] (.reg [aM 37 3,aF 38 0 5,aL 39 38,aF 40 1 5,aL 41 40,iA 42 (wA6 [(0,1,.t 39),(1,1,.t 41)]),iA 43 (wBA 37 42),aM 3 43]))) (.reg [aQ 44 .add 3 33 1,aM 33 44]))))))) (iS [aM 45 3,aM 2 45] .ret))) (iS [aQ 47 .eql 3 7 2,aM 46 47] (iD 46 (iS [aF 48 9 1,aL 49 48,aF 50 10 1,aL 51 50,iA 52 (wA6 [(0,1,.t 49),(1,1,.t 51)]),aM 2 52] .ret) (.seq (iS [aQ 54 .eql 3 7 3,aM 53 54] (iD 53 .skip (.reg [aQ 55 .eql 3 7 4,aM 53 55]))) (iD 53 (iS [aF 56 1 1,aL 57 56,aF 58 7 1,aL 59 58,aF 60 8 1,aL 61 60,iA 62 (wA7 [(0,1,.t 57),(1,1,.t 59),(2,1,.t 61)]),aM 2 62] .ret) (.seq (iS [aQ 64 .eql 3 7 6,aM 63 64] (iD 63 .skip (.reg [aQ 65 .eql 3 7 7,aM 63 65]))) (iD 63 (iS [aF 66 1 1,aL 67 66,iA 68 (wA1 [(0,1,.t 67)]),aM 2 68] .ret) .skip)))))))))) (iS [iA 2 (.mov (.c (.slice none 0 0)))] .ret))
theorem jdF:fnC Tryz.prog Tryz.f94=some (jbm,[.t 2],69):=by kernel_rfl
def va:C:=iS [iA 1 (.box 60 11 (.t 0)),aO 2 false] (.seq (.seq (.dreg (tA 0 5 (iF 0 1) (tA 1 6 (iL 5) (tC 7 (.call 62 [.t 6,oI 1,oI 8]) [] (tA 3 8 (iU 7) (tA 4 9 (iM 8) (tB 5 10 9 false (iF 2 1) (tB 6 11 9 false (iF 4 10) (tB 7 12 9 false (iL 11) (tB 8 13 9 false (iG 12) (tB 9 14 9 false (iQ .gtr 3 13 31) (tA 10 15 (iY 9 (oT) (.t 14)) (tA 11 16 (iM 15) (tB 12 17 16 false (iT 11 1) (tB 13 18 16 false (iT 11 1) (.alt (iB 19 16 false (iK 93 [18])) [12] (.alt (iB 20 16 false (iK 92 [17,19])) [] (tB 16 21 16 false (iU 20) (tA 17 22 (iY 16 (oT) (.t 21)) .done)) .stop) .stop)))))))))))) .stop)))) (iD 22 (iS [aO 2 false] .ret) .skip)) (.seq (iS [aT 23 11 1,iA 24 (iK 94 [23]),aG 25 24,aN 26 0] (.blk 0 (.loop (iS [aP 27 .lss 3 26 25] (.seq (iD 27 .skip (.exit 0)) (.seq (.blk 1 (iS [aI 28 1 24 26,aL 29 28,aM 4 29] (iS [aM 30 4,iA 31 (.call 62 [.t 30,oI 0,oI 1000000000]),aU 32 31] (iD 32 (iS [aO 2 false] .ret) .skip)))) (.reg [aQ 33 .add 3 26 1,aM 26 33]))))))) (iS [aO 2 true] .ret)))
theorem jj8:fnC Tryz.prog Tryz.f30=some (va,[.t 2],34):=by kernel_rfl
def zM (n:Int):Bool:=decide (0<=n/\n<=1000000000)
theorem qu (n:Int):jW Tryz.prog 186 [.c (.val (.int .i64 n))] (.c (.val (.bool (zM n)))):=by
 refine pf_ jjF ?_;unfold jhf;simp only [go_sem];refine jm (jI n 0 1000000000) λη=>?_
 simp only [go_sem];rfl
def jch (p:Pl):Bool:=p.aNI==0&&p.aNN==0&&p.aNM==0&&p.aNA==0&&((p.aNF.length:Int)==0)
theorem vV (p:Pl):jW Tryz.prog 188 [.agg (jd p)] (.c (.val (.bool (jch p)))):=by
 refine pf_ jfO ?_;unfold jcG;cases h1:p.aNI==0<;>cases h2:p.aNN==0<;>cases h3:p.aNM==0<;>cases h4:p.aNA==0
 all_goals
  simp only [go_sem,jd,h1,h2,h3,h4];intros;simp [jch,h1,h2,h3,h4]
def edB (e:Ed):Bool:=zM e.src&&zM e.dst
def jh5 (p:Pl):Bool:=zM p.aNI&&zM p.aNN&&zM p.aNM&&zM p.aNA&&decide (p.aNF.length<=31)&&p.aNF.all edB
theorem juj {α:Type} {f:α->Bool} {l:List α} {k:Nat} {x:α} (h:l[k]?=some x) (ht:(l.take k).all f=true) (hx:f x=true):(l.take (k+1)).all f=true:=by
 rw [aOA,h];simp only [List.all_append,ht,Option.toList_some,List.all_cons,hx,List.all_nil,Bool.and_self]
theorem jzr {α:Type} {f:α->Bool} {l:List α} {k:Nat} {x:α} (h:l[k]?=some x) (hx:f x=false):l.all f=false:=by
 rw [List.all_eq_false];exact ⟨x,aNQ h,by simp [hx]⟩
theorem jxx (p:Pl) (hb:p.aNF.length<=4000000):jW Tryz.prog 187 [.agg (jd p)] (.c (.val (.bool (jh5 p)))):=by
 refine pf_ jin ?_;unfold je1;simp only [go_sem,jd];intros;refine jm (qu p.aNI) λη=>?_
 cases h1:zM p.aNI
 ·simp only [go_sem]
  simp [jh5,h1]
 simp only [go_sem];refine jm (qu p.aNN) λη=>?_
 cases h2:zM p.aNN
 ·simp only [go_sem]
  simp [jh5,h1,h2]
 simp only [go_sem];refine jm (qu p.aNM) λη=>?_
 cases h3:zM p.aNM
 ·simp only [go_sem]
  simp [jh5,h1,h2,h3]
 simp only [go_sem];refine jm (qu p.aNA) λη=>?_
 cases h4:zM p.aNA
 ·simp only [go_sem]
  simp [jh5,h1,h2,h3,h4]
 by_cases h5:p.aNF.length<=31
 ·have mH:¬(31:Int)<p.aNF.length:=by omega
  simp only [go_sem,mH];refine qT (λs=>∃(k b:Nat) (ty:Nat),k<=p.aNF.length/\(p.aNF.take k).all edB=true/\s.t 3=.c (.v (.int .i64 k))/\s.t 1=.c (.bp 100 0 b)/\s.o 100=.box b ty [.a (.v (.int .i64 p.aNI)),.a (.v (.int .i64 p.aNN)),.a (.v (.int .i64 p.aNM)),.a (.v (.int .i64 p.aNA)),.a (.ro (js p.aNF))]) (λs=>p.aNF.length-s.n 3) ?_ ?_
  ·exact ⟨0,_,_,aOL _,rfl,by simp only [go_sem]<;>rfl,by simp only [go_sem]<;>rfl,by simp only [go_sem]<;>rfl⟩
  ·rintro s ⟨k,b,ty,hk,ha,oE,y8,bS⟩
   by_cases aB:k<p.aNF.length
   ·have aA:(k:Int)<p.aNF.length:=by omega
    obtain ⟨x,hx⟩:=ja aB;have hw:=kx k;simp only [go_sem,oE,y8,bS,aB,aA,jD hx,jK];refine jm (qu x.src) λη=>?_
    cases h6:zM x.src
    ·simp only [go_sem]
     have:=jzr (f:=edB) hx (by simp [edB,h6])
     simp [jh5,this]
    simp only [go_sem,oE,y8,bS,aB,jD hx,jK];refine jm (qu x.dst) λη=>?_
    cases h7:zM x.dst
    ·simp only [go_sem]
     have:=jzr (f:=edB) hx (by simp [edB,h6,h7])
     simp [jh5,this]
    simp only [go_sem,oE,y8,bS,hw];refine ⟨⟨k+1,b,ty,?_⟩,?_⟩
    ·and_intros<;>first|rfl|omega|exact juj hx ha (by simp [edB,h6,h7])
    ·rw [jbr (k:=.i64) (n:=((k+1:Nat):Int)) (by simp only [go_sem]),jbr oE];omega
   ·have aA:¬(k:Int)<p.aNF.length:=by omega
    rw [aNU (by omega)] at ha
    simp only [go_sem,oE,y8,bS,aA];simp [jh5,h1,h2,h3,h4,h5,ha]
 ·have mH:(31:Int)<p.aNF.length:=by omega
  simp only [go_sem,mH];simp [jh5,h5]
def kf (d:Dd):Bool:=
 if d.aNK=1 then zM d.run&&d.aNH==0&&d.tri==0&&d.aNG==0&&d.aNJ==0&&jh5 d.aNB
 else if d.aNK=2 then d.run==0&&d.aNH==0&&d.tri==0&&zM d.aNG&&zM d.aNJ&&jch d.aNB
 else if d.aNK=3\/d.aNK=4 then zM d.run&&zM d.aNH&&zM d.tri&&d.aNG==0&&d.aNJ==0&&jch d.aNB
 else if d.aNK=5\/d.aNK=8 then d.run==0&&d.aNH==0&&d.tri==0&&d.aNG==0&&d.aNJ==0&&jch d.aNB
 else if d.aNK=6\/d.aNK=7 then zM d.run&&d.aNH==0&&d.tri==0&&d.aNG==0&&d.aNJ==0&&jch d.aNB
 else false
theorem jn8 (d:Dd) (hb:jbq d<=2000000):jW Tryz.prog 147 [.agg (jR d)] (.c (.val (.bool (kf d)))):=by
 refine pf_ jjQ ?_;unfold jhq;obtain ⟨aNK,run,aNB,aNH,tri,aNG,aNJ⟩:=d;have hp:aNB.aNF.length<=4000000:=by simp only [jbq,jc4] at hb;omega
 by_cases hk:1<=aNK/\aNK<=8
 ·have:aNK=1\/aNK=2\/aNK=3\/aNK=4\/aNK=5\/aNK=6\/aNK=7\/aNK=8:=by omega
  simp only [go_sem,jR,jd];intros;refine jm (jI aNK 1 8) λη=>?_
  rcases this with rfl|rfl|rfl|rfl|rfl|rfl|rfl|rfl
  ·simp only [go_sem]
   refine jm (qu run) λη=>?_
   cases g0:zM run
   ·simp only [go_sem]
    simp [kf,g0]
   simp only [go_sem];by_cases e1:aNH=0;rotate_left
   ·have g1:(aNH !=0)=true:=by simpa using e1
    simp only [go_sem,g1];simp [kf,e1,g0]
   subst e1;simp only [go_sem];by_cases e2:tri=0;rotate_left
   ·have g2:(tri !=0)=true:=by simpa using e2
    simp only [go_sem,g2];simp [kf,e2,g0]
   subst e2;simp only [go_sem];by_cases e3:aNG=0;rotate_left
   ·have g3:(aNG !=0)=true:=by simpa using e3
    simp only [go_sem,g3];simp [kf,e3,g0]
   subst e3;simp only [go_sem];by_cases e4:aNJ=0;rotate_left
   ·have g4:(aNJ !=0)=true:=by simpa using e4
    simp only [go_sem,g4];simp [kf,e4,g0]
   subst e4;simp only [go_sem];refine jm (jxx aNB hp) λη=>?_
   simp only [go_sem];simp [kf,g0]
  ·simp only [go_sem]
   by_cases e0:run=0;rotate_left
   ·have g0:(run !=0)=true:=by simpa using e0
    simp only [go_sem,g0];simp [kf,e0]
   subst e0;simp only [go_sem];by_cases e1:aNH=0;rotate_left
   ·have g1:(aNH !=0)=true:=by simpa using e1
    simp only [go_sem,g1];simp [kf,e1]
   subst e1;simp only [go_sem];by_cases e2:tri=0;rotate_left
   ·have g2:(tri !=0)=true:=by simpa using e2
    simp only [go_sem,g2];simp [kf,e2]
   subst e2;simp only [go_sem];refine jm (qu aNG) λη=>?_
   cases g3:zM aNG
   ·simp only [go_sem]
    simp [kf,g3]
   simp only [go_sem];refine jm (qu aNJ) λη=>?_
   cases g4:zM aNJ
   ·simp only [go_sem]
    simp [kf,g3,g4]
   simp only [go_sem];refine jm (vV aNB) λη=>?_
   simp only [go_sem];simp [kf,g3,g4]
  ·simp only [go_sem]
   refine jm (qu run) λη=>?_
   cases g0:zM run
   ·simp only [go_sem]
    simp [kf,g0]
   simp only [go_sem];refine jm (qu aNH) λη=>?_
   cases g1:zM aNH
   ·simp only [go_sem]
    simp [kf,g0,g1]
   simp only [go_sem];refine jm (qu tri) λη=>?_
   cases g2:zM tri
   ·simp only [go_sem]
    simp [kf,g0,g1,g2]
   simp only [go_sem];by_cases e3:aNG=0;rotate_left
   ·have g3:(aNG !=0)=true:=by simpa using e3
    simp only [go_sem,g3];simp [kf,e3,g0,g1,g2]
   subst e3;simp only [go_sem];by_cases e4:aNJ=0;rotate_left
   ·have g4:(aNJ !=0)=true:=by simpa using e4
    simp only [go_sem,g4];simp [kf,e4,g0,g1,g2]
   subst e4;simp only [go_sem];refine jm (vV aNB) λη=>?_
   simp only [go_sem];simp [kf,g0,g1,g2]
  ·simp only [go_sem]
   refine jm (qu run) λη=>?_
   cases g0:zM run
   ·simp only [go_sem]
    simp [kf,g0]
   simp only [go_sem];refine jm (qu aNH) λη=>?_
   cases g1:zM aNH
   ·simp only [go_sem]
    simp [kf,g0,g1]
   simp only [go_sem];refine jm (qu tri) λη=>?_
   cases g2:zM tri
   ·simp only [go_sem]
    simp [kf,g0,g1,g2]
   simp only [go_sem];by_cases e3:aNG=0;rotate_left
   ·have g3:(aNG !=0)=true:=by simpa using e3
    simp only [go_sem,g3];simp [kf,e3,g0,g1,g2]
   subst e3;simp only [go_sem];by_cases e4:aNJ=0;rotate_left
   ·have g4:(aNJ !=0)=true:=by simpa using e4
    simp only [go_sem,g4];simp [kf,e4,g0,g1,g2]
   subst e4;simp only [go_sem];refine jm (vV aNB) λη=>?_
   simp only [go_sem];simp [kf,g0,g1,g2]
  ·simp only [go_sem]
   by_cases e0:run=0;rotate_left
   ·have g0:(run !=0)=true:=by simpa using e0
    simp only [go_sem,g0];simp [kf,e0]
   subst e0;simp only [go_sem];by_cases e1:aNH=0;rotate_left
   ·have g1:(aNH !=0)=true:=by simpa using e1
    simp only [go_sem,g1];simp [kf,e1]
   subst e1;simp only [go_sem];by_cases e2:tri=0;rotate_left
   ·have g2:(tri !=0)=true:=by simpa using e2
    simp only [go_sem,g2];simp [kf,e2]
   subst e2;simp only [go_sem];by_cases e3:aNG=0;rotate_left
   ·have g3:(aNG !=0)=true:=by simpa using e3
    simp only [go_sem,g3];simp [kf,e3]
   subst e3;simp only [go_sem];by_cases e4:aNJ=0;rotate_left
   ·have g4:(aNJ !=0)=true:=by simpa using e4
    simp only [go_sem,g4];simp [kf,e4]
   subst e4;simp only [go_sem];refine jm (vV aNB) λη=>?_
   simp only [go_sem];simp [kf]
  ·simp only [go_sem]
   refine jm (qu run) λη=>?_
   cases g0:zM run
   ·simp only [go_sem]
    simp [kf,g0]
   simp only [go_sem];by_cases e1:aNH=0;rotate_left
   ·have g1:(aNH !=0)=true:=by simpa using e1
    simp only [go_sem,g1];simp [kf,e1,g0]
   subst e1;simp only [go_sem];by_cases e2:tri=0;rotate_left
   ·have g2:(tri !=0)=true:=by simpa using e2
    simp only [go_sem,g2];simp [kf,e2,g0]
   subst e2;simp only [go_sem];by_cases e3:aNG=0;rotate_left
   ·have g3:(aNG !=0)=true:=by simpa using e3
    simp only [go_sem,g3];simp [kf,e3,g0]
   subst e3;simp only [go_sem];by_cases e4:aNJ=0;rotate_left
   ·have g4:(aNJ !=0)=true:=by simpa using e4
    simp only [go_sem,g4];simp [kf,e4,g0]
   subst e4;simp only [go_sem];refine jm (vV aNB) λη=>?_
   simp only [go_sem];simp [kf,g0]
  ·simp only [go_sem]
   refine jm (qu run) λη=>?_
   cases g0:zM run
   ·simp only [go_sem]
    simp [kf,g0]
   simp only [go_sem];by_cases e1:aNH=0;rotate_left
   ·have g1:(aNH !=0)=true:=by simpa using e1
    simp only [go_sem,g1];simp [kf,e1,g0]
   subst e1;simp only [go_sem];by_cases e2:tri=0;rotate_left
   ·have g2:(tri !=0)=true:=by simpa using e2
    simp only [go_sem,g2];simp [kf,e2,g0]
   subst e2;simp only [go_sem];by_cases e3:aNG=0;rotate_left
   ·have g3:(aNG !=0)=true:=by simpa using e3
    simp only [go_sem,g3];simp [kf,e3,g0]
   subst e3;simp only [go_sem];by_cases e4:aNJ=0;rotate_left
   ·have g4:(aNJ !=0)=true:=by simpa using e4
    simp only [go_sem,g4];simp [kf,e4,g0]
   subst e4;simp only [go_sem];refine jm (vV aNB) λη=>?_
   simp only [go_sem];simp [kf,g0]
  ·simp only [go_sem]
   by_cases e0:run=0;rotate_left
   ·have g0:(run !=0)=true:=by simpa using e0
    simp only [go_sem,g0];simp [kf,e0]
   subst e0;simp only [go_sem];by_cases e1:aNH=0;rotate_left
   ·have g1:(aNH !=0)=true:=by simpa using e1
    simp only [go_sem,g1];simp [kf,e1]
   subst e1;simp only [go_sem];by_cases e2:tri=0;rotate_left
   ·have g2:(tri !=0)=true:=by simpa using e2
    simp only [go_sem,g2];simp [kf,e2]
   subst e2;simp only [go_sem];by_cases e3:aNG=0;rotate_left
   ·have g3:(aNG !=0)=true:=by simpa using e3
    simp only [go_sem,g3];simp [kf,e3]
   subst e3;simp only [go_sem];by_cases e4:aNJ=0;rotate_left
   ·have g4:(aNJ !=0)=true:=by simpa using e4
    simp only [go_sem,g4];simp [kf,e4]
   subst e4;simp only [go_sem];refine jm (vV aNB) λη=>?_
   simp only [go_sem];simp [kf]
 ·simp only [go_sem,jR,jd]
  intros;refine jm (jI aNK 1 8) λη=>?_
  simp only [go_sem,hk];have h1:aNK≠1:=by omega
  have h2:aNK≠2:=by omega
  have h3:aNK≠3:=by omega
  have h4:aNK≠4:=by omega
  have h5:aNK≠5:=by omega
  have h6:aNK≠6:=by omega
  have h7:aNK≠7:=by omega
  have h8:aNK≠8:=by omega
  simp [kf,h1,h2,h3,h4,h5,h6,h7,h8]
theorem zb (x y:Dd):jW Tryz.prog 92 [.agg (jR x),.agg (jR y)] (.c (.val (.bool (decide (x=y))))):=jrH ⟨_,Tryz.func92,by kernel_rfl,by kernel_rfl⟩ λw a b ⟨S,ha⟩ ⟨S2,hb⟩=>jsh x y a b S S2 w false false ha hb
def ja7 (d:Dd):List Int:=
 if d.aNK=1 then [d.run,d.aNB.aNI,d.aNB.aNN,d.aNB.aNM,d.aNB.aNA,d.aNB.aNF.length]++d.aNB.aNF.flatMap λe=>[e.src,e.dst]
 else if d.aNK=2 then [d.aNG,d.aNJ]
 else if d.aNK=3\/d.aNK=4 then [d.run,d.aNH,d.tri]
 else if d.aNK=6\/d.aNK=7 then [d.run]
 else []
theorem jCe (l:List Ed):(l.flatMap λe=>[e.src,e.dst]).length=2*l.length:=by
 induction l with
 |nil=>rfl
 |cons x l ih=>simp only [aOM,aNR,ih,aOD,aOR];omega
theorem jom (d:Dd) (hb:jbq d<=2000000):jW Tryz.prog 94 [.agg (jR d)] (.c (jb (ja7 d))):=by
 refine pf_ jdF ?_;unfold jbm;obtain ⟨aNK,run,aNB,aNH,tri,aNG,aNJ⟩:=d;have hp:aNB.aNF.length<=4000000:=by simp only [jbq,jc4] at hb;omega
 by_cases k1:aNK=1
 ·subst k1
  simp only [go_sem,jR,jd];intro b0 fB
  refine qT (λs=>∃(k g:Nat) (η:jf),k<=aNB.aNF.length/\(g=2800\/g=4300)/\s.t 31=.c (.ro (js aNB.aNF))/\s.t 32=.c (.v (.int .i64 aNB.aNF.length))/\s.t 33=.c (.v (.int .i64 k))/\s.t 3=.c (.h g 0 [] (η []))/\
   s.o g=.loose (jb ([run,aNB.aNI,aNB.aNN,aNB.aNM,aNB.aNA,(aNB.aNF.length:Int)]++(aNB.aNF.take k).flatMap λe=>[e.src,e.dst])) η) (λs=>aNB.aNF.length-s.n 33) ?_ ?_
  ·exact ⟨0,2800,fB,aOL _,.inl rfl,by simp only [go_sem]<;>rfl,by simp only [go_sem]<;>rfl,by simp only [go_sem]<;>rfl,by simp only [go_sem]<;>rfl,by simp only [go_sem]<;>rfl⟩
  ·rintro s ⟨k,g,η,hk,hg,h31,h32,h33,h3,bS⟩
   by_cases aB:k<aNB.aNF.length
   ·have aA:(k:Int)<aNB.aNF.length:=by omega
    obtain ⟨x,hx⟩:=ja aB;have hw:=kx k;generalize hl:[run,aNB.aNI,aNB.aNN,aNB.aNM,aNB.aNA,(aNB.aNF.length:Int)]++(aNB.aNF.take k).flatMap (λe=>[e.src,e.dst])=l at bS
    have eQ:l.length=6+2*k:=by rw [<-hl,aNR,jCe,aNV,aPD hk];rfl
    have cW:l.length+2<=maxLen:=zy;have bI:(l.length+2)*8<=140737488355328:=by omega
    have fY:l++[x.src,x.dst]=[run,aNB.aNI,aNB.aNN,aNB.aNM,aNB.aNA,(aNB.aNF.length:Int)]++(aNB.aNF.take (k+1)).flatMap (λe=>[e.src,e.dst]):=by
     rw [<-hl,aOA,hx];simp
    rcases hg with rfl|rfl
    all_goals
     simp only [go_sem,h31,h32,h33,h3,bS,aB,aA,jD hx,jK,cW,bI,hw,jm9];intro b1 eH aS;refine ⟨⟨k+1,4300,aS,?_⟩,?_⟩
     ·and_intros<;>first|rfl|omega|exact .inr rfl|(rw [fY];rfl)
     ·rw [jbr (k:=.i64) (n:=((k+1:Nat):Int)) (by simp only [go_sem]),jbr h33];omega
   ·have aA:¬(k:Int)<aNB.aNF.length:=by omega
    rw [aNU (by omega)] at bS
    rcases hg with rfl|rfl
    ·simp only [go_sem,h32,h33,h3,bS,aA]
     rfl
    ·simp only [go_sem,h32,h33,h3,bS,aA]
     rfl
 ·have g1:(aNK==1)=false:=by simpa using k1
  by_cases k2:aNK=2
  ·subst k2
   simp only [go_sem,jR,jd];intros;rfl
  ·have g2:(aNK==2)=false:=by simpa using k2
   by_cases k3:aNK=3
   ·subst k3
    simp only [go_sem,jR,jd];intros;rfl
   ·have g3:(aNK==3)=false:=by simpa using k3
    by_cases k4:aNK=4
    ·subst k4
     simp only [go_sem,jR,jd];intros;rfl
    ·have g4:(aNK==4)=false:=by simpa using k4
     by_cases k6:aNK=6
     ·subst k6
      simp only [go_sem,jR,jd];intros;rfl
     ·have g6:(aNK==6)=false:=by simpa using k6
      by_cases k7:aNK=7
      ·subst k7
       simp only [go_sem,jR,jd];intros;rfl
      ·have g7:(aNK==7)=false:=by simpa using k7
       have e:ja7 ⟨aNK,run,aNB,aNH,tri,aNG,aNJ⟩=[]:=by simp [ja7,k1,k2,k3,k4,k6,k7]
       simp only [go_sem,jR,jd,g1,g2,g3,g4,g6,g7,e]
def zeroPl:Pl:=⟨0,0,0,0,[]⟩
def zg (d:Dd):Dd:=
 if d.aNK=1 then ⟨1,d.run,d.aNB,0,0,0,0⟩
 else if d.aNK=2 then ⟨2,0,zeroPl,0,0,d.aNG,d.aNJ⟩
 else if d.aNK=3\/d.aNK=4 then ⟨d.aNK,d.run,zeroPl,d.aNH,d.tri,0,0⟩
 else if d.aNK=6\/d.aNK=7 then ⟨d.aNK,d.run,zeroPl,0,0,0,0⟩
 else ⟨d.aNK,0,zeroPl,0,0,0,0⟩
def okI (d:Dd):Bool:=decide (1<=d.aNK/\d.aNK<=8)&&decide (d.aNB.aNF.length<=31)&&decide (d=zg d)&&(ja7 d).all zM
def jy5:C:=match va with
 |.seq _ (.seq _ c)=>c
 |c=>c
theorem jpb (d:Dd) (hb:jbq d<=2000000) {s:St} {b ty:Nat} (h1:s.t 1=.c (.bp 100 0 b)) (ho:s.o 100=.box b ty ((jR d).map λx=>.a x.toRo)):wpC Tryz.prog 0 jy5 (jAj [.t 2] (.c (.val (.bool ((ja7 d).all zM))))) s:=by
 unfold jy5 va
 have hn:(ja7 d).length<=20000000:=by
  have hp:d.aNB.aNF.length<=2000000:=hb;unfold ja7;split
  ·rw [aNR,jCe];simp;omega
  ·split
   ·simp
   ·split
    ·simp
    ·split<;>simp
 simp only [go_sem,h1,ho,jR,jd];refine jm (jom d hb) λη=>?_
 generalize ja7 d=l at*;simp only [go_sem];refine qT (λs=>∃(k:Nat) (η:jf),k<=l.length/\(l.take k).all zM=true/\s.t 24=.c (.h 2400 0 [] (η []))/\s.t 25=.c (.v (.int .i64 l.length))/\s.t 26=.c (.v (.int .i64 k))/\s.o 2400=.loose (jb l) η) (λs=>l.length-s.n 26) ?_ ?_
 ·exact ⟨0,η 0,aOL _,rfl,by simp only [go_sem]<;>rfl,by simp only [go_sem]<;>rfl,by simp only [go_sem]<;>rfl,by simp only [go_sem]<;>rfl⟩
 ·rintro s ⟨k,u9,hk,ha,h24,h25,h26,bS⟩
  by_cases aB:k<l.length
  ·have aA:(k:Int)<l.length:=by omega
   obtain ⟨x,hx⟩:=ja aB;have hw:=kx k;simp only [go_sem,h24,h25,h26,bS,aB,aA,jq hx,jp aB];refine jm (jw x 0 1000000000) λη=>?_
   have hd:decide (0<=x/\x<=1000000000)=zM x:=rfl;cases h6:zM x
   ·simp only [go_sem,hd,h6]
    simp [jzr (f:=zM) hx h6]
   simp only [go_sem,h24,h25,h26,bS,hd,h6,hw];refine ⟨⟨k+1,u9,?_⟩,?_⟩
   ·and_intros<;>first|rfl|omega|exact juj hx ha h6
   ·rw [jbr (k:=.i64) (n:=((k+1:Nat):Int)) (by simp only [go_sem]),jbr h26];omega
  ·have aA:¬(k:Int)<l.length:=by omega
   rw [aNU (by omega)] at ha
   simp only [go_sem,h25,h26,aA];simp [ha]
def c_dA:C:=match va with
 |.seq c _=>c
 |c=>c
def c_dB:C:=match va with
 |.seq _ (.seq c _)=>c
 |c=>c
set_option maxRecDepth 1000000 in
theorem jml (d:Dd) (hb:jbq d<=2000000):jW Tryz.prog 30 [.agg (jR d)] (.c (.val (.bool (okI d)))):=by
 refine pf_ jj8 ?_;have cK:=λ(s:St) (b ty:Nat)=>jpb d hb (s:=s) (b:=b) (ty:=ty)
 rw [show va=.seq c_dA (.seq c_dB jy5) from rfl]
 unfold c_dA c_dB va;obtain ⟨aNK,run,aNB,aNH,tri,aNG,aNJ⟩:=d;by_cases hk:1<=aNK/\aNK<=8
 ·by_cases hl:aNB.aNF.length<=31
  ·have oS:¬(31:Int)<aNB.aNF.length:=by omega
   simp only [go_sem,jR,jd];intro b;refine jm (jw aNK 1 8) λη=>?_
   simp only [go_sem,hk,oS];have:aNK=1\/aNK=2\/aNK=3\/aNK=4\/aNK=5\/aNK=6\/aNK=7\/aNK=8:=by omega
   rcases this with rfl|rfl|rfl|rfl|rfl|rfl|rfl|rfl
   ·refine kZ (qo (β:=7000000) Tryz.func93 kD (by simp) ?_)
    unfold qd;simp only [go_sem];intros;have hu:zg ⟨1,run,aNB,aNH,tri,aNG,aNJ⟩=⟨1,run,aNB,0,0,0,0⟩:=by simp [zg]
    refine jm (zb ⟨1,run,aNB,aNH,tri,aNG,aNJ⟩ ⟨1,run,aNB,0,0,0,0⟩) λaS=>?_
    simp only [<-hu];cases hs:decide ((⟨1,run,aNB,aNH,tri,aNG,aNJ⟩:Dd)=zg ⟨1,run,aNB,aNH,tri,aNG,aNJ⟩)
    ·simp only [go_sem]
     simp [okI,hs]
    ·have e:okI ⟨1,run,aNB,aNH,tri,aNG,aNJ⟩=(ja7 ⟨1,run,aNB,aNH,tri,aNG,aNJ⟩).all zM:=by simp only [okI,hs];simp [hl]
     rw [e];simp only [go_sem];exact cK _ b _ (by simp only [go_sem]) (by simp only [go_sem,jR,jd]<;>rfl)
   ·refine kZ (qo (β:=7000000) Tryz.func93 kD (by simp) ?_)
    unfold qd;simp only [go_sem];intros;have hu:zg ⟨2,run,aNB,aNH,tri,aNG,aNJ⟩=⟨2,0,⟨0,0,0,0,[]⟩,0,0,aNG,aNJ⟩:=by simp [zg,zeroPl]
    refine jm (zb ⟨2,run,aNB,aNH,tri,aNG,aNJ⟩ ⟨2,0,⟨0,0,0,0,[]⟩,0,0,aNG,aNJ⟩) λaS=>?_
    simp only [<-hu];cases hs:decide ((⟨2,run,aNB,aNH,tri,aNG,aNJ⟩:Dd)=zg ⟨2,run,aNB,aNH,tri,aNG,aNJ⟩)
    ·simp only [go_sem]
     simp [okI,hs]
    ·have e:okI ⟨2,run,aNB,aNH,tri,aNG,aNJ⟩=(ja7 ⟨2,run,aNB,aNH,tri,aNG,aNJ⟩).all zM:=by simp only [okI,hs];simp [hl]
     rw [e];simp only [go_sem];exact cK _ b _ (by simp only [go_sem]) (by simp only [go_sem,jR,jd]<;>rfl)
   ·refine kZ (qo (β:=7000000) Tryz.func93 kD (by simp) ?_)
    unfold qd;simp only [go_sem];intros;have hu:zg ⟨3,run,aNB,aNH,tri,aNG,aNJ⟩=⟨3,run,⟨0,0,0,0,[]⟩,aNH,tri,0,0⟩:=by simp [zg,zeroPl]
    refine jm (zb ⟨3,run,aNB,aNH,tri,aNG,aNJ⟩ ⟨3,run,⟨0,0,0,0,[]⟩,aNH,tri,0,0⟩) λaS=>?_
    simp only [<-hu];cases hs:decide ((⟨3,run,aNB,aNH,tri,aNG,aNJ⟩:Dd)=zg ⟨3,run,aNB,aNH,tri,aNG,aNJ⟩)
    ·simp only [go_sem]
     simp [okI,hs]
    ·have e:okI ⟨3,run,aNB,aNH,tri,aNG,aNJ⟩=(ja7 ⟨3,run,aNB,aNH,tri,aNG,aNJ⟩).all zM:=by simp only [okI,hs];simp [hl]
     rw [e];simp only [go_sem];exact cK _ b _ (by simp only [go_sem]) (by simp only [go_sem,jR,jd]<;>rfl)
   ·refine kZ (qo (β:=7000000) Tryz.func93 kD (by simp) ?_)
    unfold qd;simp only [go_sem];intros;have hu:zg ⟨4,run,aNB,aNH,tri,aNG,aNJ⟩=⟨4,run,⟨0,0,0,0,[]⟩,aNH,tri,0,0⟩:=by simp [zg,zeroPl]
    refine jm (zb ⟨4,run,aNB,aNH,tri,aNG,aNJ⟩ ⟨4,run,⟨0,0,0,0,[]⟩,aNH,tri,0,0⟩) λaS=>?_
    simp only [<-hu];cases hs:decide ((⟨4,run,aNB,aNH,tri,aNG,aNJ⟩:Dd)=zg ⟨4,run,aNB,aNH,tri,aNG,aNJ⟩)
    ·simp only [go_sem]
     simp [okI,hs]
    ·have e:okI ⟨4,run,aNB,aNH,tri,aNG,aNJ⟩=(ja7 ⟨4,run,aNB,aNH,tri,aNG,aNJ⟩).all zM:=by simp only [okI,hs];simp [hl]
     rw [e];simp only [go_sem];exact cK _ b _ (by simp only [go_sem]) (by simp only [go_sem,jR,jd]<;>rfl)
   ·refine kZ (qo (β:=7000000) Tryz.func93 kD (by simp) ?_)
    unfold qd;simp only [go_sem];intros;have hu:zg ⟨5,run,aNB,aNH,tri,aNG,aNJ⟩=⟨5,0,⟨0,0,0,0,[]⟩,0,0,0,0⟩:=by simp [zg,zeroPl]
    refine jm (zb ⟨5,run,aNB,aNH,tri,aNG,aNJ⟩ ⟨5,0,⟨0,0,0,0,[]⟩,0,0,0,0⟩) λaS=>?_
    simp only [<-hu];cases hs:decide ((⟨5,run,aNB,aNH,tri,aNG,aNJ⟩:Dd)=zg ⟨5,run,aNB,aNH,tri,aNG,aNJ⟩)
    ·simp only [go_sem]
     simp [okI,hs]
    ·have e:okI ⟨5,run,aNB,aNH,tri,aNG,aNJ⟩=(ja7 ⟨5,run,aNB,aNH,tri,aNG,aNJ⟩).all zM:=by simp only [okI,hs];simp [hl]
     rw [e];simp only [go_sem];exact cK _ b _ (by simp only [go_sem]) (by simp only [go_sem,jR,jd]<;>rfl)
   ·refine kZ (qo (β:=7000000) Tryz.func93 kD (by simp) ?_)
    unfold qd;simp only [go_sem];intros;have hu:zg ⟨6,run,aNB,aNH,tri,aNG,aNJ⟩=⟨6,run,⟨0,0,0,0,[]⟩,0,0,0,0⟩:=by simp [zg,zeroPl]
    refine jm (zb ⟨6,run,aNB,aNH,tri,aNG,aNJ⟩ ⟨6,run,⟨0,0,0,0,[]⟩,0,0,0,0⟩) λaS=>?_
    simp only [<-hu];cases hs:decide ((⟨6,run,aNB,aNH,tri,aNG,aNJ⟩:Dd)=zg ⟨6,run,aNB,aNH,tri,aNG,aNJ⟩)
    ·simp only [go_sem]
     simp [okI,hs]
    ·have e:okI ⟨6,run,aNB,aNH,tri,aNG,aNJ⟩=(ja7 ⟨6,run,aNB,aNH,tri,aNG,aNJ⟩).all zM:=by simp only [okI,hs];simp [hl]
     rw [e];simp only [go_sem];exact cK _ b _ (by simp only [go_sem]) (by simp only [go_sem,jR,jd]<;>rfl)
   ·refine kZ (qo (β:=7000000) Tryz.func93 kD (by simp) ?_)
    unfold qd;simp only [go_sem];intros;have hu:zg ⟨7,run,aNB,aNH,tri,aNG,aNJ⟩=⟨7,run,⟨0,0,0,0,[]⟩,0,0,0,0⟩:=by simp [zg,zeroPl]
    refine jm (zb ⟨7,run,aNB,aNH,tri,aNG,aNJ⟩ ⟨7,run,⟨0,0,0,0,[]⟩,0,0,0,0⟩) λaS=>?_
    simp only [<-hu];cases hs:decide ((⟨7,run,aNB,aNH,tri,aNG,aNJ⟩:Dd)=zg ⟨7,run,aNB,aNH,tri,aNG,aNJ⟩)
    ·simp only [go_sem]
     simp [okI,hs]
    ·have e:okI ⟨7,run,aNB,aNH,tri,aNG,aNJ⟩=(ja7 ⟨7,run,aNB,aNH,tri,aNG,aNJ⟩).all zM:=by simp only [okI,hs];simp [hl]
     rw [e];simp only [go_sem];exact cK _ b _ (by simp only [go_sem]) (by simp only [go_sem,jR,jd]<;>rfl)
   ·refine kZ (qo (β:=7000000) Tryz.func93 kD (by simp) ?_)
    unfold qd;simp only [go_sem];intros;have hu:zg ⟨8,run,aNB,aNH,tri,aNG,aNJ⟩=⟨8,0,⟨0,0,0,0,[]⟩,0,0,0,0⟩:=by simp [zg,zeroPl]
    refine jm (zb ⟨8,run,aNB,aNH,tri,aNG,aNJ⟩ ⟨8,0,⟨0,0,0,0,[]⟩,0,0,0,0⟩) λaS=>?_
    simp only [<-hu];cases hs:decide ((⟨8,run,aNB,aNH,tri,aNG,aNJ⟩:Dd)=zg ⟨8,run,aNB,aNH,tri,aNG,aNJ⟩)
    ·simp only [go_sem]
     simp [okI,hs]
    ·have e:okI ⟨8,run,aNB,aNH,tri,aNG,aNJ⟩=(ja7 ⟨8,run,aNB,aNH,tri,aNG,aNJ⟩).all zM:=by simp only [okI,hs];simp [hl]
     rw [e];simp only [go_sem];exact cK _ b _ (by simp only [go_sem]) (by simp only [go_sem,jR,jd]<;>rfl)
  ·have oS:(31:Int)<aNB.aNF.length:=by omega
   simp only [go_sem,jR,jd];intro b;refine jm (jw aNK 1 8) λη=>?_
   simp only [go_sem,hk,oS];simp [okI,hl]
 ·simp only [go_sem,jR,jd]
  intro b;refine jm (jw aNK 1 8) λη=>?_
  simp only [go_sem,hk];have:decide (1<=aNK/\aNK<=8)=false:=decide_eq_false hk;simp only [okI,this,Bool.false_and]
theorem jem (p:Pl):jch p=decide (p=zeroPl):=by
 obtain ⟨a,b,c,d,e⟩:=p;rw [Bool.eq_iff_iff];simp only [jch,zeroPl,aOF,aPV,aOJ,Pl.mk.injEq];constructor
 ·rintro ⟨⟨⟨⟨h1,h2⟩,h3⟩,h4⟩,h5⟩
  exact ⟨h1,h2,h3,h4,aON (by omega)⟩
 ·rintro ⟨h1,h2,h3,h4,rfl⟩
  exact ⟨⟨⟨⟨h1,h2⟩,h3⟩,h4⟩,rfl⟩
theorem jHh (l:List Ed):(l.flatMap λe=>[e.src,e.dst]).all zM=l.all edB:=by
 induction l with
 |nil=>rfl
 |cons x l ih=>simp [aOM,ih,edB,Bool.and_assoc]
theorem jxF (d:Dd):okI d=kf d:=by
 have hz:zeroPl.aNF.length=0:=rfl;obtain ⟨aNK,run,aNB,aNH,tri,aNG,aNJ⟩:=d;by_cases h1:aNK=1
 ·subst h1
  have e:(ja7 ⟨1,run,aNB,aNH,tri,aNG,aNJ⟩).all zM=(zM run&&zM aNB.aNI&&zM aNB.aNN&&zM aNB.aNM&&zM aNB.aNA&&zM aNB.aNF.length&&aNB.aNF.all edB):=by
   simp only [ja7,if_true,List.all_append,jHh];simp [Bool.and_assoc]
  have e2:decide (aNB.aNF.length<=31)=true->zM (aNB.aNF.length:Int)=true:=by
   intro h;have h:=aOY h;exact decide_eq_true (by omega)
  rw [okI,e,kf];simp only [zg,jh5,if_true,Dd.mk.injEq,true_and];rw [Bool.eq_iff_iff];simp only [aOF,aOJ,aPV] at e2⊢;constructor
  ·rintro ⟨⟨⟨_,h2⟩,h3⟩,h4⟩
   grind
  ·intro h
   have h5:aNB.aNF.length<=31:=by grind
   have:=e2 h5
   grind
 ·by_cases h2:aNK=2
  ·subst h2
   rw [Bool.eq_iff_iff];simp only [okI,kf,zg,ja7,jem,aOF,aOJ,aPV,Dd.mk.injEq,List.all_cons,List.all_nil,Int.reduceEq,if_false,if_true,true_and,and_true];constructor
   ·rintro h;grind
   ·rintro ⟨⟨⟨⟨⟨a,b⟩,c⟩,d⟩,e⟩,f⟩
    subst f;exact ⟨⟨⟨by omega,by rw [hz];omega⟩,a,rfl,b,c⟩,d,e⟩
  ·by_cases h34:aNK=3\/aNK=4
   ·rw [Bool.eq_iff_iff]
    simp only [okI,kf,zg,ja7,jem,h1,h2,h34,aOF,aOJ,aPV,Dd.mk.injEq,List.all_cons,List.all_nil,if_false,if_true,true_and,and_true];constructor
    ·rintro h;grind
    ·rintro ⟨⟨⟨⟨⟨a,b⟩,c⟩,d⟩,e⟩,f⟩
     subst f;exact ⟨⟨⟨by omega,by rw [hz];omega⟩,rfl,d,e⟩,a,b,c⟩
   ·by_cases h67:aNK=6\/aNK=7
    ·have h58:¬(aNK=5\/aNK=8):=by omega
     rw [Bool.eq_iff_iff];simp only [okI,kf,zg,ja7,jem,h1,h2,h34,h67,h58,aOF,aOJ,aPV,Dd.mk.injEq,List.all_cons,List.all_nil,if_false,if_true,true_and,and_true];constructor
     ·rintro h;grind
     ·rintro ⟨⟨⟨⟨⟨a,b⟩,c⟩,d⟩,e⟩,f⟩
      subst f;exact ⟨⟨⟨by omega,by rw [hz];omega⟩,rfl,b,c,d,e⟩,a⟩
    ·by_cases h58:aNK=5\/aNK=8
     ·rw [Bool.eq_iff_iff]
      simp only [okI,kf,zg,ja7,jem,h1,h2,h34,h67,h58,aOF,aOJ,aPV,Dd.mk.injEq,List.all_nil,if_false,if_true,true_and,and_true];constructor
      ·rintro h;grind
      ·rintro ⟨⟨⟨⟨⟨a,b⟩,c⟩,d⟩,e⟩,f⟩
       subst f;exact ⟨⟨by omega,by rw [hz];omega⟩,a,rfl,b,c,d,e⟩
     ·have hk:¬(1<=aNK/\aNK<=8):=by omega
      simp [okI,kf,h1,h2,h34,h67,h58,hk]
theorem jok (d:Dd) (hb:jbq d<=2000000):jW Tryz.prog 30 [.agg (jR d)] (.c (.val (.bool (kf d)))):=by
 rw [<-jxF];exact jml d hb
def jjo:C:=iS [iA 4 (.mov (.c (.slice none 0 0)))] (iS [iA 5 (.mov (.c (.slice none 0 0)))] (iS [aM 9 1,aM 6 9] (.seq (iS [aM 10 0,aG 11 10,aN 12 0] (.blk 0 (.loop (iS [aP 13 .lss 3 12 11] (.seq (iD 13 .skip (.exit 0)) (.seq (.blk 1 (iS [aI 14 12 10 12,aT 15 12 14,iA 8 wAU,wAL 8 15] (.seq (iS [aF 16 0 8,aL 17 16,aM 18 6,aP 19 .leq 3 17 18] (iD 19 (.exit 1) .skip)) (.seq (iS [aF 20 0 8,aL 21 20,aQ 22 .sub 3 21 1,aM 23 6,aP 24 .neq 3 22 23] (iD 24 (.exit 0) .skip)) (iS [aM 25 5,aT 26 12 8,iA 27 (iK 99 [26]),iA 28 (wA9 [(0,12,.t 27)]),iA 29 (.app 70 12 112 (.t 25) (.t 28)),aM 5 29] (.reg [aF 30 0 8,aL 31 30,aM 6 31])))))) (.reg [aQ 32 .add 3 12 1,aM 12 32]))))))) (iS [aM 33 5,aM 4 33] .ret))))
theorem jlI:fnC Tryz.prog Tryz.f38=some (jjo,[.t 4],34):=by kernel_rfl
def jdb:List Nt->Int->List Nt
 |[],_=>[]
 |n::l,last=>if n.seq<=last then jdb l last else if (IntKind.i64.wrap (n.seq-1) !=last)=true then [] else n::jdb l n.seq
theorem jyH {α:Type} {l:List α} {k:Nat} {x:α} (h:l[k]?=some x):l.drop k=x::l.drop (k+1):=by
 obtain ⟨aB,he⟩:=aNP.1 h;rw [aPG aB,he]
theorem jyI {α:Type} {l:List α} {k:Nat} (h:¬k<l.length):l.drop k=[]:=List.drop_eq_nil_of_le (by omega)
theorem jtq (l:List Nt) (x:Nt):D.sl 12 tNt (l.flatMap qL++qL x)=ql (l++[x]):=jvU l x
theorem jtr {l:List Nt} {k:Nat} {x:Nt} (h:l[k]?=some x) (ht:jcv l<=2000000):x.aNO.aNB.aNF.length<=4000000:=by
 have h1:=jzN (tot:=jpg) h;have h2:jpg x=x.aNO.aNB.aNF.length:=rfl;have h3:qh jpg l<=jcv l:=Nat.le_add_left _ _;omega
theorem jpY (l:List Nt) (seq:Int) (ht:jcv l<=2000000):jW Tryz.prog 38 [.c (ql l),.c (.val (.int .i64 seq))] (.c (ql (jdb l seq))):=by
 refine pf_ jlI ?_;unfold jjo;have hl:l.length<=2000000:=aPC (aQR _ _) ht;simp only [go_sem];refine qT (λs=>∃(k:Nat) (out:List Nt) (last:Int),k<=l.length/\out.length<=k/\out++jdb (l.drop k) last=jdb l seq/\s.t 10=.c (.ro (ql l))/\s.t 11=.c (.v (.int .i64 l.length))/\s.t 6=.c (.v (.int .i64 last))/\s.t 12=.c (.v (.int .i64 k))/\((out=[]/\s.t 5=.c (.v (.slice none 0 0)))\/∃η:jf,s.t 5=.c (.h 2900 0 [] (η []))/\s.o 2900=.loose (ql out) η)) (λs=>l.length-s.n 12) ?_ ?_
 ·exact ⟨0,[],seq,aOL _,aOC _,rfl,by simp only [go_sem],by simp only [go_sem],by simp only [go_sem],by simp only [go_sem]<;>rfl,.inl ⟨rfl,by simp only [go_sem]⟩⟩
 ·rintro s ⟨k,out,last,hk,ho,he,h0,gI,h1,h6,hg⟩
  by_cases aB:k<l.length
  ·have aA:(k:Int)<l.length:=by omega
   obtain ⟨x,hx⟩:=ja aB;have hw:=kx k;rw [jyH hx,jdb] at he;by_cases cE:x.seq<=last
   ·rw [if_pos cE] at he
    simp only [go_sem,h0,h1,h6,gI,aB,aA,zP hx,qL,jR,jd,cE,hw];intro b;refine ⟨⟨k+1,out,last,?_⟩,?_⟩
    ·and_intros<;>first|rfl|assumption|omega|exact .inr rfl|exact .inl rfl|exact .inl ⟨rfl,rfl⟩|exact .inr ⟨_,rfl,rfl⟩|(rw [<-he];done)|(rw [<-he];simp;done)|(simp;done)|(simp;omega)
    ·rw [jbr (k:=.i64) (n:=((k+1:Nat):Int)) (by simp only [go_sem]),jbr h6];omega
   ·rw [if_neg cE] at he
    cases aJ:IntKind.i64.wrap (x.seq-1) !=last with
    |true=>
     rw [if_pos aJ,aOP] at he;subst he;rcases hg with ⟨e,h5⟩|⟨η,h5,bS⟩
     ·simp only [go_sem,h0,h1,h5,h6,gI,aB,aA,zP hx,qL,jR,jd,cE,aJ,e]
     ·simp only [go_sem,h0,h1,h5,h6,gI,bS,aB,aA,zP hx,qL,jR,jd,cE,aJ]
    |false=>
     rw [aJ,if_neg (by simp)] at he
     have cW:out.length+1<=maxLen:=zy;have bI:(out.length+1)*112<=140737488355328:=by omega
     have fR:=jtq out x;simp only [qL,jR,jd,aOU,aOQ] at fR;have w9:=jtq [] x;simp only [qL,jR,jd,aOU,aOQ,List.flatMap_nil] at w9;rcases hg with ⟨rfl,h5⟩|⟨η,h5,bS⟩
     ·simp only [go_sem,h0,h1,h5,h6,gI,aB,aA,zP hx,qL,jR,jd,cE,aJ]
      intro b;refine jm (jdm x (jtr hx ht)) λaS=>?_
      simp only [go_sem,h0,h6,gI,hw,qL,jR,jd,w9,maxLen];intro cI dP;refine ⟨⟨k+1,[x],x.seq,?_⟩,?_⟩
      ·and_intros<;>first|rfl|assumption|omega|exact .inr rfl|exact .inl rfl|exact .inl ⟨rfl,rfl⟩|exact .inr ⟨_,rfl,rfl⟩|(rw [<-he];done)|(rw [<-he];simp;done)|(simp;done)|(simp;omega)
      ·rw [jbr (k:=.i64) (n:=((k+1:Nat):Int)) (by simp only [go_sem]),jbr h6];omega
     ·simp only [go_sem,h0,h1,h5,h6,gI,aB,aA,zP hx,qL,jR,jd,cE,aJ]
      intro b;refine jm (jdm x (jtr hx ht)) λaS=>?_
      simp only [go_sem,h0,h6,gI,bS,hw,qL,jR,jd,cW,bI,fR];intro cI dP;refine ⟨⟨k+1,out++[x],x.seq,?_⟩,?_⟩
      ·and_intros<;>first|rfl|assumption|omega|exact .inr rfl|exact .inl rfl|exact .inl ⟨rfl,rfl⟩|exact .inr ⟨_,rfl,rfl⟩|(rw [<-he];done)|(rw [<-he];simp;done)|(simp;done)|(simp;omega)
      ·rw [jbr (k:=.i64) (n:=((k+1:Nat):Int)) (by simp only [go_sem]),jbr h6];omega
  ·have aA:¬(k:Int)<l.length:=by omega
   rw [jyI aB,jdb,aOP] at he;subst he;rcases hg with ⟨e,h5⟩|⟨η,h5,bS⟩
   ·simp only [go_sem,h5,h6,gI,aA,e]
   ·simp only [go_sem,h5,h6,gI,bS,aA]
