/- Parts. -/
import Derived.Test.YtcehjhiglmifjaaGreatQE4g
import Derived.Laws.StructEq
import Derived.Deep.RegionWith
set_option linter.all false
set_option maxHeartbeats 4000000
set_option maxRecDepth 100000
namespace Go.Proofs.YtcehjhiglmifjaaGreat
open Go.RowKit Go.Sort
def jcb:jg
 |[]=>.slice none 0 0
 |_::_=>undef
def A0.sim:A0->A0->Prop
 |.v x,.v y=>x=y
 |.v x,.h _ _ _ y=>x=y/\x.oneCell'=true
 |.h _ _ _ x,.h _ _ _ y=>x=y
 |.bp _ c b,.bp _ c' b'=>c=c'/\b=b'
 |.ep _ _ _ i x,.ep _ _ _ i' x'=>i=i'/\x=x'
 |.hs _ _ _ x s l n,.hs _ _ _ y s' l' n'=>x=y/\s=s'/\l=l'/\n=n'
 |.ro d,.ro d'=>d=d'
 |.rp ds,.rp ds'=>ds=ds'
 |.un,.un=>True
 |_,_=>False
def simL:List A0->List A0->Prop
 |[],[]=>True
 |a::l,b::m=>a.sim b/\simL l m
 |_,_=>False
def AV.sim:AV->AV->Prop
 |.c a,.c b=>a.sim b
 |.agg l,.agg m=>simL l m
 |.fn f l,.fn f' m=>f=f'/\simL l m
 |.tup l,.tup m=>l=m
 |_,.unk=>True
 |_,_=>False
def Cell.sim:Cell->Cell->Prop
 |.a x,.a y=>x.sim y
 |.own d η,.own d' aH=>d=d'/\η=aH
 |.a (.v x),.own d η=>x=.slice none 0 0/\d.isSl=true/\d.cells=[]/\η=jcb
 |_,_=>False
def simC:List Cell->List Cell->Prop
 |[],[]=>True
 |a::l,b::m=>a.sim b/\simC l m
 |_,_=>False
def Ob.sim:Ob->Ob->Prop
 |.loose d η,.loose d' aH=>d=d'/\η=aH
 |.box b ty cs,.box b' ty' cs'=>b=b'/\ty=ty'/\simC cs cs'
 |.none,.none=>True
 |_,_=>False
def nilOb:Ob->Prop
 |.loose d η=>d.isSl=true/\d.cells=[]/\η=jcb
 |_=>False
def lkT:List (Nat×AV)->Nat->AV
 |[],_=>.unk
 |(k,v)::T,n=>if n=k then v else lkT T n
def lkO:List (Nat×Ob)->Nat->Ob
 |[],_=>.none
 |(k,v)::T,n=>if n=k then v else lkO T n
def St.of (T:List (Nat×AV)) (O:List (Nat×Ob)):St:=⟨lkT T,lkO O⟩
def jz3 (s:St):List (Nat×AV)->Prop
 |[]=>True
 |(n,v)::T=>(s.t n).sim v/\jz3 s T
def jrZ (s:St):List (Option Nat)->List (Nat×Ob)->Prop
 |[],[]=>True
 |some k::ks,(_,ob)::O=>(s.o k).sim ob/\jrZ s ks O
 |none::ks,(_,ob)::O=>nilOb ob/\jrZ s ks O
 |_,_=>False
def fp (F:Nat->List Nat):List (Option Nat)->List (Nat×Ob)->Nat->List Nat
 |k::ks,(g',_)::O,g=>if g=g' then (match k with|some k=>F k|none=>[]) else fp F ks O g
 |_,_,_=>[]
def jsx:List (Option Nat)->List Nat
 |[]=>[]
 |some k::ks=>k::jsx ks
 |none::ks=>jsx ks
def jjp:List Nat->Bool
 |[]=>true
 |k::ks=>!ks.contains k&&jjp ks
section
variable {B N:Nat} {w0 w:World} {s:St} {a:Act} {F:Nat->List Nat}
theorem A0.sim.rel:∀{a b:A0} {u:Value},a.sim b->A0Rel B w a u->A0Rel B w b u
 |.v x,.v y,u,hh,hr=>by rw [show x=y from hh] at hr;exact hr
 |.v x,.h _ _ _ y,u,hh,hr=>by obtain ⟨h1,h2⟩:=hh;subst h1;exact ⟨hr,h2⟩
 |.h _ _ _ x,.h _ _ _ y,u,hh,hr=>by rw [show x=y from hh] at hr;exact hr
 |.bp _ c b,.bp _ c' b',u,hh,hr=>by obtain ⟨h1,h2⟩:=hh;subst h1 h2;exact hr
 |.ep _ _ _ i x,.ep _ _ _ i' x',u,hh,hr=>by obtain ⟨h1,h2⟩:=hh;subst h1 h2;exact hr
 |.hs _ _ _ x s l n,.hs _ _ _ y s' l' n',u,hh,hr=>by obtain ⟨h1,h2,h3,h4⟩:=hh;subst h1 h2 h3 h4;exact hr
 |.ro d,.ro d',u,hh,hr=>by rw [show d=d' from hh] at hr;exact hr
 |.rp ds,.rp ds',u,hh,hr=>by rw [show ds=ds' from hh] at hr;exact hr
 |.un,.un,_,_,hr=>hr
theorem simL.rel:∀{l m:List A0} {us:List Value},simL l m->A0RelL B w l us->A0RelL B w m us
 |[],[],_,_,hr=>hr
 |_::_,_::_,_,⟨h1,h2⟩,⟨u,us',e,h3,h4⟩=>⟨u,us',e,h1.rel h3,h2.rel h4⟩
theorem AV.sim.rel {v v':AV} {u:Value} (h:v.sim v') (hr:VRel B w v u):VRel B w v' u:=by
 cases v' with
 |unk=>trivial
 |c b=>cases v<;>first|exact A0.sim.rel h hr|exact h.elim
 |agg m=>cases v<;>first|(obtain ⟨us,e,h1⟩:=hr;exact ⟨us,e,simL.rel h h1⟩)|exact h.elim
 |fn f m=>cases v<;>first|(obtain ⟨us,e,h1⟩:=hr;obtain ⟨rfl,h2⟩:=h;exact ⟨us,e,h2.rel h1⟩)|exact h.elim
 |tup m=>cases v<;>first|(rw [show _=m from h] at hr;exact hr)|exact h.elim
theorem jwU {d:D} (hs:d.isSl=true) (hc:d.cells=[]):(∃size ty,d=.sl size ty [])/\∀p,jcb p=hdr w p d (.slice none 0 0):=by
 cases d with
 |val u=>cases hs
 |sl size ty cs=>
  obtain rfl:cs=[]:=hc;exact ⟨⟨_,_,rfl⟩,λp=>by cases p<;>rfl⟩
theorem simC.rel:∀{cs cs':List Cell} {us:List Value} {S:List Nat},simC cs cs'->CRel B w cs us S->CRel B w cs' us S
 |[],[],_,_,_,hr=>hr
 |.a x::l,.a y::m,_,_,⟨h1,h2⟩,⟨u,us',e,h3,h4⟩=>⟨u,us',e,A0.sim.rel h1 h3,h2.rel h4⟩
 |.own d η::l,.own d' aH::m,_,_,⟨⟨h1,dG⟩,h2⟩,⟨u,us',S1,S2,e,e',h3,h4,h5,h6⟩=>by
  subst h1 dG;exact ⟨u,us',S1,S2,e,e',h3,h4,h5,h2.rel h6⟩
 |.a (.v x)::l,.own d η::m,_,S,⟨⟨h1,h2,h3,h4⟩,h5⟩,⟨u,us',e,h6,h7⟩=>by
  subst h1 h4;obtain ⟨⟨size,ty,rfl⟩,k2⟩:=jwU (w:=w) h2 h3;refine ⟨u,us',[],S,e,rfl,h2,?_,λp=>?_,h5.rel h7⟩
  ·rw [show u=_ from h6];exact Rep.nil_ w size ty
  ·rw [show u=_ from h6];exact k2 p
theorem Ob.sim.rel {ob ob':Ob} {S:List Nat} (h:ob.sim ob') (hr:ORel B w ob S):ORel B w ob' S:=by
 cases ob<;>cases ob'<;>first|exact h.elim|skip
 ·exact hr
 ·obtain ⟨rfl,rfl⟩:=h;exact hr
 ·obtain ⟨rfl,rfl,h⟩:=h;obtain ⟨us,S1,h1,h2,h3⟩:=hr;exact ⟨us,S1,h1,h.rel h2,h3⟩
theorem nilOb.rel {ob:Ob} (h:nilOb ob):ORel B w ob []:=by
 cases ob with
 |loose d η=>
  obtain ⟨h1,h2,rfl⟩:=h;obtain ⟨⟨size,ty,rfl⟩,k2⟩:=jwU (w:=w) h1 h2;exact ⟨h1,_,Rep.nil_ w size ty,k2⟩
 |_=>exact h.elim
theorem jgL:∀{ks:List (Option Nat)} {O:List (Nat×Ob)} {g b:Nat},b∈fp F ks O g->∃k∈jsx ks,b∈F k
 |[],_,_,_,h=>by simp [fp] at h
 |_::_,[],_,_,h=>by simp [fp] at h
 |k::ks,(g',ob)::O,g,b,h=>by
  simp only [fp] at h;split at h
  ·cases k with
   |some k=>exact ⟨k,by simp [jsx],h⟩
   |none=>simp at h
  ·obtain ⟨k',h1,h2⟩:=jgL h
   exact ⟨k',by cases k<;>simp [jsx,h1],h2⟩
theorem jcw:∀{l:List Nat},jjp l=true->l.Nodup
 |[],_=>List.nodup_nil
 |k::l,h=>by
  simp only [jjp,aPG,Bool.not_eq_true',List.contains_eq_mem,aPX] at h;exact aQZ.2 ⟨h.1,jcw h.2⟩
theorem jzY (oG:∀g g',g≠g'->∀b∈F g,b∉F g'):∀{ks:List (Option Nat)} {O:List (Nat×Ob)},(jsx ks).Nodup->∀g g',g≠g'->∀b∈fp F ks O g,b∉fp F ks O g'
 |[],_,_,_,_,_,b,h=>by simp [fp] at h
 |_::_,[],_,_,_,_,b,h=>by simp [fp] at h
 |k::ks,(g0,ob)::O,hn,g,g',aK,b,h=>by
  have lW:(jsx ks).Nodup:=by cases k with
   |none=>exact hn
   |some k=>exact (aQZ.1 hn).2
  have key:∀{g g':Nat},g=g0->g'≠g0->b∈fp F (k::ks) ((g0,ob)::O) g->b∉fp F (k::ks) ((g0,ob)::O) g':=by
   intro g g' e bS h h';simp only [fp,if_pos e] at h;simp only [fp,if_neg bS] at h';cases k with
   |none=>simp at h
   |some k=>
    obtain ⟨k',h1,h2⟩:=jgL h';have:k≠k':=λe=>(aQZ.1 hn).1 (by rw [e];exact h1)
    exact oG _ _ this b h h2
  by_cases e:g=g0
  ·exact key e (λe'=>aK (e.trans e'.symm)) h
  ·by_cases e':g'=g0
   ·exact λh'=>key e' e h' h
   ·simp only [fp,if_neg e] at h
    simp only [fp,if_neg e'];exact jzY oG lW g g' aK b h
theorem jxp (h:∀g,ORel B w (s.o g) (F g)):∀{ks:List (Option Nat)} {O:List (Nat×Ob)},jrZ s ks O->∀g,ORel B w (lkO O g) (fp F ks O g)
 |[],[],_,_=>rfl
 |[],_::_,hf,_=>hf.elim
 |some _::_,[],hf,_=>hf.elim
 |none::_,[],hf,_=>hf.elim
 |some k::ks,(g',ob)::O,⟨h1,h2⟩,g=>by
  simp only [lkO,fp];by_cases e:g=g'
  ·rw [if_pos e,if_pos e];exact h1.rel (h k)
  ·rw [if_neg e,if_neg e];exact jxp h h2 g
 |none::ks,(g',ob)::O,⟨h1,h2⟩,g=>by
  simp only [lkO,fp];by_cases e:g=g'
  ·rw [if_pos e,if_pos e];exact h1.rel
  ·rw [if_neg e,if_neg e];exact jxp h h2 g
theorem jzX (h:∀g,Fresh B (F g)):∀(ks:List (Option Nat)) (O:List (Nat×Ob)) (g:Nat),Fresh B (fp F ks O g)
 |[],_,_=>Fresh.nil _
 |_::_,[],_=>Fresh.nil _
 |k::ks,(g',ob)::O,g=>by
  simp only [fp];split
  ·cases k with
   |some k=>exact h k
   |none=>exact Fresh.nil _
  ·exact jzX h ks O g
theorem jz1 (h:∀n,VRel B w (s.t n) (a.tmps.getD n undef)):∀{T:List (Nat×AV)},jz3 s T->∀n,VRel B w (lkT T n) (a.tmps.getD n undef)
 |[],_,_=>trivial
 |(k,v)::T,⟨h1,h2⟩,n=>by
  simp only [lkT];by_cases e:n=k
  ·rw [if_pos e];subst e;exact h1.rel (h n)
  ·rw [if_neg e];exact jz1 h h2 n
theorem vU (ks:List (Option Nat)) {T:List (Nat×AV)} {O:List (Nat×Ob)} (h:jz3 s T/\jrZ s ks O) (hn:jjp (jsx ks)=true:=by decide):Wk s (St.of T O):=
 λB N w0 w a F hr=>⟨fp F ks O,⟨hr.below,hr.hB,hr.df,hr.sz,jz1 hr.sl h.1,jxp hr.ob h.2,jzX hr.fr ks O,jzY hr.dj (jcw hn)⟩,
  λg b hb=>by obtain ⟨k,_,h2⟩:=jgL hb;exact ⟨k,h2⟩⟩
end
section
variable {P:Program} {β:Nat} {s:St} {Q:Ex->St->Prop}
theorem kh {ι:Type} {a:C} (mk:ι->St) (J:ι->Prop) (μ:ι->Nat) (i0:ι) (h0:J i0) (hw:Wk s (mk i0)) (hr:∀i,J i->wpC P β a (Ex.thn (λs'=>∃i',J i'/\Wk s' (mk i')/\μ i'<μ i) Q) (mk i)):wpC P β (.loop a) Q s:=⟨ι,mk,J,μ,⟨i0,h0,hw⟩,hr⟩
theorem wp_gh {a:C} (s':St) (h:Wk s s') (hk:wpC P β a Q s'):wpC P β (.gh a) Q s:=λ_ _ _ _ _ _ hr=>let ⟨F',h1,_⟩:=h _ _ _ _ _ _ hr;⟨s',F',h1,hk⟩
end
section
variable {s:St}
theorem of_t (T:List (Nat×AV)) (O:List (Nat×Ob)) (n:Nat):(St.of T O).t n=lkT T n:=(rfl)
theorem of_o (T:List (Nat×AV)) (O:List (Nat×Ob)) (n:Nat):(St.of T O).o n=lkO O n:=(rfl)
theorem jzF (k n:Nat) (v:AV) (T:List (Nat×AV)):lkT ((k,v)::T) n=if n=k then v else lkT T n:=(rfl)
theorem jCI (n:Nat):lkO [] n=.none:=(rfl)
theorem jzG (k n:Nat) (v:Ob) (T:List (Nat×Ob)):lkO ((k,v)::T) n=if n=k then v else lkO T n:=(rfl)
theorem jz2:jz3 s []=True:=(rfl)
theorem jxt (n:Nat) (v:AV) (T:List (Nat×AV)):jz3 s ((n,v)::T)=((s.t n).sim v/\jz3 s T):=(rfl)
theorem jz4:jrZ s [] []=True:=(rfl)
theorem jFz (k g:Nat) (ob:Ob) (ks:List (Option Nat)) (O:List (Nat×Ob)):jrZ s (some k::ks) ((g,ob)::O)=((s.o k).sim ob/\jrZ s ks O):=(rfl)
theorem jFA (g:Nat) (ob:Ob) (ks:List (Option Nat)) (O:List (Nat×Ob)):jrZ s (none::ks) ((g,ob)::O)=(nilOb ob/\jrZ s ks O):=(rfl)
theorem jFa (d:D) (η:jg):nilOb (.loose d η)=(d.isSl=true/\d.cells=[]/\η=jcb):=(rfl)
theorem nilH_:jcb []=.slice none 0 0:=(rfl)
theorem sim_c (a b:A0):AV.sim (.c a) (.c b)=a.sim b:=(rfl)
theorem jBT (l m:List A0):AV.sim (.agg l) (.agg m)=simL l m:=(rfl)
theorem jD9 (f f':Nat) (l m:List A0):AV.sim (.fn f l) (.fn f' m)=(f=f'/\simL l m):=(rfl)
theorem jy0:simL [] []=True:=(rfl)
theorem jvY (a b:A0) (l m:List A0):simL (a::l) (b::m)=(a.sim b/\simL l m):=(rfl)
theorem sim_v (x y:Value):A0.sim (.v x) (.v y)=(x=y):=(rfl)
theorem jD5 (x y:Value) (g c:Nat) (p:List Nat):A0.sim (.v x) (.h g c p y)=(x=y/\x.oneCell'=true):=(rfl)
theorem sim_h (x y:Value) (g c g' c':Nat) (p p':List Nat):A0.sim (.h g c p x) (.h g' c' p' y)=(x=y):=(rfl)
theorem jEb (g c b g' c' b':Nat):A0.sim (.bp g c b) (.bp g' c' b')=(c=c'/\b=b'):=(rfl)
theorem jEa (g c i g' c' i':Nat) (p p':List Nat) (x x':Value):A0.sim (.ep g c p i x) (.ep g' c' p' i' x')=(i=i'/\x=x'):=(rfl)
theorem jD8 (g c g' c' sz lo n sz' lo' n':Nat) (p p':List Nat) (x x':Value):A0.sim (.hs g c p x sz lo n) (.hs g' c' p' x' sz' lo' n')=(x=x'/\sz=sz'/\lo=lo'/\n=n'):=(rfl)
theorem jD7 (d d':D):A0.sim (.ro d) (.ro d')=(d=d'):=(rfl)
theorem jD6 (d d':List D):A0.sim (.rp d) (.rp d')=(d=d'):=(rfl)
theorem jD4 (x y:A0):Cell.sim (.a x) (.a y)=x.sim y:=by cases x<;>rfl
theorem jyY (d d':D) (η aH:jg):Cell.sim (.own d η) (.own d' aH)=(d=d'/\η=aH):=(rfl)
theorem jyZ (x:Value) (d:D) (η:jg):Cell.sim (.a (.v x)) (.own d η)=(x=.slice none 0 0/\d.isSl=true/\d.cells=[]/\η=jcb):=(rfl)
theorem jy1:simC [] []=True:=(rfl)
theorem jvZ (a b:Cell) (l m:List Cell):simC (a::l) (b::m)=(a.sim b/\simC l m):=(rfl)
theorem jEc (d d':D) (η aH:jg):Ob.sim (.loose d η) (.loose d' aH)=(d=d'/\η=aH):=(rfl)
theorem jEd (b ty b' ty':Nat) (cs cs':List Cell):Ob.sim (.box b ty cs) (.box b' ty' cs')=(b=b'/\ty=ty'/\simC cs cs'):=(rfl)
end
attribute [go_sem] of_t of_o jzF jCI jzG jz2 jxt jz4 jFz jFA jFa nilH_ sim_c jBT jD9 jy0 jvY sim_v jD5 sim_h jEb jEa jD8 jD7 jD6 jD4 jyY jyZ jy1 jvZ jEc jEd
section
variable {P:Program} {β:Nat} {s:St}
theorem jk9 (l:List Int):(jc l).len=l.length:=jbl (enc:=λn=>[iv n]) (λ_=>rfl) (by decide) _ _
theorem qV {l:List Int} {k:Nat} {x:Int} (h:l[k]?=some x):(jc l).elem k=[iv x]:=jao (enc:=λn=>[iv n]) (λ_=>rfl) h
theorem jt0 (l:List Int):(jc l).isSl=true:=(rfl)
theorem jtW (l:List Int):(jc l).size=1:=(rfl)
theorem jug (l:List Int):(jc l).toRo=.ro (jc l):=(rfl)
theorem jrB (l:List Int) (g:Nat) (η:jg):(jc l).obj g η=[(g,.loose (jc l) η)]:=(rfl)
theorem jrw (l:List Int) (g c:Nat) (p:List Nat) (η:jg):(jc l).toOwn g c p η=.h g c p (η p):=(rfl)
theorem joM (l:List Int):(jc l).cells=l.flatMap (λn=>[iv n]):=(rfl)
theorem jel (l:List Ed):(jn l).len=l.length:=jbl (enc:=kb) (λ_=>rfl) (by decide) _ _
theorem jE {l:List Ed} {k:Nat} {x:Ed} (h:l[k]?=some x):(jn l).elem k=kb x:=jao (enc:=kb) (λ_=>rfl) h
theorem jvW (l:List Ed):(jn l).isSl=true:=(rfl)
theorem jvM (l:List Ed):(jn l).size=2:=(rfl)
theorem juF (l:List Ed) (g:Nat) (η:jg):(jn l).obj g η=[(g,.loose (jn l) η)]:=(rfl)
theorem juz (l:List Ed) (g c:Nat) (p:List Nat) (η:jg):(jn l).toOwn g c p η=.h g c p (η p):=(rfl)
theorem jqC (l:List Ed):(jn l).cells=l.flatMap (kb):=(rfl)
theorem juE (l:List En) (g:Nat) (η:jg):(jf l).obj g η=[(g,.loose (jf l) η)]:=(rfl)
theorem juy (l:List En) (g c:Nat) (p:List Nat) (η:jg):(jf l).toOwn g c p η=.h g c p (η p):=(rfl)
theorem jqB (l:List En):(jf l).cells=l.flatMap (jj):=(rfl)
theorem juB (l:List Tk) (g:Nat) (η:jg):(ju l).obj g η=[(g,.loose (ju l) η)]:=(rfl)
theorem juv (l:List Tk) (g c:Nat) (p:List Nat) (η:jg):(ju l).toOwn g c p η=.h g c p (η p):=(rfl)
theorem jqy (l:List Tk):(ju l).cells=l.flatMap (jz):=(rfl)
theorem juC (l:List Rn) (g:Nat) (η:jg):(jG l).obj g η=[(g,.loose (jG l) η)]:=(rfl)
theorem juw (l:List Rn) (g c:Nat) (p:List Nat) (η:jg):(jG l).toOwn g c p η=.h g c p (η p):=(rfl)
theorem jqz (l:List Rn):(jG l).cells=l.flatMap (jd):=(rfl)
theorem jwT (l:List (List En)) (g:Nat) (η:jg):(ke l).obj g η=[(g,.loose (ke l) η)]:=(rfl)
theorem jwP (l:List (List En)) (g c:Nat) (p:List Nat) (η:jg):(ke l).toOwn g c p η=.h g c p (η p):=(rfl)
theorem jr7 (l:List (List En)):(ke l).cells=l.flatMap (λes=>[jf es]):=(rfl)
theorem jq9 (l:List Int) (e:Nat) (k:List D->Prop):slK (jc l) e 1 k=(jes=e/\k (l.flatMap (λn=>[iv n]))):=by rw [show jc l=.sl 1 jes (l.flatMap (λn=>[iv n])) from rfl,jyw];simp
theorem jr6 (l:List Int):(l.flatMap (λn=>[iv n])).length/1=l.length:=by rw [jD (enc:=λn=>[iv n]) (size:=1) (λ_=>rfl)];exact aPZ _ (by decide)
theorem jrE:D.sl 1 jes []=jc []:=rfl
theorem jgP (l:List Int):ka (l.flatMap (λn=>[iv n]))=true:=by
 induction l with
 |nil=>rfl
 |cons x l ih=>rw [aPQ,vQ,ih];rfl
theorem jt5 (l:List Ed) (e:Nat) (k:List D->Prop):slK (jn l) e 2 k=(tEd=e/\k (l.flatMap (kb))):=by rw [show jn l=.sl 2 tEd (l.flatMap (kb)) from rfl,jyw];simp
theorem jlj (l:List Ed):D.sl 2 tEd (l.flatMap (kb))=jn l:=rfl
theorem jvb (l:List Ed):(l.flatMap (kb)).length/2=l.length:=by rw [jD (enc:=kb) (size:=2) (λ_=>rfl)];exact aPZ _ (by decide)
theorem jnu (l:List Ed) (x:Ed):D.sl 2 tEd (l.flatMap (kb)++(kb) x)=jn (l++[x]):=by simp [jn]
theorem jqn (l:List Ed):ka (l.flatMap (kb))=true:=by
 induction l with
 |nil=>rfl
 |cons x l ih=>rw [aPQ,vQ,ih];rfl
theorem joA (l:List Ed) (r:List D):ka (jn l::r)=false:=(rfl)
theorem jrA (l:List Ed) (r:List D):jk6 (jn l::r)=jk6 r:=(rfl)
theorem jt4 (l:List En) (e:Nat) (k:List D->Prop):slK (jf l) e 4 k=(tEn=e/\k (l.flatMap (jj))):=by rw [show jf l=.sl 4 tEn (l.flatMap (jj)) from rfl,jyw];simp
theorem jrX (l:List En):D.sl 4 tEn (l.flatMap (jj))=jf l:=rfl
theorem jva (l:List En):(l.flatMap (jj)).length/4=l.length:=by rw [jD (enc:=jj) (size:=4) (λ_=>rfl)];exact aPZ _ (by decide)
theorem jif:D.sl 4 tEn []=jf []:=rfl
theorem jvl (l:List En) (x:En):D.sl 4 tEn (l.flatMap (jj)++(jj) x)=jf (l++[x]):=by simp [jf]
theorem jbm (l:List En):ka (l.flatMap (jj))=true:=by
 induction l with
 |nil=>rfl
 |cons x l ih=>rw [aPQ,vQ,ih];rfl
theorem joz (l:List En) (r:List D):ka (jf l::r)=false:=(rfl)
theorem jrz (l:List En) (r:List D):jk6 (jf l::r)=jk6 r:=(rfl)
theorem jt1 (l:List Tk) (e:Nat) (k:List D->Prop):slK (ju l) e 4 k=(tTk=e/\k (l.flatMap (jz))):=by rw [show ju l=.sl 4 tTk (l.flatMap (jz)) from rfl,jyw];simp
theorem ju7 (l:List Tk):(l.flatMap (jz)).length/4=l.length:=by rw [jD (enc:=jz) (size:=4) (λ_=>rfl)];exact aPZ _ (by decide)
theorem jvk (l:List Tk) (x:Tk):D.sl 4 tTk (l.flatMap (jz)++(jz) x)=ju (l++[x]):=by simp [ju]
theorem jje (l:List Tk):ka (l.flatMap (jz))=true:=by
 induction l with
 |nil=>rfl
 |cons x l ih=>rw [aPQ,vQ,ih];rfl
theorem jry (l:List Tk) (r:List D):jk6 (ju l::r)=jk6 r:=(rfl)
theorem jt2 (l:List Rn) (e:Nat) (k:List D->Prop):slK (jG l) e 8 k=(tRn=e/\k (l.flatMap (jd))):=by rw [show jG l=.sl 8 tRn (l.flatMap (jd)) from rfl,jyw];simp
theorem ju8 (l:List Rn):(l.flatMap (jd)).length/8=l.length:=by rw [jD (enc:=jd) (size:=8) (λ_=>rfl)];exact aPZ _ (by decide)
theorem jvX (l:List (List En)) (e:Nat) (k:List D->Prop):slK (ke l) e 1 k=(jq4=e/\k (l.flatMap (λes=>[jf es]))):=by rw [show ke l=.sl 1 jq4 (l.flatMap (λes=>[jf es])) from rfl,jyw];simp
theorem jxJ (l:List (List En)):(l.flatMap (λes=>[jf es])).length/1=l.length:=by rw [jD (enc:=λes=>[jf es]) (size:=1) (λ_=>rfl)];exact aPZ _ (by decide)
theorem jt6 (l:List Dd) (e:Nat) (k:List D->Prop):slK (jeV l) e 11 k=(tDd=e/\k (l.flatMap (kN))):=by rw [show jeV l=.sl 11 tDd (l.flatMap (kN)) from rfl,jyw];simp
theorem jvc (l:List Dd):(l.flatMap (kN)).length/11=l.length:=by rw [jD (enc:=kN) (size:=11) (λ_=>rfl)];exact aPZ _ (by decide)
theorem jm1:D.sl 11 tDd []=jeV []:=rfl
theorem jE3 (u:Value) (l:List D):jk6 (.val u::l)=(u.oneCell'&&jk6 l):=(rfl)
theorem jzu:jk6 []=true:=(rfl)
theorem jqa (l:List Cell) (ds:List D):IsD (.a (.v (.slice none 0 0))::l) (jc []::ds)=IsD l ds:=jgC l _ _ ds
theorem jrO (l:List Cell) (ds:List D):IsD (.a (.v (.slice none 0 0))::l) (jf []::ds)=IsD l ds:=jgC l _ _ ds
theorem jrN (l:List Cell) (ds:List D):IsD (.a (.v (.slice none 0 0))::l) (jG []::ds)=IsD l ds:=jgC l _ _ ds
theorem juR (l:List Cell) (ds:List D):IsD (.a (.v (.slice none 0 0))::l) (ke []::ds)=IsD l ds:=jgC l _ _ ds
theorem juQ:Is s (.v (.slice none 0 0)) (jn [])=True:=jA8 _ _
theorem jih (l:List Int) (a b:Int):D.sl 1 jes (l.flatMap (λn=>[iv n])++[iv a,iv b])=jc (l++[a,b]):=by simp [jc]
theorem jq {l:List Int} {k:Nat} {x:Int} (h:l[k]?=some x):((l.flatMap (λn=>[iv n])).drop (k*1)).take 1=[iv x]:=qV h
theorem jp {l:List Int} {k:Nat} (h:k<l.length):k*1+1<=(l.flatMap (λn=>[iv n])).length:=by rw [jD (enc:=λn=>[iv n]) (size:=1) (λ_=>rfl)];omega
theorem jqN {l:List Ed} {k:Nat} {x:Ed} (h:l[k]?=some x):((l.flatMap (kb)).drop (k*2)).take 2=kb x:=jE h
theorem jqc {l:List Ed} {k:Nat} (h:k<l.length):k*2+2<=(l.flatMap (kb)).length:=by rw [jD (enc:=kb) (size:=2) (λ_=>rfl)];omega
theorem jhS {l:List En} {k:Nat} {x:En} (h:l[k]?=some x):((l.flatMap (jj)).drop (k*4)).take 4=jj x:=jU h
theorem jgG {l:List En} {k:Nat} (h:k<l.length):k*4+4<=(l.flatMap (jj)).length:=by rw [jD (enc:=jj) (size:=4) (λ_=>rfl)];omega
theorem jhR {l:List Tk} {k:Nat} {x:Tk} (h:l[k]?=some x):((l.flatMap (jz)).drop (k*4)).take 4=jz x:=jL h
theorem jgF {l:List Tk} {k:Nat} (h:k<l.length):k*4+4<=(l.flatMap (jz)).length:=by rw [jD (enc:=jz) (size:=4) (λ_=>rfl)];omega
theorem jbs {l:List (List En)} {k:Nat} {x:List En} (h:l[k]?=some x):((l.flatMap (λes=>[jf es])).drop (k*1)).take 1=[jf x]:=kC h
theorem jaK {l:List (List En)} {k:Nat} (h:k<l.length):k*1+1<=(l.flatMap (λes=>[jf es])).length:=by rw [jD (enc:=λes=>[jf es]) (size:=1) (λ_=>rfl)];omega
theorem jCG (g c:Nat) (p:List Nat) (η:jg) (i:Nat) (v:Value) (l:List D):jig g c p η i (.val v::l)=.v v::jig g c p η (i+1) l:=(rfl)
theorem jCH (g c:Nat) (p:List Nat) (η:jg) (i:Nat):jig g c p η i []=[]:=(rfl)
end
attribute [go_sem] jCG jCH juQ jqa jrO jrN juR jgP jq9 jr6 joM jqn jt5 jvb jqC joA jrA jbm jt4 jva jqB joz jrz jje jt1 ju7 jqy jry jt2 ju8 jqz jvX jxJ jr7 jt6 jvc jE3 jzu Bool.and_false Bool.false_and Bool.and_true Bool.true_and jk9 jt0 jtW jug jrB jrw jel jvW jvM jwg juF juz zU jkE jky jps juE juy jek jvT jvJ jwe juB juv vF jvU jvK jwf juC juw ja0 jyX jyQ jza jwT jwP
abbrev Ni (n:Int):AV:=.c (.v (.int .i64 n))
abbrev Hd (g:Nat) (η:jg):AV:=.c (.h g 0 [] (η []))
abbrev Bx (g b:Nat):AV:=.c (.bp g 0 b)
abbrev Ro (d:D):AV:=.c (.ro d)
abbrev Bi (b ty:Nat) (ds:List D):Ob:=.box b ty (ds.map λx=>.a x.toRo)
theorem jz0 (s t:Nat) (cs l:List D):ka (.sl s t cs::l)=false:=(rfl)
theorem jCA (s t:Nat) (cs l:List D):jk6 (.sl s t cs::l)=jk6 l:=(rfl)
attribute [go_sem] jz0 jCA
theorem qc {ι:Type} {mk:ι->St} {J:ι->Prop} {μ:ι->Nat} {n:Nat} {s':St} (i:ι) (h:Wk s' (mk i)) (hj:J i:=by (try dsimp only);first|omega|assumption|(and_intros<;>first|omega|assumption)) (hm:μ i<n:=by (try dsimp only);omega):∃i',J i'/\Wk s' (mk i')/\μ i'<n:=⟨i,hj,h,hm⟩
theorem qP {P:Program} {β:Nat} {s:St} {Q:Ex->St->Prop} {ι:Type} {a:C} (mk:ι->St) (J:ι->Prop) (μ:ι->Nat) (i0:ι) (hw:Wk s (mk i0)) (hr:∀i,J i->wpC P β a (Ex.thn (λs'=>∃i',J i'/\Wk s' (mk i')/\μ i'<μ i) Q) (mk i)) (h0:J i0:=by (try dsimp only);first|omega|(simp;done)|(and_intros<;>first|omega|simp)):wpC P β (.loop a) Q s:=kh mk J μ i0 h0 hw hr
theorem jk {P:Program} {β:Nat} {d:Option Nat} {g:Option (Nat×Bool)} {s:St} {K:St->Prop} {f:Nat} {args:List X} {vs:List View} {rt:RT} (hp:jZ P f vs rt) (hk:∀η:Nat->jg,K ((s.addO (jl2 (100*(β+d.getD 0)) η 0 rt.flat)).put d (rt.av (100*(β+d.getD 0)) η))) (ha:zZ s (args.map s.ev) vs:=by first|(simp only [go_sem];done)|simp only [go_sem,kN,kb,jj,je,jd,jz,jb]):vp P β ⟨d,g,.call f args⟩ s K:=jw hp ha hk
theorem kw (k:Nat) (h:(k:Int)+1<9223372036854775808:=by omega):IntKind.i64.wrap ((k:Int)+1)=((k+1:Nat):Int):=kU (by omega) (by omega)
theorem js {s:St} {T:List (Nat×AV)} {O:List (Nat×Ob)} (ks:List Nat) (h:jz3 s T/\jrZ s (ks.map some) O:=by simp only [go_sem]<;>trivial) (hn:jjp (jsx (ks.map some))=true:=by decide):Wk s (St.of T O):=vU (ks.map some) h hn
theorem pf_ {P:Program} {N:Nat} {f:FuncId} {fn:Func} {c:C} {vs:List View} {rs:List R} {rt:RT} (hc:fnC P fn=some (c,rs,N)) (hw:wpC P 0 c (jzf rs rt) (St.init vs)) (hf:P.funcs[f]?=some fn:=by kernel_rfl) (hN:vs.length<=N:=by simp):jZ P f vs rt:=jfH hf hc hN hw
theorem zm {x:Int} (h:-9223372036854775808<=x:=by omega) (h':x<9223372036854775808:=by omega):IntKind.i64.wrap x=x:=kU h h'
theorem vT {n:Nat} (h:n<=9223372036854775807:=by omega):n<=maxLen:=h
theorem qN (k:Nat):(k:Int)>=0:=by omega
theorem jFI {P:Program} {ty:Nat} {xs ys:List Value} {b:Bool} (h:∀w,(Op.equalIn 10000 ty (.agg xs.toArray) (.agg ys.toArray)).run P w=.ok b w) (hg:P.eqGuardType P.depth ty=false):EqR P .eql ty xs ys b:=λw=>⟨by rw [run_eql_struct,h w];rfl,λx y=>run_eqGuard_agg _ _ _ _ _ _ _ hg⟩
theorem jto {P:Program} {ty:Nat} {xs ys:List Value} {b:Bool} (h:∀w,(Op.equalIn 10000 ty (.agg xs.toArray) (.agg ys.toArray)).run P w=.ok b w) (hg:P.eqGuardType P.depth ty=false):EqR P .neq ty xs ys (!b):=λw=>⟨by rw [run_neq_struct,h w];rfl,λx y=>run_eqGuard_agg _ _ _ _ _ _ _ hg⟩
theorem w_any:Nonempty World:=⟨default⟩
theorem jhP {P:Program} {d:Option Nat} {s:St} {K:St->Prop} {op:BinOp} {ty:Nat} {l m:List A0} {xs ys:List Value} {b:Bool} (hx:jc3 l=some xs) (hy:jc3 m=some ys) (h:EqR P op ty xs ys b):jvr P d s K op ty (.agg l) (.agg m)=K (s.put d (.c (.v (.bool b)))):=by
 apply propext
 constructor
 ·rintro ⟨av,(⟨_,_,_,h1,_⟩|⟨l',m',xs',ys',b',h1,h2,h3,h4,h5,rfl⟩),h6⟩
  ·cases h1
  ·cases h1;cases h2
   rw [hx] at h3;rw [hy] at h4;cases h3;cases h4;obtain ⟨w⟩:=w_any;have e1:=(h w).1;rw [(h5 w).1] at e1;simp at e1;subst e1;exact h6
 ·intro hk
  exact ⟨_,.inr ⟨l,m,xs,ys,b,rfl,rfl,hx,hy,h,rfl⟩,hk⟩
theorem jBf (w:World) (x y:Ed):(Op.equalIn 10000 161 (.agg #[.int .i64 x.src,.int .i64 x.dst]) (.agg #[.int .i64 y.src,.int .i64 y.dst])).run Tryz.prog w=.ok (decide (x=y)) w:=by
 have u3:=Tryz.underlying3;have a3:=Tryz.isAgg3;have z3:=Tryz.sizeOf3;rw [show (10000:Nat)=9999+1 from rfl,run_equalIn_agg w 9999 161 _ _ (by kernel_rfl) (by kernel_rfl)]
 simp only [Program.fieldsOf,Tryz.underlying161];obtain ⟨xsrc,xdst⟩:=x;obtain ⟨ysrc,ydst⟩:=y
 go_simp
 by_cases h0:xsrc=ysrc<;>by_cases h1:xdst=ydst<;>simp [h0,h1]
theorem jyb {d:Option Nat} {s:St} {K:St->Prop} (x y:Ed):jvr Tryz.prog d s K .eql 161 (.agg [.v (.int .i64 x.src),.v (.int .i64 x.dst)]) (.agg [.v (.int .i64 y.src),.v (.int .i64 y.dst)])=K (s.put d (.c (.v (.bool (decide (x=y)))))):=jhP rfl rfl (jFI (λw=>jBf w x y) (by kernel_rfl))
theorem jya {d:Option Nat} {s:St} {K:St->Prop} (x y:Ed):jvr Tryz.prog d s K .neq 161 (.agg [.v (.int .i64 x.src),.v (.int .i64 x.dst)]) (.agg [.v (.int .i64 y.src),.v (.int .i64 y.dst)])=K (s.put d (.c (.v (.bool (!decide (x=y)))))):=jhP rfl rfl (jto (λw=>jBf w x y) (by kernel_rfl))
attribute [go_sem] jyb jya
theorem jFL (w:World) (x y:En):(Op.equalIn 10000 44 (.agg #[.int .i64 x.aOL,.int .i64 x.seq,.int .i64 x.run,.int .i64 x.aOK]) (.agg #[.int .i64 y.aOL,.int .i64 y.seq,.int .i64 y.run,.int .i64 y.aOK])).run Tryz.prog w=.ok (decide (x=y)) w:=by
 have u3:=Tryz.underlying3;have a3:=Tryz.isAgg3;have z3:=Tryz.sizeOf3;rw [show (10000:Nat)=9999+1 from rfl,run_equalIn_agg w 9999 44 _ _ (by kernel_rfl) (by kernel_rfl)]
 simp only [Program.fieldsOf,Tryz.underlying44];obtain ⟨xprio,xseq,xrun,xtask⟩:=x;obtain ⟨yprio,yseq,yrun,ytask⟩:=y
 go_simp
 by_cases h0:xprio=yprio<;>by_cases h1:xseq=yseq<;>by_cases h2:xrun=yrun<;>by_cases h3:xtask=ytask<;>simp [h0,h1,h2,h3]
theorem jx9 {d:Option Nat} {s:St} {K:St->Prop} (x y:En):jvr Tryz.prog d s K .neq 44 (.agg [.v (.int .i64 x.aOL),.v (.int .i64 x.seq),.v (.int .i64 x.run),.v (.int .i64 x.aOK)]) (.agg [.v (.int .i64 y.aOL),.v (.int .i64 y.seq),.v (.int .i64 y.run),.v (.int .i64 y.aOK)])=K (s.put d (.c (.v (.bool (!decide (x=y)))))):=jhP rfl rfl (jto (λw=>jFL w x y) (by kernel_rfl))
attribute [go_sem] jx9
theorem jFJ (w:World) (x y:Tk):(Op.equalIn 10000 46 (.agg #[.int .i64 x.aOG,.int .i64 x.aOO,.int .i64 x.tri,.int .i64 x.til]) (.agg #[.int .i64 y.aOG,.int .i64 y.aOO,.int .i64 y.tri,.int .i64 y.til])).run Tryz.prog w=.ok (decide (x=y)) w:=by
 have u3:=Tryz.underlying3;have a3:=Tryz.isAgg3;have z3:=Tryz.sizeOf3;rw [show (10000:Nat)=9999+1 from rfl,run_equalIn_agg w 9999 46 _ _ (by kernel_rfl) (by kernel_rfl)]
 simp only [Program.fieldsOf,Tryz.underlying46];obtain ⟨xstate,xneed,xtri,xtil⟩:=x;obtain ⟨ystate,yneed,ytri,ytil⟩:=y
 go_simp
 by_cases h0:xstate=ystate<;>by_cases h1:xneed=yneed<;>by_cases h2:xtri=ytri<;>by_cases h3:xtil=ytil<;>simp [h0,h1,h2,h3]
theorem jx7 {d:Option Nat} {s:St} {K:St->Prop} (x y:Tk):jvr Tryz.prog d s K .neq 46 (.agg [.v (.int .i64 x.aOG),.v (.int .i64 x.aOO),.v (.int .i64 x.tri),.v (.int .i64 x.til)]) (.agg [.v (.int .i64 y.aOG),.v (.int .i64 y.aOO),.v (.int .i64 y.tri),.v (.int .i64 y.til)])=K (s.put d (.c (.v (.bool (!decide (x=y)))))):=jhP rfl rfl (jto (λw=>jFJ w x y) (by kernel_rfl))
attribute [go_sem] jx7
def jfg:C:=iS [aN 2 0] (iS [aM 4 0,iA 5 (iK 159 [4]),aM 3 5] (.seq (iS [aM 6 3,iA 7 (.bin .eql 9 (.t 6) (.c (.string ⟨⟨[]⟩⟩)))] (iD 7 (iS [aN 2 0] .ret) .skip)) (iS [aM 8 3,iA 9 (iK 195 [8]),aQ 10 .rem 3 9 4,aM 2 10] .ret)))
theorem jiF:fnC Tryz.prog Tryz.f170=some (jfg,[.t 2],11):=by kernel_rfl
def jfu:C:=iS [aN 2 0] (iS [aM 4 0,iA 5 (iK 153 [4]),aM 3 5] (.seq (iS [aM 6 3,iA 7 (.bin .eql 9 (.t 6) (.c (.string ⟨⟨[]⟩⟩)))] (iD 7 (iS [aN 2 0] .ret) .skip)) (iS [aM 8 3,iA 9 (iK 98 [8]),aQ 10 .rem 3 9 4,aM 2 10] .ret)))
theorem jiT:fnC Tryz.prog Tryz.f165=some (jfu,[.t 2],11):=by kernel_rfl
def jfd:C:=iS [iA 2 (.mov (.c (.string ⟨⟨[]⟩⟩)))] (.seq (iS [aM 4 0,iA 5 (.call 68 [.t 4,oI 0,oI 1000000000]),aU 6 5] (iD 6 (iS [iA 2 (.mov (.c (.string ⟨⟨[]⟩⟩)))] .ret) .skip)) (iS [iA 7 (.bsl 5 1 0 [] []),aM 3 7] (.seq (.blk 0 (.loop (.seq (iS [aM 8 0,aQ 9 .gtr 3 8 127] (iD 9 .skip (.exit 0))) (.blk 1 (iS [aM 10 3,aM 11 0,aQ 12 .rem 3 11 128,iA 13 (.bin .add 3 (oI 128) (.t 12)),iA 14 (.cv (.num .u8) 0 (.t 13)),iA 15 (.bsl 5 1 1 [none] [(0,1,.t 14)]),iA 16 (.app 5 1 1 (.t 10) (.t 15)),aM 3 16] (.reg [aM 17 0,aQ 18 .quo 3 17 128,aM 0 18])))))) (iS [aM 19 3,aM 20 0,iA 21 (.cv (.num .u8) 0 (.t 20)),iA 22 (.bsl 5 1 1 [none] [(0,1,.t 21)]),iA 23 (.app 5 1 1 (.t 19) (.t 22)),iA 24 (.cv .text 5 (.t 23)),aM 2 24] .ret))))
theorem jiC:fnC Tryz.prog Tryz.f159=some (jfd,[.t 2],25):=by kernel_rfl
def jfq:C:=iS [iA 2 (.mov (.c (.string ⟨⟨[]⟩⟩)))] (.seq (iS [aM 4 0,iA 5 (.call 62 [.t 4,oI 0,oI 1000000000]),aU 6 5] (iD 6 (iS [iA 2 (.mov (.c (.string ⟨⟨[]⟩⟩)))] .ret) .skip)) (iS [iA 3 (.mov (.c (.slice none 0 0)))] (.seq (.blk 0 (.loop (.seq (iS [aM 7 0,aQ 8 .geq 3 7 128] (iD 8 .skip (.exit 0))) (.blk 1 (iS [aM 9 3,aM 10 0,aQ 11 .rem 3 10 128,aQ 12 .add 3 11 128,iA 13 (.cv (.num .u8) 0 (.t 12)),iA 14 (.bsl 5 1 1 [none] [(0,1,.t 13)]),iA 15 (.app 5 1 1 (.t 9) (.t 14)),aM 3 15] (.reg [aM 16 0,aQ 17 .quo 3 16 128,aM 0 17])))))) (iS [aM 18 3,aM 19 0,iA 20 (.cv (.num .u8) 0 (.t 19)),iA 21 (.bsl 5 1 1 [none] [(0,1,.t 20)]),iA 22 (.app 5 1 1 (.t 18) (.t 21)),iA 23 (.cv .text 5 (.t 22)),aM 2 23] .ret))))
theorem jiP:fnC Tryz.prog Tryz.f153=some (jfq,[.t 2],24):=by kernel_rfl
def jdJ:C:=iS [aN 2 0] (iS [aN 3 4294967295] (.seq (iS [aN 4 0] (.blk 0 (.loop (.seq (iS [aM 7 4,aM 8 0,iA 9 (.len true (.t 8)),aP 10 .lss 3 7 9] (iD 10 .skip (.exit 0))) (.seq (.blk 1 (iS [aM 13 3,aM 14 0,aM 15 4,iA 16 (.sidx (.t 14) (.t 15)),iA 17 (.cv (.num .i64) 0 (.t 16)),aP 18 .xor 3 13 17,aM 3 18] (iS [aN 5 0] (.blk 2 (.loop (.seq (iS [aM 19 5,aQ 20 .lss 3 19 8] (iD 20 .skip (.exit 2))) (.seq (.blk 3 (iS [aM 23 3,aQ 24 .rem 3 23 2,aQ 25 .eql 3 24 1,aM 6 25] (iS [aM 26 3,aQ 27 .quo 3 26 2,aM 3 27] (iS [aM 28 6] (iD 28 (.reg [aM 29 3,aQ 30 .xor 3 29 3988292384,aM 3 30]) .skip))))) (.reg [aM 21 5,aQ 22 .add 3 21 1,aM 5 22])))))))) (.reg [aM 11 4,aQ 12 .add 3 11 1,aM 4 12])))))) (iS [aM 31 3,aQ 32 .xor 3 31 4294967295,aM 2 32] .ret)))
theorem jlA:fnC Tryz.prog Tryz.f195=some (jdJ,[.t 2],33):=by kernel_rfl
def jqG:C:=iS [aN 2 0] (iS [aN 3 4294967295] (.seq (iS [aN 4 0] (.blk 0 (.loop (.seq (iS [aM 7 4,aM 8 0,iA 9 (.len true (.t 8)),aP 10 .lss 3 7 9] (iD 10 .skip (.exit 0))) (.seq (.blk 1 (iS [aM 13 3,aM 14 0,aM 15 4,iA 16 (.sidx (.t 14) (.t 15)),iA 17 (.cv (.num .i64) 0 (.t 16)),aP 18 .xor 3 13 17,aM 3 18] (iS [aN 5 0] (.blk 2 (.loop (.seq (iS [aM 19 5,aQ 20 .lss 3 19 8] (iD 20 .skip (.exit 2))) (.seq (.blk 3 (iS [aM 23 3,aQ 24 .rem 3 23 2,aQ 25 .eql 3 24 1,aM 6 25] (iS [aM 26 3,aQ 27 .quo 3 26 2,aM 3 27] (iS [aM 28 6] (iD 28 (.reg [aM 29 3,aQ 30 .xor 3 29 3988292384,aM 3 30]) .skip))))) (.reg [aM 21 5,aQ 22 .add 3 21 1,aM 5 22])))))))) (.reg [aM 11 4,aQ 12 .add 3 11 1,aM 4 12])))))) (iS [aM 31 3,aQ 32 .xor 3 31 4294967295,aM 2 32] .ret)))
theorem jlH:fnC Tryz.prog Tryz.f98=some (jqG,[.t 2],33):=by kernel_rfl
def jjf:C:=iS [aO 6 false] (iS [aM 7 0,aM 8 1,aP 9 .geq 3 7 8,aM 10 9,iB 11 10 true (iM 0),iB 12 10 true (iM 2),iB 13 10 true (iP .leq 3 11 12),iA 14 (iY 10 (.t 13) (oF)),aM 6 14] .ret)
theorem jly:fnC Tryz.prog Tryz.f68=some (jjf,[.t 6],15):=by kernel_rfl
def jhz:C:=iS [aO 6 false] (iS [aM 7 0,aM 8 1,aP 9 .geq 3 7 8,aM 10 9,iB 11 10 true (iM 0),iB 12 10 true (iM 2),iB 13 10 true (iP .leq 3 11 12),iA 14 (iY 10 (.t 13) (oF)),aM 6 14] .ret)
theorem jjO:fnC Tryz.prog Tryz.f62=some (jhz,[.t 6],15):=by kernel_rfl
theorem jK (a b c:Int):jZ Tryz.prog 68 [.c (.val (.int .i64 a)),.c (.val (.int .i64 b)),.c (.val (.int .i64 c))] (.c (.val (.bool (decide (b<=a/\a<=c))))):=by
 refine pf_ jly ?_;unfold jjf;by_cases h:b<=a
 ·simp only [go_sem,h]
 ·simp only [go_sem,h]
theorem jx (a b c:Int):jZ Tryz.prog 62 [.c (.val (.int .i64 a)),.c (.val (.int .i64 b)),.c (.val (.int .i64 c))] (.c (.val (.bool (decide (b<=a/\a<=c))))):=by
 refine pf_ jjO ?_;unfold jhz;by_cases h:b<=a
 ·simp only [go_sem,h]
 ·simp only [go_sem,h]
def za (v:Nat):List UInt8:=if v<128 then [UInt8.ofNat v] else UInt8.ofNat (128+v%128)::za (v/128)
termination_by v
decreasing_by omega
theorem jnz (v:Nat):(za v).length<=v+1:=by
 induction v using Nat.strongRecOn with
 |_ v ih=>
  unfold za;split
  ·simp
  ·have:=ih (v/128) (by omega)
   simp only [aPI];omega
def jd8 (n:Int):ByteArray:=if 0<=n/\n<=1000000000 then ⟨(za n.toNat).toArray⟩ else ⟨#[]⟩
theorem jAm {v:Nat} (h:v<256):D.val (.int .u8 (IntKind.u8.wrap (v:Int)))=qv (UInt8.ofNat v):=by
 have:IntKind.u8.wrap (v:Int)=v:=IntWalk.u8_in _ (by omega)
 rw [this];simp [qv,Nat.mod_eq_of_lt h]
theorem jnC (v:Nat):Int.tdiv (v:Int) 128=((v/128:Nat):Int):=rfl
theorem jnB (v:Nat):Int.tmod (v:Int) 128=((v%128:Nat):Int):=rfl
theorem jhY {n:Nat} (h:n<=1000000000):jd8 (n:Int)=⟨(za n).toArray⟩:=by simp [jd8];omega
theorem jeO (n:Int):jZ Tryz.prog 159 [.c (.val (.int .i64 n))] (.c (.val (.string (jd8 n)))):=by
 refine pf_ jiC ?_;unfold jfd;simp only [go_sem];refine jk (jK n 0 1000000000) λη=>?_
 by_cases h:0<=n/\n<=1000000000
 ·obtain ⟨n,rfl⟩:=Int.eq_ofNat_of_zero_le h.1
  have hn:n<=1000000000:=by omega
  rw [jhY hn];simp only [go_sem,h];intro dF;have uN:=jnz n;refine qI (λs=>∃(l:List UInt8) (v:Nat) (g:Nat) (η:jg),l++za v=za n/\v<=n/\(g=700\/g=1600)/\s.t 0=.c (.v (.int .i64 v))/\s.t 3=.c (.h g 0 [] (η []))/\s.o g=.loose (.sl 1 5 (l.map qv)) η) (λs=>s.n 0) ?_ ?_
  ·exact ⟨[],n,700,dF,rfl,aPD _,.inl rfl,by simp only [go_sem],by simp only [go_sem],by simp only [go_sem]⟩
  ·rintro s ⟨l,v,g,η,hl,hv,hg,h0,h3,ho⟩
   have eR:l.length<=1000000001:=by have:=congrArg List.length hl;simp only [aOU] at this;omega
   by_cases aB:128<=v
   ·have aA:(127:Int)<v:=by omega
    have hw:IntKind.i64.wrap (128+((v%128:Nat):Int))=((128+v%128:Nat):Int):=by rw [kU (by omega) (by omega)];omega
    have bX:IntKind.i64.wrap ((v/128:Nat):Int)=((v/128:Nat):Int):=zm;have hb:=jAm (v:=128+v%128) (by omega)
    have e':l++za v=(l++[UInt8.ofNat (128+v%128)])++za (v/128):=by rw [za,if_neg (by omega)];simp
    rcases hg with rfl|rfl
    ·simp only [go_sem,h0,h3,ho,aA,jnC,jnB,hw,bX]
     intro aS;refine ⟨by simp [maxLen];try omega,by simp;try omega,λbY=>⟨⟨_,v/128,1600,bY,e'.symm.trans hl,by omega,.inr rfl,rfl,rfl,by simp only [go_sem,hb,aRF]⟩,?_⟩⟩
     rw [jaG (k:=.i64) (n:=((v/128:Nat):Int)) (by simp only [go_sem]),jaG h0];omega
    ·simp only [go_sem,h0,h3,ho,aA,jnC,jnB,hw,bX]
     intro aS;refine ⟨by simp [maxLen];try omega,by simp;try omega,λbY=>⟨⟨_,v/128,1600,bY,e'.symm.trans hl,by omega,.inr rfl,rfl,rfl,by simp only [go_sem,hb,aRF]⟩,?_⟩⟩
     rw [jaG (k:=.i64) (n:=((v/128:Nat):Int)) (by simp only [go_sem]),jaG h0];omega
   ·have aA:¬(127:Int)<v:=by omega
    have hb:=jAm (v:=v) (by omega)
    have e':l++za v=l++[UInt8.ofNat v]:=by rw [za,if_pos (by omega)]
    have bO:za n=l++[UInt8.ofNat v]:=by rw [<-hl,e']
    rcases hg with rfl|rfl
    ·simp only [go_sem,h0,h3,ho,aA]
     intro aS;refine ⟨by simp [maxLen];try omega,by simp;try omega,λbY=>jgV (bs:=za n) rfl rfl (by rw [bO];simp only [go_sem,hb,aRF]) ?_⟩
     simp only [go_sem]
    ·simp only [go_sem,h0,h3,ho,aA]
     intro aS;refine ⟨by simp [maxLen];try omega,by simp;try omega,λbY=>jgV (bs:=za n) rfl rfl (by rw [bO];simp only [go_sem,hb,aRF]) ?_⟩
     simp only [go_sem]
 ·simp only [go_sem,h]
  simp [jd8,h]
theorem jae (n:Int):jZ Tryz.prog 153 [.c (.val (.int .i64 n))] (.c (.val (.string (jd8 n)))):=by
 refine pf_ jiP ?_;unfold jfq;simp only [go_sem];refine jk (jx n 0 1000000000) λη=>?_
 by_cases h:0<=n/\n<=1000000000
 ·obtain ⟨n,rfl⟩:=Int.eq_ofNat_of_zero_le h.1
  have hn:n<=1000000000:=by omega
  rw [jhY hn];simp only [go_sem,h];have uN:=jnz n;refine qI (λs=>∃(l:List UInt8) (v:Nat),l++za v=za n/\v<=n/\s.t 0=.c (.v (.int .i64 v))/\((l=[]/\s.t 3=.c (.v (.slice none 0 0)))\/∃η,s.t 3=.c (.h 1500 0 [] (η []))/\s.o 1500=.loose (.sl 1 5 (l.map qv)) η)) (λs=>s.n 0) ?_ ?_
  ·exact ⟨[],n,rfl,aPD _,by simp only [go_sem],.inl ⟨rfl,by simp only [go_sem]⟩⟩
  ·rintro s ⟨l,v,hl,hv,h0,hg⟩
   have eR:l.length<=1000000001:=by have:=congrArg List.length hl;simp only [aOU] at this;omega
   by_cases aB:128<=v
   ·have aA:(128:Int)<=v:=by omega
    have hw:IntKind.i64.wrap (((v%128:Nat):Int)+128)=((128+v%128:Nat):Int):=by rw [kU (by omega) (by omega)];omega
    have bX:IntKind.i64.wrap ((v/128:Nat):Int)=((v/128:Nat):Int):=zm;have hb:=jAm (v:=128+v%128) (by omega)
    have e':l++za v=(l++[UInt8.ofNat (128+v%128)])++za (v/128):=by rw [za,if_neg (by omega)];simp
    rcases hg with ⟨rfl,h3⟩|⟨η,h3,ho⟩
    ·simp only [go_sem,h0,h3,aPU,aA,maxLen,jnC,jnB,hw,bX]
     intro aS;intro bY;refine ⟨⟨_,v/128,e'.symm.trans hl,by omega,rfl,.inr ⟨bY,rfl,by simp only [go_sem,hb]⟩⟩,?_⟩
     rw [jaG (k:=.i64) (n:=((v/128:Nat):Int)) (by simp only [go_sem]),jaG h0];omega
    ·simp only [go_sem,h0,h3,ho,aA,jnC,jnB,hw,bX]
     intro aS;refine ⟨by simp [maxLen];try omega,by simp;try omega,λbY=>⟨⟨_,v/128,e'.symm.trans hl,by omega,rfl,.inr ⟨bY,rfl,by simp only [go_sem,hb,aRF]⟩⟩,?_⟩⟩
     rw [jaG (k:=.i64) (n:=((v/128:Nat):Int)) (by simp only [go_sem]),jaG h0];omega
   ·have aA:¬(128:Int)<=v:=by omega
    have hb:=jAm (v:=v) (by omega)
    have e':l++za v=l++[UInt8.ofNat v]:=by rw [za,if_pos (by omega)]
    have bO:za n=l++[UInt8.ofNat v]:=by rw [<-hl,e']
    rcases hg with ⟨rfl,h3⟩|⟨η,h3,ho⟩
    ·simp only [go_sem,h0,h3,aPU,aA,maxLen]
     intro aS bY;refine jgV (bs:=za n) rfl rfl (by rw [bO];simp only [go_sem,hb]) ?_
     simp only [go_sem]
    ·simp only [go_sem,h0,h3,ho,aA]
     intro aS;refine ⟨by simp [maxLen];try omega,by simp;try omega,λbY=>jgV (bs:=za n) rfl rfl (by rw [bO];simp only [go_sem,hb,aRF]) ?_⟩
     simp only [go_sem]
 ·simp only [go_sem,h]
  simp [jd8,h]
def jvo (a b:Int):Int:=IntKind.i64.wrap ((BitVec.ofInt 64 a^^^BitVec.ofInt 64 b).toNat)
def jmE (c:Int):Int:=if (c.tmod 2==1)=true then jvo (IntKind.i64.wrap (c.tdiv 2)) 3988292384 else IntKind.i64.wrap (c.tdiv 2)
def jp7:Nat->Int->Int
 |0,c=>c
 |n+1,c=>jmE (jp7 n c)
def jAE (c:Int) (b:UInt8):Int:=jp7 8 (jvo c (IntKind.i64.wrap b.toNat))
def jDB (b:ByteArray):Int:=jvo (b.data.toList.foldl jAE 4294967295) 4294967295
theorem ju1 {α β:Type} (f:β->α->β) (c:β) {l:List α} {k:Nat} {x:α} (h:l[k]?=some x):(l.take (k+1)).foldl f c=f ((l.take k).foldl f c) x:=by
 rw [aPE,h];simp
theorem jvC {P:Program} (b:ByteArray) (hb:b.size<9223372036854775807):wpC P 0 jdJ (jzf [.t 2] (.c (.val (.int .i64 (jDB b))))) (St.init [.c (.val (.string b))]):=by
 unfold jdJ;simp only [go_sem];refine qI (λs=>∃k:Nat,k<=b.size/\s.t 0=.c (.v (.string b))/\s.t 4=.c (.v (.int .i64 k))/\s.t 3=.c (.v (.int .i64 ((b.data.toList.take k).foldl jAE 4294967295)))) (λs=>b.size-s.n 4) ?_ ?_
 ·exact ⟨0,aPP _,by simp only [go_sem],by simp only [go_sem]<;>rfl,by simp only [go_sem]<;>rfl⟩
 ·rintro s ⟨k,hk,h0,h4,h3⟩
  by_cases aB:k<b.size
  ·have aA:(k:Int)<b.size:=by omega
   obtain ⟨u,hu⟩:∃u,b[k]?=some u:=⟨b[k],by simp [aB]⟩
   have hu':b.data.toList[k]?=some u:=by
    rw [<-hu,getElem?_pos b k aB];simp only [Array.getElem?_toList];exact getElem?_pos b.data k aB
   have hw4:=kw k;simp only [go_sem,h0,h3,h4,aA];refine ⟨u,hu,?_⟩;refine qI (λs=>∃j:Nat,j<=8/\s.t 0=.c (.v (.string b))/\s.t 4=.c (.v (.int .i64 k))/\s.t 5=.c (.v (.int .i64 j))/\s.t 3=.c (.v (.int .i64 (jp7 j (jvo ((b.data.toList.take k).foldl jAE 4294967295) (IntKind.i64.wrap u.toNat)))))) (λs=>8-s.n 5) ?_ ?_
   ·exact ⟨0,aPP _,by simp only [go_sem,h0],by simp only [go_sem,h4],by simp only [go_sem]<;>rfl,by simp only [go_sem]<;>rfl⟩
   ·rintro s' ⟨j,hj,eU,sI,mV,lL⟩
    by_cases hj':j<8
    ·have nS:(j:Int)<8:=by omega
     have hw:=kw j;cases rU:(jp7 j (jvo ((b.data.toList.take k).foldl jAE 4294967295) (IntKind.i64.wrap u.toNat))).tmod 2==1 with
     |true=>
      simp only [go_sem,eU,sI,mV,lL,nS,rU,hw];exact ⟨⟨j+1,by omega,rfl,by simp only [jp7,jmE,rU,↓reduceIte];rfl⟩,by rw [jaG (k:=.i64) (n:=((j+1:Nat):Int)) (by simp only [go_sem]),jaG mV];omega⟩
     |false=>
      simp only [go_sem,eU,sI,mV,lL,nS,rU,hw];exact ⟨⟨j+1,by omega,rfl,by simp only [jp7,jmE,rU,aRG,↓reduceIte]⟩,by rw [jaG (k:=.i64) (n:=((j+1:Nat):Int)) (by simp only [go_sem]),jaG mV];omega⟩
    ·have nS:¬(j:Int)<8:=by omega
     have hj8:j=8:=by omega
     subst hj8;simp only [go_sem,eU,sI,mV,lL,hw4];exact ⟨⟨k+1,by omega,rfl,by rw [ju1 _ _ hu'];rfl⟩,by rw [jaG (k:=.i64) (n:=((k+1:Nat):Int)) (by simp only [go_sem]),jaG h4];omega⟩
  ·have aA:¬(k:Int)<b.size:=by omega
   have hkk:b.data.toList.take k=b.data.toList:=aOW (by simp only [aRM];exact Nat.le_of_not_lt aB)
   simp only [go_sem,h0,h3,h4,aA,hkk];rfl
theorem jpG (b:ByteArray) (hb:b.size<9223372036854775807):jZ Tryz.prog 195 [.c (.val (.string b))] (.c (.val (.int .i64 (jDB b)))):=
 jfH Tryz.func195 jlA (by simp) (jvC b hb)
theorem jpO (b:ByteArray) (hb:b.size<9223372036854775807):jZ Tryz.prog 98 [.c (.val (.string b))] (.c (.val (.int .i64 (jDB b)))):=
 jfH Tryz.func98 jlH (by simp) (jvC b hb)
def jda (n:Int):Int:=if ((jd8 n).toList==ByteArray.toList ⟨⟨[]⟩⟩)=true then 0 else (jDB (jd8 n)).tmod 4
theorem jmC (n:Int):(jd8 n).size<9223372036854775807:=by
 unfold jd8;split
 ·have:=jnz n.toNat
  show (za n.toNat).toArray.size<_;simp only [List.size_toArray];omega
 ·decide
theorem jeP (n:Int):jZ Tryz.prog 170 [.c (.val (.int .i64 n))] (.c (.val (.int .i64 (jda n)))):=by
 refine pf_ jiF ?_;unfold jfg;simp only [go_sem];refine jk (jeO n) λη=>?_
 cases he:(jd8 n).toList==ByteArray.toList ⟨⟨[]⟩⟩ with
 |true=>
  simp only [go_sem,he];simp only [jda,he,if_true]
 |false=>
  simp only [go_sem,he];refine jk (jpG _ (jmC n)) λη=>?_
  simp only [go_sem];simp only [jda,he,aRG,if_false]
theorem jeS (n:Int):jZ Tryz.prog 165 [.c (.val (.int .i64 n))] (.c (.val (.int .i64 (jda n)))):=by
 refine pf_ jiT ?_;unfold jfu;simp only [go_sem];refine jk (jae n) λη=>?_
 cases he:(jd8 n).toList==ByteArray.toList ⟨⟨[]⟩⟩ with
 |true=>
  simp only [go_sem,he];simp only [jda,he,if_true]
 |false=>
  simp only [go_sem,he];refine jk (jpO _ (jmC n)) λη=>?_
  simp only [go_sem];simp only [jda,he,aRG,if_false]
def je9:C:=iS [iA 1 (.box 49 5 (.t 0)),iA 2 wAR] (iS [iA 3 (.bsl 161 2 0 [] []),aF 4 4 1,aL 5 4,iA 6 (.app 161 2 16 (.t 3) (.t 5)),aF 7 4 1,wAK 7 6] (iS [aT 8 5 1,wAF 2 8] .ret))
theorem jiy:fnC Tryz.prog Tryz.f168=some (je9,[.cell 2 true 5],9):=by kernel_rfl
def jdX:C:=iS [iA 1 (.box 49 5 (.t 0)),iA 2 wAR] (iS [aF 3 4 1,aL 4 3,iA 5 (.app 161 2 16 (.c (.slice none 0 0)) (.t 4)),aF 6 4 1,wAK 6 5] (iS [aT 7 5 1,wAF 2 7] .ret))
theorem jhb:fnC Tryz.prog Tryz.f163=some (jdX,[.cell 2 true 5],8):=by kernel_rfl
theorem jeN (p:Pl) (hb:p.aOI.length<=4000000):jZ Tryz.prog 168 [.agg (je p)] (.agg (je p)):=by
 refine pf_ jiy ?_;unfold je9;have h1:p.aOI.length<=maxLen:=vT;have h2:p.aOI.length*16<=140737488355328:=by omega
 simp only [go_sem,je,h1,h2,jlj]
theorem jdk (p:Pl) (hb:p.aOI.length<=4000000):jZ Tryz.prog 163 [.agg (je p)] (.agg (je p)):=by
 refine pf_ jhb ?_;unfold jdX;have h1:p.aOI.length<=maxLen:=vT;have h2:p.aOI.length*16<=140737488355328:=by omega
 simp only [go_sem,je,h1,h2,jlj]
theorem jh1 {y:Yd} (h:jB y<=2000000):y.aOH.length<=2000000:=by
 simp only [jB,jaQ] at h;omega
theorem jsB {y:Yd} (h:jB y<=2000000):y.aOE.length<=2000000:=by
 simp only [jB,jbG] at h;omega
theorem flat_le (l:List (List En)):l.flatten.length<=jbG l:=by
 induction l with
 |nil=>simp
 |cons x l ih=>
  simp only [aSB,aOU,jbG,aPI,vh,aQX,aRV,zb] at ih⊢;omega
theorem jlk {l:List (List En)} {k:Nat} {x:List En} (h:l[k]?=some x):(l.take (k+1)).flatten=(l.take k).flatten++x:=by
 rw [aPE,h];simp
theorem jdw (l:List (List En)) (k:Nat):(l.take k).flatten.length<=l.flatten.length:=by
 have h:l.flatten=(l.take k).flatten++(l.drop k).flatten:=by rw [<-List.flatten_append,aQR]
 rw [h,aOU];omega
theorem vi {y:Yd} (h:jB y<=2000000):y.aOE.flatten.length<=2000000:=by
 have:=flat_le y.aOE;simp only [jB] at h;omega
def ql (y:Yd):List En:=y.aOE.flatten.filter (jJ y)
theorem jzk (y:Yd) (h:jB y<=2000000):(ql y).length<=2000000:=aQJ (aPT _ _) (vi h)
theorem jfK {α:Type} {f:α->Bool} {l:List α} {k:Nat} {x:α} (h:l[k]?=some x):(l.take (k+1)).filter f=if f x=true then (l.take k).filter f++[x] else (l.take k).filter f:=by
 rw [aPE,h];cases hx:f x<;>simp [aRD,hx]
open Go.RowKit Go.Sort Go.BigFrame
open Go.RowKit Go.Sort Go.BigFrame
open Go.RowKit Go.Sort Go.BigFrame
open Go.RowKit Go.Sort Go.BigFrame
theorem ci {P:Program} {f:FuncId} {args:Array Value} {w:World} {b b':Int} (h:Calls P f args w λe w'=>e=.returned (.int .i64 b)/\Below w.heap.size w w') (hb:b=b'):Calls P f args w λe w'=>e=.returned (.int .i64 b')/\Below w.heap.size w w':=by subst hb;exact h
section
variable {w w':World} {own:Bool} {d:D} {v:Value} {S:List Nat}
theorem upA (h:Rep w own d v S) (o:Obj):Rep (w.alloc o) own d v S:=Rep.keep d h λb hb=>Below.heap_alloc w o b (Rep.lt d h b hb)
theorem up (h:Rep w own d v S) (hb:Below w.heap.size w w'):Rep w' own d v S:=h.below hb (aPD _)
theorem upB {w0:World} (h:Below w0.heap.size w0 w) (o:Obj):Below w0.heap.size w0 (w.alloc o):=h.alloc h.size o
end
open Go.RowKit Go.Sort Go.BigFrame
theorem cto {w w1:World} {b o:Nat} {v:Value} (hB:Below w.heap.size w w1) (h:w.cell? ⟨b,o,none⟩=some v):w1.cell? ⟨b,o,none⟩=some v:=
 (hB.cell (p:=⟨b,o,none⟩) (World.block_lt_of_cell? w _ h)).trans h
@[go_sem high] theorem equalEd (w:World) (x y:Ed):(Op.equalIn 10000 161 (.agg #[.int .i64 x.src,.int .i64 x.dst]) (.agg #[.int .i64 y.src,.int .i64 y.dst])).run Tryz.prog w=.ok (decide (x=y)) w:=by
  have u3:=Tryz.underlying3;have a3:=Tryz.isAgg3;have z3:=Tryz.sizeOf3;rw [show (10000:Nat)=9999+1 from rfl,run_equalIn_agg w 9999 161 _ _ (by kernel_rfl) (by kernel_rfl)]
  simp only [Program.fieldsOf,Tryz.underlying161];obtain ⟨xsrc,xdst⟩:=x;obtain ⟨ysrc,ydst⟩:=y
  go_simp
  by_cases h0:xsrc=ysrc<;>by_cases h1:xdst=ydst<;>simp [h0,h1]
@[go_sem high] theorem equalEn (w:World) (x y:En):(Op.equalIn 10000 44 (.agg #[.int .i64 x.aOL,.int .i64 x.seq,.int .i64 x.run,.int .i64 x.aOK]) (.agg #[.int .i64 y.aOL,.int .i64 y.seq,.int .i64 y.run,.int .i64 y.aOK])).run Tryz.prog w=.ok (decide (x=y)) w:=by
  have u3:=Tryz.underlying3;have a3:=Tryz.isAgg3;have z3:=Tryz.sizeOf3;rw [show (10000:Nat)=9999+1 from rfl,run_equalIn_agg w 9999 44 _ _ (by kernel_rfl) (by kernel_rfl)]
  simp only [Program.fieldsOf,Tryz.underlying44];obtain ⟨xprio,xseq,xrun,xtask⟩:=x;obtain ⟨yprio,yseq,yrun,ytask⟩:=y
  go_simp
  by_cases h0:xprio=yprio<;>by_cases h1:xseq=yseq<;>by_cases h2:xrun=yrun<;>by_cases h3:xtask=ytask<;>simp [h0,h1,h2,h3]
@[go_sem high] theorem equalTk (w:World) (x y:Tk):(Op.equalIn 10000 46 (.agg #[.int .i64 x.aOG,.int .i64 x.aOO,.int .i64 x.tri,.int .i64 x.til]) (.agg #[.int .i64 y.aOG,.int .i64 y.aOO,.int .i64 y.tri,.int .i64 y.til])).run Tryz.prog w=.ok (decide (x=y)) w:=by
  have u3:=Tryz.underlying3;have a3:=Tryz.isAgg3;have z3:=Tryz.sizeOf3;rw [show (10000:Nat)=9999+1 from rfl,run_equalIn_agg w 9999 46 _ _ (by kernel_rfl) (by kernel_rfl)]
  simp only [Program.fieldsOf,Tryz.underlying46];obtain ⟨xstate,xneed,xtri,xtil⟩:=x;obtain ⟨ystate,yneed,ytri,ytil⟩:=y
  go_simp
  by_cases h0:xstate=ystate<;>by_cases h1:xneed=yneed<;>by_cases h2:xtri=ytri<;>by_cases h3:xtil=ytil<;>simp [h0,h1,h2,h3]
theorem juZ (l m:List Ed) (a b:Value) (S S':List Nat) (w:World) (own own':Bool) (ha:Rep w own (jn l) a S) (hb:Rep w own' (jn m) b S'):
 Calls Tryz.prog 185 #[a,b] w λe w'=>e=.returned (.bool (decide (l=m)))/\Below w.heap.size w w':=by
 obtain ⟨A,c,rfl,cT,cY,cM⟩:=Rep.open_ (size:=2) (enc:=kb) (λ_=>rfl) (by decide) ha
 obtain ⟨B,d,rfl,mQ,fC,dA⟩:=Rep.open_ (size:=2) (enc:=kb) (λ_=>rfl) (by decide) hb
 unfold maxLen at cY fC;have gM:l.length<=9223372036854775807:=by omega
 have mC:m.length<=9223372036854775807:=by omega
 clear ha hb;by_cases aC:l.length=m.length
 ·have HL:=Lib.hid aC
  have aK:((l.length:Int) !=(m.length:Int))=false:=by rw [aC];simp
  clear aC
  go_enter Tryz.func185,Tryz.ntmps185
  go_wp2
  go_loopw [5,13] (λ_ i wr=>∃k:Nat,k<=l.length/\i=.int .i64 k/\l.take k=m.take k/\Below w.heap.size w wr) (λ_ i _=>l.length-(intOf i).toNat)
  case atStart=>exact ⟨0,by omega,rfl,rfl,Below.refl _ _⟩
  case round=>
   obtain ⟨k,hk,rfl,dJ,aD⟩:=hrel;have HQ:=Lib.hid dJ;clear dJ;by_cases aB:k<l.length
   ·have aA:k<m.length:=by have:=HL.out;omega
    obtain ⟨x,hx⟩:=ja aB;obtain ⟨y,hy⟩:=ja aA;obtain ⟨b1,o1,vk1,T1,rfl,-,cK,-,-,aZ,bA⟩:=cM k x hx;obtain ⟨b2,o2,vk2,T2,rfl,-,bZ,-,-,bF,bG⟩:=dA k y hy;clear cM dA;obtain ⟨rfl,rfl⟩:=jts cK;obtain ⟨rfl,rfl⟩:=jts bZ;have HX:=Lib.hid hx;have HY:=Lib.hid hy;clear hx hy;have p0:=cell_regrown (cto (b:=b1) (o:=o1+k*2) aD (bA 0 _ rfl));have q0:=cell_regrown (cto (b:=b2) (o:=o2+k*2) aD (bG 0 _ rfl));have p1:=cell_regrown (cto (b:=b1) (o:=o1+k*2+1) aD (bA 1 _ rfl));have q1:=cell_regrown (cto (b:=b2) (o:=o2+k*2+1) aD (bG 1 _ rfl));clear bA bG cK bZ;by_cases eM:x=y
    ·have HXY:=Lib.hid eM
     have hd:decide (x=y)=true:=decide_eq_true eM;clear eM
     go_wp2
     refine wp_region_quiet_below (by kernel_rfl) (by kernel_rfl) ?_
     repeat (go_big_quiet_step (fail))
     refine wpQuiet_nil ?_;intro _ hw';obtain ⟨⟨dq,osq⟩,hw''⟩:=hw';subst hw'';have eL:=aD.trans ((below_regrown wr dq osq).mono aD.size)
     go_wp2
     go_roundw
     case rel=>exact ⟨k+1,by omega,by go_num,jgR HX.out (HXY.out▸HY.out) HQ.out,eL⟩
     case measure=>simp [intOf];omega
    ·have HXY:=Lib.hid eM
     have hd:decide (x=y)=false:=decide_eq_false eM;clear eM
     go_wp2
     refine wp_region_quiet_below (by kernel_rfl) (by kernel_rfl) ?_
     repeat (go_big_quiet_step (fail))
     refine wpQuiet_nil ?_;intro _ hw';obtain ⟨⟨dq,osq⟩,hw''⟩:=hw';subst hw'';have eL:=aD.trans ((below_regrown wr dq osq).mono aD.size)
     go_wp2
     go_ret
     exact ⟨jH (decide_eq_false (jqr HX.out HY.out HXY.out)).symm,eL⟩
   ·clear cM dA
    go_wp2
    go_ret
    exact ⟨jH (decide_eq_true (jgS (k:=k) (by omega) (by have:=HL.out;omega) HQ.out)).symm,aD⟩
 ·have aK:((l.length:Int) !=(m.length:Int))=true:=bne_iff_ne.2 (by omega)
  clear cM dA
  go_enter Tryz.func185,Tryz.ntmps185
  go_wp2
  go_ret
  exact ⟨jH (decide_eq_false (λe=>aC (by rw [e]))).symm,Below.refl _ _⟩
theorem juY (l m:List En) (a b:Value) (S S':List Nat) (w:World) (own own':Bool) (ha:Rep w own (jf l) a S) (hb:Rep w own' (jf m) b S'):
 Calls Tryz.prog 156 #[a,b] w λe w'=>e=.returned (.bool (decide (l=m)))/\Below w.heap.size w w':=by
 obtain ⟨A,c,rfl,cT,cY,cM⟩:=Rep.open_ (size:=4) (enc:=jj) (λ_=>rfl) (by decide) ha
 obtain ⟨B,d,rfl,mQ,fC,dA⟩:=Rep.open_ (size:=4) (enc:=jj) (λ_=>rfl) (by decide) hb
 unfold maxLen at cY fC;have gM:l.length<=9223372036854775807:=by omega
 have mC:m.length<=9223372036854775807:=by omega
 clear ha hb;by_cases aC:l.length=m.length
 ·have HL:=Lib.hid aC
  have aK:((l.length:Int) !=(m.length:Int))=false:=by rw [aC];simp
  clear aC
  go_enter Tryz.func156,Tryz.ntmps156
  go_wp2
  go_loopw [5,13] (λ_ i wr=>∃k:Nat,k<=l.length/\i=.int .i64 k/\l.take k=m.take k/\Below w.heap.size w wr) (λ_ i _=>l.length-(intOf i).toNat)
  case atStart=>exact ⟨0,by omega,rfl,rfl,Below.refl _ _⟩
  case round=>
   obtain ⟨k,hk,rfl,dJ,aD⟩:=hrel;have HQ:=Lib.hid dJ;clear dJ;by_cases aB:k<l.length
   ·have aA:k<m.length:=by have:=HL.out;omega
    obtain ⟨x,hx⟩:=ja aB;obtain ⟨y,hy⟩:=ja aA;obtain ⟨b1,o1,vk1,T1,rfl,-,cK,-,-,aZ,bA⟩:=cM k x hx;obtain ⟨b2,o2,vk2,T2,rfl,-,bZ,-,-,bF,bG⟩:=dA k y hy;clear cM dA;obtain ⟨rfl,rfl⟩:=jco cK;obtain ⟨rfl,rfl⟩:=jco bZ;have HX:=Lib.hid hx;have HY:=Lib.hid hy;clear hx hy;have p0:=cell_regrown (cto (b:=b1) (o:=o1+k*4) aD (bA 0 _ rfl));have q0:=cell_regrown (cto (b:=b2) (o:=o2+k*4) aD (bG 0 _ rfl));have p1:=cell_regrown (cto (b:=b1) (o:=o1+k*4+1) aD (bA 1 _ rfl));have q1:=cell_regrown (cto (b:=b2) (o:=o2+k*4+1) aD (bG 1 _ rfl));have p2:=cell_regrown (cto (b:=b1) (o:=o1+k*4+2) aD (bA 2 _ rfl));have q2:=cell_regrown (cto (b:=b2) (o:=o2+k*4+2) aD (bG 2 _ rfl));have p3:=cell_regrown (cto (b:=b1) (o:=o1+k*4+3) aD (bA 3 _ rfl));have q3:=cell_regrown (cto (b:=b2) (o:=o2+k*4+3) aD (bG 3 _ rfl));clear bA bG cK bZ;by_cases eM:x=y
    ·have HXY:=Lib.hid eM
     have hd:decide (x=y)=true:=decide_eq_true eM;clear eM
     go_wp2
     refine wp_region_quiet_below (by kernel_rfl) (by kernel_rfl) ?_
     repeat (go_big_quiet_step (fail))
     refine wpQuiet_nil ?_;intro _ hw';obtain ⟨⟨dq,osq⟩,hw''⟩:=hw';subst hw'';have eL:=aD.trans ((below_regrown wr dq osq).mono aD.size)
     go_wp2
     go_roundw
     case rel=>exact ⟨k+1,by omega,by go_num,jgR HX.out (HXY.out▸HY.out) HQ.out,eL⟩
     case measure=>simp [intOf];omega
    ·have HXY:=Lib.hid eM
     have hd:decide (x=y)=false:=decide_eq_false eM;clear eM
     go_wp2
     refine wp_region_quiet_below (by kernel_rfl) (by kernel_rfl) ?_
     repeat (go_big_quiet_step (fail))
     refine wpQuiet_nil ?_;intro _ hw';obtain ⟨⟨dq,osq⟩,hw''⟩:=hw';subst hw'';have eL:=aD.trans ((below_regrown wr dq osq).mono aD.size)
     go_wp2
     go_ret
     exact ⟨jH (decide_eq_false (jqr HX.out HY.out HXY.out)).symm,eL⟩
   ·clear cM dA
    go_wp2
    go_ret
    exact ⟨jH (decide_eq_true (jgS (k:=k) (by omega) (by have:=HL.out;omega) HQ.out)).symm,aD⟩
 ·have aK:((l.length:Int) !=(m.length:Int))=true:=bne_iff_ne.2 (by omega)
  clear cM dA
  go_enter Tryz.func156,Tryz.ntmps156
  go_wp2
  go_ret
  exact ⟨jH (decide_eq_false (λe=>aC (by rw [e]))).symm,Below.refl _ _⟩
theorem juX (l m:List Tk) (a b:Value) (S S':List Nat) (w:World) (own own':Bool) (ha:Rep w own (ju l) a S) (hb:Rep w own' (ju m) b S'):
 Calls Tryz.prog 192 #[a,b] w λe w'=>e=.returned (.bool (decide (l=m)))/\Below w.heap.size w w':=by
 obtain ⟨A,c,rfl,cT,cY,cM⟩:=Rep.open_ (size:=4) (enc:=jz) (λ_=>rfl) (by decide) ha
 obtain ⟨B,d,rfl,mQ,fC,dA⟩:=Rep.open_ (size:=4) (enc:=jz) (λ_=>rfl) (by decide) hb
 unfold maxLen at cY fC;have gM:l.length<=9223372036854775807:=by omega
 have mC:m.length<=9223372036854775807:=by omega
 clear ha hb;by_cases aC:l.length=m.length
 ·have HL:=Lib.hid aC
  have aK:((l.length:Int) !=(m.length:Int))=false:=by rw [aC];simp
  clear aC
  go_enter Tryz.func192,Tryz.ntmps192
  go_wp2
  go_loopw [5,13] (λ_ i wr=>∃k:Nat,k<=l.length/\i=.int .i64 k/\l.take k=m.take k/\Below w.heap.size w wr) (λ_ i _=>l.length-(intOf i).toNat)
  case atStart=>exact ⟨0,by omega,rfl,rfl,Below.refl _ _⟩
  case round=>
   obtain ⟨k,hk,rfl,dJ,aD⟩:=hrel;have HQ:=Lib.hid dJ;clear dJ;by_cases aB:k<l.length
   ·have aA:k<m.length:=by have:=HL.out;omega
    obtain ⟨x,hx⟩:=ja aB;obtain ⟨y,hy⟩:=ja aA;obtain ⟨b1,o1,vk1,T1,rfl,-,cK,-,-,aZ,bA⟩:=cM k x hx;obtain ⟨b2,o2,vk2,T2,rfl,-,bZ,-,-,bF,bG⟩:=dA k y hy;clear cM dA;obtain ⟨rfl,rfl⟩:=jea cK;obtain ⟨rfl,rfl⟩:=jea bZ;have HX:=Lib.hid hx;have HY:=Lib.hid hy;clear hx hy;have p0:=cell_regrown (cto (b:=b1) (o:=o1+k*4) aD (bA 0 _ rfl));have q0:=cell_regrown (cto (b:=b2) (o:=o2+k*4) aD (bG 0 _ rfl));have p1:=cell_regrown (cto (b:=b1) (o:=o1+k*4+1) aD (bA 1 _ rfl));have q1:=cell_regrown (cto (b:=b2) (o:=o2+k*4+1) aD (bG 1 _ rfl));have p2:=cell_regrown (cto (b:=b1) (o:=o1+k*4+2) aD (bA 2 _ rfl));have q2:=cell_regrown (cto (b:=b2) (o:=o2+k*4+2) aD (bG 2 _ rfl));have p3:=cell_regrown (cto (b:=b1) (o:=o1+k*4+3) aD (bA 3 _ rfl));have q3:=cell_regrown (cto (b:=b2) (o:=o2+k*4+3) aD (bG 3 _ rfl));clear bA bG cK bZ;by_cases eM:x=y
    ·have HXY:=Lib.hid eM
     have hd:decide (x=y)=true:=decide_eq_true eM;clear eM
     go_wp2
     refine wp_region_quiet_below (by kernel_rfl) (by kernel_rfl) ?_
     repeat (go_big_quiet_step (fail))
     refine wpQuiet_nil ?_;intro _ hw';obtain ⟨⟨dq,osq⟩,hw''⟩:=hw';subst hw'';have eL:=aD.trans ((below_regrown wr dq osq).mono aD.size)
     go_wp2
     go_roundw
     case rel=>exact ⟨k+1,by omega,by go_num,jgR HX.out (HXY.out▸HY.out) HQ.out,eL⟩
     case measure=>simp [intOf];omega
    ·have HXY:=Lib.hid eM
     have hd:decide (x=y)=false:=decide_eq_false eM;clear eM
     go_wp2
     refine wp_region_quiet_below (by kernel_rfl) (by kernel_rfl) ?_
     repeat (go_big_quiet_step (fail))
     refine wpQuiet_nil ?_;intro _ hw';obtain ⟨⟨dq,osq⟩,hw''⟩:=hw';subst hw'';have eL:=aD.trans ((below_regrown wr dq osq).mono aD.size)
     go_wp2
     go_ret
     exact ⟨jH (decide_eq_false (jqr HX.out HY.out HXY.out)).symm,eL⟩
   ·clear cM dA
    go_wp2
    go_ret
    exact ⟨jH (decide_eq_true (jgS (k:=k) (by omega) (by have:=HL.out;omega) HQ.out)).symm,aD⟩
 ·have aK:((l.length:Int) !=(m.length:Int))=true:=bne_iff_ne.2 (by omega)
  clear cM dA
  go_enter Tryz.func192,Tryz.ntmps192
  go_wp2
  go_ret
  exact ⟨jH (decide_eq_false (λe=>aC (by rw [e]))).symm,Below.refl _ _⟩
theorem jlg (x y:Pl) (a b:Value) (S S':List Nat) (w:World) (own own':Bool) (ha:AggRep w own (je x) a S) (hb:AggRep w own' (je y) b S'):
 Calls Tryz.prog 146 #[a,b] w λe w'=>e=.returned (.bool (decide (x=y)))/\Below w.heap.size w w':=by
 obtain ⟨_,rfl,ha⟩:=ha;obtain ⟨_,rfl,hb⟩:=hb;obtain ⟨av0,rfl,ah0⟩:=jeh ha;obtain ⟨bv0,rfl,bh0⟩:=jeh hb;clear ha hb;obtain ⟨xprio,xmost,xwait,xtasks,xedges⟩:=x;obtain ⟨yprio,ymost,ywait,ytasks,yedges⟩:=y
 go_enter Tryz.func146,Tryz.ntmps146
 go_wp2_with (first
  |(go_at_call 185;refine (juZ xedges yedges _ _ _ _ _ _ _ (ah0.below (by repeat (first|exact Below.refl _ _|assumption|refine Below.alloc ?_ (by simp;try omega) _|refine jW ?_ (by assumption))) (aPD _)) (bh0.below (by repeat (first|exact Below.refl _ _|assumption|refine Below.alloc ?_ (by simp;try omega) _|refine jW ?_ (by assumption))) (aPD _))).mono ?_;rintro e w1 ⟨rfl,aZ⟩;obtain ⟨cT,fU⟩:=zC aZ))
 all_goals go_ret
 all_goals refine ⟨?_,(by repeat (first|exact Below.refl _ _|assumption|refine Below.alloc ?_ (by simp;try omega) _|refine jW ?_ (by assumption)))⟩
 all_goals (simp_all<;>rfl)
theorem juV (x y:Rn) (a b:Value) (S S':List Nat) (w:World) (own own':Bool) (ha:AggRep w own (jd x) a S) (hb:AggRep w own' (jd y) b S'):
 Calls Tryz.prog 158 #[a,b] w λe w'=>e=.returned (.bool (decide (x=y)))/\Below w.heap.size w w':=by
 obtain ⟨_,rfl,ha⟩:=ha;obtain ⟨_,rfl,hb⟩:=hb;obtain ⟨av0,av1,_,_,rfl,ah0,ah1,rfl⟩:=vE ha;obtain ⟨bv0,bv1,_,_,rfl,bh0,bh1,rfl⟩:=vE hb;clear ha hb;obtain ⟨xid,xplan,xstate,xtasks⟩:=x;obtain ⟨yid,yplan,ystate,ytasks⟩:=y
 go_enter Tryz.func158,Tryz.ntmps158
 go_wp2_with (first
  |(go_at_call 146;refine (jlg xplan yplan _ _ _ _ _ own own' ⟨_,rfl,jwF (ah0.below (by repeat (first|exact Below.refl _ _|assumption|refine Below.alloc ?_ (by simp;try omega) _|refine jW ?_ (by assumption))) (aPD _))⟩ ⟨_,rfl,jwF (bh0.below (by repeat (first|exact Below.refl _ _|assumption|refine Below.alloc ?_ (by simp;try omega) _|refine jW ?_ (by assumption))) (aPD _))⟩).mono ?_;rintro e w1 ⟨rfl,aZ⟩;obtain ⟨cT,fU⟩:=zC aZ)
  |(go_at_call 192;refine (juX xtasks ytasks _ _ _ _ _ _ _ (ah1.below (by repeat (first|exact Below.refl _ _|assumption|refine Below.alloc ?_ (by simp;try omega) _|refine jW ?_ (by assumption))) (aPD _)) (bh1.below (by repeat (first|exact Below.refl _ _|assumption|refine Below.alloc ?_ (by simp;try omega) _|refine jW ?_ (by assumption))) (aPD _))).mono ?_;rintro e w2 ⟨rfl,bF⟩;obtain ⟨cY,l0⟩:=zC bF))
 all_goals go_ret
 all_goals refine ⟨?_,(by repeat (first|exact Below.refl _ _|assumption|refine Below.alloc ?_ (by simp;try omega) _|refine jW ?_ (by assumption)))⟩
 all_goals (simp_all<;>rfl)
theorem jrS (x y:Dd) (a b:Value) (S S':List Nat) (w:World) (own own':Bool) (ha:AggRep w own (kN x) a S) (hb:AggRep w own' (kN y) b S'):
 Calls Tryz.prog 92 #[a,b] w λe w'=>e=.returned (.bool (decide (x=y)))/\Below w.heap.size w w':=by
 obtain ⟨_,rfl,ha⟩:=ha;obtain ⟨_,rfl,hb⟩:=hb;obtain ⟨av0,rfl,ah0⟩:=jtv ha;obtain ⟨bv0,rfl,bh0⟩:=jtv hb;clear ha hb;obtain ⟨xkind,xrun,xplan,xtask,xtri,xworker,xdraw⟩:=x;obtain ⟨ykind,yrun,yplan,ytask,ytri,yworker,ydraw⟩:=y
 go_enter Tryz.func92,Tryz.ntmps92
 go_wp2_with (first
  |(go_at_call 146;refine (jlg xplan yplan _ _ _ _ _ own own' ⟨_,rfl,jwF (ah0.below (by repeat (first|exact Below.refl _ _|assumption|refine Below.alloc ?_ (by simp;try omega) _|refine jW ?_ (by assumption))) (aPD _))⟩ ⟨_,rfl,jwF (bh0.below (by repeat (first|exact Below.refl _ _|assumption|refine Below.alloc ?_ (by simp;try omega) _|refine jW ?_ (by assumption))) (aPD _))⟩).mono ?_;rintro e w1 ⟨rfl,aZ⟩;obtain ⟨cT,fU⟩:=zC aZ))
 all_goals go_ret
 all_goals refine ⟨?_,(by repeat (first|exact Below.refl _ _|assumption|refine Below.alloc ?_ (by simp;try omega) _|refine jW ?_ (by assumption)))⟩
 all_goals (simp_all<;>rfl)
theorem jou (l m:List (List En)) (a b:Value) (S S':List Nat) (w:World) (own own':Bool) (ha:Rep w own (ke l) a S) (hb:Rep w own' (ke m) b S'):
 Calls Tryz.prog 155 #[a,b,.func (.func 156) #[] #[]] w λe w'=>e=.returned (.bool (decide (l=m)))/\Below w.heap.size w w':=by
 obtain ⟨A,c,rfl,cT,cY,cM⟩:=Rep.open_ (size:=1) (enc:=(λes=>[jf es])) (λ_=>rfl) (by decide) ha
 obtain ⟨B,d,rfl,mQ,fC,dA⟩:=Rep.open_ (size:=1) (enc:=(λes=>[jf es])) (λ_=>rfl) (by decide) hb
 unfold maxLen at cY fC;have gM:l.length<=9223372036854775807:=by omega
 have mC:m.length<=9223372036854775807:=by omega
 clear ha hb;by_cases aC:l.length=m.length
 ·have HL:=Lib.hid aC
  have aK:((l.length:Int) !=(m.length:Int))=false:=by rw [aC];simp
  clear aC
  go_enter Tryz.func155,Tryz.ntmps155
  go_wp2
  go_loopw [7,8,9,17] (λ_ _ _ i wr=>∃k:Nat,k<=l.length/\i=.int .i64 k/\l.take k=m.take k/\Below w.heap.size w wr) (λ_ _ _ i _=>l.length-(intOf i).toNat)
  case atStart=>exact ⟨0,by omega,rfl,rfl,Below.refl _ _⟩
  case round=>
   obtain ⟨k,hk,rfl,dJ,aD⟩:=hrel;have HQ:=Lib.hid dJ;clear dJ;by_cases aB:k<l.length
   ·have aA:k<m.length:=by have:=HL.out;omega
    obtain ⟨x,hx⟩:=ja aB;obtain ⟨y,hy⟩:=ja aA;obtain ⟨b1,o1,vk1,T1,rfl,-,cK,-,-,aZ,bA⟩:=cM k x hx;obtain ⟨b2,o2,vk2,T2,rfl,-,bZ,-,-,bF,bG⟩:=dA k y hy;clear cM dA;have HX:=Lib.hid hx;have HY:=Lib.hid hy;clear hx hy;obtain ⟨u,_,U0,U1,rfl,rfl,hu,rfl,rfl⟩:=cK;obtain ⟨u2,_,U2,U3,rfl,rfl,sR,rfl,rfl⟩:=bZ;have p0:=cto (b:=b1) (o:=o1+k) aD (by simpa using bA 0 _ rfl)
    have q0:=cto (b:=b2) (o:=o2+k) aD (by simpa using bG 0 _ rfl)
    obtain ⟨C1,e1,rfl,fU,l0,-⟩:=Rep.open_ (size:=4) (enc:=jj) (λ_=>rfl) (by decide) hu
    obtain ⟨C2,e2,rfl,sA,mD,-⟩:=Rep.open_ (size:=4) (enc:=jj) (λ_=>rfl) (by decide) sR
    have cF:=juY x y _ _ _ _ wr own own' (up hu aD) (up sR aD);clear bA bG;by_cases eM:x=y
    ·have HXY:=Lib.hid eM
     have HD:=Lib.hid (decide_eq_true eM);clear eM
     go_wp2_with (go_at_call 156;refine (cb cF HD.out).mono ?_;rintro e w2 ⟨rfl,bF⟩)
     go_roundw
     case rel=>exact ⟨k+1,by omega,by go_num,jgR HX.out (HXY.out▸HY.out) HQ.out,jW aD bF⟩
     case measure=>simp [intOf];omega
    ·have HXY:=Lib.hid eM
     have HD:=Lib.hid (decide_eq_false eM);clear eM
     go_wp2_with (go_at_call 156;refine (cb cF HD.out).mono ?_;rintro e w2 ⟨rfl,bF⟩)
     go_ret
     exact ⟨jH (decide_eq_false (jqr HX.out HY.out HXY.out)).symm,jW aD bF⟩
   ·clear cM dA
    go_wp2
    go_ret
    exact ⟨jH (decide_eq_true (jgS (k:=k) (by omega) (by have:=HL.out;omega) HQ.out)).symm,aD⟩
 ·have aK:((l.length:Int) !=(m.length:Int))=true:=bne_iff_ne.2 (by omega)
  clear cM dA
  go_enter Tryz.func155,Tryz.ntmps155
  go_wp2
  go_ret
  exact ⟨jH (decide_eq_false (λe=>aC (by rw [e]))).symm,Below.refl _ _⟩
theorem jqg (l m:List Rn) (a b:Value) (S S':List Nat) (w:World) (own own':Bool) (ha:Rep w own (jG l) a S) (hb:Rep w own' (jG m) b S'):
 Calls Tryz.prog 157 #[a,b,.func (.func 158) #[] #[]] w λe w'=>e=.returned (.bool (decide (l=m)))/\Below w.heap.size w w':=by
 obtain ⟨A,c,rfl,cT,cY,cM⟩:=Rep.open_ (size:=8) (enc:=jd) (λ_=>rfl) (by decide) ha
 obtain ⟨B,d,rfl,mQ,fC,dA⟩:=Rep.open_ (size:=8) (enc:=jd) (λ_=>rfl) (by decide) hb
 unfold maxLen at cY fC;have gM:l.length<=9223372036854775807:=by omega
 have mC:m.length<=9223372036854775807:=by omega
 clear ha hb;by_cases aC:l.length=m.length
 ·have HL:=Lib.hid aC
  have aK:((l.length:Int) !=(m.length:Int))=false:=by rw [aC];simp
  clear aC
  go_enter Tryz.func157,Tryz.ntmps157
  go_wp2
  go_loopw [7,8,9,17] (λ_ _ _ i wr=>∃k:Nat,k<=l.length/\i=.int .i64 k/\l.take k=m.take k/\Below w.heap.size w wr) (λ_ _ _ i _=>l.length-(intOf i).toNat)
  case atStart=>exact ⟨0,by omega,rfl,rfl,Below.refl _ _⟩
  case round=>
   obtain ⟨k,hk,rfl,dJ,aD⟩:=hrel;have HQ:=Lib.hid dJ;clear dJ;by_cases aB:k<l.length
   ·have aA:k<m.length:=by have:=HL.out;omega
    obtain ⟨x,hx⟩:=ja aB;obtain ⟨y,hy⟩:=ja aA;obtain ⟨b1,o1,vk1,T1,rfl,-,cK,-,-,aZ,bA⟩:=cM k x hx;obtain ⟨b2,o2,vk2,T2,rfl,-,bZ,-,-,bF,bG⟩:=dA k y hy;clear cM dA;have HX:=Lib.hid hx;have HY:=Lib.hid hy;clear hx hy;obtain ⟨av0,av1,_,_,rfl,ah0,ah1,-⟩:=vE cK;obtain ⟨bv0,bv1,_,_,rfl,bh0,bh1,-⟩:=vE bZ;have p0:=cto (b:=b1) (o:=o1+k*8) aD (bA 0 _ rfl);have q0:=cto (b:=b2) (o:=o2+k*8) aD (bG 0 _ rfl);have p1:=cto (b:=b1) (o:=o1+k*8+1) aD (bA 1 _ rfl);have q1:=cto (b:=b2) (o:=o2+k*8+1) aD (bG 1 _ rfl);have p2:=cto (b:=b1) (o:=o1+k*8+2) aD (bA 2 _ rfl);have q2:=cto (b:=b2) (o:=o2+k*8+2) aD (bG 2 _ rfl);have p3:=cto (b:=b1) (o:=o1+k*8+3) aD (bA 3 _ rfl);have q3:=cto (b:=b2) (o:=o2+k*8+3) aD (bG 3 _ rfl);have p4:=cto (b:=b1) (o:=o1+k*8+4) aD (bA 4 _ rfl);have q4:=cto (b:=b2) (o:=o2+k*8+4) aD (bG 4 _ rfl);have p5:=cto (b:=b1) (o:=o1+k*8+5) aD (bA 5 _ rfl)
    have q5:=cto (b:=b2) (o:=o2+k*8+5) aD (bG 5 _ rfl);have p6:=cto (b:=b1) (o:=o1+k*8+6) aD (bA 6 _ rfl);have q6:=cto (b:=b2) (o:=o2+k*8+6) aD (bG 6 _ rfl);have p7:=cto (b:=b1) (o:=o1+k*8+7) aD (bA 7 _ rfl);have q7:=cto (b:=b2) (o:=o2+k*8+7) aD (bG 7 _ rfl);have aKV:b1<wr.heap.size:=by have:=aD.size;omega
    have aKU:b2<wr.heap.size:=by have:=aD.size;omega
    obtain ⟨C1,e1,rfl,fU,l0,-⟩:=Rep.open_ (size:=2) (enc:=kb) (λ_=>rfl) (by decide) ah0
    obtain ⟨C2,e2,rfl,sA,mD,-⟩:=Rep.open_ (size:=2) (enc:=kb) (λ_=>rfl) (by decide) bh0
    obtain ⟨C3,e3,rfl,hf3,hf4,-⟩:=Rep.open_ (size:=4) (enc:=jz) (λ_=>rfl) (by decide) ah1
    obtain ⟨C4,e4,rfl,hg3,hg4,-⟩:=Rep.open_ (size:=4) (enc:=jz) (λ_=>rfl) (by decide) bh1
    have cF:=λ(W:World) (hW:Below wr.heap.size wr W)=>juV x y _ _ _ _ W own own' ⟨_,rfl,jEz (up (up ah0 aD) hW) (up (up ah1 aD) hW)⟩ ⟨_,rfl,jEz (up (up bh0 aD) hW) (up (up bh1 aD) hW)⟩
    clear bA bG cK bZ;by_cases eM:x=y
    ·have HXY:=Lib.hid eM
     have HD:=Lib.hid (decide_eq_true eM);clear eM
     go_wp2_with (go_at_call 158;refine (cb (cF _ (((Below.refl _ _).alloc (by simp) _).alloc (by simp) _)) HD.out).mono ?_;rintro e w2 ⟨rfl,bF⟩)
     go_roundw
     case rel=>exact ⟨k+1,by omega,by go_num,jgR HX.out (HXY.out▸HY.out) HQ.out,jW aD (jW (((Below.refl _ _).alloc (by simp) _).alloc (by simp) _) bF)⟩
     case measure=>simp [intOf];omega
    ·have HXY:=Lib.hid eM
     have HD:=Lib.hid (decide_eq_false eM);clear eM
     go_wp2_with (go_at_call 158;refine (cb (cF _ (((Below.refl _ _).alloc (by simp) _).alloc (by simp) _)) HD.out).mono ?_;rintro e w2 ⟨rfl,bF⟩)
     go_ret
     exact ⟨jH (decide_eq_false (jqr HX.out HY.out HXY.out)).symm,jW aD (jW (((Below.refl _ _).alloc (by simp) _).alloc (by simp) _) bF)⟩
   ·clear cM dA
    go_wp2
    go_ret
    exact ⟨jH (decide_eq_true (jgS (k:=k) (by omega) (by have:=HL.out;omega) HQ.out)).symm,aD⟩
 ·have aK:((l.length:Int) !=(m.length:Int))=true:=bne_iff_ne.2 (by omega)
  clear cM dA
  go_enter Tryz.func157,Tryz.ntmps157
  go_wp2
  go_ret
  exact ⟨jH (decide_eq_false (λe=>aC (by rw [e]))).symm,Below.refl _ _⟩
abbrev tIs:TypeId:=29
def qU (l:List (List Int)):D:=.sl 1 tIs (l.flatMap λes=>[jc es])
section
variable {P:Program} {β:Nat} {s:St}
theorem juL (l:List (List Int)):(qU l).len=l.length:=jbl (enc:=λes=>[jc es]) (λ_=>rfl) (by decide) _ _
theorem jr5 {l:List (List Int)} {k:Nat} {x:List Int} (h:l[k]?=some x):(qU l).elem k=[jc x]:=jao (enc:=λes=>[jc es]) (λ_=>rfl) h
theorem jvV (l:List (List Int)):(qU l).isSl=true:=(rfl)
theorem jvL (l:List (List Int)):(qU l).size=1:=(rfl)
theorem juD (l:List (List Int)) (g:Nat) (η:jg):(qU l).obj g η=[(g,.loose (qU l) η)]:=(rfl)
theorem jux (l:List (List Int)) (g c:Nat) (p:List Nat) (η:jg):(qU l).toOwn g c p η=.h g c p (η p):=(rfl)
theorem jqA (l:List (List Int)):(qU l).cells=l.flatMap (λes=>[jc es]):=(rfl)
theorem jt3 (l:List (List Int)) (e:Nat) (k:List D->Prop):slK (qU l) e 1 k=(tIs=e/\k (l.flatMap (λes=>[jc es]))):=by rw [show qU l=.sl 1 tIs (l.flatMap (λes=>[jc es])) from rfl,jyw];simp
theorem ju9 (l:List (List Int)):(l.flatMap (λes=>[jc es])).length/1=l.length:=by rw [jD (enc:=λes=>[jc es]) (size:=1) (λ_=>rfl)];exact aPZ _ (by decide)
theorem jyh {l:List (List Int)} {k:Nat} {x:List Int} (h:l[k]?=some x):((l.flatMap (λes=>[jc es])).drop (k*1)).take 1=[jc x]:=jr5 h
theorem jxj {l:List (List Int)} {k:Nat} (h:k<l.length):k*1+1<=(l.flatMap (λes=>[jc es])).length:=by rw [jD (enc:=λes=>[jc es]) (size:=1) (λ_=>rfl)];omega
attribute [go_sem] juL jvV jvL juD jux jqA jt3 ju9
end
def jaJ (now id:Int) (t:Tk) (k:Nat):Option (List Int):=if (t.aOG==3&&decide (t.til<=now\/t.til-1=now))=true then some [id,k,t.tri] else none
def jal (now:Int) (r:Rn):Nat->List Tk->List (List Int)
 |_,[]=>[]
 |k,t::ts=>(jaJ now r.id t k).toList++jal now r (k+1) ts
def kx (y:Yd):List (List Int):=y.aOH.flatMap λr=>jal y.now r 0 r.aOD
open Go.RowKit Go.Sort Go.BigFrame
open Go.RowKit Go.Sort Go.BigFrame
def c4 (l:List En):Nat:=4*l.length
open Go.RowKit Go.Sort Go.BigFrame
open Go.RowKit Go.Sort Go.BigFrame
theorem jm6 (now:Int) (r:Rn) (x:Tk):∀(ts:List Tk) (k:Nat),jal now r k (ts++[x])=jal now r k ts++(jaJ now r.id x (k+ts.length)).toList
 |[],k=>by simp [jal]
 |t::ts,k=>by
  rw [aRE,jal,jal,jm6 now r x ts (k+1),aPH]
  congr 3
  simp only [aPI];congr 1;omega
theorem jm5 {now:Int} {r:Rn} {ts:List Tk} {k:Nat} {x:Tk} (h:ts[k]?=some x):jal now r 0 (ts.take (k+1))=jal now r 0 (ts.take k)++(jaJ now r.id x k).toList:=by
 have hk:k<ts.length:=(aOS.1 h).1;rw [aPE,h];have:=jm6 now r x (ts.take k) 0;rw [aOZ,aQL (by omega),aQN] at this
 exact this
theorem jgA (now:Int) (r:Rn):∀(ts:List Tk) (k:Nat),(jal now r k ts).length<=ts.length
 |[],k=>by simp [jal]
 |t::ts,k=>by
  have:=jgA now r ts (k+1)
  have h2:(jaJ now r.id t k).toList.length<=1:=by
   unfold jaJ;split<;>simp
  rw [jal,aOU,aPI];omega
def jlb (now:Int) (r:Rn):List (List Int):=jal now r 0 r.aOD
theorem js9 (y:Yd):kx y=y.aOH.flatMap (jlb y.now):=rfl
theorem jp3 {now:Int} {l:List Rn} {k:Nat} {r:Rn} (h:l[k]?=some r):(l.take (k+1)).flatMap (jlb now)=(l.take k).flatMap (jlb now)++jlb now r:=by
 rw [aPE,h];simp
theorem jw6 (now:Int) (l:List Rn):(l.flatMap (jlb now)).length<=vh qH l:=by
 induction l with
 |nil=>simp
 |cons r l ih=>
  have:=jgA now r r.aOD 0;simp only [aPQ,aOU,jlb,vh,aQX,aRV,qH] at ih⊢;omega
def jht:C:=iS [iA 1 (.box 27 4 (.t 0)),iA 2 (.mov (.c (.slice none 0 0)))] (iS [iA 7 (.bsl 29 1 0 [] []),aM 3 7] (.seq (iS [aN 4 0] (.blk 0 (.loop (.seq (iS [aM 8 4,aF 9 3 1,aL 10 9,aG 11 10,aP 12 .lss 3 8 11] (iD 12 .skip (.exit 0))) (.seq (.blk 1 (iS [aN 5 0] (.blk 2 (.loop (.seq (iS [aM 15 5,aF 16 3 1,aL 17 16,aM 18 4,aI 19 8 17 18,aF 20 7 19,aL 21 20,aG 22 21,aP 23 .lss 3 15 22] (iD 23 .skip (.exit 2))) (.seq (.blk 3 (iS [aF 26 3 1,aL 27 26,aM 28 4,aI 29 8 27 28,aF 30 7 29,aL 31 30,aM 32 5,aI 33 4 31 32,aT 34 4 33,iA 6 wAN,wAB 6 34] (iS [aF 35 0 6,aL 36 35,aQ 37 .eql 3 36 3,aM 38 37,iB 39 38 true (iF 3 6),iB 40 38 true (iL 39),iB 41 38 true (iF 0 1),iB 42 38 true (iL 41),iB 43 38 true (iP .leq 3 40 42),iB 44 38 true (iM 43),iB 45 44 false (iF 3 6),iB 46 44 false (iL 45),iB 47 44 false (iQ .sub 3 46 1),iB 48 44 false (iF 0 1),iB 49 44 false (iL 48),iB 50 44 false (iP .leq 3 47 49),iB 51 38 true (iY 44 (oT) (.t 50)),iA 52 (iY 38 (.t 51) (oF))] (iD 52 (.dreg (tA 0 53 (iM 3) (tA 1 54 (iF 3 1) (tA 2 55 (iL 54) (tA 3 56 (iM 4) (tA 4 57 (iI 8 55 56) (tA 5 58 (iF 0 57) (tA 6 59 (iL 58) (tA 7 60 (iM 5) (tA 8 61 (iF 2 6) (tA 9 62 (iL 61) (tC 63 (wA5 [(0,1,.t 59),(1,1,.t 60),(2,1,.t 62)]) [0] (tC 64 (.bsl 29 1 1 [some (1,3)] [(0,1,.t 63)]) [0] (tC 65 (.app 29 1 24 (.t 53) (.t 64)) [] (tA 13 3 (iM 65) .done) .stop) .stop) .stop)))))))))))) .skip)))) (.reg [aM 24 5,aQ 25 .add 3 24 1,aM 5 25]))))))) (.reg [aM 13 4,aQ 14 .add 3 13 1,aM 4 14])))))) (iS [aM 66 3,aM 2 66] .ret)))
theorem jjI:fnC Tryz.prog Tryz.f54=some (jht,[.t 2],67):=by kernel_rfl
def jhJ:C:=iS [iA 1 (.box 27 4 (.t 0)),iA 2 (.mov (.c (.slice none 0 0)))] (iS [iA 3 (.mov (.c (.slice none 0 0)))] (.seq (iS [aF 8 3 1,aL 9 8,aG 10 9,aN 11 0] (.blk 0 (.loop (iS [aP 12 .lss 3 11 10] (.seq (iD 12 .skip (.exit 0)) (.seq (.blk 1 (iS [aI 13 8 9 11,aT 14 8 13,iA 5 wAM,wAC 5 14] (iS [aF 15 7 5,aL 16 15,aG 17 16,aN 18 0] (.blk 2 (.loop (iS [aP 19 .lss 3 18 17] (.seq (iD 19 .skip (.exit 2)) (.seq (.blk 3 (iS [aM 20 18,aI 21 4 16 18,aT 22 4 21,iA 7 wAN,aM 6 20,wAB 7 22] (iS [aF 23 0 7,aL 24 23,aQ 25 .eql 3 24 3,aM 26 25,iB 27 26 true (iF 3 7),iB 28 26 true (iL 27),iB 29 26 true (iF 0 1),iB 30 26 true (iL 29),iB 31 26 true (iP .leq 3 28 30),iB 32 26 true (iM 31),iB 33 32 false (iF 3 7),iB 34 32 false (iL 33),iB 35 32 false (iQ .sub 3 34 1),iB 36 32 false (iF 0 1),iB 37 32 false (iL 36),iB 38 32 false (iP .eql 3 35 37),iB 39 26 true (iY 32 (oT) (.t 38)),iA 40 (iY 26 (.t 39) (oF))] (iD 40 (.reg [aM 41 3,aF 42 0 5,aL 43 42,aM 44 6,aF 45 2 7,aL 46 45,iA 47 (wA5 [(0,1,.t 43),(1,1,.t 44),(2,1,.t 46)]),iA 48 (.bsl 29 1 1 [some (1,3)] [(0,1,.t 47)]),iA 49 (.app 29 1 24 (.t 41) (.t 48)),aM 3 49]) .skip)))) (.reg [aQ 50 .add 3 18 1,aM 18 50]))))))))) (.reg [aQ 51 .add 3 11 1,aM 11 51]))))))) (iS [aM 52 3,aM 2 52] .ret)))
theorem jjY:fnC Tryz.prog Tryz.f50=some (jhJ,[.t 2],53):=by kernel_rfl
def wfL (y:Yd):Prop:=inR y.now/\∀r∈y.aOH,∀x∈r.aOD,inR x.til
theorem jgB (l:List (List Int)) (a b c:Int):D.sl 1 tIs (l.flatMap (λes=>[jc es])++[D.sl 1 jes [iv a,iv b,iv c]])=qU (l++[[a,b,c]]):=by simp [qU,jc]
theorem jn1 (y:Yd) (ht:jB y<=2000000) (wf:wfL y):jZ Tryz.prog 54 [.agg (jb y)] (.c (qU (kx y))):=by
 refine pf_ jjI ?_;unfold jht;have hl:=jh1 ht;have i9:vh qH y.aOH<=2000000:=by simp only [jB,jaQ] at ht;omega
 rw [js9];simp only [go_sem,jb];intro b eP;refine kh (λi:Nat×jg=>St.of [(1,Bx 100 b),(3,Hd 700 i.2),(4,Ni i.1)] [(100,Bi b _ (jb y)),(700,.loose (qU ((y.aOH.take i.1).flatMap (jlb y.now))) i.2)]) (λi=>i.1<=y.aOH.length) (λi=>y.aOH.length-i.1) (0,eP) (aPP _) (js [100,700] (by simp only [go_sem,jb]<;>and_intros<;>rfl)) ?_
 rintro ⟨i,η⟩ hi;dsimp only at hi;by_cases aB:i<y.aOH.length
 ·have aA:(i:Int)<y.aOH.length:=by omega
  obtain ⟨r,hr⟩:=ja aB;have hrw:=wf.2 r (aOT hr);have gI:=kw i;have hbi:=jw6 y.now (y.aOH.take i);have gJ:=zp (tot:=qH) hr;have dD:=jaP qH y.aOH (i+1);have wK:r.aOD.length<=qH r:=by simp only [qH];omega
  have cE:=jp3 (now:=y.now) hr;simp only [go_sem,jb,aA];generalize hL:(y.aOH.take i).flatMap (jlb y.now)=L at*;refine kh (λk:Nat×jg=>St.of [(1,Bx 100 b),(3,Hd 700 k.2),(4,Ni i),(5,Ni k.1)] [(100,Bi b _ (jb y)),(700,.loose (qU (L++jal y.now r 0 (r.aOD.take k.1))) k.2)]) (λk=>k.1<=r.aOD.length) (λk=>r.aOD.length-k.1) (0,η) (aPP _) (js [100,700] (by simp only [go_sem,jb,aQH,jal,aPR]<;>and_intros<;>rfl)) ?_
  rintro ⟨j,dF⟩ hj;dsimp only at hj;by_cases d7:j<r.aOD.length
  ·have bB:(j:Int)<r.aOD.length:=by omega
   obtain ⟨x,hx⟩:=ja d7;have hxw:=hrw x (aOT hx);have cZ:=kw j;have hlr:=jgA y.now r (r.aOD.take j) 0;have hn:=jm5 (now:=y.now) (r:=r) hx;rw [aOZ] at hlr;obtain ⟨bA,bG⟩:=hxw;obtain ⟨⟨sN,hy2⟩,-⟩:=wf;simp only [go_sem,jb,aB,d7,bB,jR hr,jd,je,jL hx,jz];generalize hM:jal y.now r 0 (r.aOD.take j)=M at*;have eK:1<=maxLen:=vT;have h3m:3<=maxLen:=vT;have dU:(L++M).length+1<=maxLen:=by rw [aOU];unfold maxLen;omega
   have eG:((L++M).length+1)*24<=140737488355328:=by rw [aOU];omega
   intro b2;by_cases hs:x.aOG=3
   ·by_cases cR:x.til<=y.now
    ·have dH:jaJ y.now r.id x j=some [r.id,j,x.tri]:=by simp [jaJ,hs,cR]
     rw [dH] at hn;simp only [go_sem,hs,cR,aQD,jR hr,aB,jd,je,dU,eG,jgB,cZ];intro aS bY eO;exact ⟨(j+1,eO),by dsimp only;omega,js [100,6500] (by simp only [go_sem,hn,Option.toList,aPH]<;>and_intros<;>rfl),by dsimp only;omega⟩
    ·by_cases dJ:x.til-1=y.now
     ·have dH:jaJ y.now r.id x j=some [r.id,j,x.tri]:=by simp [jaJ,hs,dJ]
      have bC:IntKind.i64.wrap (x.til-1)=x.til-1:=zm;have o6:x.til-1<=y.now:=by omega
      rw [dH] at hn;simp only [go_sem,hs,cR,bC,o6,aQD,jR hr,aB,jd,je,dU,eG,jgB,cZ];intro aS bY eO;exact ⟨(j+1,eO),by dsimp only;omega,js [100,6500] (by simp only [go_sem,hn,Option.toList,aPH]<;>and_intros<;>rfl),by dsimp only;omega⟩
     ·have dH:jaJ y.now r.id x j=none:=by simp [jaJ,cR,dJ]
      have bC:IntKind.i64.wrap (x.til-1)=x.til-1:=zm;have o6:¬x.til-1<=y.now:=by omega
      rw [dH] at hn;simp only [go_sem,hs,cR,bC,o6,aQD,cZ];exact ⟨(j+1,dF),by dsimp only;omega,js [100,700] (by simp only [go_sem,hn,Option.toList,aPR]<;>and_intros<;>rfl),by dsimp only;omega⟩
   ·have dH:jaJ y.now r.id x j=none:=by simp [jaJ,hs]
    have nA:(x.aOG==3)=false:=by simpa using hs
    rw [dH] at hn;simp only [go_sem,nA,cZ];exact ⟨(j+1,dF),by dsimp only;omega,js [100,700] (by simp only [go_sem,hn,Option.toList,aPR]<;>and_intros<;>rfl),by dsimp only;omega⟩
  ·have bB:¬(j:Int)<r.aOD.length:=by omega
   rw [aOW (by omega)]
   simp only [go_sem,jb,aB,jR hr,jd,je,bB,gI];exact ⟨(i+1,dF),by dsimp only;omega,js [100,700] (by simp only [go_sem,cE]<;>and_intros<;>rfl),by dsimp only;omega⟩
 ·have aA:¬(i:Int)<y.aOH.length:=by omega
  rw [aOW (by omega)]
  simp only [go_sem,jb,aA]
theorem job (y:Yd) (ht:jB y<=2000000) (wf:wfL y):jZ Tryz.prog 50 [.agg (jb y)] (.c (qU (kx y))):=by
 refine pf_ jjY ?_;unfold jhJ;have hl:=jh1 ht;have i9:vh qH y.aOH<=2000000:=by simp only [jB,jaQ] at ht;omega
 rw [js9];simp only [go_sem,jb];intro b;refine qP (λi:Nat×jg=>St.of [(1,Bx 100 b),(3,Hd 7 i.2),(9,Ro (jG y.aOH)),(10,Ni y.aOH.length),(11,Ni i.1)] [(100,Bi b _ (jb y)),(7,.loose (qU ((y.aOH.take i.1).flatMap (jlb y.now))) i.2)]) (λi=>i.1<=y.aOH.length) (λi=>y.aOH.length-i.1) (0,jcb) (vU [some 100,none] (by simp only [go_sem,jb]<;>trivial)) ?_
 rintro ⟨i0,η⟩ hi;dsimp only at hi;by_cases aB:i0<y.aOH.length
 ·have aA:(i0:Int)<y.aOH.length:=by omega
  obtain ⟨r,hr⟩:=ja aB;have hrw:=wf.2 r (aOT hr);have gI:=kw i0;have hbi:=jw6 y.now (y.aOH.take i0);have gJ:=zp (tot:=qH) hr;have dD:=jaP qH y.aOH (i0+1);have wK:r.aOD.length<=qH r:=by simp only [qH];omega
  have cE:=jp3 (now:=y.now) hr;simp only [go_sem,jb,aB,aA,jR hr,jd,je];generalize hL:(y.aOH.take i0).flatMap (jlb y.now)=L at*;intro b2;refine qP (λi:Nat×jg=>St.of [(1,Bx 100 b),(3,Hd 7 i.2),(5,Bx 500 b2),(9,Ro (jG y.aOH)),(10,Ni y.aOH.length),(11,Ni i0),(16,Ro (ju r.aOD)),(17,Ni r.aOD.length),(18,Ni i.1)] [(100,Bi b _ (jb y)),(500,Bi b2 _ (jd r)),(7,.loose (qU (L++jal y.now r 0 (r.aOD.take i.1))) i.2)]) (λi=>i.1<=r.aOD.length) (λi=>r.aOD.length-i.1) (0,η) (js [100,500,7] (by simp only [go_sem,jb,jd,je,aQH,jal,aPR]<;>trivial)) ?_
  rintro ⟨j,dF⟩ hj;dsimp only at hj;by_cases d7:j<r.aOD.length
  ·have bB:(j:Int)<r.aOD.length:=by omega
   obtain ⟨x,hx⟩:=ja d7;have hxw:=hrw x (aOT hx);have cZ:=kw j;have hlr:=jgA y.now r (r.aOD.take j) 0;have hn:=jm5 (now:=y.now) (r:=r) hx;rw [aOZ] at hlr;obtain ⟨bA,bG⟩:=hxw;obtain ⟨⟨sN,hy2⟩,-⟩:=wf;simp only [go_sem,jb,d7,bB,jL hx,jz];generalize hM:jal y.now r 0 (r.aOD.take j)=M at*;have dU:(L++M).length+1<=maxLen:=by rw [aOU];unfold maxLen;omega
   have eG:((L++M).length+1)*24<=140737488355328:=by rw [aOU];omega
   intro b3;by_cases hs:x.aOG=3
   ·by_cases cR:x.til<=y.now
    ·have dH:jaJ y.now r.id x j=some [r.id,j,x.tri]:=by simp [jaJ,hs,cR]
     rw [dH] at hn;simp only [go_sem,jd,je,hs,cR,aQD,dU,eG,jgB,cZ];intro aS bY eO;exact qc (j+1,eO) (js [100,500,4900] (by simp only [go_sem,hn,Option.toList,aPH]<;>trivial))
    ·by_cases dJ:x.til-1=y.now
     ·have dH:jaJ y.now r.id x j=some [r.id,j,x.tri]:=by simp [jaJ,hs,dJ]
      have uQ:(x.til-1==y.now)=true:=by simpa using dJ
      have bC:IntKind.i64.wrap (x.til-1)=x.til-1:=zm;rw [dH] at hn;simp only [go_sem,jd,je,hs,cR,bC,uQ,aQD,dU,eG,jgB,cZ];intro aS bY eO;exact qc (j+1,eO) (js [100,500,4900] (by simp only [go_sem,hn,Option.toList,aPH]<;>trivial))
     ·have dH:jaJ y.now r.id x j=none:=by simp [jaJ,cR,dJ]
      have bC:IntKind.i64.wrap (x.til-1)=x.til-1:=zm;have uQ:(x.til-1==y.now)=false:=by simpa using dJ
      rw [dH] at hn;simp only [go_sem,hs,cR,bC,uQ,aQD,cZ];exact qc (j+1,dF) (js [100,500,7] (by simp only [go_sem,jd,je,hn,Option.toList,aPR]<;>trivial))
   ·have dH:jaJ y.now r.id x j=none:=by simp [jaJ,hs]
    have nA:(x.aOG==3)=false:=by simpa using hs
    rw [dH] at hn;simp only [go_sem,nA,cZ];exact qc (j+1,dF) (js [100,500,7] (by simp only [go_sem,jd,je,hn,Option.toList,aPR]<;>trivial))
  ·have bB:¬(j:Int)<r.aOD.length:=by omega
   rw [aOW (by omega)]
   simp only [go_sem,bB,gI];exact qc (i0+1,dF) (js [100,7] (by simp only [go_sem,jb,cE,jlb]<;>trivial))
 ·have aA:¬(i0:Int)<y.aOH.length:=by omega
  rw [aOW (by omega)]
  simp only [go_sem,jb,aA]
open Go.RowKit Go.Sort Go.BigFrame
def newYd:Yd:=⟨0,1,List.replicate 4 [],[]⟩
theorem jDD (w:World):Calls Tryz.prog 28 #[] w (jys w (jb newYd)):=by
 go_enter Tryz.func28,Tryz.ntmps28
 go_wp2_with (at_make;refine jkp (enc:=(λes=>[jf es])) rfl _ _ rfl jD1 ([]:List En) zEnS .i64 .i64 4 4 4 rfl rfl rfl rfl (by omega) (by unfold maxLen;omega) ?_;intro w1 A1 cK aZ;obtain ⟨cT,fU⟩:=zC aZ;(have xA:=aZ.size);simp at xA;(have bA:=(by omega:w.heap.size<w1.heap.size)))
 refine bodyPost_ret (v:=.agg #[.int .i64 0,.int .i64 1,.slice A1 4 4,.slice none 0 0]) (by simp [results,Tryz.results28,go_sem,cT]) rfl ?_
 refine ⟨_,[w.heap.size+1],rfl,⟨_,rfl,jaF (y:=newYd) (S1:=[w.heap.size+1]) (S2:=[]) ?_ ?_⟩,?_,?_⟩
 ·have aCQ:Rep w1 true (ke newYd.aOE) (.slice A1 4 4) [w.heap.size+1]:=by have h:=cK;simp at h;exact h
  repeat (first|(with_reducible exact aCQ)|((with_reducible refine jon ?_ ?_);rotate_left;focus (intro b hb;simp at hb⊢;omega)))
 ·exact Rep.nil_ _ _ _
 ·exact ⟨by simp,by simp⟩
 ·repeat (first|(with_reducible exact Below.refl _ _)|(with_reducible assumption)|((with_reducible refine Below.alloc ?_ ?_ _);rotate_left;focus (simp;try omega))|((with_reducible refine Below.setCell ?_ ?_ _);rotate_left;focus (simp;try omega))|(with_reducible refine jW ?_ (by assumption)))
theorem jmX {S:List Nat} {w w1 w':World} (ho:Only S w1 w') (hb:Below w.heap.size w w1) {b:Nat} (h:b<w.heap.size) (hS:b∉S):(∀o,w'.cell? ⟨b,o,none⟩=w.cell? ⟨b,o,none⟩)/\(∀o,w'.frozen? ⟨b,o,none⟩=w.frozen? ⟨b,o,none⟩):=by
 have e:w'.heap[b]?=w.heap[b]?:=(ho.block b (Nat.lt_of_lt_of_le h hb.size) hS).trans (hb.block b h);exact ⟨λo=>World.cell?_of_block (w:=w) (a:=⟨b,o,none⟩) e,λo=>World.frozen?_of_block (w:=w) (a:=⟨b,o,none⟩) e⟩
theorem jwq (w:World):Rep (w.alloc (.cells #[] tEn)) true (jf []) (.slice (some ⟨w.heap.size,0,none⟩) 0 0) [w.heap.size]:=
 Rep.of_own (size:=4) (enc:=jj) (xs:=[]) (World.ownsRow_made w #[] 0 (aPP _) (by unfold maxLen;omega) rfl) RepL.nil_
theorem jzz (w:World) {o:Obj} {x:Value} {t:TypeId}:∀ad,(some ⟨w.heap.size+1,0,none⟩:Option Addr)=some ad->∀j u,[x][j]?=some u->((w.alloc o).alloc (.cells #[x] t)).cell? (ad.add j)=some u:=by
 intro ad h j u hu;cases h
 obtain rfl:j=0:=by
  have:=(aOS.1 hu).1;simpa using this
 simp at hu;subst hu;simp [go_sem,Addr.add]
set_option maxRecDepth 4000 in
theorem juc (w:World):Calls Tryz.prog 33 #[] w (jys w (jb newYd)):=by
 go_enter Tryz.func33,Tryz.ntmps33
 go_wp2
 go_loopw [2] (λi wr=>∃(k:Nat) (sv:Value) (S:List Nat),k<=4/\i=.int .i64 k/\Rep wr true (ke (List.replicate k [])) sv S/\Fresh (w.heap.size+2) S/\Below w.heap.size w wr/\w.heap.size+2<=wr.heap.size/\
  wr.cell? ⟨w.heap.size+1,0,none⟩=some (.int .i64 0)/\wr.cell? ⟨w.heap.size+1,1,none⟩=some (.int .i64 1)/\wr.cell? ⟨w.heap.size+1,2,none⟩=some sv/\wr.cell? ⟨w.heap.size+1,3,none⟩=some (.slice none 0 0)/\wr.frozen? ⟨w.heap.size+1,2,none⟩=false/\
  (∃u,wr.cell? ⟨w.heap.size,0,none⟩=some u)/\(∃u,wr.cell? ⟨w.heap.size,1,none⟩=some u)/\(∃u,wr.cell? ⟨w.heap.size,2,none⟩=some u)/\(∃u,wr.cell? ⟨w.heap.size,3,none⟩=some u)/\
  wr.frozen? ⟨w.heap.size,0,none⟩=false/\wr.frozen? ⟨w.heap.size,1,none⟩=false/\wr.frozen? ⟨w.heap.size,2,none⟩=false/\wr.frozen? ⟨w.heap.size,3,none⟩=false) (λi _=>4-(intOf i).toNat)
 case atStart=>
  refine ⟨0,_,[],by omega,rfl,Rep.nil_ _ _ _,Fresh.nil _,?_,by simp,?_⟩
  ·repeat (first|(with_reducible exact Below.refl _ _)|(with_reducible assumption)|((with_reducible refine Below.alloc ?_ ?_ _);rotate_left;focus (simp;try omega))|((with_reducible refine Below.setCell ?_ ?_ _);rotate_left;focus (simp;try omega)))
  ·simp [go_sem]
 case round=>
  obtain ⟨k,sv,S,hk,rfl,bH,hF,aD,cW,c0,c1,c2,c3,f2,⟨u0,r0⟩,⟨u1,r1⟩,⟨u2,r2⟩,⟨u3,r3⟩,g0,g1,g2,g3⟩:=hrel;by_cases aB:k<4
  ·have aEE:w.heap.size+1∉S:=λh=>by have:=hF.2 _ h;omega
   have rS:w.heap.size∉S:=λh=>by have:=hF.2 _ h;omega
   obtain ⟨A0,n0,m0,rfl⟩:=Rep.form bH
   go_wp2_with ((with_reducible refine jqP (.tmp 9) (.tmp 11) ?_);refine jbC (enc:=(λes=>[jf es])) (xs:=List.replicate k ([]:List En)) (ys:=[[]]) rfl _ _ rfl jD1 (λ_=>rfl) rfl (upA (upA bH _) _) (some ⟨wr.heap.size+1,0,none⟩) 1 1 [.slice (some ⟨wr.heap.size,0,none⟩) 0 0] rfl (RepL.cons_ (upA (jwq wr) _) RepL.nil_) rfl (by simp) (jzz wr) ju5 (w.heap.size+2) (by simp;omega) (by simpa using Fresh.join hF (Fresh.one wr.heap.size wr.heap.size (aPD _)) cW (λs hs=>Rep.lt _ bH s hs)) (by unfold maxLen;simp;omega) (by simp;omega) ?_;intro v' w' S' eQ wC fR _;obtain ⟨A1,n1,m1,rfl⟩:=Rep.form eQ;obtain ⟨hd,oH⟩:=jmX fR (upB (upB (Below.refl wr.heap.size wr) _) _) (by omega) aEE;obtain ⟨he,eS⟩:=jmX fR (upB (upB (Below.refl wr.heap.size wr) _) _) (by omega) rS;(have hz:=fR.size);simp at hz;(have xA:=(by omega:w.heap.size+1<w'.heap.size)))
   go_roundw
   case rel=>
    refine ⟨k+1,.slice A1 n1 m1,S',by omega,by go_num,?_,wC,?_,by simp;omega,?_⟩
    ·refine jon ?_ (λb hb=>by have:=wC.2 b hb;simp;omega)
     rw [List.replicate_succ'];exact eQ
    ·exact ((upB (upB aD _) _).trans (fR.below (λs hs=>by have:=hF.2 s hs;omega) (by simp;omega))).setCell (by simp) _
    ·simp [go_sem,hd,oH,he,eS,c0,c1,c2,c3,f2,r0,r1,r2,r3,g0,g1,g2,g3]
   case measure=>simp [intOf];omega
  ·obtain rfl:k=4:=by omega
   obtain ⟨A0,n0,m0,rfl⟩:=Rep.form bH
   go_wp2
   refine bodyPost_ret (v:=.agg #[.int .i64 0,.int .i64 1,.slice A0 n0 m0,.slice none 0 0]) (by simp [results,Tryz.results33,go_sem,r0,r1,r2,r3]) rfl ?_
   refine ⟨_,S++[],rfl,⟨_,rfl,jaF (y:=newYd) ?_ (Rep.nil_ _ _ _)⟩,?_,?_⟩
   ·have xN:Rep wr true (ke newYd.aOE) (.slice A0 n0 m0) S:=bH
    repeat (first|(with_reducible exact xN)|((with_reducible refine jon ?_ ?_);rotate_left;focus (intro b hb;have:=hF.2 b hb;simp;try omega)))
   ·rw [aPR];exact hF.mono (by omega)
   ·repeat (first|(with_reducible assumption)|((with_reducible refine Below.setCell ?_ ?_ _);rotate_left;focus (simp;try omega)))
