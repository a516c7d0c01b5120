/- Parts. -/
import Derived.Test.YtmnpailnelmpiaaGreatQE6
import Derived.Laws.StructEq
set_option linter.unusedSimpArgs false
set_option linter.unusedVariables false
set_option maxRecDepth 100000
namespace Go.Proofs.YtmnpailnelmpiaaGreat
open Go.RowKit Go.Sort
def jb5:jr
 |[]=>.slice none 0 0
 |_::_=>undef
def A0.sim:A0→A0→Prop
 |.v x,.v y=>x=y
 |.v x,.h _ _ _ y=>x=y∧x.oneCell'=true
 |.h _ _ _ x,.h _ _ _ y=>x=y
 |.bp _ c b,.bp _ c' b'=>c=c'∧b=b'
 |.ep _ _ _ i x,.ep _ _ _ i' x'=>i=i'∧x=x'
 |.hs _ _ _ x s l n,.hs _ _ _ y s' l' n'=>x=y∧s=s'∧l=l'∧n=n'
 |.ro d,.ro d'=>d=d'
 |.rp ds,.rp ds'=>ds=ds'
 |.un,.un=>True
 |_,_=>False
def simL:List A0→List A0→Prop
 |[],[]=>True
 |a::l,b::m=>a.sim b∧simL l m
 |_,_=>False
def AV.sim:AV→AV→Prop
 |.c a,.c b=>a.sim b
 |.agg l,.agg m=>simL l m
 |.fn f l,.fn f' m=>f=f'∧simL l m
 |.tup l,.tup m=>l=m
 |_,.unk=>True
 |_,_=>False
def Cell.sim:Cell→Cell→Prop
 |.a x,.a y=>x.sim y
 |.own d η,.own d' η'=>d=d'∧η=η'
 |.a (.v x),.own d η=>x=.slice none 0 0∧d.isSl=true∧d.cells=[]∧η=jb5
 |_,_=>False
def simC:List Cell→List Cell→Prop
 |[],[]=>True
 |a::l,b::m=>a.sim b∧simC l m
 |_,_=>False
def Ob.sim:Ob→Ob→Prop
 |.loose d η,.loose d' η'=>d=d'∧η=η'
 |.box b ty cs,.box b' ty' cs'=>b=b'∧ty=ty'∧simC cs cs'
 |.none,.none=>True
 |_,_=>False
def nilOb:Ob→Prop
 |.loose d η=>d.isSl=true∧d.cells=[]∧η=jb5
 |_=>False
def lkT:List (Nat×AV)→Nat→AV
 |[],_=>.unk
 |(k,v)::T,n=>if n=k then v else lkT T n
def lkO:List (Nat×Ob)→Nat→Ob
 |[],_=>.none
 |(k,v)::T,n=>if n=k then v else lkO T n
def St.of (T:List (Nat×AV)) (O:List (Nat×Ob)):St:=⟨lkT T,lkO O⟩
def jxc (s:St):List (Nat×AV)→Prop
 |[]=>True
 |(n,v)::T=>(s.t n).sim v∧jxc s T
def jqi (s:St):List (Option Nat)→List (Nat×Ob)→Prop
 |[],[]=>True
 |some k::ks,(_,ob)::O=>(s.o k).sim ob∧jqi s ks O
 |none::ks,(_,ob)::O=>nilOb ob∧jqi s ks O
 |_,_=>False
def fp (F:Nat→List Nat):List (Option Nat)→List (Nat×Ob)→Nat→List Nat
 |k::ks,(g',_)::O,g=>if g=g' then (match k with|some k=>F k|none=>[]) else fp F ks O g
 |_,_,_=>[]
def jqV:List (Option Nat)→List Nat
 |[]=>[]
 |some k::ks=>k::jqV ks
 |none::ks=>jqV ks
def jjF:List Nat→Bool
 |[]=>true
 |k::ks=>!ks.contains k&&jjF ks
section
variable {B N:Nat} {w0 w:World} {s:St} {a:Act} {F:Nat→List Nat}
theorem A0.sim.rel:∀{a b:A0} {u:Value},a.sim b→A0Rel B w a u→A0Rel B w b u
 |.v x,.v y,u,hh,hr=>by rw [show x=y from hh] at hr;exact hr
 |.v x,.h _ _ _ y,u,hh,hr=>by obtain ⟨h1,h2⟩:=hh;subst h1;exact ⟨hr,h2⟩
 |.h _ _ _ x,.h _ _ _ y,u,hh,hr=>by rw [show x=y from hh] at hr;exact hr
 |.bp _ c b,.bp _ c' b',u,hh,hr=>by obtain ⟨h1,h2⟩:=hh;subst h1 h2;exact hr
 |.ep _ _ _ i x,.ep _ _ _ i' x',u,hh,hr=>by obtain ⟨h1,h2⟩:=hh;subst h1 h2;exact hr
 |.hs _ _ _ x s l n,.hs _ _ _ y s' l' n',u,hh,hr=>by obtain ⟨h1,h2,h3,h4⟩:=hh;subst h1 h2 h3 h4;exact hr
 |.ro d,.ro d',u,hh,hr=>by rw [show d=d' from hh] at hr;exact hr
 |.rp ds,.rp ds',u,hh,hr=>by rw [show ds=ds' from hh] at hr;exact hr
 |.un,.un,_,_,hr=>hr
theorem simL.rel:∀{l m:List A0} {us:List Value},simL l m→A0RelL B w l us→A0RelL B w m us
 |[],[],_,_,hr=>hr
 |_::_,_::_,_,⟨h1,h2⟩,⟨u,us',e,h3,h4⟩=>⟨u,us',e,h1.rel h3,h2.rel h4⟩
theorem AV.sim.rel {v v':AV} {u:Value} (h:v.sim v') (hr:VRel B w v u):VRel B w v' u:=by
 cases v' with
 |unk=>trivial
 |c b=>cases v<;>first|exact A0.sim.rel h hr|exact h.elim
 |agg m=>cases v<;>first|(obtain ⟨us,e,h1⟩:=hr;exact ⟨us,e,simL.rel h h1⟩)|exact h.elim
 |fn f m=>cases v<;>first|(obtain ⟨us,e,h1⟩:=hr;obtain ⟨rfl,h2⟩:=h;exact ⟨us,e,h2.rel h1⟩)|exact h.elim
 |tup m=>cases v<;>first|(rw [show _=m from h] at hr;exact hr)|exact h.elim
theorem jtA {d:D} (hs:d.isSl=true) (hc:d.cells=[]):(∃size ty,d=.sl size ty [])∧∀p,jb5 p=hdr w p d (.slice none 0 0):=by
 cases d with
 |val u=>cases hs
 |sl size ty cs=>
  obtain rfl:cs=[]:=hc;exact ⟨⟨_,_,rfl⟩,fun p=>by cases p<;>rfl⟩
theorem simC.rel:∀{cs cs':List Cell} {us:List Value} {S:List Nat},simC cs cs'→CRel B w cs us S→CRel B w cs' us S
 |[],[],_,_,_,hr=>hr
 |.a x::l,.a y::m,_,_,⟨h1,h2⟩,⟨u,us',e,h3,h4⟩=>⟨u,us',e,A0.sim.rel h1 h3,h2.rel h4⟩
 |.own d η::l,.own d' η'::m,_,_,⟨⟨h1,h1'⟩,h2⟩,⟨u,us',S1,S2,e,e',h3,h4,h5,h6⟩=>by
  subst h1 h1';exact ⟨u,us',S1,S2,e,e',h3,h4,h5,h2.rel h6⟩
 |.a (.v x)::l,.own d η::m,_,S,⟨⟨h1,h2,h3,h4⟩,h5⟩,⟨u,us',e,h6,h7⟩=>by
  subst h1 h4;obtain ⟨⟨size,ty,rfl⟩,k2⟩:=jtA (w:=w) h2 h3;refine ⟨u,us',[],S,e,rfl,h2,?_,fun p=>?_,h5.rel h7⟩
  ·rw [show u=_ from h6];exact Rep.nil_ w size ty
  ·rw [show u=_ from h6];exact k2 p
theorem Ob.sim.rel {ob ob':Ob} {S:List Nat} (h:ob.sim ob') (hr:ORel B w ob S):ORel B w ob' S:=by
 cases ob<;>cases ob'<;>first|exact h.elim|skip
 ·exact hr
 ·obtain ⟨rfl,rfl⟩:=h;exact hr
 ·obtain ⟨rfl,rfl,h⟩:=h;obtain ⟨us,S1,h1,h2,h3⟩:=hr;exact ⟨us,S1,h1,h.rel h2,h3⟩
theorem nilOb.rel {ob:Ob} (h:nilOb ob):ORel B w ob []:=by
 cases ob with
 |loose d η=>
  obtain ⟨h1,h2,rfl⟩:=h;obtain ⟨⟨size,ty,rfl⟩,k2⟩:=jtA (w:=w) h1 h2;exact ⟨h1,_,Rep.nil_ w size ty,k2⟩
 |_=>exact h.elim
theorem je8:∀{ks:List (Option Nat)} {O:List (Nat×Ob)} {g b:Nat},b∈fp F ks O g→∃k∈jqV ks,b∈F k
 |[],_,_,_,h=>by simp [fp] at h
 |_::_,[],_,_,h=>by simp [fp] at h
 |k::ks,(g',ob)::O,g,b,h=>by
  simp only [fp] at h;split at h
  ·cases k with
   |some k=>exact ⟨k,by simp [jqV],h⟩
   |none=>simp at h
  ·obtain ⟨k',h1,h2⟩:=je8 h
   exact ⟨k',by cases k<;>simp [jqV,h1],h2⟩
theorem jbH:∀{l:List Nat},jjF l=true→l.Nodup
 |[],_=>List.nodup_nil
 |k::l,h=>by
  simp only [jjF,Bool.and_eq_true,Bool.not_eq_true',List.contains_eq_mem,decide_eq_false_iff_not] at h;exact List.nodup_cons.2 ⟨h.1,jbH h.2⟩
theorem jwb (hdj:∀g g',g≠g'→∀b∈F g,b∉F g'):∀{ks:List (Option Nat)} {O:List (Nat×Ob)},(jqV ks).Nodup→∀g g',g≠g'→∀b∈fp F ks O g,b∉fp F ks O g'
 |[],_,_,_,_,_,b,h=>by simp [fp] at h
 |_::_,[],_,_,_,_,b,h=>by simp [fp] at h
 |k::ks,(g0,ob)::O,hn,g,g',hne,b,h=>by
  have hn':(jqV ks).Nodup:=by cases k with
   |none=>exact hn
   |some k=>exact (List.nodup_cons.1 hn).2
  have key:∀{g g':Nat},g=g0→g'≠g0→b∈fp F (k::ks) ((g0,ob)::O) g→b∉fp F (k::ks) ((g0,ob)::O) g':=by
   intro g g' e hne' h h';simp only [fp,if_pos e] at h;simp only [fp,if_neg hne'] at h';cases k with
   |none=>simp at h
   |some k=>
    obtain ⟨k',h1,h2⟩:=je8 h';have:k≠k':=fun e=>(List.nodup_cons.1 hn).1 (by rw [e];exact h1)
    exact hdj _ _ this b h h2
  by_cases e:g=g0
  ·exact key e (fun e'=>hne (e.trans e'.symm)) h
  ·by_cases e':g'=g0
   ·exact fun h'=>key e' e h' h
   ·simp only [fp,if_neg e] at h
    simp only [fp,if_neg e'];exact jwb hdj hn' g g' hne b h
theorem jt6 (h:∀g,ORel B w (s.o g) (F g)):∀{ks:List (Option Nat)} {O:List (Nat×Ob)},jqi s ks O→∀g,ORel B w (lkO O g) (fp F ks O g)
 |[],[],_,_=>rfl
 |[],_::_,hf,_=>hf.elim
 |some _::_,[],hf,_=>hf.elim
 |none::_,[],hf,_=>hf.elim
 |some k::ks,(g',ob)::O,⟨h1,h2⟩,g=>by
  simp only [lkO,fp];by_cases e:g=g'
  ·rw [if_pos e,if_pos e];exact h1.rel (h k)
  ·rw [if_neg e,if_neg e];exact jt6 h h2 g
 |none::ks,(g',ob)::O,⟨h1,h2⟩,g=>by
  simp only [lkO,fp];by_cases e:g=g'
  ·rw [if_pos e,if_pos e];exact h1.rel
  ·rw [if_neg e,if_neg e];exact jt6 h h2 g
theorem jwa (h:∀g,Fresh B (F g)):∀(ks:List (Option Nat)) (O:List (Nat×Ob)) (g:Nat),Fresh B (fp F ks O g)
 |[],_,_=>Fresh.nil _
 |_::_,[],_=>Fresh.nil _
 |k::ks,(g',ob)::O,g=>by
  simp only [fp];split
  ·cases k with
   |some k=>exact h k
   |none=>exact Fresh.nil _
  ·exact jwa h ks O g
theorem jwe (h:∀n,VRel B w (s.t n) (a.tmps.getD n undef)):∀{T:List (Nat×AV)},jxc s T→∀n,VRel B w (lkT T n) (a.tmps.getD n undef)
 |[],_,_=>trivial
 |(k,v)::T,⟨h1,h2⟩,n=>by
  simp only [lkT];by_cases e:n=k
  ·rw [if_pos e];subst e;exact h1.rel (h n)
  ·rw [if_neg e];exact jwe h h2 n
theorem ji (ks:List (Option Nat)) {T:List (Nat×AV)} {O:List (Nat×Ob)} (h:jxc s T∧jqi s ks O) (hn:jjF (jqV ks)=true:=by decide):Wk s (St.of T O):=
 fun B N w0 w a F hr=>⟨fp F ks O,⟨hr.below,hr.hB,hr.df,hr.sz,jwe hr.sl h.1,jt6 hr.ob h.2,jwa hr.fr ks O,jwb hr.dj (jbH hn)⟩,
  fun g b hb=>by obtain ⟨k,_,h2⟩:=je8 hb;exact ⟨k,h2⟩⟩
end
section
variable {P:Program} {β:Nat} {s:St} {Q:Ex→St→Prop}
theorem jp {ι:Type} {a:C} (mk:ι→St) (J:ι→Prop) (μ:ι→Nat) (i0:ι) (h0:J i0) (hw:Wk s (mk i0)) (hr:∀i,J i→wpC P β a (Ex.thn (fun s'=>∃i',J i'∧Wk s' (mk i')∧μ i'<μ i) Q) (mk i)):wpC P β (.loop a) Q s:=⟨ι,mk,J,μ,⟨i0,h0,hw⟩,hr⟩
theorem wp_gh {a:C} (s':St) (h:Wk s s') (hk:wpC P β a Q s'):wpC P β (.gh a) Q s:=fun _ _ _ _ _ _ hr=>let ⟨F',h1,_⟩:=h _ _ _ _ _ _ hr;⟨s',F',h1,hk⟩
end
section
variable {s:St}
theorem of_t (T:List (Nat×AV)) (O:List (Nat×Ob)) (n:Nat):(St.of T O).t n=lkT T n:=(rfl)
theorem of_o (T:List (Nat×AV)) (O:List (Nat×Ob)) (n:Nat):(St.of T O).o n=lkO O n:=(rfl)
theorem jvU (k n:Nat) (v:AV) (T:List (Nat×AV)):lkT ((k,v)::T) n=if n=k then v else lkT T n:=(rfl)
theorem jyq (n:Nat):lkO [] n=.none:=(rfl)
theorem jvV (k n:Nat) (v:Ob) (T:List (Nat×Ob)):lkO ((k,v)::T) n=if n=k then v else lkO T n:=(rfl)
theorem jwf:jxc s []=True:=(rfl)
theorem jua (n:Nat) (v:AV) (T:List (Nat×AV)):jxc s ((n,v)::T)=((s.t n).sim v∧jxc s T):=(rfl)
theorem jwg:jqi s [] []=True:=(rfl)
theorem jAR (k g:Nat) (ob:Ob) (ks:List (Option Nat)) (O:List (Nat×Ob)):jqi s (some k::ks) ((g,ob)::O)=((s.o k).sim ob∧jqi s ks O):=(rfl)
theorem jAS (g:Nat) (ob:Ob) (ks:List (Option Nat)) (O:List (Nat×Ob)):jqi s (none::ks) ((g,ob)::O)=(nilOb ob∧jqi s ks O):=(rfl)
theorem jAx (d:D) (η:jr):nilOb (.loose d η)=(d.isSl=true∧d.cells=[]∧η=jb5):=(rfl)
theorem nilH_:jb5 []=.slice none 0 0:=(rfl)
theorem sim_c (a b:A0):AV.sim (.c a) (.c b)=a.sim b:=(rfl)
theorem jxH (l m:List A0):AV.sim (.agg l) (.agg m)=simL l m:=(rfl)
theorem jzC (f f':Nat) (l m:List A0):AV.sim (.fn f l) (.fn f' m)=(f=f'∧simL l m):=(rfl)
theorem jvp:simL [] []=True:=(rfl)
theorem jsM (a b:A0) (l m:List A0):simL (a::l) (b::m)=(a.sim b∧simL l m):=(rfl)
theorem sim_v (x y:Value):A0.sim (.v x) (.v y)=(x=y):=(rfl)
theorem jzy (x y:Value) (g c:Nat) (p:List Nat):A0.sim (.v x) (.h g c p y)=(x=y∧x.oneCell'=true):=(rfl)
theorem sim_h (x y:Value) (g c g' c':Nat) (p p':List Nat):A0.sim (.h g c p x) (.h g' c' p' y)=(x=y):=(rfl)
theorem jzE (g c b g' c' b':Nat):A0.sim (.bp g c b) (.bp g' c' b')=(c=c'∧b=b'):=(rfl)
theorem jzD (g c i g' c' i':Nat) (p p':List Nat) (x x':Value):A0.sim (.ep g c p i x) (.ep g' c' p' i' x')=(i=i'∧x=x'):=(rfl)
theorem jzB (g c g' c' sz lo n sz' lo' n':Nat) (p p':List Nat) (x x':Value):A0.sim (.hs g c p x sz lo n) (.hs g' c' p' x' sz' lo' n')=(x=x'∧sz=sz'∧lo=lo'∧n=n'):=(rfl)
theorem jzA (d d':D):A0.sim (.ro d) (.ro d')=(d=d'):=(rfl)
theorem jzz (d d':List D):A0.sim (.rp d) (.rp d')=(d=d'):=(rfl)
theorem jzx (x y:A0):Cell.sim (.a x) (.a y)=x.sim y:=by cases x<;>rfl
theorem jvn (d d':D) (η η':jr):Cell.sim (.own d η) (.own d' η')=(d=d'∧η=η'):=(rfl)
theorem jvo (x:Value) (d:D) (η:jr):Cell.sim (.a (.v x)) (.own d η)=(x=.slice none 0 0∧d.isSl=true∧d.cells=[]∧η=jb5):=(rfl)
theorem jvq:simC [] []=True:=(rfl)
theorem jsN (a b:Cell) (l m:List Cell):simC (a::l) (b::m)=(a.sim b∧simC l m):=(rfl)
theorem jzF (d d':D) (η η':jr):Ob.sim (.loose d η) (.loose d' η')=(d=d'∧η=η'):=(rfl)
theorem jzG (b ty b' ty':Nat) (cs cs':List Cell):Ob.sim (.box b ty cs) (.box b' ty' cs')=(b=b'∧ty=ty'∧simC cs cs'):=(rfl)
end
attribute [go_sem] of_t of_o jvU jyq jvV jwf jua jwg jAR jAS jAx nilH_ sim_c jxH jzC jvp jsM sim_v jzy sim_h jzE jzD jzB jzA jzz jzx jvn jvo jvq jsN jzF jzG
section
variable {P:Program} {β:Nat} {s:St}
theorem joP (l:List Int):(jf l).len=l.length:=jaK (enc:=fun n=>[iv n]) (fun _=>rfl) (by decide) _ _
theorem zJ {l:List Int} {k:Nat} {x:Int} (h:l[k]?=some x):(jf l).elem k=[iv x]:=zI (enc:=fun n=>[iv n]) (fun _=>rfl) h
theorem jqW (l:List Int):(jf l).isSl=true:=(rfl)
theorem jqR (l:List Int):(jf l).size=1:=(rfl)
theorem jrb (l:List Int):(jf l).toRo=.ro (jf l):=(rfl)
theorem joK (l:List Int) (g:Nat) (η:jr):(jf l).obj g η=[(g,.loose (jf l) η)]:=(rfl)
theorem joG (l:List Int) (g c:Nat) (p:List Nat) (η:jr):(jf l).toOwn g c p η=.h g c p (η p):=(rfl)
theorem jmm (l:List Int):(jf l).cells=l.flatMap (fun n=>[iv n]):=(rfl)
theorem jrG (l:List Ed):(jz l).len=l.length:=jaK (enc:=jQ) (fun _=>rfl) (by decide) _ _
theorem jx {l:List Ed} {k:Nat} {x:Ed} (h:l[k]?=some x):(jz l).elem k=jQ x:=zI (enc:=jQ) (fun _=>rfl) h
theorem jsK (l:List Ed):(jz l).isSl=true:=(rfl)
theorem jsz (l:List Ed):(jz l).size=2:=(rfl)
theorem jrx (l:List Ed) (g:Nat) (η:jr):(jz l).obj g η=[(g,.loose (jz l) η)]:=(rfl)
theorem jrq (l:List Ed) (g c:Nat) (p:List Nat) (η:jr):(jz l).toOwn g c p η=.h g c p (η p):=(rfl)
theorem jnS (l:List Ed):(jz l).cells=l.flatMap (jQ):=(rfl)
theorem jrw (l:List En) (g:Nat) (η:jr):(jm l).obj g η=[(g,.loose (jm l) η)]:=(rfl)
theorem jrp (l:List En) (g c:Nat) (p:List Nat) (η:jr):(jm l).toOwn g c p η=.h g c p (η p):=(rfl)
theorem jnR (l:List En):(jm l).cells=l.flatMap (jk):=(rfl)
theorem jrt (l:List Tk) (g:Nat) (η:jr):(jG l).obj g η=[(g,.loose (jG l) η)]:=(rfl)
theorem jrm (l:List Tk) (g c:Nat) (p:List Nat) (η:jr):(jG l).toOwn g c p η=.h g c p (η p):=(rfl)
theorem jnO (l:List Tk):(jG l).cells=l.flatMap (jn):=(rfl)
theorem jru (l:List Rn) (g:Nat) (η:jr):(jN l).obj g η=[(g,.loose (jN l) η)]:=(rfl)
theorem jrn (l:List Rn) (g c:Nat) (p:List Nat) (η:jr):(jN l).toOwn g c p η=.h g c p (η p):=(rfl)
theorem jnP (l:List Rn):(jN l).cells=l.flatMap (jd):=(rfl)
theorem jtz (l:List (List En)) (g:Nat) (η:jr):(kz l).obj g η=[(g,.loose (kz l) η)]:=(rfl)
theorem jtv (l:List (List En)) (g c:Nat) (p:List Nat) (η:jr):(kz l).toOwn g c p η=.h g c p (η p):=(rfl)
theorem jpd (l:List (List En)):(kz l).cells=l.flatMap (fun es=>[jm es]):=(rfl)
theorem jom (l:List Int) (e:Nat) (k:List D→Prop):slK (jf l) e 1 k=(jeD=e∧k (l.flatMap (fun n=>[iv n]))):=by rw [show jf l=.sl 1 jeD (l.flatMap (fun n=>[iv n])) from rfl,jvm];simp
theorem jpc (l:List Int):(l.flatMap (fun n=>[iv n])).length/1=l.length:=by rw [jH (enc:=fun n=>[iv n]) (size:=1) (fun _=>rfl)];exact Nat.mul_div_cancel _ (by decide)
theorem joM:D.sl 1 jeD []=jf []:=rfl
theorem jfb (l:List Int):ka (l.flatMap (fun n=>[iv n]))=true:=by
 induction l with
 |nil=>rfl
 |cons x l ih=>rw [List.flatMap_cons,vB,ih];rfl
theorem jq1 (l:List Ed) (e:Nat) (k:List D→Prop):slK (jz l) e 2 k=(tEd=e∧k (l.flatMap (jQ))):=by rw [show jz l=.sl 2 tEd (l.flatMap (jQ)) from rfl,jvm];simp
theorem ji7 (l:List Ed):D.sl 2 tEd (l.flatMap (jQ))=jz l:=rfl
theorem jr4 (l:List Ed):(l.flatMap (jQ)).length/2=l.length:=by rw [jH (enc:=jQ) (size:=2) (fun _=>rfl)];exact Nat.mul_div_cancel _ (by decide)
theorem kj:D.sl 2 tEd []=jz []:=rfl
theorem jsd (l:List Ed) (x:Ed):D.sl 2 tEd (l.flatMap (jQ)++(jQ) x)=jz (l++[x]):=by simp [jz]
theorem jnE (l:List Ed):ka (l.flatMap (jQ))=true:=by
 induction l with
 |nil=>rfl
 |cons x l ih=>rw [List.flatMap_cons,vB,ih];rfl
theorem jmb (l:List Ed) (r:List D):ka (jz l::r)=false:=(rfl)
theorem joJ (l:List Ed) (r:List D):jiV (jz l::r)=jiV r:=(rfl)
theorem jq0 (l:List En) (e:Nat) (k:List D→Prop):slK (jm l) e 4 k=(tEn=e∧k (l.flatMap (jk))):=by rw [show jm l=.sl 4 tEn (l.flatMap (jk)) from rfl,jvm];simp
theorem jo4 (l:List En):D.sl 4 tEn (l.flatMap (jk))=jm l:=rfl
theorem jr3 (l:List En):(l.flatMap (jk)).length/4=l.length:=by rw [jH (enc:=jk) (size:=4) (fun _=>rfl)];exact Nat.mul_div_cancel _ (by decide)
theorem jc5:D.sl 4 tEn []=jm []:=rfl
theorem jaL (l:List En):ka (l.flatMap (jk))=true:=by
 induction l with
 |nil=>rfl
 |cons x l ih=>rw [List.flatMap_cons,vB,ih];rfl
theorem jma (l:List En) (r:List D):ka (jm l::r)=false:=(rfl)
theorem joI (l:List En) (r:List D):jiV (jm l::r)=jiV r:=(rfl)
theorem jqX (l:List Tk) (e:Nat) (k:List D→Prop):slK (jG l) e 4 k=(tTk=e∧k (l.flatMap (jn))):=by rw [show jG l=.sl 4 tTk (l.flatMap (jn)) from rfl,jvm];simp
theorem jr0 (l:List Tk):(l.flatMap (jn)).length/4=l.length:=by rw [jH (enc:=jn) (size:=4) (fun _=>rfl)];exact Nat.mul_div_cancel _ (by decide)
theorem jg9 (l:List Tk):ka (l.flatMap (jn))=true:=by
 induction l with
 |nil=>rfl
 |cons x l ih=>rw [List.flatMap_cons,vB,ih];rfl
theorem joH (l:List Tk) (r:List D):jiV (jG l::r)=jiV r:=(rfl)
theorem jqY (l:List Rn) (e:Nat) (k:List D→Prop):slK (jN l) e 8 k=(tRn=e∧k (l.flatMap (jd))):=by rw [show jN l=.sl 8 tRn (l.flatMap (jd)) from rfl,jvm];simp
theorem jr1 (l:List Rn):(l.flatMap (jd)).length/8=l.length:=by rw [jH (enc:=jd) (size:=8) (fun _=>rfl)];exact Nat.mul_div_cancel _ (by decide)
theorem jsL (l:List (List En)) (e:Nat) (k:List D→Prop):slK (kz l) e 1 k=(jqQ=e∧k (l.flatMap (fun es=>[jm es]))):=by rw [show kz l=.sl 1 jqQ (l.flatMap (fun es=>[jm es])) from rfl,jvm];simp
theorem jup (l:List (List En)):(l.flatMap (fun es=>[jm es])).length/1=l.length:=by rw [jH (enc:=fun es=>[jm es]) (size:=1) (fun _=>rfl)];exact Nat.mul_div_cancel _ (by decide)
theorem jq2 (l:List Dd) (e:Nat) (k:List D→Prop):slK (jdD l) e 11 k=(tDd=e∧k (l.flatMap (jo))):=by rw [show jdD l=.sl 11 tDd (l.flatMap (jo)) from rfl,jvm];simp
theorem jr5 (l:List Dd):(l.flatMap (jo)).length/11=l.length:=by rw [jH (enc:=jo) (size:=11) (fun _=>rfl)];exact Nat.mul_div_cancel _ (by decide)
theorem jkJ:D.sl 11 tDd []=jdD []:=rfl
theorem jAp (u:Value) (l:List D):jiV (.val u::l)=(u.oneCell'&&jiV l):=(rfl)
theorem jvM:jiV []=true:=(rfl)
theorem jnt (l:List Cell) (ds:List D):IsD (.a (.v (.slice none 0 0))::l) (jf []::ds)=IsD l ds:=jl3 l _ _ ds
theorem joU (l:List Cell) (ds:List D):IsD (.a (.v (.slice none 0 0))::l) (jm []::ds)=IsD l ds:=jl3 l _ _ ds
theorem jrM:Is s (.v (.slice none 0 0)) (jz [])=True:=jw8 _ _
theorem jrO (l:List Int) (a b:Int):D.sl 1 jeD (l.flatMap (fun n=>[iv n])++[iv a,iv b])=jf (l++[a,b]):=by simp [jf]
theorem jj {l:List Int} {k:Nat} {x:Int} (h:l[k]?=some x):((l.flatMap (fun n=>[iv n])).drop (k*1)).take 1=[iv x]:=zJ h
theorem jh {l:List Int} {k:Nat} (h:k<l.length):k*1+1≤(l.flatMap (fun n=>[iv n])).length:=by rw [jH (enc:=fun n=>[iv n]) (size:=1) (fun _=>rfl)];omega
theorem jn3 {l:List Ed} {k:Nat} {x:Ed} (h:l[k]?=some x):((l.flatMap (jQ)).drop (k*2)).take 2=jQ x:=jx h
theorem jnu {l:List Ed} {k:Nat} (h:k<l.length):k*2+2≤(l.flatMap (jQ)).length:=by rw [jH (enc:=jQ) (size:=2) (fun _=>rfl)];omega
theorem jbG {l:List (List En)} {k:Nat} {x:List En} (h:l[k]?=some x):((l.flatMap (fun es=>[jm es])).drop (k*1)).take 1=[jm x]:=qa h
theorem jaI {l:List (List En)} {k:Nat} (h:k<l.length):k*1+1≤(l.flatMap (fun es=>[jm es])).length:=by rw [jH (enc:=fun es=>[jm es]) (size:=1) (fun _=>rfl)];omega
theorem jyo (g c:Nat) (p:List Nat) (η:jr) (i:Nat) (v:Value) (l:List D):jgk g c p η i (.val v::l)=.v v::jgk g c p η (i+1) l:=(rfl)
theorem jyp (g c:Nat) (p:List Nat) (η:jr) (i:Nat):jgk g c p η i []=[]:=(rfl)
end
attribute [go_sem] jyo jyp jrM jnt joU jfb jom jpc jmm jnE jq1 jr4 jnS jmb joJ jaL jq0 jr3 jnR jma joI jg9 jqX jr0 jnO joH jqY jr1 jnP jsL jup jpd jq2 jr5 jAp jvM Bool.and_false Bool.false_and Bool.and_true Bool.true_and joP jqW jqR jrb joK joG jrG jsK jsz js5 jrx jrq jrF jsJ jsy js4 jrw jrp jrD jsG jsv js2 jrt jrm jah jsH jsw js3 jru jrn jeW jvl jve jvy jtz jtv
abbrev Ni (n:Int):AV:=.c (.v (.int .i64 n))
abbrev Hd (g:Nat) (η:jr):AV:=.c (.h g 0 [] (η []))
abbrev Bx (g b:Nat):AV:=.c (.bp g 0 b)
abbrev Ro (d:D):AV:=.c (.ro d)
abbrev Bi (b ty:Nat) (ds:List D):Ob:=.box b ty (ds.map fun x=>.a x.toRo)
theorem jwd (s t:Nat) (cs l:List D):ka (.sl s t cs::l)=false:=(rfl)
theorem jyh (s t:Nat) (cs l:List D):jiV (.sl s t cs::l)=jiV l:=(rfl)
attribute [go_sem] jwd jyh
theorem jAZ {P:Program} {ty:Nat} {xs ys:List Value} {b:Bool} (h:∀w,(Op.equalIn 10000 ty (.agg xs.toArray) (.agg ys.toArray)).run P w=.ok b w) (hg:P.eqGuardType P.depth ty=false):EqR P .eql ty xs ys b:=fun w=>⟨by rw [run_eql_struct,h w];rfl,fun x y=>run_eqGuard_agg _ _ _ _ _ _ _ hg⟩
theorem w_any:Nonempty World:=⟨default⟩
theorem jwE {P:Program} {d:Option Nat} {s:St} {K:St→Prop} {op:BinOp} {ty:Nat} {l m:List A0} {xs ys:List Value} {b:Bool} (hx:jb6 l=some xs) (hy:jb6 m=some ys) (h:EqR P op ty xs ys b):jzd P d s K op ty (.agg l) (.agg m)=K (s.put d (.c (.v (.bool b)))):=by
 apply propext
 constructor
 ·rintro ⟨av,(⟨_,_,_,h1,_⟩|⟨l',m',xs',ys',b',h1,h2,h3,h4,h5,rfl⟩),h6⟩
  ·cases h1
  ·cases h1;cases h2
   rw [hx] at h3;rw [hy] at h4;cases h3;cases h4;obtain ⟨w⟩:=w_any;have e1:=(h w).1;rw [(h5 w).1] at e1;simp at e1;subst e1;exact h6
 ·intro hk
  exact ⟨_,.inr ⟨l,m,xs,ys,b,rfl,rfl,hx,hy,h,rfl⟩,hk⟩
theorem jA1 (w:World) (x y:Ed):(Op.equalIn 10000 253 (.agg #[.int .i64 x.src,.int .i64 x.dst]) (.agg #[.int .i64 y.src,.int .i64 y.dst])).run Tryz.prog w=.ok (decide (x=y)) w:=by
 have u3:=Tryz.underlying3;have a3:=Tryz.isAgg3;have z3:=Tryz.sizeOf3;rw [show (10000:Nat)=9999+1 from rfl,run_equalIn_agg w 9999 253 _ _ (by kernel_rfl) (by kernel_rfl)]
 simp only [Program.fieldsOf,Tryz.underlying253];obtain ⟨xsrc,xdst⟩:=x;obtain ⟨ysrc,ydst⟩:=y
 go_simp
 by_cases h0:xsrc=ysrc<;>by_cases h1:xdst=ydst<;>simp [h0,h1]
theorem juJ {d:Option Nat} {s:St} {K:St→Prop} (x y:Ed):jzd Tryz.prog d s K .eql 253 (.agg [.v (.int .i64 x.src),.v (.int .i64 x.dst)]) (.agg [.v (.int .i64 y.src),.v (.int .i64 y.dst)])=K (s.put d (.c (.v (.bool (decide (x=y)))))):=jwE rfl rfl (jAZ (fun w=>jA1 w x y) (by kernel_rfl))
attribute [go_sem] juJ
def jdW:C:=iS [iA 2 (iN 0)] (iS [iA 4 (iM 0),iA 5 (.call 144 [.t 4]),iA 3 (iM 5)] (.seq (iS [iA 6 (iM 3),iA 7 (.bin .eql 9 (.t 6) (.c (.string ⟨⟨[]⟩⟩)))] (iD 7 (iS [iA 2 (iN 0)] .ret) .skip)) (iS [iA 8 (iM 3),iA 9 (.call 90 [.t 8]),iA 10 (iQ .rem 3 9 4),iA 2 (iM 10)] .ret)))
theorem jgF:fnC Tryz.prog Tryz.f65=some (jdW,[.t 2],11):=by kernel_rfl
def jd7:C:=iS [iA 2 (iN 0)] (iS [iA 4 (iM 0),iA 5 (.call 142 [.t 4]),iA 3 (iM 5)] (.seq (iS [iA 6 (iM 3),iA 7 (.bin .eql 9 (.t 6) (.c (.string ⟨⟨[]⟩⟩)))] (iD 7 (iS [iA 2 (iN 0)] .ret) .skip)) (iS [iA 8 (iM 3),iA 9 (.call 143 [.t 8]),iA 10 (iQ .rem 3 9 4),iA 2 (iM 10)] .ret)))
theorem jgQ:fnC Tryz.prog Tryz.f64=some (jd7,[.t 2],11):=by kernel_rfl
def jdT:C:=iS [iA 2 (.mov (.c (.string ⟨⟨[]⟩⟩)))] (.seq (iS [iA 4 (iM 0),iA 5 (.call 74 [.t 4,.c (.int .i64 0),.c (.int .i64 1000000000)]),iA 6 (iU 5)] (iD 6 (iS [iA 2 (.mov (.c (.string ⟨⟨[]⟩⟩)))] .ret) .skip)) (iS [iA 7 (.bsl 5 1 0 [] []),iA 3 (iM 7)] (.seq (.blk 0 (.loop (.seq (iS [iA 8 (iM 0),iA 9 (iQ .gtr 3 8 127)] (iD 9 .skip (.exit 0))) (.blk 1 (iS [iA 10 (iM 3),iA 11 (iM 0),iA 12 (iQ .rem 3 11 128),iA 13 (.bin .add 3 (.c (.int .i64 128)) (.t 12)),iA 14 (.cv (.num .u8) 0 (.t 13)),iA 15 (.bsl 5 1 1 [none] [(0,1,.t 14)]),iA 16 (.app 5 1 1 (.t 10) (.t 15)),iA 3 (iM 16)] (.reg [iA 17 (iM 0),iA 18 (iQ .quo 3 17 128),iA 0 (iM 18)])))))) (iS [iA 19 (iM 3),iA 20 (iM 0),iA 21 (.cv (.num .u8) 0 (.t 20)),iA 22 (.bsl 5 1 1 [none] [(0,1,.t 21)]),iA 23 (.app 5 1 1 (.t 19) (.t 22)),iA 24 (.cv .text 5 (.t 23)),iA 2 (iM 24)] .ret))))
theorem jgC:fnC Tryz.prog Tryz.f144=some (jdT,[.t 2],25):=by kernel_rfl
def jd3:C:=iS [iA 2 (.mov (.c (.string ⟨⟨[]⟩⟩)))] (.seq (iS [iA 4 (iM 0),iA 5 (.call 78 [.t 4,.c (.int .i64 0),.c (.int .i64 1000000000)]),iA 6 (iU 5)] (iD 6 (iS [iA 2 (.mov (.c (.string ⟨⟨[]⟩⟩)))] .ret) .skip)) (iS [iA 3 (.mov (.c (.slice none 0 0)))] (.seq (.blk 0 (.loop (.seq (iS [iA 7 (iM 0),iA 8 (iQ .geq 3 7 128)] (iD 8 .skip (.exit 0))) (.blk 1 (iS [iA 9 (iM 3),iA 10 (iM 0),iA 11 (iQ .rem 3 10 128),iA 12 (iQ .add 3 11 128),iA 13 (.cv (.num .u8) 0 (.t 12)),iA 14 (.bsl 5 1 1 [none] [(0,1,.t 13)]),iA 15 (.app 5 1 1 (.t 9) (.t 14)),iA 3 (iM 15)] (.reg [iA 16 (iM 0),iA 17 (iQ .quo 3 16 128),iA 0 (iM 17)])))))) (iS [iA 18 (iM 3),iA 19 (iM 0),iA 20 (.cv (.num .u8) 0 (.t 19)),iA 21 (.bsl 5 1 1 [none] [(0,1,.t 20)]),iA 22 (.app 5 1 1 (.t 18) (.t 21)),iA 23 (.cv .text 5 (.t 22)),iA 2 (iM 23)] .ret))))
theorem jgM:fnC Tryz.prog Tryz.f142=some (jd3,[.t 2],24):=by kernel_rfl
def jcI:C:=iS [iA 2 (iN 0)] (iS [iA 3 (iN 4294967295)] (.seq (iS [iA 4 (iN 0)] (.blk 0 (.loop (.seq (iS [iA 7 (iM 4),iA 8 (iM 0),iA 9 (.len true (.t 8)),iA 10 (iP .lss 3 7 9)] (iD 10 .skip (.exit 0))) (.seq (.blk 1 (iS [iA 13 (iM 3),iA 14 (iM 0),iA 15 (iM 4),iA 16 (.sidx (.t 14) (.t 15)),iA 17 (.cv (.num .i64) 0 (.t 16)),iA 18 (iP .xor 3 13 17),iA 3 (iM 18)] (iS [iA 5 (iN 0)] (.blk 2 (.loop (.seq (iS [iA 19 (iM 5),iA 20 (iQ .lss 3 19 8)] (iD 20 .skip (.exit 2))) (.seq (.blk 3 (iS [iA 23 (iM 3),iA 24 (iQ .rem 3 23 2),iA 25 (iQ .eql 3 24 1),iA 6 (iM 25)] (iS [iA 26 (iM 3),iA 27 (iQ .quo 3 26 2),iA 3 (iM 27)] (iS [iA 28 (iM 6)] (iD 28 (.reg [iA 29 (iM 3),iA 30 (iQ .xor 3 29 3988292384),iA 3 (iM 30)]) .skip))))) (.reg [iA 21 (iM 5),iA 22 (iQ .add 3 21 1),iA 5 (iM 22)])))))))) (.reg [iA 11 (iM 4),iA 12 (iQ .add 3 11 1),iA 4 (iM 12)])))))) (iS [iA 31 (iM 3),iA 32 (iQ .xor 3 31 4294967295),iA 2 (iM 32)] .ret)))
theorem jjl:fnC Tryz.prog Tryz.f90=some (jcI,[.t 2],33):=by kernel_rfl
def jnW:C:=iS [iA 2 (iN 0)] (iS [iA 3 (iN 4294967295)] (.seq (iS [iA 4 (iN 0)] (.blk 0 (.loop (.seq (iS [iA 7 (iM 4),iA 8 (iM 0),iA 9 (.len true (.t 8)),iA 10 (iP .lss 3 7 9)] (iD 10 .skip (.exit 0))) (.seq (.blk 1 (iS [iA 13 (iM 3),iA 14 (iM 0),iA 15 (iM 4),iA 16 (.sidx (.t 14) (.t 15)),iA 17 (.cv (.num .i64) 0 (.t 16)),iA 18 (iP .xor 3 13 17),iA 3 (iM 18)] (iS [iA 5 (iN 0)] (.blk 2 (.loop (.seq (iS [iA 19 (iM 5),iA 20 (iQ .lss 3 19 8)] (iD 20 .skip (.exit 2))) (.seq (.blk 3 (iS [iA 23 (iM 3),iA 24 (iQ .rem 3 23 2),iA 25 (iQ .eql 3 24 1),iA 6 (iM 25)] (iS [iA 26 (iM 3),iA 27 (iQ .quo 3 26 2),iA 3 (iM 27)] (iS [iA 28 (iM 6)] (iD 28 (.reg [iA 29 (iM 3),iA 30 (iQ .xor 3 29 3988292384),iA 3 (iM 30)]) .skip))))) (.reg [iA 21 (iM 5),iA 22 (iQ .add 3 21 1),iA 5 (iM 22)])))))))) (.reg [iA 11 (iM 4),iA 12 (iQ .add 3 11 1),iA 4 (iM 12)])))))) (iS [iA 31 (iM 3),iA 32 (iQ .xor 3 31 4294967295),iA 2 (iM 32)] .ret)))
theorem jjr:fnC Tryz.prog Tryz.f143=some (jnW,[.t 2],33):=by kernel_rfl
def jha:C:=iS [iA 6 (iO false)] (iS [iA 7 (iM 0),iA 8 (iM 1),iA 9 (iP .geq 3 7 8),iA 10 (iM 9),iB 11 10 true (iM 0),iB 12 10 true (iM 2),iB 13 10 true (iP .leq 3 11 12),iA 14 (.pick (.t 10) (.t 13) (.c (.bool false))),iA 6 (iM 14)] .ret)
theorem jjj:fnC Tryz.prog Tryz.f74=some (jha,[.t 6],15):=by kernel_rfl
def jfK:C:=iS [iA 6 (iO false)] (iS [iA 7 (iM 0),iA 8 (iM 1),iA 9 (iP .geq 3 7 8),iA 10 (iM 9),iB 11 10 true (iM 0),iB 12 10 true (iM 2),iB 13 10 true (iP .leq 3 11 12),iA 14 (.pick (.t 10) (.t 13) (.c (.bool false))),iA 6 (iM 14)] .ret)
theorem jhJ:fnC Tryz.prog Tryz.f78=some (jfK,[.t 6],15):=by kernel_rfl
theorem jI (a b c:Int):kr Tryz.prog 74 [.c (.val (.int .i64 a)),.c (.val (.int .i64 b)),.c (.val (.int .i64 c))] (.c (.val (.bool (decide (b≤a∧a≤c))))):=by
 refine js Tryz.func74 jjj (by simp) ?_
 unfold jha;by_cases h:b≤a
 ·simp only [go_sem,h]
 ·simp only [go_sem,h]
theorem jE (a b c:Int):kr Tryz.prog 78 [.c (.val (.int .i64 a)),.c (.val (.int .i64 b)),.c (.val (.int .i64 c))] (.c (.val (.bool (decide (b≤a∧a≤c))))):=by
 refine js Tryz.func78 jhJ (by simp) ?_
 unfold jfK;by_cases h:b≤a
 ·simp only [go_sem,h]
 ·simp only [go_sem,h]
def jgY (v:Nat):List UInt8:=if v<128 then [UInt8.ofNat v] else UInt8.ofNat (128+v%128)::jgY (v/128)
termination_by v
decreasing_by omega
theorem jlc (v:Nat):(jgY v).length≤v+1:=by
 induction v using Nat.strongRecOn with
 |_ v ih=>
  unfold jgY;split
  ·simp
  ·have:=ih (v/128) (by omega)
   simp only [List.length_cons];omega
def jqN (n:Int):ByteArray:=if 0≤n∧n≤1000000000 then ⟨(jgY n.toNat).toArray⟩ else ⟨#[]⟩
theorem jwz {v:Nat} (h:v<256):D.val (.int .u8 (IntKind.u8.wrap (v:Int)))=qX (UInt8.ofNat v):=by
 have:IntKind.u8.wrap (v:Int)=v:=IntWalk.u8_in _ (by omega)
 rw [this];simp [qX,Nat.mod_eq_of_lt h]
theorem jlg (v:Nat):Int.tdiv (v:Int) 128=((v/128:Nat):Int):=rfl
theorem jlf (v:Nat):Int.tmod (v:Int) 128=((v%128:Nat):Int):=rfl
theorem jss {n:Nat} (h:n≤1000000000):jqN (n:Int)=⟨(jgY n).toArray⟩:=by simp [jqN];omega
theorem jjP (n:Int):kr Tryz.prog 144 [.c (.val (.int .i64 n))] (.c (.val (.string (jqN n)))):=by
 refine js Tryz.func144 jgC (by simp) ?_
 unfold jdT;simp only [go_sem];refine jc (jI n 0 1000000000) (by simp only [go_sem]) fun η=>?_
 by_cases h:0≤n∧n≤1000000000
 ·obtain ⟨n,rfl⟩:=Int.eq_ofNat_of_zero_le h.1
  have hn:n≤1000000000:=by omega
  rw [jss hn];simp only [go_sem,h];intro η1;have hl0:=jlc n;refine vd (fun s=>∃(l:List UInt8) (v:Nat) (g:Nat) (η:jr),l++jgY v=jgY n∧v≤n∧(g=700∨g=1600)∧s.t 0=.c (.v (.int .i64 v))∧s.t 3=.c (.h g 0 [] (η []))∧s.o g=.loose (.sl 1 5 (l.map qX)) η) (fun s=>s.n 0) ?_ ?_
  ·exact ⟨[],n,700,η1,rfl,Nat.le_refl _,.inl rfl,by simp only [go_sem],by simp only [go_sem],by simp only [go_sem]⟩
  ·rintro s ⟨l,v,g,η,hl,hv,hg,h0,h3,ho⟩
   have hll:l.length≤1000000001:=by have:=congrArg List.length hl;simp only [List.length_append] at this;omega
   by_cases hlt:128≤v
   ·have hlt':(127:Int)<v:=by omega
    have hw:IntKind.i64.wrap (128+((v%128:Nat):Int))=((128+v%128:Nat):Int):=by rw [jg (by omega) (by omega)];omega
    have hw2:IntKind.i64.wrap ((v/128:Nat):Int)=((v/128:Nat):Int):=jg (by omega) (by omega)
    have hb:=jwz (v:=128+v%128) (by omega)
    have e':l++jgY v=(l++[UInt8.ofNat (128+v%128)])++jgY (v/128):=by rw [jgY,if_neg (by omega)];simp
    rcases hg with rfl|rfl
    ·simp only [go_sem,h0,h3,ho,hlt',jlg,jlf,hw,hw2]
     intro η2;refine ⟨by simp [maxLen];try omega,by simp;try omega,fun η3=>⟨⟨_,v/128,1600,η3,e'.symm.trans hl,by omega,.inr rfl,rfl,rfl,by simp only [go_sem,hb,List.map_append]⟩,?_⟩⟩
     rw [jbr (k:=.i64) (n:=((v/128:Nat):Int)) (by simp only [go_sem]),jbr h0];omega
    ·simp only [go_sem,h0,h3,ho,hlt',jlg,jlf,hw,hw2]
     intro η2;refine ⟨by simp [maxLen];try omega,by simp;try omega,fun η3=>⟨⟨_,v/128,1600,η3,e'.symm.trans hl,by omega,.inr rfl,rfl,rfl,by simp only [go_sem,hb,List.map_append]⟩,?_⟩⟩
     rw [jbr (k:=.i64) (n:=((v/128:Nat):Int)) (by simp only [go_sem]),jbr h0];omega
   ·have hlt':¬(127:Int)<v:=by omega
    have hb:=jwz (v:=v) (by omega)
    have e':l++jgY v=l++[UInt8.ofNat v]:=by rw [jgY,if_pos (by omega)]
    have hvl:jgY n=l++[UInt8.ofNat v]:=by rw [←hl,e']
    rcases hg with rfl|rfl
    ·simp only [go_sem,h0,h3,ho,hlt']
     intro η2;refine ⟨by simp [maxLen];try omega,by simp;try omega,fun η3=>jim (bs:=jgY n) rfl rfl (by rw [hvl];simp only [go_sem,hb,List.map_append]) ?_⟩
     simp only [go_sem]
    ·simp only [go_sem,h0,h3,ho,hlt']
     intro η2;refine ⟨by simp [maxLen];try omega,by simp;try omega,fun η3=>jim (bs:=jgY n) rfl rfl (by rw [hvl];simp only [go_sem,hb,List.map_append]) ?_⟩
     simp only [go_sem]
 ·simp only [go_sem,h]
  simp [jqN,h]
theorem jjX (n:Int):kr Tryz.prog 142 [.c (.val (.int .i64 n))] (.c (.val (.string (jqN n)))):=by
 refine js Tryz.func142 jgM (by simp) ?_
 unfold jd3;simp only [go_sem];refine jc (jE n 0 1000000000) (by simp only [go_sem]) fun η=>?_
 by_cases h:0≤n∧n≤1000000000
 ·obtain ⟨n,rfl⟩:=Int.eq_ofNat_of_zero_le h.1
  have hn:n≤1000000000:=by omega
  rw [jss hn];simp only [go_sem,h];have hl0:=jlc n;refine vd (fun s=>∃(l:List UInt8) (v:Nat),l++jgY v=jgY n∧v≤n∧s.t 0=.c (.v (.int .i64 v))∧((l=[]∧s.t 3=.c (.v (.slice none 0 0)))∨∃η,s.t 3=.c (.h 1500 0 [] (η []))∧s.o 1500=.loose (.sl 1 5 (l.map qX)) η)) (fun s=>s.n 0) ?_ ?_
  ·exact ⟨[],n,rfl,Nat.le_refl _,by simp only [go_sem],.inl ⟨rfl,by simp only [go_sem]⟩⟩
  ·rintro s ⟨l,v,hl,hv,h0,hg⟩
   have hll:l.length≤1000000001:=by have:=congrArg List.length hl;simp only [List.length_append] at this;omega
   by_cases hlt:128≤v
   ·have hlt':(128:Int)≤v:=by omega
    have hw:IntKind.i64.wrap (((v%128:Nat):Int)+128)=((128+v%128:Nat):Int):=by rw [jg (by omega) (by omega)];omega
    have hw2:IntKind.i64.wrap ((v/128:Nat):Int)=((v/128:Nat):Int):=jg (by omega) (by omega)
    have hb:=jwz (v:=128+v%128) (by omega)
    have e':l++jgY v=(l++[UInt8.ofNat (128+v%128)])++jgY (v/128):=by rw [jgY,if_neg (by omega)];simp
    rcases hg with ⟨rfl,h3⟩|⟨η,h3,ho⟩
    ·simp only [go_sem,h0,h3,List.length_nil,hlt',maxLen,jlg,jlf,hw,hw2]
     intro η2;intro η3;refine ⟨⟨_,v/128,e'.symm.trans hl,by omega,rfl,.inr ⟨η3,rfl,by simp only [go_sem,hb,List.map_append]⟩⟩,?_⟩
     rw [jbr (k:=.i64) (n:=((v/128:Nat):Int)) (by simp only [go_sem]),jbr h0];omega
    ·simp only [go_sem,h0,h3,ho,hlt',jlg,jlf,hw,hw2]
     intro η2;refine ⟨by simp [maxLen];try omega,by simp;try omega,fun η3=>⟨⟨_,v/128,e'.symm.trans hl,by omega,rfl,.inr ⟨η3,rfl,by simp only [go_sem,hb,List.map_append]⟩⟩,?_⟩⟩
     rw [jbr (k:=.i64) (n:=((v/128:Nat):Int)) (by simp only [go_sem]),jbr h0];omega
   ·have hlt':¬(128:Int)≤v:=by omega
    have hb:=jwz (v:=v) (by omega)
    have e':l++jgY v=l++[UInt8.ofNat v]:=by rw [jgY,if_pos (by omega)]
    have hvl:jgY n=l++[UInt8.ofNat v]:=by rw [←hl,e']
    rcases hg with ⟨rfl,h3⟩|⟨η,h3,ho⟩
    ·simp only [go_sem,h0,h3,List.length_nil,hlt',maxLen]
     intro η2 η3;refine jim (bs:=jgY n) rfl rfl (by rw [hvl];simp only [go_sem,hb,List.map_append]) ?_
     simp only [go_sem]
    ·simp only [go_sem,h0,h3,ho,hlt']
     intro η2;refine ⟨by simp [maxLen];try omega,by simp;try omega,fun η3=>jim (bs:=jgY n) rfl rfl (by rw [hvl];simp only [go_sem,hb,List.map_append]) ?_⟩
     simp only [go_sem]
 ·simp only [go_sem,h]
  simp [jqN,h]
def jqM (a b:Int):Int:=IntKind.i64.wrap ((BitVec.ofInt 64 a^^^BitVec.ofInt 64 b).toNat)
theorem ju4 (a b:Int):IntKind.i64.wrap ((BitVec.ofInt 64 a^^^BitVec.ofInt 64 b).toNat)=jqM a b:=rfl
def jkn (c:Int):Int:=if (c.tmod 2==1)=true then jqM (IntKind.i64.wrap (c.tdiv 2)) 3988292384 else IntKind.i64.wrap (c.tdiv 2)
def jnq:Nat→Int→Int
 |0,c=>c
 |n+1,c=>jkn (jnq n c)
def jwQ (c:Int) (b:UInt8):Int:=jnq 8 (jqM c (IntKind.i64.wrap b.toNat))
def jzb (b:ByteArray):Int:=jqM (b.data.toList.foldl jwQ 4294967295) 4294967295
theorem jrU {α β:Type} (f:β→α→β) (c:β) {l:List α} {k:Nat} {x:α} (h:l[k]?=some x):(l.take (k+1)).foldl f c=f ((l.take k).foldl f c) x:=by
 rw [List.take_add_one,h];simp
theorem jsq {P:Program} (b:ByteArray) (hb:b.size<9223372036854775807):wpC P 0 jcI (jwZ [.t 2] (.c (.val (.int .i64 (jzb b))))) (St.init [.c (.val (.string b))]):=by
 unfold jcI;simp only [go_sem];refine vd (fun s=>∃k:Nat,k≤b.size∧s.t 0=.c (.v (.string b))∧s.t 4=.c (.v (.int .i64 k))∧s.t 3=.c (.v (.int .i64 ((b.data.toList.take k).foldl jwQ 4294967295)))) (fun s=>b.size-s.n 4) ?_ ?_
 ·exact ⟨0,Nat.zero_le _,by simp only [go_sem],by simp only [go_sem]<;>rfl,by simp only [go_sem]<;>rfl⟩
 ·rintro s ⟨k,hk,h0,h4,h3⟩
  by_cases hlt:k<b.size
  ·have hlt':(k:Int)<b.size:=by omega
   obtain ⟨u,hu⟩:∃u,b[k]?=some u:=⟨b[k],by simp [hlt]⟩
   have hu':b.data.toList[k]?=some u:=by
    rw [←hu,getElem?_pos b k hlt];simp only [Array.getElem?_toList];exact getElem?_pos b.data k hlt
   have hw4:IntKind.i64.wrap ((k:Int)+1)=((k+1:Nat):Int):=jg (by omega) (by omega)
   simp only [go_sem,h0,h3,h4,hlt',ju4];refine ⟨u,hu,?_⟩;refine vd (fun s=>∃j:Nat,j≤8∧s.t 0=.c (.v (.string b))∧s.t 4=.c (.v (.int .i64 k))∧s.t 5=.c (.v (.int .i64 j))∧s.t 3=.c (.v (.int .i64 (jnq j (jqM ((b.data.toList.take k).foldl jwQ 4294967295) (IntKind.i64.wrap u.toNat)))))) (fun s=>8-s.n 5) ?_ ?_
   ·exact ⟨0,Nat.zero_le _,by simp only [go_sem,h0],by simp only [go_sem,h4],by simp only [go_sem]<;>rfl,by simp only [go_sem]<;>rfl⟩
   ·rintro s' ⟨j,hj,h0',h4',h5',h3'⟩
    by_cases hj':j<8
    ·have hj2:(j:Int)<8:=by omega
     have hw:IntKind.i64.wrap ((j:Int)+1)=((j+1:Nat):Int):=jg (by omega) (by omega)
     cases hodd:(jnq j (jqM ((b.data.toList.take k).foldl jwQ 4294967295) (IntKind.i64.wrap u.toNat))).tmod 2==1 with
     |true=>
      simp only [go_sem,h0',h4',h5',h3',hj2,hodd,hw,ju4];exact ⟨⟨j+1,by omega,rfl,by simp only [jnq,jkn,hodd,↓reduceIte];rfl⟩,by rw [jbr (k:=.i64) (n:=((j+1:Nat):Int)) (by simp only [go_sem]),jbr h5'];omega⟩
     |false=>
      simp only [go_sem,h0',h4',h5',h3',hj2,hodd,hw,ju4];exact ⟨⟨j+1,by omega,rfl,by simp only [jnq,jkn,hodd,Bool.false_eq_true,↓reduceIte]⟩,by rw [jbr (k:=.i64) (n:=((j+1:Nat):Int)) (by simp only [go_sem]),jbr h5'];omega⟩
    ·have hj2:¬(j:Int)<8:=by omega
     have hj8:j=8:=by omega
     subst hj8;simp only [go_sem,h0',h4',h5',h3',hj2,hw4];exact ⟨⟨k+1,by omega,rfl,by rw [jrU _ _ hu'];rfl⟩,by rw [jbr (k:=.i64) (n:=((k+1:Nat):Int)) (by simp only [go_sem]),jbr h4];omega⟩
  ·have hlt':¬(k:Int)<b.size:=by omega
   have hkk:b.data.toList.take k=b.data.toList:=List.take_of_length_le (by simp only [Array.length_toList];exact Nat.le_of_not_lt hlt)
   simp only [go_sem,h0,h3,h4,hlt',ju4,hkk];rfl
theorem jm3 (b:ByteArray) (hb:b.size<9223372036854775807):kr Tryz.prog 90 [.c (.val (.string b))] (.c (.val (.int .i64 (jzb b)))):=
 js Tryz.func90 jjl (by simp) (jsq b hb)
theorem jm7 (b:ByteArray) (hb:b.size<9223372036854775807):kr Tryz.prog 143 [.c (.val (.string b))] (.c (.val (.int .i64 (jzb b)))):=
 js Tryz.func143 jjr (by simp) (jsq b hb)
def jce (n:Int):Int:=if ((jqN n).toList==ByteArray.toList ⟨⟨[]⟩⟩)=true then 0 else (jzb (jqN n)).tmod 4
theorem jkl (n:Int):(jqN n).size<9223372036854775807:=by
 unfold jqN;split
 ·have:=jlc n.toNat
  show (jgY n.toNat).toArray.size<_;simp only [List.size_toArray];omega
 ·decide
theorem jdy (n:Int):kr Tryz.prog 65 [.c (.val (.int .i64 n))] (.c (.val (.int .i64 (jce n)))):=by
 refine js Tryz.func65 jgF (by simp) ?_
 unfold jdW;simp only [go_sem];refine jc (jjP n) (by simp only [go_sem]) fun η=>?_
 cases he:(jqN n).toList==ByteArray.toList ⟨⟨[]⟩⟩ with
 |true=>
  simp only [go_sem,he];simp only [jce,he,if_true]
 |false=>
  simp only [go_sem,he];refine jc (jm3 _ (jkl n)) (by simp only [go_sem]) fun η=>?_
  simp only [go_sem];simp only [jce,he,Bool.false_eq_true,if_false]
theorem jdA (n:Int):kr Tryz.prog 64 [.c (.val (.int .i64 n))] (.c (.val (.int .i64 (jce n)))):=by
 refine js Tryz.func64 jgQ (by simp) ?_
 unfold jd7;simp only [go_sem];refine jc (jjX n) (by simp only [go_sem]) fun η=>?_
 cases he:(jqN n).toList==ByteArray.toList ⟨⟨[]⟩⟩ with
 |true=>
  simp only [go_sem,he];simp only [jce,he,if_true]
 |false=>
  simp only [go_sem,he];refine jc (jm7 _ (jkl n)) (by simp only [go_sem]) fun η=>?_
  simp only [go_sem];simp only [jce,he,Bool.false_eq_true,if_false]
def jdQ:C:=iS [iA 1 (.box 71 5 (.t 0)),iA 2 (.alloc 71 [.int .i64 0,.int .i64 0,.int .i64 0,.int .i64 0,.slice none 0 0])] (iS [iA 3 (.bsl 253 2 0 [] []),iA 4 (iF 4 1),iA 5 (iL 4),iA 6 (.app 253 2 16 (.t 3) (.t 5)),iA 7 (iF 4 1),iC (.st 1 [some (2,253)] (.t 7) (.t 6))] (iS [iA 8 (iT 5 1),iC (.st 5 [none,none,none,none,some (2,253)] (.t 2) (.t 8))] .ret))
theorem jgz:fnC Tryz.prog Tryz.f256=some (jdQ,[.cell 2 true 5],9):=by kernel_rfl
def jcR:C:=iS [iA 1 (.box 71 5 (.t 0)),iA 2 (.alloc 71 [.int .i64 0,.int .i64 0,.int .i64 0,.int .i64 0,.slice none 0 0])] (iS [iA 3 (iF 4 1),iA 4 (iL 3),iA 5 (.app 253 2 16 (.c (.slice none 0 0)) (.t 4)),iA 6 (iF 4 1),iC (.st 1 [some (2,253)] (.t 6) (.t 5))] (iS [iA 7 (iT 5 1),iC (.st 5 [none,none,none,none,some (2,253)] (.t 2) (.t 7))] .ret))
theorem jfp:fnC Tryz.prog Tryz.f270=some (jcR,[.cell 2 true 5],8):=by kernel_rfl
theorem jdx (p:Pl) (hb:p.edges.length≤4000000):kr Tryz.prog 256 [.agg (ja p)] (.agg (ja p)):=by
 refine js Tryz.func256 jgz (by simp) ?_
 unfold jdQ;have h1:p.edges.length≤maxLen:=by unfold maxLen;omega
 have h2:p.edges.length*16≤140737488355328:=by omega
 simp only [go_sem,ja,h1,h2,ji7]
theorem jcm (p:Pl) (hb:p.edges.length≤4000000):kr Tryz.prog 270 [.agg (ja p)] (.agg (ja p)):=by
 refine js Tryz.func270 jfp (by simp) ?_
 unfold jcR;have h1:p.edges.length≤maxLen:=by unfold maxLen;omega
 have h2:p.edges.length*16≤140737488355328:=by omega
 simp only [go_sem,ja,h1,h2,ji7]
end Go.Proofs.YtmnpailnelmpiaaGreat
