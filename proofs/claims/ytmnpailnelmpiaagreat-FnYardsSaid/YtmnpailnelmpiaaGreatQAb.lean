/- Parts. -/
import Derived.Test.YtmnpailnelmpiaaGreatQE6
import Derived.Laws.StructEq
set_option linter.unusedSimpArgs false
set_option linter.unusedVariables false
set_option maxRecDepth 100000
namespace Go.Proofs.YtmnpailnelmpiaaGreat
open Go.RowKit Go.Sort
def jb5:jq
 |[]=>.slice none 0 0
 |_::_=>undef
def A0.sim:A0→A0→Prop
 |.v x,.v y=>x=y
 |.v x,.h _ _ _ y=>x=y∧x.oneCell'=true
 |.h _ _ _ x,.h _ _ _ y=>x=y
 |.bp _ c b,.bp _ c' b'=>c=c'∧b=b'
 |.ep _ _ _ i x,.ep _ _ _ i' x'=>i=i'∧x=x'
 |.hs _ _ _ x s l n,.hs _ _ _ y s' l' n'=>x=y∧s=s'∧l=l'∧n=n'
 |.ro d,.ro d'=>d=d'
 |.rp ds,.rp ds'=>ds=ds'
 |.un,.un=>True
 |_,_=>False
def simL:List A0→List A0→Prop
 |[],[]=>True
 |a::l,b::m=>a.sim b∧simL l m
 |_,_=>False
def AV.sim:AV→AV→Prop
 |.c a,.c b=>a.sim b
 |.agg l,.agg m=>simL l m
 |.fn f l,.fn f' m=>f=f'∧simL l m
 |.tup l,.tup m=>l=m
 |_,.unk=>True
 |_,_=>False
def Cell.sim:Cell→Cell→Prop
 |.a x,.a y=>x.sim y
 |.own d η,.own d' η'=>d=d'∧η=η'
 |.a (.v x),.own d η=>x=.slice none 0 0∧d.isSl=true∧d.cells=[]∧η=jb5
 |_,_=>False
def simC:List Cell→List Cell→Prop
 |[],[]=>True
 |a::l,b::m=>a.sim b∧simC l m
 |_,_=>False
def Ob.sim:Ob→Ob→Prop
 |.loose d η,.loose d' η'=>d=d'∧η=η'
 |.box b ty cs,.box b' ty' cs'=>b=b'∧ty=ty'∧simC cs cs'
 |.none,.none=>True
 |_,_=>False
def nilOb:Ob→Prop
 |.loose d η=>d.isSl=true∧d.cells=[]∧η=jb5
 |_=>False
def lkT:List (Nat×AV)→Nat→AV
 |[],_=>.unk
 |(k,v)::T,n=>if n=k then v else lkT T n
def lkO:List (Nat×Ob)→Nat→Ob
 |[],_=>.none
 |(k,v)::T,n=>if n=k then v else lkO T n
def St.of (T:List (Nat×AV)) (O:List (Nat×Ob)):St:=⟨lkT T,lkO O⟩
def jw6 (s:St):List (Nat×AV)→Prop
 |[]=>True
 |(n,v)::T=>(s.t n).sim v∧jw6 s T
def jqf (s:St):List (Option Nat)→List (Nat×Ob)→Prop
 |[],[]=>True
 |some k::ks,(_,ob)::O=>(s.o k).sim ob∧jqf s ks O
 |none::ks,(_,ob)::O=>nilOb ob∧jqf s ks O
 |_,_=>False
def fp (F:Nat→List Nat):List (Option Nat)→List (Nat×Ob)→Nat→List Nat
 |k::ks,(g',_)::O,g=>if g=g' then (match k with|some k=>F k|none=>[]) else fp F ks O g
 |_,_,_=>[]
def jqV:List (Option Nat)→List Nat
 |[]=>[]
 |some k::ks=>k::jqV ks
 |none::ks=>jqV ks
def jjH:List Nat→Bool
 |[]=>true
 |k::ks=>!ks.contains k&&jjH ks
section
variable {B N:Nat} {w0 w:World} {s:St} {a:Act} {F:Nat→List Nat}
theorem A0.sim.rel:∀{a b:A0} {u:Value},a.sim b→A0Rel B w a u→A0Rel B w b u
 |.v x,.v y,u,hh,hr=>by rw [show x=y from hh] at hr;exact hr
 |.v x,.h _ _ _ y,u,hh,hr=>by obtain ⟨h1,h2⟩:=hh;subst h1;exact ⟨hr,h2⟩
 |.h _ _ _ x,.h _ _ _ y,u,hh,hr=>by rw [show x=y from hh] at hr;exact hr
 |.bp _ c b,.bp _ c' b',u,hh,hr=>by obtain ⟨h1,h2⟩:=hh;subst h1 h2;exact hr
 |.ep _ _ _ i x,.ep _ _ _ i' x',u,hh,hr=>by obtain ⟨h1,h2⟩:=hh;subst h1 h2;exact hr
 |.hs _ _ _ x s l n,.hs _ _ _ y s' l' n',u,hh,hr=>by obtain ⟨h1,h2,h3,h4⟩:=hh;subst h1 h2 h3 h4;exact hr
 |.ro d,.ro d',u,hh,hr=>by rw [show d=d' from hh] at hr;exact hr
 |.rp ds,.rp ds',u,hh,hr=>by rw [show ds=ds' from hh] at hr;exact hr
 |.un,.un,_,_,hr=>hr
theorem simL.rel:∀{l m:List A0} {us:List Value},simL l m→A0RelL B w l us→A0RelL B w m us
 |[],[],_,_,hr=>hr
 |_::_,_::_,_,⟨h1,h2⟩,⟨u,us',e,h3,h4⟩=>⟨u,us',e,h1.rel h3,h2.rel h4⟩
theorem AV.sim.rel {v v':AV} {u:Value} (h:v.sim v') (hr:VRel B w v u):VRel B w v' u:=by
 cases v' with
 |unk=>trivial
 |c b=>cases v<;>first|exact A0.sim.rel h hr|exact h.elim
 |agg m=>cases v<;>first|(obtain ⟨us,e,h1⟩:=hr;exact ⟨us,e,simL.rel h h1⟩)|exact h.elim
 |fn f m=>cases v<;>first|(obtain ⟨us,e,h1⟩:=hr;obtain ⟨rfl,h2⟩:=h;exact ⟨us,e,h2.rel h1⟩)|exact h.elim
 |tup m=>cases v<;>first|(rw [show _=m from h] at hr;exact hr)|exact h.elim
theorem jtw {d:D} (hs:d.isSl=true) (hc:d.cells=[]):(∃size ty,d=.sl size ty [])∧∀p,jb5 p=hdr w p d (.slice none 0 0):=by
 cases d with
 |val u=>cases hs
 |sl size ty cs=>
  obtain rfl:cs=[]:=hc;exact ⟨⟨_,_,rfl⟩,fun p=>by cases p<;>rfl⟩
theorem simC.rel:∀{cs cs':List Cell} {us:List Value} {S:List Nat},simC cs cs'→CRel B w cs us S→CRel B w cs' us S
 |[],[],_,_,_,hr=>hr
 |.a x::l,.a y::m,_,_,⟨h1,h2⟩,⟨u,us',e,h3,h4⟩=>⟨u,us',e,A0.sim.rel h1 h3,h2.rel h4⟩
 |.own d η::l,.own d' η'::m,_,_,⟨⟨h1,h1'⟩,h2⟩,⟨u,us',S1,S2,e,e',h3,h4,h5,h6⟩=>by
  subst h1 h1';exact ⟨u,us',S1,S2,e,e',h3,h4,h5,h2.rel h6⟩
 |.a (.v x)::l,.own d η::m,_,S,⟨⟨h1,h2,h3,h4⟩,h5⟩,⟨u,us',e,h6,h7⟩=>by
  subst h1 h4;obtain ⟨⟨size,ty,rfl⟩,k2⟩:=jtw (w:=w) h2 h3;refine ⟨u,us',[],S,e,rfl,h2,?_,fun p=>?_,h5.rel h7⟩
  ·rw [show u=_ from h6];exact Rep.nil_ w size ty
  ·rw [show u=_ from h6];exact k2 p
theorem Ob.sim.rel {ob ob':Ob} {S:List Nat} (h:ob.sim ob') (hr:ORel B w ob S):ORel B w ob' S:=by
 cases ob<;>cases ob'<;>first|exact h.elim|skip
 ·exact hr
 ·obtain ⟨rfl,rfl⟩:=h;exact hr
 ·obtain ⟨rfl,rfl,h⟩:=h;obtain ⟨us,S1,h1,h2,h3⟩:=hr;exact ⟨us,S1,h1,h.rel h2,h3⟩
theorem nilOb.rel {ob:Ob} (h:nilOb ob):ORel B w ob []:=by
 cases ob with
 |loose d η=>
  obtain ⟨h1,h2,rfl⟩:=h;obtain ⟨⟨size,ty,rfl⟩,k2⟩:=jtw (w:=w) h1 h2;exact ⟨h1,_,Rep.nil_ w size ty,k2⟩
 |_=>exact h.elim
theorem jfd:∀{ks:List (Option Nat)} {O:List (Nat×Ob)} {g b:Nat},b∈fp F ks O g→∃k∈jqV ks,b∈F k
 |[],_,_,_,h=>by simp [fp] at h
 |_::_,[],_,_,h=>by simp [fp] at h
 |k::ks,(g',ob)::O,g,b,h=>by
  simp only [fp] at h;split at h
  ·cases k with
   |some k=>exact ⟨k,by simp [jqV],h⟩
   |none=>simp at h
  ·obtain ⟨k',h1,h2⟩:=jfd h
   exact ⟨k',by cases k<;>simp [jqV,h1],h2⟩
theorem jbG:∀{l:List Nat},jjH l=true→l.Nodup
 |[],_=>List.nodup_nil
 |k::l,h=>by
  simp only [jjH,Bool.and_eq_true,Bool.not_eq_true',List.contains_eq_mem,decide_eq_false_iff_not] at h;exact List.nodup_cons.2 ⟨h.1,jbG h.2⟩
theorem jv5 (hdj:∀g g',g≠g'→∀b∈F g,b∉F g'):∀{ks:List (Option Nat)} {O:List (Nat×Ob)},(jqV ks).Nodup→∀g g',g≠g'→∀b∈fp F ks O g,b∉fp F ks O g'
 |[],_,_,_,_,_,b,h=>by simp [fp] at h
 |_::_,[],_,_,_,_,b,h=>by simp [fp] at h
 |k::ks,(g0,ob)::O,hn,g,g',hne,b,h=>by
  have hn':(jqV ks).Nodup:=by cases k with
   |none=>exact hn
   |some k=>exact (List.nodup_cons.1 hn).2
  have key:∀{g g':Nat},g=g0→g'≠g0→b∈fp F (k::ks) ((g0,ob)::O) g→b∉fp F (k::ks) ((g0,ob)::O) g':=by
   intro g g' e hne' h h';simp only [fp,if_pos e] at h;simp only [fp,if_neg hne'] at h';cases k with
   |none=>simp at h
   |some k=>
    obtain ⟨k',h1,h2⟩:=jfd h';have:k≠k':=fun e=>(List.nodup_cons.1 hn).1 (by rw [e];exact h1)
    exact hdj _ _ this b h h2
  by_cases e:g=g0
  ·exact key e (fun e'=>hne (e.trans e'.symm)) h
  ·by_cases e':g'=g0
   ·exact fun h'=>key e' e h' h
   ·simp only [fp,if_neg e] at h
    simp only [fp,if_neg e'];exact jv5 hdj hn' g g' hne b h
theorem jt0 (h:∀g,ORel B w (s.o g) (F g)):∀{ks:List (Option Nat)} {O:List (Nat×Ob)},jqf s ks O→∀g,ORel B w (lkO O g) (fp F ks O g)
 |[],[],_,_=>rfl
 |[],_::_,hf,_=>hf.elim
 |some _::_,[],hf,_=>hf.elim
 |none::_,[],hf,_=>hf.elim
 |some k::ks,(g',ob)::O,⟨h1,h2⟩,g=>by
  simp only [lkO,fp];by_cases e:g=g'
  ·rw [if_pos e,if_pos e];exact h1.rel (h k)
  ·rw [if_neg e,if_neg e];exact jt0 h h2 g
 |none::ks,(g',ob)::O,⟨h1,h2⟩,g=>by
  simp only [lkO,fp];by_cases e:g=g'
  ·rw [if_pos e,if_pos e];exact h1.rel
  ·rw [if_neg e,if_neg e];exact jt0 h h2 g
theorem jv4 (h:∀g,Fresh B (F g)):∀(ks:List (Option Nat)) (O:List (Nat×Ob)) (g:Nat),Fresh B (fp F ks O g)
 |[],_,_=>Fresh.nil _
 |_::_,[],_=>Fresh.nil _
 |k::ks,(g',ob)::O,g=>by
  simp only [fp];split
  ·cases k with
   |some k=>exact h k
   |none=>exact Fresh.nil _
  ·exact jv4 h ks O g
theorem jv8 (h:∀n,VRel B w (s.t n) (a.tmps.getD n undef)):∀{T:List (Nat×AV)},jw6 s T→∀n,VRel B w (lkT T n) (a.tmps.getD n undef)
 |[],_,_=>trivial
 |(k,v)::T,⟨h1,h2⟩,n=>by
  simp only [lkT];by_cases e:n=k
  ·rw [if_pos e];subst e;exact h1.rel (h n)
  ·rw [if_neg e];exact jv8 h h2 n
theorem jj (ks:List (Option Nat)) {T:List (Nat×AV)} {O:List (Nat×Ob)} (h:jw6 s T∧jqf s ks O) (hn:jjH (jqV ks)=true:=by decide):Wk s (St.of T O):=
 fun B N w0 w a F hr=>⟨fp F ks O,⟨hr.below,hr.hB,hr.df,hr.sz,jv8 hr.sl h.1,jt0 hr.ob h.2,jv4 hr.fr ks O,jv5 hr.dj (jbG hn)⟩,
  fun g b hb=>by obtain ⟨k,_,h2⟩:=jfd hb;exact ⟨k,h2⟩⟩
end
section
variable {P:Program} {β:Nat} {s:St} {Q:Ex→St→Prop}
theorem jp {ι:Type} {a:C} (mk:ι→St) (J:ι→Prop) (μ:ι→Nat) (i0:ι) (h0:J i0) (hw:Wk s (mk i0)) (hr:∀i,J i→wpC P β a (Ex.thn (fun s'=>∃i',J i'∧Wk s' (mk i')∧μ i'<μ i) Q) (mk i)):wpC P β (.loop a) Q s:=⟨ι,mk,J,μ,⟨i0,h0,hw⟩,hr⟩
theorem wp_gh {a:C} (s':St) (h:Wk s s') (hk:wpC P β a Q s'):wpC P β (.gh a) Q s:=fun _ _ _ _ _ _ hr=>let ⟨F',h1,_⟩:=h _ _ _ _ _ _ hr;⟨s',F',h1,hk⟩
end
section
variable {s:St}
theorem of_t (T:List (Nat×AV)) (O:List (Nat×Ob)) (n:Nat):(St.of T O).t n=lkT T n:=(rfl)
theorem of_o (T:List (Nat×AV)) (O:List (Nat×Ob)) (n:Nat):(St.of T O).o n=lkO O n:=(rfl)
theorem jvO (k n:Nat) (v:AV) (T:List (Nat×AV)):lkT ((k,v)::T) n=if n=k then v else lkT T n:=(rfl)
theorem jyk (n:Nat):lkO [] n=.none:=(rfl)
theorem jvP (k n:Nat) (v:Ob) (T:List (Nat×Ob)):lkO ((k,v)::T) n=if n=k then v else lkO T n:=(rfl)
theorem jv9:jw6 s []=True:=(rfl)
theorem jt4 (n:Nat) (v:AV) (T:List (Nat×AV)):jw6 s ((n,v)::T)=((s.t n).sim v∧jw6 s T):=(rfl)
theorem jwa:jqf s [] []=True:=(rfl)
theorem jAJ (k g:Nat) (ob:Ob) (ks:List (Option Nat)) (O:List (Nat×Ob)):jqf s (some k::ks) ((g,ob)::O)=((s.o k).sim ob∧jqf s ks O):=(rfl)
theorem jAK (g:Nat) (ob:Ob) (ks:List (Option Nat)) (O:List (Nat×Ob)):jqf s (none::ks) ((g,ob)::O)=(nilOb ob∧jqf s ks O):=(rfl)
theorem jAp (d:D) (η:jq):nilOb (.loose d η)=(d.isSl=true∧d.cells=[]∧η=jb5):=(rfl)
theorem nilH_:jb5 []=.slice none 0 0:=(rfl)
theorem sim_c (a b:A0):AV.sim (.c a) (.c b)=a.sim b:=(rfl)
theorem jxC (l m:List A0):AV.sim (.agg l) (.agg m)=simL l m:=(rfl)
theorem jzv (f f':Nat) (l m:List A0):AV.sim (.fn f l) (.fn f' m)=(f=f'∧simL l m):=(rfl)
theorem jvj:simL [] []=True:=(rfl)
theorem jsJ (a b:A0) (l m:List A0):simL (a::l) (b::m)=(a.sim b∧simL l m):=(rfl)
theorem sim_v (x y:Value):A0.sim (.v x) (.v y)=(x=y):=(rfl)
theorem jzr (x y:Value) (g c:Nat) (p:List Nat):A0.sim (.v x) (.h g c p y)=(x=y∧x.oneCell'=true):=(rfl)
theorem sim_h (x y:Value) (g c g' c':Nat) (p p':List Nat):A0.sim (.h g c p x) (.h g' c' p' y)=(x=y):=(rfl)
theorem jzx (g c b g' c' b':Nat):A0.sim (.bp g c b) (.bp g' c' b')=(c=c'∧b=b'):=(rfl)
theorem jzw (g c i g' c' i':Nat) (p p':List Nat) (x x':Value):A0.sim (.ep g c p i x) (.ep g' c' p' i' x')=(i=i'∧x=x'):=(rfl)
theorem jzu (g c g' c' sz lo n sz' lo' n':Nat) (p p':List Nat) (x x':Value):A0.sim (.hs g c p x sz lo n) (.hs g' c' p' x' sz' lo' n')=(x=x'∧sz=sz'∧lo=lo'∧n=n'):=(rfl)
theorem jzt (d d':D):A0.sim (.ro d) (.ro d')=(d=d'):=(rfl)
theorem jzs (d d':List D):A0.sim (.rp d) (.rp d')=(d=d'):=(rfl)
theorem jzq (x y:A0):Cell.sim (.a x) (.a y)=x.sim y:=by cases x<;>rfl
theorem jvh (d d':D) (η η':jq):Cell.sim (.own d η) (.own d' η')=(d=d'∧η=η'):=(rfl)
theorem jvi (x:Value) (d:D) (η:jq):Cell.sim (.a (.v x)) (.own d η)=(x=.slice none 0 0∧d.isSl=true∧d.cells=[]∧η=jb5):=(rfl)
theorem jvk:simC [] []=True:=(rfl)
theorem jsK (a b:Cell) (l m:List Cell):simC (a::l) (b::m)=(a.sim b∧simC l m):=(rfl)
theorem jzy (d d':D) (η η':jq):Ob.sim (.loose d η) (.loose d' η')=(d=d'∧η=η'):=(rfl)
theorem jzz (b ty b' ty':Nat) (cs cs':List Cell):Ob.sim (.box b ty cs) (.box b' ty' cs')=(b=b'∧ty=ty'∧simC cs cs'):=(rfl)
end
attribute [go_sem] of_t of_o jvO jyk jvP jv9 jt4 jwa jAJ jAK jAp nilH_ sim_c jxC jzv jvj jsJ sim_v jzr sim_h jzx jzw jzu jzt jzs jzq jvh jvi jvk jsK jzy jzz
section
variable {P:Program} {β:Nat} {s:St}
theorem ji2 (l:List Int):(jh l).len=l.length:=jaH (enc:=fun n=>[iv n]) (fun _=>rfl) (by decide) _ _
theorem jcC {l:List Int} {k:Nat} {x:Int} (h:l[k]?=some x):(jh l).elem k=[iv x]:=zB (enc:=fun n=>[iv n]) (fun _=>rfl) h
theorem jqW (l:List Int):(jh l).isSl=true:=(rfl)
theorem jqR (l:List Int):(jh l).size=1:=(rfl)
theorem jrb (l:List Int):(jh l).toRo=.ro (jh l):=(rfl)
theorem joK (l:List Int) (g:Nat) (η:jq):(jh l).obj g η=[(g,.loose (jh l) η)]:=(rfl)
theorem joG (l:List Int) (g c:Nat) (p:List Nat) (η:jq):(jh l).toOwn g c p η=.h g c p (η p):=(rfl)
theorem jml (l:List Int):(jh l).cells=l.flatMap (fun n=>[iv n]):=(rfl)
theorem jrD (l:List Ed):(jy l).len=l.length:=jaH (enc:=jP) (fun _=>rfl) (by decide) _ _
theorem jx {l:List Ed} {k:Nat} {x:Ed} (h:l[k]?=some x):(jy l).elem k=jP x:=zB (enc:=jP) (fun _=>rfl) h
theorem jsH (l:List Ed):(jy l).isSl=true:=(rfl)
theorem jsw (l:List Ed):(jy l).size=2:=(rfl)
theorem jrv (l:List Ed) (g:Nat) (η:jq):(jy l).obj g η=[(g,.loose (jy l) η)]:=(rfl)
theorem jrp (l:List Ed) (g c:Nat) (p:List Nat) (η:jq):(jy l).toOwn g c p η=.h g c p (η p):=(rfl)
theorem jnS (l:List Ed):(jy l).cells=l.flatMap (jP):=(rfl)
theorem jru (l:List En) (g:Nat) (η:jq):(jm l).obj g η=[(g,.loose (jm l) η)]:=(rfl)
theorem jro (l:List En) (g c:Nat) (p:List Nat) (η:jq):(jm l).toOwn g c p η=.h g c p (η p):=(rfl)
theorem jnR (l:List En):(jm l).cells=l.flatMap (jf):=(rfl)
theorem jrr (l:List Tk) (g:Nat) (η:jq):(jI l).obj g η=[(g,.loose (jI l) η)]:=(rfl)
theorem jrl (l:List Tk) (g c:Nat) (p:List Nat) (η:jq):(jI l).toOwn g c p η=.h g c p (η p):=(rfl)
theorem jnO (l:List Tk):(jI l).cells=l.flatMap (jn):=(rfl)
theorem jrs (l:List Rn) (g:Nat) (η:jq):(jO l).obj g η=[(g,.loose (jO l) η)]:=(rfl)
theorem jrm (l:List Rn) (g c:Nat) (p:List Nat) (η:jq):(jO l).toOwn g c p η=.h g c p (η p):=(rfl)
theorem jnP (l:List Rn):(jO l).cells=l.flatMap (jd):=(rfl)
theorem jtv (l:List (List En)) (g:Nat) (η:jq):(kw l).obj g η=[(g,.loose (kw l) η)]:=(rfl)
theorem jtr (l:List (List En)) (g c:Nat) (p:List Nat) (η:jq):(kw l).toOwn g c p η=.h g c p (η p):=(rfl)
theorem jpb (l:List (List En)):(kw l).cells=l.flatMap (fun es=>[jm es]):=(rfl)
theorem jol (l:List Int) (e:Nat) (k:List D→Prop):slK (jh l) e 1 k=(jf5=e∧k (l.flatMap (fun n=>[iv n]))):=by rw [show jh l=.sl 1 jf5 (l.flatMap (fun n=>[iv n])) from rfl,jvg];simp
theorem jpa (l:List Int):(l.flatMap (fun n=>[iv n])).length/1=l.length:=by rw [jG (enc:=fun n=>[iv n]) (size:=1) (fun _=>rfl)];exact Nat.mul_div_cancel _ (by decide)
theorem joM:D.sl 1 jf5 []=jh []:=rfl
theorem jfg (l:List Int):ka (l.flatMap (fun n=>[iv n]))=true:=by
 induction l with
 |nil=>rfl
 |cons x l ih=>rw [List.flatMap_cons,vB,ih];rfl
theorem jq1 (l:List Ed) (e:Nat) (k:List D→Prop):slK (jy l) e 2 k=(tEd=e∧k (l.flatMap (jP))):=by rw [show jy l=.sl 2 tEd (l.flatMap (jP)) from rfl,jvg];simp
theorem jjb (l:List Ed):D.sl 2 tEd (l.flatMap (jP))=jy l:=rfl
theorem jr1 (l:List Ed):(l.flatMap (jP)).length/2=l.length:=by rw [jG (enc:=jP) (size:=2) (fun _=>rfl)];exact Nat.mul_div_cancel _ (by decide)
theorem ki:D.sl 2 tEd []=jy []:=rfl
theorem jsa (l:List Ed) (x:Ed):D.sl 2 tEd (l.flatMap (jP)++(jP) x)=jy (l++[x]):=by simp [jy]
theorem jnE (l:List Ed):ka (l.flatMap (jP))=true:=by
 induction l with
 |nil=>rfl
 |cons x l ih=>rw [List.flatMap_cons,vB,ih];rfl
theorem jma (l:List Ed) (r:List D):ka (jy l::r)=false:=(rfl)
theorem joJ (l:List Ed) (r:List D):jiZ (jy l::r)=jiZ r:=(rfl)
theorem jq0 (l:List En) (e:Nat) (k:List D→Prop):slK (jm l) e 4 k=(tEn=e∧k (l.flatMap (jf))):=by rw [show jm l=.sl 4 tEn (l.flatMap (jf)) from rfl,jvg];simp
theorem jo3 (l:List En):D.sl 4 tEn (l.flatMap (jf))=jm l:=rfl
theorem jr0 (l:List En):(l.flatMap (jf)).length/4=l.length:=by rw [jG (enc:=jf) (size:=4) (fun _=>rfl)];exact Nat.mul_div_cancel _ (by decide)
theorem jda:D.sl 4 tEn []=jm []:=rfl
theorem jaI (l:List En):ka (l.flatMap (jf))=true:=by
 induction l with
 |nil=>rfl
 |cons x l ih=>rw [List.flatMap_cons,vB,ih];rfl
theorem jl9 (l:List En) (r:List D):ka (jm l::r)=false:=(rfl)
theorem joI (l:List En) (r:List D):jiZ (jm l::r)=jiZ r:=(rfl)
theorem jqX (l:List Tk) (e:Nat) (k:List D→Prop):slK (jI l) e 4 k=(tTk=e∧k (l.flatMap (jn))):=by rw [show jI l=.sl 4 tTk (l.flatMap (jn)) from rfl,jvg];simp
theorem jrX (l:List Tk):(l.flatMap (jn)).length/4=l.length:=by rw [jG (enc:=jn) (size:=4) (fun _=>rfl)];exact Nat.mul_div_cancel _ (by decide)
theorem jhi (l:List Tk):ka (l.flatMap (jn))=true:=by
 induction l with
 |nil=>rfl
 |cons x l ih=>rw [List.flatMap_cons,vB,ih];rfl
theorem joH (l:List Tk) (r:List D):jiZ (jI l::r)=jiZ r:=(rfl)
theorem jqY (l:List Rn) (e:Nat) (k:List D→Prop):slK (jO l) e 8 k=(tRn=e∧k (l.flatMap (jd))):=by rw [show jO l=.sl 8 tRn (l.flatMap (jd)) from rfl,jvg];simp
theorem jrY (l:List Rn):(l.flatMap (jd)).length/8=l.length:=by rw [jG (enc:=jd) (size:=8) (fun _=>rfl)];exact Nat.mul_div_cancel _ (by decide)
theorem jsI (l:List (List En)) (e:Nat) (k:List D→Prop):slK (kw l) e 1 k=(jqQ=e∧k (l.flatMap (fun es=>[jm es]))):=by rw [show kw l=.sl 1 jqQ (l.flatMap (fun es=>[jm es])) from rfl,jvg];simp
theorem juk (l:List (List En)):(l.flatMap (fun es=>[jm es])).length/1=l.length:=by rw [jG (enc:=fun es=>[jm es]) (size:=1) (fun _=>rfl)];exact Nat.mul_div_cancel _ (by decide)
theorem jq2 (l:List Dd) (e:Nat) (k:List D→Prop):slK (jdK l) e 11 k=(tDd=e∧k (l.flatMap (jo))):=by rw [show jdK l=.sl 11 tDd (l.flatMap (jo)) from rfl,jvg];simp
theorem jr2 (l:List Dd):(l.flatMap (jo)).length/11=l.length:=by rw [jG (enc:=jo) (size:=11) (fun _=>rfl)];exact Nat.mul_div_cancel _ (by decide)
theorem jkJ:D.sl 11 tDd []=jdK []:=rfl
theorem jAi (u:Value) (l:List D):jiZ (.val u::l)=(u.oneCell'&&jiZ l):=(rfl)
theorem jvG:jiZ []=true:=(rfl)
theorem jnu (l:List Cell) (ds:List D):IsD (.a (.v (.slice none 0 0))::l) (jh []::ds)=IsD l ds:=jl0 l _ _ ds
theorem joT (l:List Cell) (ds:List D):IsD (.a (.v (.slice none 0 0))::l) (jm []::ds)=IsD l ds:=jl0 l _ _ ds
theorem jrJ:Is s (.v (.slice none 0 0)) (jy [])=True:=jw1 _ _
theorem jrK (l:List Int) (a b:Int):D.sl 1 jf5 (l.flatMap (fun n=>[iv n])++[iv a,iv b])=jh (l++[a,b]):=by simp [jh]
theorem jk {l:List Int} {k:Nat} {x:Int} (h:l[k]?=some x):((l.flatMap (fun n=>[iv n])).drop (k*1)).take 1=[iv x]:=jcC h
theorem ji {l:List Int} {k:Nat} (h:k<l.length):k*1+1≤(l.flatMap (fun n=>[iv n])).length:=by rw [jG (enc:=fun n=>[iv n]) (size:=1) (fun _=>rfl)];omega
theorem jn3 {l:List Ed} {k:Nat} {x:Ed} (h:l[k]?=some x):((l.flatMap (jP)).drop (k*2)).take 2=jP x:=jx h
theorem jnv {l:List Ed} {k:Nat} (h:k<l.length):k*2+2≤(l.flatMap (jP)).length:=by rw [jG (enc:=jP) (size:=2) (fun _=>rfl)];omega
theorem jc2 {l:List En} {k:Nat} {x:En} (h:l[k]?=some x):((l.flatMap (jf)).drop (k*4)).take 4=jf x:=jH h
theorem jcw {l:List En} {k:Nat} (h:k<l.length):k*4+4≤(l.flatMap (jf)).length:=by rw [jG (enc:=jf) (size:=4) (fun _=>rfl)];omega
theorem jbF {l:List (List En)} {k:Nat} {x:List En} (h:l[k]?=some x):((l.flatMap (fun es=>[jm es])).drop (k*1)).take 1=[jm x]:=kY h
theorem jaF {l:List (List En)} {k:Nat} (h:k<l.length):k*1+1≤(l.flatMap (fun es=>[jm es])).length:=by rw [jG (enc:=fun es=>[jm es]) (size:=1) (fun _=>rfl)];omega
theorem jyi (g c:Nat) (p:List Nat) (η:jq) (i:Nat) (v:Value) (l:List D):jgo g c p η i (.val v::l)=.v v::jgo g c p η (i+1) l:=(rfl)
theorem jyj (g c:Nat) (p:List Nat) (η:jq) (i:Nat):jgo g c p η i []=[]:=(rfl)
end
attribute [go_sem] jyi jyj jrJ jnu joT jfg jol jpa jml jnE jq1 jr1 jnS jma joJ jaI jq0 jr0 jnR jl9 joI jhi jqX jrX jnO joH jqY jrY jnP jsI juk jpb jq2 jr2 jAi jvG Bool.and_false Bool.false_and Bool.and_true Bool.true_and ji2 jqW jqR jrb joK joG jrD jsH jsw js1 jrv jrp jdd jsG jsv jmU jru jro jrB jsD jss jsZ jrr jrl jaa jsE jst js0 jrs jrm jcu jvf ju8 jvs jtv jtr
abbrev Ni (n:Int):AV:=.c (.v (.int .i64 n))
abbrev Hd (g:Nat) (η:jq):AV:=.c (.h g 0 [] (η []))
abbrev Bx (g b:Nat):AV:=.c (.bp g 0 b)
abbrev Ro (d:D):AV:=.c (.ro d)
abbrev Bi (b ty:Nat) (ds:List D):Ob:=.box b ty (ds.map fun x=>.a x.toRo)
theorem jv7 (s t:Nat) (cs l:List D):ka (.sl s t cs::l)=false:=(rfl)
theorem jyb (s t:Nat) (cs l:List D):jiZ (.sl s t cs::l)=jiZ l:=(rfl)
attribute [go_sem] jv7 jyb
theorem jAS {P:Program} {ty:Nat} {xs ys:List Value} {b:Bool} (h:∀w,(Op.equalIn 10000 ty (.agg xs.toArray) (.agg ys.toArray)).run P w=.ok b w) (hg:P.eqGuardType P.depth ty=false):EqR P .eql ty xs ys b:=fun w=>⟨by rw [run_eql_struct,h w];rfl,fun x y=>run_eqGuard_agg _ _ _ _ _ _ _ hg⟩
theorem jAR {P:Program} {ty:Nat} {xs ys:List Value} {b:Bool} (h:∀w,(Op.equalIn 10000 ty (.agg xs.toArray) (.agg ys.toArray)).run P w=.ok b w) (hg:P.eqGuardType P.depth ty=false):EqR P .neq ty xs ys (!b):=fun w=>⟨by rw [run_neq_struct,h w];rfl,fun x y=>run_eqGuard_agg _ _ _ _ _ _ _ hg⟩
theorem w_any:Nonempty World:=⟨default⟩
theorem jqy {P:Program} {d:Option Nat} {s:St} {K:St→Prop} {op:BinOp} {ty:Nat} {l m:List A0} {xs ys:List Value} {b:Bool} (hx:jb7 l=some xs) (hy:jb7 m=some ys) (h:EqR P op ty xs ys b):jy0 P d s K op ty (.agg l) (.agg m)=K (s.put d (.c (.v (.bool b)))):=by
 apply propext
 constructor
 ·rintro ⟨av,(⟨_,_,_,h1,_⟩|⟨l',m',xs',ys',b',h1,h2,h3,h4,h5,rfl⟩),h6⟩
  ·cases h1
  ·cases h1;cases h2
   rw [hx] at h3;rw [hy] at h4;cases h3;cases h4;obtain ⟨w⟩:=w_any;have e1:=(h w).1;rw [(h5 w).1] at e1;simp at e1;subst e1;exact h6
 ·intro hk
  exact ⟨_,.inr ⟨l,m,xs,ys,b,rfl,rfl,hx,hy,h,rfl⟩,hk⟩
theorem jAV (w:World) (x y:Ed):(Op.equalIn 10000 253 (.agg #[.int .i64 x.src,.int .i64 x.dst]) (.agg #[.int .i64 y.src,.int .i64 y.dst])).run Tryz.prog w=.ok (decide (x=y)) w:=by
 have u3:=Tryz.underlying3;have a3:=Tryz.isAgg3;have z3:=Tryz.sizeOf3;rw [show (10000:Nat)=9999+1 from rfl,run_equalIn_agg w 9999 253 _ _ (by kernel_rfl) (by kernel_rfl)]
 simp only [Program.fieldsOf,Tryz.underlying253];obtain ⟨xsrc,xdst⟩:=x;obtain ⟨ysrc,ydst⟩:=y
 go_simp
 by_cases h0:xsrc=ysrc<;>by_cases h1:xdst=ydst<;>simp [h0,h1]
theorem juE {d:Option Nat} {s:St} {K:St→Prop} (x y:Ed):jy0 Tryz.prog d s K .eql 253 (.agg [.v (.int .i64 x.src),.v (.int .i64 x.dst)]) (.agg [.v (.int .i64 y.src),.v (.int .i64 y.dst)])=K (s.put d (.c (.v (.bool (decide (x=y)))))):=jqy rfl rfl (jAS (fun w=>jAV w x y) (by kernel_rfl))
attribute [go_sem] juE
theorem jAU (w:World) (x y:En):(Op.equalIn 10000 111 (.agg #[.int .i64 x.prio,.int .i64 x.seq,.int .i64 x.run,.int .i64 x.task]) (.agg #[.int .i64 y.prio,.int .i64 y.seq,.int .i64 y.run,.int .i64 y.task])).run Tryz.prog w=.ok (decide (x=y)) w:=by
 have u3:=Tryz.underlying3;have a3:=Tryz.isAgg3;have z3:=Tryz.sizeOf3;rw [show (10000:Nat)=9999+1 from rfl,run_equalIn_agg w 9999 111 _ _ (by kernel_rfl) (by kernel_rfl)]
 simp only [Program.fieldsOf,Tryz.underlying111];obtain ⟨xprio,xseq,xrun,xtask⟩:=x;obtain ⟨yprio,yseq,yrun,ytask⟩:=y
 go_simp
 by_cases h0:xprio=yprio<;>by_cases h1:xseq=yseq<;>by_cases h2:xrun=yrun<;>by_cases h3:xtask=ytask<;>simp [h0,h1,h2,h3]
theorem juD {d:Option Nat} {s:St} {K:St→Prop} (x y:En):jy0 Tryz.prog d s K .neq 111 (.agg [.v (.int .i64 x.prio),.v (.int .i64 x.seq),.v (.int .i64 x.run),.v (.int .i64 x.task)]) (.agg [.v (.int .i64 y.prio),.v (.int .i64 y.seq),.v (.int .i64 y.run),.v (.int .i64 y.task)])=K (s.put d (.c (.v (.bool (!decide (x=y)))))):=jqy rfl rfl (jAR (fun w=>jAU w x y) (by kernel_rfl))
attribute [go_sem] juD
def jd3:C:=iS [iA 2 (iN 0)] (iS [iA 4 (iM 0),iA 5 (.call 144 [.t 4]),iA 3 (iM 5)] (.seq (iS [iA 6 (iM 3),iA 7 (.bin .eql 9 (.t 6) (.c (.string ⟨⟨[]⟩⟩)))] (iD 7 (iS [iA 2 (iN 0)] .ret) .skip)) (iS [iA 8 (iM 3),iA 9 (.call 90 [.t 8]),iA 10 (iQ .rem 3 9 4),iA 2 (iM 10)] .ret)))
theorem jgJ:fnC Tryz.prog Tryz.f65=some (jd3,[.t 2],11):=by kernel_rfl
def jef:C:=iS [iA 2 (iN 0)] (iS [iA 4 (iM 0),iA 5 (.call 142 [.t 4]),iA 3 (iM 5)] (.seq (iS [iA 6 (iM 3),iA 7 (.bin .eql 9 (.t 6) (.c (.string ⟨⟨[]⟩⟩)))] (iD 7 (iS [iA 2 (iN 0)] .ret) .skip)) (iS [iA 8 (iM 3),iA 9 (.call 143 [.t 8]),iA 10 (iQ .rem 3 9 4),iA 2 (iM 10)] .ret)))
theorem jgV:fnC Tryz.prog Tryz.f64=some (jef,[.t 2],11):=by kernel_rfl
def jd0:C:=iS [iA 2 (.mov (.c (.string ⟨⟨[]⟩⟩)))] (.seq (iS [iA 4 (iM 0),iA 5 (.call 74 [.t 4,.c (.int .i64 0),.c (.int .i64 1000000000)]),iA 6 (iU 5)] (iD 6 (iS [iA 2 (.mov (.c (.string ⟨⟨[]⟩⟩)))] .ret) .skip)) (iS [iA 7 (.bsl 5 1 0 [] []),iA 3 (iM 7)] (.seq (.blk 0 (.loop (.seq (iS [iA 8 (iM 0),iA 9 (iQ .gtr 3 8 127)] (iD 9 .skip (.exit 0))) (.blk 1 (iS [iA 10 (iM 3),iA 11 (iM 0),iA 12 (iQ .rem 3 11 128),iA 13 (.bin .add 3 (.c (.int .i64 128)) (.t 12)),iA 14 (.cv (.num .u8) 0 (.t 13)),iA 15 (.bsl 5 1 1 [none] [(0,1,.t 14)]),iA 16 (.app 5 1 1 (.t 10) (.t 15)),iA 3 (iM 16)] (.reg [iA 17 (iM 0),iA 18 (iQ .quo 3 17 128),iA 0 (iM 18)])))))) (iS [iA 19 (iM 3),iA 20 (iM 0),iA 21 (.cv (.num .u8) 0 (.t 20)),iA 22 (.bsl 5 1 1 [none] [(0,1,.t 21)]),iA 23 (.app 5 1 1 (.t 19) (.t 22)),iA 24 (.cv .text 5 (.t 23)),iA 2 (iM 24)] .ret))))
theorem jgG:fnC Tryz.prog Tryz.f144=some (jd0,[.t 2],25):=by kernel_rfl
def jeb:C:=iS [iA 2 (.mov (.c (.string ⟨⟨[]⟩⟩)))] (.seq (iS [iA 4 (iM 0),iA 5 (.call 78 [.t 4,.c (.int .i64 0),.c (.int .i64 1000000000)]),iA 6 (iU 5)] (iD 6 (iS [iA 2 (.mov (.c (.string ⟨⟨[]⟩⟩)))] .ret) .skip)) (iS [iA 3 (.mov (.c (.slice none 0 0)))] (.seq (.blk 0 (.loop (.seq (iS [iA 7 (iM 0),iA 8 (iQ .geq 3 7 128)] (iD 8 .skip (.exit 0))) (.blk 1 (iS [iA 9 (iM 3),iA 10 (iM 0),iA 11 (iQ .rem 3 10 128),iA 12 (iQ .add 3 11 128),iA 13 (.cv (.num .u8) 0 (.t 12)),iA 14 (.bsl 5 1 1 [none] [(0,1,.t 13)]),iA 15 (.app 5 1 1 (.t 9) (.t 14)),iA 3 (iM 15)] (.reg [iA 16 (iM 0),iA 17 (iQ .quo 3 16 128),iA 0 (iM 17)])))))) (iS [iA 18 (iM 3),iA 19 (iM 0),iA 20 (.cv (.num .u8) 0 (.t 19)),iA 21 (.bsl 5 1 1 [none] [(0,1,.t 20)]),iA 22 (.app 5 1 1 (.t 18) (.t 21)),iA 23 (.cv .text 5 (.t 22)),iA 2 (iM 23)] .ret))))
theorem jgR:fnC Tryz.prog Tryz.f142=some (jeb,[.t 2],24):=by kernel_rfl
def jcM:C:=iS [iA 2 (iN 0)] (iS [iA 3 (iN 4294967295)] (.seq (iS [iA 4 (iN 0)] (.blk 0 (.loop (.seq (iS [iA 7 (iM 4),iA 8 (iM 0),iA 9 (.len true (.t 8)),iA 10 (iP .lss 3 7 9)] (iD 10 .skip (.exit 0))) (.seq (.blk 1 (iS [iA 13 (iM 3),iA 14 (iM 0),iA 15 (iM 4),iA 16 (.sidx (.t 14) (.t 15)),iA 17 (.cv (.num .i64) 0 (.t 16)),iA 18 (iP .xor 3 13 17),iA 3 (iM 18)] (iS [iA 5 (iN 0)] (.blk 2 (.loop (.seq (iS [iA 19 (iM 5),iA 20 (iQ .lss 3 19 8)] (iD 20 .skip (.exit 2))) (.seq (.blk 3 (iS [iA 23 (iM 3),iA 24 (iQ .rem 3 23 2),iA 25 (iQ .eql 3 24 1),iA 6 (iM 25)] (iS [iA 26 (iM 3),iA 27 (iQ .quo 3 26 2),iA 3 (iM 27)] (iS [iA 28 (iM 6)] (iD 28 (.reg [iA 29 (iM 3),iA 30 (iQ .xor 3 29 3988292384),iA 3 (iM 30)]) .skip))))) (.reg [iA 21 (iM 5),iA 22 (iQ .add 3 21 1),iA 5 (iM 22)])))))))) (.reg [iA 11 (iM 4),iA 12 (iQ .add 3 11 1),iA 4 (iM 12)])))))) (iS [iA 31 (iM 3),iA 32 (iQ .xor 3 31 4294967295),iA 2 (iM 32)] .ret)))
theorem jjo:fnC Tryz.prog Tryz.f90=some (jcM,[.t 2],33):=by kernel_rfl
def jnW:C:=iS [iA 2 (iN 0)] (iS [iA 3 (iN 4294967295)] (.seq (iS [iA 4 (iN 0)] (.blk 0 (.loop (.seq (iS [iA 7 (iM 4),iA 8 (iM 0),iA 9 (.len true (.t 8)),iA 10 (iP .lss 3 7 9)] (iD 10 .skip (.exit 0))) (.seq (.blk 1 (iS [iA 13 (iM 3),iA 14 (iM 0),iA 15 (iM 4),iA 16 (.sidx (.t 14) (.t 15)),iA 17 (.cv (.num .i64) 0 (.t 16)),iA 18 (iP .xor 3 13 17),iA 3 (iM 18)] (iS [iA 5 (iN 0)] (.blk 2 (.loop (.seq (iS [iA 19 (iM 5),iA 20 (iQ .lss 3 19 8)] (iD 20 .skip (.exit 2))) (.seq (.blk 3 (iS [iA 23 (iM 3),iA 24 (iQ .rem 3 23 2),iA 25 (iQ .eql 3 24 1),iA 6 (iM 25)] (iS [iA 26 (iM 3),iA 27 (iQ .quo 3 26 2),iA 3 (iM 27)] (iS [iA 28 (iM 6)] (iD 28 (.reg [iA 29 (iM 3),iA 30 (iQ .xor 3 29 3988292384),iA 3 (iM 30)]) .skip))))) (.reg [iA 21 (iM 5),iA 22 (iQ .add 3 21 1),iA 5 (iM 22)])))))))) (.reg [iA 11 (iM 4),iA 12 (iQ .add 3 11 1),iA 4 (iM 12)])))))) (iS [iA 31 (iM 3),iA 32 (iQ .xor 3 31 4294967295),iA 2 (iM 32)] .ret)))
theorem jju:fnC Tryz.prog Tryz.f143=some (jnW,[.t 2],33):=by kernel_rfl
def jhj:C:=iS [iA 6 (iO false)] (iS [iA 7 (iM 0),iA 8 (iM 1),iA 9 (iP .geq 3 7 8),iA 10 (iM 9),iB 11 10 true (iM 0),iB 12 10 true (iM 2),iB 13 10 true (iP .leq 3 11 12),iA 14 (.pick (.t 10) (.t 13) (.c (.bool false))),iA 6 (iM 14)] .ret)
theorem jjm:fnC Tryz.prog Tryz.f74=some (jhj,[.t 6],15):=by kernel_rfl
def jfO:C:=iS [iA 6 (iO false)] (iS [iA 7 (iM 0),iA 8 (iM 1),iA 9 (iP .geq 3 7 8),iA 10 (iM 9),iB 11 10 true (iM 0),iB 12 10 true (iM 2),iB 13 10 true (iP .leq 3 11 12),iA 14 (.pick (.t 10) (.t 13) (.c (.bool false))),iA 6 (iM 14)] .ret)
theorem jhR:fnC Tryz.prog Tryz.f78=some (jfO,[.t 6],15):=by kernel_rfl
theorem jJ (a b c:Int):kp Tryz.prog 74 [.c (.val (.int .i64 a)),.c (.val (.int .i64 b)),.c (.val (.int .i64 c))] (.c (.val (.bool (decide (b≤a∧a≤c))))):=by
 refine js Tryz.func74 jjm (by simp) ?_
 unfold jhj;by_cases h:b≤a
 ·simp only [go_sem,h]
 ·simp only [go_sem,h]
theorem jD (a b c:Int):kp Tryz.prog 78 [.c (.val (.int .i64 a)),.c (.val (.int .i64 b)),.c (.val (.int .i64 c))] (.c (.val (.bool (decide (b≤a∧a≤c))))):=by
 refine js Tryz.func78 jhR (by simp) ?_
 unfold jfO;by_cases h:b≤a
 ·simp only [go_sem,h]
 ·simp only [go_sem,h]
def jg5 (v:Nat):List UInt8:=if v<128 then [UInt8.ofNat v] else UInt8.ofNat (128+v%128)::jg5 (v/128)
termination_by v
decreasing_by omega
theorem jla (v:Nat):(jg5 v).length≤v+1:=by
 induction v using Nat.strongRecOn with
 |_ v ih=>
  unfold jg5;split
  ·simp
  ·have:=ih (v/128) (by omega)
   simp only [List.length_cons];omega
def jqN (n:Int):ByteArray:=if 0≤n∧n≤1000000000 then ⟨(jg5 n.toNat).toArray⟩ else ⟨#[]⟩
theorem jwt {v:Nat} (h:v<256):D.val (.int .u8 (IntKind.u8.wrap (v:Int)))=qY (UInt8.ofNat v):=by
 have:IntKind.u8.wrap (v:Int)=v:=IntWalk.u8_in _ (by omega)
 rw [this];simp [qY,Nat.mod_eq_of_lt h]
theorem jld (v:Nat):Int.tdiv (v:Int) 128=((v/128:Nat):Int):=rfl
theorem jlc (v:Nat):Int.tmod (v:Int) 128=((v%128:Nat):Int):=rfl
theorem jsp {n:Nat} (h:n≤1000000000):jqN (n:Int)=⟨(jg5 n).toArray⟩:=by simp [jqN];omega
theorem jjR (n:Int):kp Tryz.prog 144 [.c (.val (.int .i64 n))] (.c (.val (.string (jqN n)))):=by
 refine js Tryz.func144 jgG (by simp) ?_
 unfold jd0;simp only [go_sem];refine jc (jJ n 0 1000000000) (by simp only [go_sem]) fun η=>?_
 by_cases h:0≤n∧n≤1000000000
 ·obtain ⟨n,rfl⟩:=Int.eq_ofNat_of_zero_le h.1
  have hn:n≤1000000000:=by omega
  rw [jsp hn];simp only [go_sem,h];intro η1;have hl0:=jla n;refine qQ (fun s=>∃(l:List UInt8) (v:Nat) (g:Nat) (η:jq),l++jg5 v=jg5 n∧v≤n∧(g=700∨g=1600)∧s.t 0=.c (.v (.int .i64 v))∧s.t 3=.c (.h g 0 [] (η []))∧s.o g=.loose (.sl 1 5 (l.map qY)) η) (fun s=>s.n 0) ?_ ?_
  ·exact ⟨[],n,700,η1,rfl,Nat.le_refl _,.inl rfl,by simp only [go_sem],by simp only [go_sem],by simp only [go_sem]⟩
  ·rintro s ⟨l,v,g,η,hl,hv,hg,h0,h3,ho⟩
   have hll:l.length≤1000000001:=by have:=congrArg List.length hl;simp only [List.length_append] at this;omega
   by_cases hlt:128≤v
   ·have hlt':(127:Int)<v:=by omega
    have hw:IntKind.i64.wrap (128+((v%128:Nat):Int))=((128+v%128:Nat):Int):=by rw [jg (by omega) (by omega)];omega
    have hw2:IntKind.i64.wrap ((v/128:Nat):Int)=((v/128:Nat):Int):=jg (by omega) (by omega)
    have hb:=jwt (v:=128+v%128) (by omega)
    have e':l++jg5 v=(l++[UInt8.ofNat (128+v%128)])++jg5 (v/128):=by rw [jg5,if_neg (by omega)];simp
    rcases hg with rfl|rfl
    ·simp only [go_sem,h0,h3,ho,hlt',jld,jlc,hw,hw2]
     intro η2;refine ⟨by simp [maxLen];try omega,by simp;try omega,fun η3=>⟨⟨_,v/128,1600,η3,e'.symm.trans hl,by omega,.inr rfl,rfl,rfl,by simp only [go_sem,hb,List.map_append]⟩,?_⟩⟩
     rw [jaP (k:=.i64) (n:=((v/128:Nat):Int)) (by simp only [go_sem]),jaP h0];omega
    ·simp only [go_sem,h0,h3,ho,hlt',jld,jlc,hw,hw2]
     intro η2;refine ⟨by simp [maxLen];try omega,by simp;try omega,fun η3=>⟨⟨_,v/128,1600,η3,e'.symm.trans hl,by omega,.inr rfl,rfl,rfl,by simp only [go_sem,hb,List.map_append]⟩,?_⟩⟩
     rw [jaP (k:=.i64) (n:=((v/128:Nat):Int)) (by simp only [go_sem]),jaP h0];omega
   ·have hlt':¬(127:Int)<v:=by omega
    have hb:=jwt (v:=v) (by omega)
    have e':l++jg5 v=l++[UInt8.ofNat v]:=by rw [jg5,if_pos (by omega)]
    have hvl:jg5 n=l++[UInt8.ofNat v]:=by rw [←hl,e']
    rcases hg with rfl|rfl
    ·simp only [go_sem,h0,h3,ho,hlt']
     intro η2;refine ⟨by simp [maxLen];try omega,by simp;try omega,fun η3=>jiq (bs:=jg5 n) rfl rfl (by rw [hvl];simp only [go_sem,hb,List.map_append]) ?_⟩
     simp only [go_sem]
    ·simp only [go_sem,h0,h3,ho,hlt']
     intro η2;refine ⟨by simp [maxLen];try omega,by simp;try omega,fun η3=>jiq (bs:=jg5 n) rfl rfl (by rw [hvl];simp only [go_sem,hb,List.map_append]) ?_⟩
     simp only [go_sem]
 ·simp only [go_sem,h]
  simp [jqN,h]
theorem jjY (n:Int):kp Tryz.prog 142 [.c (.val (.int .i64 n))] (.c (.val (.string (jqN n)))):=by
 refine js Tryz.func142 jgR (by simp) ?_
 unfold jeb;simp only [go_sem];refine jc (jD n 0 1000000000) (by simp only [go_sem]) fun η=>?_
 by_cases h:0≤n∧n≤1000000000
 ·obtain ⟨n,rfl⟩:=Int.eq_ofNat_of_zero_le h.1
  have hn:n≤1000000000:=by omega
  rw [jsp hn];simp only [go_sem,h];have hl0:=jla n;refine qQ (fun s=>∃(l:List UInt8) (v:Nat),l++jg5 v=jg5 n∧v≤n∧s.t 0=.c (.v (.int .i64 v))∧((l=[]∧s.t 3=.c (.v (.slice none 0 0)))∨∃η,s.t 3=.c (.h 1500 0 [] (η []))∧s.o 1500=.loose (.sl 1 5 (l.map qY)) η)) (fun s=>s.n 0) ?_ ?_
  ·exact ⟨[],n,rfl,Nat.le_refl _,by simp only [go_sem],.inl ⟨rfl,by simp only [go_sem]⟩⟩
  ·rintro s ⟨l,v,hl,hv,h0,hg⟩
   have hll:l.length≤1000000001:=by have:=congrArg List.length hl;simp only [List.length_append] at this;omega
   by_cases hlt:128≤v
   ·have hlt':(128:Int)≤v:=by omega
    have hw:IntKind.i64.wrap (((v%128:Nat):Int)+128)=((128+v%128:Nat):Int):=by rw [jg (by omega) (by omega)];omega
    have hw2:IntKind.i64.wrap ((v/128:Nat):Int)=((v/128:Nat):Int):=jg (by omega) (by omega)
    have hb:=jwt (v:=128+v%128) (by omega)
    have e':l++jg5 v=(l++[UInt8.ofNat (128+v%128)])++jg5 (v/128):=by rw [jg5,if_neg (by omega)];simp
    rcases hg with ⟨rfl,h3⟩|⟨η,h3,ho⟩
    ·simp only [go_sem,h0,h3,List.length_nil,hlt',maxLen,jld,jlc,hw,hw2]
     intro η2;intro η3;refine ⟨⟨_,v/128,e'.symm.trans hl,by omega,rfl,.inr ⟨η3,rfl,by simp only [go_sem,hb,List.map_append]⟩⟩,?_⟩
     rw [jaP (k:=.i64) (n:=((v/128:Nat):Int)) (by simp only [go_sem]),jaP h0];omega
    ·simp only [go_sem,h0,h3,ho,hlt',jld,jlc,hw,hw2]
     intro η2;refine ⟨by simp [maxLen];try omega,by simp;try omega,fun η3=>⟨⟨_,v/128,e'.symm.trans hl,by omega,rfl,.inr ⟨η3,rfl,by simp only [go_sem,hb,List.map_append]⟩⟩,?_⟩⟩
     rw [jaP (k:=.i64) (n:=((v/128:Nat):Int)) (by simp only [go_sem]),jaP h0];omega
   ·have hlt':¬(128:Int)≤v:=by omega
    have hb:=jwt (v:=v) (by omega)
    have e':l++jg5 v=l++[UInt8.ofNat v]:=by rw [jg5,if_pos (by omega)]
    have hvl:jg5 n=l++[UInt8.ofNat v]:=by rw [←hl,e']
    rcases hg with ⟨rfl,h3⟩|⟨η,h3,ho⟩
    ·simp only [go_sem,h0,h3,List.length_nil,hlt',maxLen]
     intro η2 η3;refine jiq (bs:=jg5 n) rfl rfl (by rw [hvl];simp only [go_sem,hb,List.map_append]) ?_
     simp only [go_sem]
    ·simp only [go_sem,h0,h3,ho,hlt']
     intro η2;refine ⟨by simp [maxLen];try omega,by simp;try omega,fun η3=>jiq (bs:=jg5 n) rfl rfl (by rw [hvl];simp only [go_sem,hb,List.map_append]) ?_⟩
     simp only [go_sem]
 ·simp only [go_sem,h]
  simp [jqN,h]
def jqM (a b:Int):Int:=IntKind.i64.wrap ((BitVec.ofInt 64 a^^^BitVec.ofInt 64 b).toNat)
theorem juY (a b:Int):IntKind.i64.wrap ((BitVec.ofInt 64 a^^^BitVec.ofInt 64 b).toNat)=jqM a b:=rfl
def jko (c:Int):Int:=if (c.tmod 2==1)=true then jqM (IntKind.i64.wrap (c.tdiv 2)) 3988292384 else IntKind.i64.wrap (c.tdiv 2)
def jnr:Nat→Int→Int
 |0,c=>c
 |n+1,c=>jko (jnr n c)
def jwJ (c:Int) (b:UInt8):Int:=jnr 8 (jqM c (IntKind.i64.wrap b.toNat))
def jy6 (b:ByteArray):Int:=jqM (b.data.toList.foldl jwJ 4294967295) 4294967295
theorem jrR {α β:Type} (f:β→α→β) (c:β) {l:List α} {k:Nat} {x:α} (h:l[k]?=some x):(l.take (k+1)).foldl f c=f ((l.take k).foldl f c) x:=by
 rw [List.take_add_one,h];simp
theorem jsn {P:Program} (b:ByteArray) (hb:b.size<9223372036854775807):wpC P 0 jcM (jwS [.t 2] (.c (.val (.int .i64 (jy6 b))))) (St.init [.c (.val (.string b))]):=by
 unfold jcM;simp only [go_sem];refine qQ (fun s=>∃k:Nat,k≤b.size∧s.t 0=.c (.v (.string b))∧s.t 4=.c (.v (.int .i64 k))∧s.t 3=.c (.v (.int .i64 ((b.data.toList.take k).foldl jwJ 4294967295)))) (fun s=>b.size-s.n 4) ?_ ?_
 ·exact ⟨0,Nat.zero_le _,by simp only [go_sem],by simp only [go_sem]<;>rfl,by simp only [go_sem]<;>rfl⟩
 ·rintro s ⟨k,hk,h0,h4,h3⟩
  by_cases hlt:k<b.size
  ·have hlt':(k:Int)<b.size:=by omega
   obtain ⟨u,hu⟩:∃u,b[k]?=some u:=⟨b[k],by simp [hlt]⟩
   have hu':b.data.toList[k]?=some u:=by
    rw [←hu,getElem?_pos b k hlt];simp only [Array.getElem?_toList];exact getElem?_pos b.data k hlt
   have hw4:IntKind.i64.wrap ((k:Int)+1)=((k+1:Nat):Int):=jg (by omega) (by omega)
   simp only [go_sem,h0,h3,h4,hlt',juY];refine ⟨u,hu,?_⟩;refine qQ (fun s=>∃j:Nat,j≤8∧s.t 0=.c (.v (.string b))∧s.t 4=.c (.v (.int .i64 k))∧s.t 5=.c (.v (.int .i64 j))∧s.t 3=.c (.v (.int .i64 (jnr j (jqM ((b.data.toList.take k).foldl jwJ 4294967295) (IntKind.i64.wrap u.toNat)))))) (fun s=>8-s.n 5) ?_ ?_
   ·exact ⟨0,Nat.zero_le _,by simp only [go_sem,h0],by simp only [go_sem,h4],by simp only [go_sem]<;>rfl,by simp only [go_sem]<;>rfl⟩
   ·rintro s' ⟨j,hj,h0',h4',h5',h3'⟩
    by_cases hj':j<8
    ·have hj2:(j:Int)<8:=by omega
     have hw:IntKind.i64.wrap ((j:Int)+1)=((j+1:Nat):Int):=jg (by omega) (by omega)
     cases hodd:(jnr j (jqM ((b.data.toList.take k).foldl jwJ 4294967295) (IntKind.i64.wrap u.toNat))).tmod 2==1 with
     |true=>
      simp only [go_sem,h0',h4',h5',h3',hj2,hodd,hw,juY];exact ⟨⟨j+1,by omega,rfl,by simp only [jnr,jko,hodd,↓reduceIte];rfl⟩,by rw [jaP (k:=.i64) (n:=((j+1:Nat):Int)) (by simp only [go_sem]),jaP h5'];omega⟩
     |false=>
      simp only [go_sem,h0',h4',h5',h3',hj2,hodd,hw,juY];exact ⟨⟨j+1,by omega,rfl,by simp only [jnr,jko,hodd,Bool.false_eq_true,↓reduceIte]⟩,by rw [jaP (k:=.i64) (n:=((j+1:Nat):Int)) (by simp only [go_sem]),jaP h5'];omega⟩
    ·have hj2:¬(j:Int)<8:=by omega
     have hj8:j=8:=by omega
     subst hj8;simp only [go_sem,h0',h4',h5',h3',hj2,hw4];exact ⟨⟨k+1,by omega,rfl,by rw [jrR _ _ hu'];rfl⟩,by rw [jaP (k:=.i64) (n:=((k+1:Nat):Int)) (by simp only [go_sem]),jaP h4];omega⟩
  ·have hlt':¬(k:Int)<b.size:=by omega
   have hkk:b.data.toList.take k=b.data.toList:=List.take_of_length_le (by simp only [Array.length_toList];exact Nat.le_of_not_lt hlt)
   simp only [go_sem,h0,h3,h4,hlt',juY,hkk];rfl
theorem jm6 (b:ByteArray) (hb:b.size<9223372036854775807):kp Tryz.prog 90 [.c (.val (.string b))] (.c (.val (.int .i64 (jy6 b)))):=
 js Tryz.func90 jjo (by simp) (jsn b hb)
theorem jm9 (b:ByteArray) (hb:b.size<9223372036854775807):kp Tryz.prog 143 [.c (.val (.string b))] (.c (.val (.int .i64 (jy6 b)))):=
 js Tryz.func143 jju (by simp) (jsn b hb)
def jcf (n:Int):Int:=if ((jqN n).toList==ByteArray.toList ⟨⟨[]⟩⟩)=true then 0 else (jy6 (jqN n)).tmod 4
theorem jkm (n:Int):(jqN n).size<9223372036854775807:=by
 unfold jqN;split
 ·have:=jla n.toNat
  show (jg5 n.toNat).toArray.size<_;simp only [List.size_toArray];omega
 ·decide
theorem jaR (n:Int):kp Tryz.prog 65 [.c (.val (.int .i64 n))] (.c (.val (.int .i64 (jcf n)))):=by
 refine js Tryz.func65 jgJ (by simp) ?_
 unfold jd3;simp only [go_sem];refine jc (jjR n) (by simp only [go_sem]) fun η=>?_
 cases he:(jqN n).toList==ByteArray.toList ⟨⟨[]⟩⟩ with
 |true=>
  simp only [go_sem,he];simp only [jcf,he,if_true]
 |false=>
  simp only [go_sem,he];refine jc (jm6 _ (jkm n)) (by simp only [go_sem]) fun η=>?_
  simp only [go_sem];simp only [jcf,he,Bool.false_eq_true,if_false]
theorem jaT (n:Int):kp Tryz.prog 64 [.c (.val (.int .i64 n))] (.c (.val (.int .i64 (jcf n)))):=by
 refine js Tryz.func64 jgV (by simp) ?_
 unfold jef;simp only [go_sem];refine jc (jjY n) (by simp only [go_sem]) fun η=>?_
 cases he:(jqN n).toList==ByteArray.toList ⟨⟨[]⟩⟩ with
 |true=>
  simp only [go_sem,he];simp only [jcf,he,if_true]
 |false=>
  simp only [go_sem,he];refine jc (jm9 _ (jkm n)) (by simp only [go_sem]) fun η=>?_
  simp only [go_sem];simp only [jcf,he,Bool.false_eq_true,if_false]
def jdX:C:=iS [iA 1 (.box 71 5 (.t 0)),iA 2 (.alloc 71 [.int .i64 0,.int .i64 0,.int .i64 0,.int .i64 0,.slice none 0 0])] (iS [iA 3 (.bsl 253 2 0 [] []),iA 4 (iF 4 1),iA 5 (iL 4),iA 6 (.app 253 2 16 (.t 3) (.t 5)),iA 7 (iF 4 1),iC (.st 1 [some (2,253)] (.t 7) (.t 6))] (iS [iA 8 (iT 5 1),iC (.st 5 [none,none,none,none,some (2,253)] (.t 2) (.t 8))] .ret))
theorem jgD:fnC Tryz.prog Tryz.f256=some (jdX,[.cell 2 true 5],9):=by kernel_rfl
def jcV:C:=iS [iA 1 (.box 71 5 (.t 0)),iA 2 (.alloc 71 [.int .i64 0,.int .i64 0,.int .i64 0,.int .i64 0,.slice none 0 0])] (iS [iA 3 (iF 4 1),iA 4 (iL 3),iA 5 (.app 253 2 16 (.c (.slice none 0 0)) (.t 4)),iA 6 (iF 4 1),iC (.st 1 [some (2,253)] (.t 6) (.t 5))] (iS [iA 7 (iT 5 1),iC (.st 5 [none,none,none,none,some (2,253)] (.t 2) (.t 7))] .ret))
theorem jfu:fnC Tryz.prog Tryz.f270=some (jcV,[.cell 2 true 5],8):=by kernel_rfl
theorem jdE (p:Pl) (hb:p.edges.length≤4000000):kp Tryz.prog 256 [.agg (ja p)] (.agg (ja p)):=by
 refine js Tryz.func256 jgD (by simp) ?_
 unfold jdX;have h1:p.edges.length≤maxLen:=by unfold maxLen;omega
 have h2:p.edges.length*16≤140737488355328:=by omega
 simp only [go_sem,ja,h1,h2,jjb]
theorem jcn (p:Pl) (hb:p.edges.length≤4000000):kp Tryz.prog 270 [.agg (ja p)] (.agg (ja p)):=by
 refine js Tryz.func270 jfu (by simp) ?_
 unfold jcV;have h1:p.edges.length≤maxLen:=by unfold maxLen;omega
 have h2:p.edges.length*16≤140737488355328:=by omega
 simp only [go_sem,ja,h1,h2,jjb]
end Go.Proofs.YtmnpailnelmpiaaGreat
