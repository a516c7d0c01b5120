/- Parts. -/
import Derived.Test.YtmnpailnelmpiaaGreatQData
import Derived.Test.YtmnpailnelmpiaaGreatQE7
import Derived.Test.YtmnpailnelmpiaaGreatQE8
import Derived.Test.YtmnpailnelmpiaaGreatProg
import Derived.Laws.StructEq
set_option linter.unusedSimpArgs false
set_option linter.unusedVariables false
set_option maxRecDepth 100000
namespace Go.Proofs.YtmnpailnelmpiaaGreat
open Go.RowKit Go.Sort
def jlF:jp
 |[]=>.slice none 0 0
 |_::_=>undef
def A0.sim:A0→A0→Prop
 |.v x,.v y=>x=y
 |.v x,.h _ _ _ y=>x=y∧x.oneCell'=true
 |.h _ _ _ x,.h _ _ _ y=>x=y
 |.bp _ c b,.bp _ c' b'=>c=c'∧b=b'
 |.ep _ _ _ i x,.ep _ _ _ i' x'=>i=i'∧x=x'
 |.hs _ _ _ x s l n,.hs _ _ _ y s' l' n'=>x=y∧s=s'∧l=l'∧n=n'
 |.ro d,.ro d'=>d=d'
 |.rp ds,.rp ds'=>ds=ds'
 |.un,.un=>True
 |_,_=>False
def simL:List A0→List A0→Prop
 |[],[]=>True
 |a::l,b::m=>a.sim b∧simL l m
 |_,_=>False
def AV.sim:AV→AV→Prop
 |.c a,.c b=>a.sim b
 |.agg l,.agg m=>simL l m
 |.fn f l,.fn f' m=>f=f'∧simL l m
 |.tup l,.tup m=>l=m
 |_,.unk=>True
 |_,_=>False
def Cell.sim:Cell→Cell→Prop
 |.a x,.a y=>x.sim y
 |.own d η,.own d' η'=>d=d'∧η=η'
 |.a (.v x),.own d η=>x=.slice none 0 0∧d.isSl=true∧d.cells=[]∧η=jlF
 |_,_=>False
def simC:List Cell→List Cell→Prop
 |[],[]=>True
 |a::l,b::m=>a.sim b∧simC l m
 |_,_=>False
def Ob.sim:Ob→Ob→Prop
 |.loose d η,.loose d' η'=>d=d'∧η=η'
 |.box b ty cs,.box b' ty' cs'=>b=b'∧ty=ty'∧simC cs cs'
 |.none,.none=>True
 |_,_=>False
def nilOb:Ob→Prop
 |.loose d η=>d.isSl=true∧d.cells=[]∧η=jlF
 |_=>False
def lkT:List (Nat×AV)→Nat→AV
 |[],_=>.unk
 |(k,v)::T,n=>if n=k then v else lkT T n
def lkO:List (Nat×Ob)→Nat→Ob
 |[],_=>.none
 |(k,v)::T,n=>if n=k then v else lkO T n
def St.of (T:List (Nat×AV)) (O:List (Nat×Ob)):St:=⟨lkT T,lkO O⟩
def jyn (s:St):List (Nat×AV)→Prop
 |[]=>True
 |(n,v)::T=>(s.t n).sim v∧jyn s T
def jqT (s:St):List (Option Nat)→List (Nat×Ob)→Prop
 |[],[]=>True
 |some k::ks,(_,ob)::O=>(s.o k).sim ob∧jqT s ks O
 |none::ks,(_,ob)::O=>nilOb ob∧jqT s ks O
 |_,_=>False
def fp (F:Nat→List Nat):List (Option Nat)→List (Nat×Ob)→Nat→List Nat
 |k::ks,(g',_)::O,g=>if g=g' then (match k with|some k=>F k|none=>[]) else fp F ks O g
 |_,_,_=>[]
def jrS:List (Option Nat)→List Nat
 |[]=>[]
 |some k::ks=>k::jrS ks
 |none::ks=>jrS ks
def jkk:List Nat→Bool
 |[]=>true
 |k::ks=>!ks.contains k&&jkk ks
section
variable {B N:Nat} {w0 w:World} {s:St} {a:Act} {F:Nat→List Nat}
theorem A0.sim.rel:∀{a b:A0} {u:Value},a.sim b→A0Rel B w a u→A0Rel B w b u
 |.v x,.v y,u,hh,hr=>by rw [show x=y from hh] at hr;exact hr
 |.v x,.h _ _ _ y,u,hh,hr=>by obtain ⟨h1,h2⟩:=hh;subst h1;exact ⟨hr,h2⟩
 |.h _ _ _ x,.h _ _ _ y,u,hh,hr=>by rw [show x=y from hh] at hr;exact hr
 |.bp _ c b,.bp _ c' b',u,hh,hr=>by obtain ⟨h1,h2⟩:=hh;subst h1 h2;exact hr
 |.ep _ _ _ i x,.ep _ _ _ i' x',u,hh,hr=>by obtain ⟨h1,h2⟩:=hh;subst h1 h2;exact hr
 |.hs _ _ _ x s l n,.hs _ _ _ y s' l' n',u,hh,hr=>by obtain ⟨h1,h2,h3,h4⟩:=hh;subst h1 h2 h3 h4;exact hr
 |.ro d,.ro d',u,hh,hr=>by rw [show d=d' from hh] at hr;exact hr
 |.rp ds,.rp ds',u,hh,hr=>by rw [show ds=ds' from hh] at hr;exact hr
 |.un,.un,_,_,hr=>hr
theorem simL.rel:∀{l m:List A0} {us:List Value},simL l m→A0RelL B w l us→A0RelL B w m us
 |[],[],_,_,hr=>hr
 |_::_,_::_,_,⟨h1,h2⟩,⟨u,us',e,h3,h4⟩=>⟨u,us',e,h1.rel h3,h2.rel h4⟩
theorem AV.sim.rel {v v':AV} {u:Value} (h:v.sim v') (hr:VRel B w v u):VRel B w v' u:=by
 cases v' with
 |unk=>trivial
 |c b=>cases v<;>first|exact A0.sim.rel h hr|exact h.elim
 |agg m=>cases v<;>first|(obtain ⟨us,e,h1⟩:=hr;exact ⟨us,e,simL.rel h h1⟩)|exact h.elim
 |fn f m=>cases v<;>first|(obtain ⟨us,e,h1⟩:=hr;obtain ⟨rfl,h2⟩:=h;exact ⟨us,e,h2.rel h1⟩)|exact h.elim
 |tup m=>cases v<;>first|(rw [show _=m from h] at hr;exact hr)|exact h.elim
theorem jsP {d:D} (hs:d.isSl=true) (hc:d.cells=[]):(∃size ty,d=.sl size ty [])∧∀p,jlF p=hdr w p d (.slice none 0 0):=by
 cases d with
 |val u=>cases hs
 |sl size ty cs=>
  obtain rfl:cs=[]:=hc;exact ⟨⟨_,_,rfl⟩,fun p=>by cases p<;>rfl⟩
theorem simC.rel:∀{cs cs':List Cell} {us:List Value} {S:List Nat},simC cs cs'→CRel B w cs us S→CRel B w cs' us S
 |[],[],_,_,_,hr=>hr
 |.a x::l,.a y::m,_,_,⟨h1,h2⟩,⟨u,us',e,h3,h4⟩=>⟨u,us',e,A0.sim.rel h1 h3,h2.rel h4⟩
 |.own d η::l,.own d' η'::m,_,_,⟨⟨h1,h1'⟩,h2⟩,⟨u,us',S1,S2,e,e',h3,h4,h5,h6⟩=>by
  subst h1 h1';exact ⟨u,us',S1,S2,e,e',h3,h4,h5,h2.rel h6⟩
 |.a (.v x)::l,.own d η::m,_,S,⟨⟨h1,h2,h3,h4⟩,h5⟩,⟨u,us',e,h6,h7⟩=>by
  subst h1 h4;obtain ⟨⟨size,ty,rfl⟩,k2⟩:=jsP (w:=w) h2 h3;refine ⟨u,us',[],S,e,rfl,h2,?_,fun p=>?_,h5.rel h7⟩
  ·rw [show u=_ from h6];exact Rep.nil_ w size ty
  ·rw [show u=_ from h6];exact k2 p
theorem Ob.sim.rel {ob ob':Ob} {S:List Nat} (h:ob.sim ob') (hr:ORel B w ob S):ORel B w ob' S:=by
 cases ob<;>cases ob'<;>first|exact h.elim|skip
 ·exact hr
 ·obtain ⟨rfl,rfl⟩:=h;exact hr
 ·obtain ⟨rfl,rfl,h⟩:=h;obtain ⟨us,S1,h1,h2,h3⟩:=hr;exact ⟨us,S1,h1,h.rel h2,h3⟩
theorem nilOb.rel {ob:Ob} (h:nilOb ob):ORel B w ob []:=by
 cases ob with
 |loose d η=>
  obtain ⟨h1,h2,rfl⟩:=h;obtain ⟨⟨size,ty,rfl⟩,k2⟩:=jsP (w:=w) h1 h2;exact ⟨h1,_,Rep.nil_ w size ty,k2⟩
 |_=>exact h.elim
theorem jkc:∀{ks:List (Option Nat)} {O:List (Nat×Ob)} {g b:Nat},b∈fp F ks O g→∃k∈jrS ks,b∈F k
 |[],_,_,_,h=>by simp [fp] at h
 |_::_,[],_,_,h=>by simp [fp] at h
 |k::ks,(g',ob)::O,g,b,h=>by
  simp only [fp] at h;split at h
  ·cases k with
   |some k=>exact ⟨k,by simp [jrS],h⟩
   |none=>simp at h
  ·obtain ⟨k',h1,h2⟩:=jkc h
   exact ⟨k',by cases k<;>simp [jrS,h1],h2⟩
theorem jec:∀{l:List Nat},jkk l=true→l.Nodup
 |[],_=>List.nodup_nil
 |k::l,h=>by
  simp only [jkk,Bool.and_eq_true,Bool.not_eq_true',List.contains_eq_mem,decide_eq_false_iff_not] at h;exact List.nodup_cons.2 ⟨h.1,jec h.2⟩
theorem jyk (hdj:∀g g',g≠g'→∀b∈F g,b∉F g'):∀{ks:List (Option Nat)} {O:List (Nat×Ob)},(jrS ks).Nodup→∀g g',g≠g'→∀b∈fp F ks O g,b∉fp F ks O g'
 |[],_,_,_,_,_,b,h=>by simp [fp] at h
 |_::_,[],_,_,_,_,b,h=>by simp [fp] at h
 |k::ks,(g0,ob)::O,hn,g,g',hne,b,h=>by
  have hn':(jrS ks).Nodup:=by cases k with
   |none=>exact hn
   |some k=>exact (List.nodup_cons.1 hn).2
  have key:∀{g g':Nat},g=g0→g'≠g0→b∈fp F (k::ks) ((g0,ob)::O) g→b∉fp F (k::ks) ((g0,ob)::O) g':=by
   intro g g' e hne' h h';simp only [fp,if_pos e] at h;simp only [fp,if_neg hne'] at h';cases k with
   |none=>simp at h
   |some k=>
    obtain ⟨k',h1,h2⟩:=jkc h';have:k≠k':=fun e=>(List.nodup_cons.1 hn).1 (by rw [e];exact h1)
    exact hdj _ _ this b h h2
  by_cases e:g=g0
  ·exact key e (fun e'=>hne (e.trans e'.symm)) h
  ·by_cases e':g'=g0
   ·exact fun h'=>key e' e h' h
   ·simp only [fp,if_neg e] at h
    simp only [fp,if_neg e'];exact jyk hdj hn' g g' hne b h
theorem jvG (h:∀g,ORel B w (s.o g) (F g)):∀{ks:List (Option Nat)} {O:List (Nat×Ob)},jqT s ks O→∀g,ORel B w (lkO O g) (fp F ks O g)
 |[],[],_,_=>rfl
 |[],_::_,hf,_=>hf.elim
 |some _::_,[],hf,_=>hf.elim
 |none::_,[],hf,_=>hf.elim
 |some k::ks,(g',ob)::O,⟨h1,h2⟩,g=>by
  simp only [lkO,fp];by_cases e:g=g'
  ·rw [if_pos e,if_pos e];exact h1.rel (h k)
  ·rw [if_neg e,if_neg e];exact jvG h h2 g
 |none::ks,(g',ob)::O,⟨h1,h2⟩,g=>by
  simp only [lkO,fp];by_cases e:g=g'
  ·rw [if_pos e,if_pos e];exact h1.rel
  ·rw [if_neg e,if_neg e];exact jvG h h2 g
theorem jyj (h:∀g,Fresh B (F g)):∀(ks:List (Option Nat)) (O:List (Nat×Ob)) (g:Nat),Fresh B (fp F ks O g)
 |[],_,_=>Fresh.nil _
 |_::_,[],_=>Fresh.nil _
 |k::ks,(g',ob)::O,g=>by
  simp only [fp];split
  ·cases k with
   |some k=>exact h k
   |none=>exact Fresh.nil _
  ·exact jyj h ks O g
theorem jym (h:∀n,VRel B w (s.t n) (a.tmps.getD n undef)):∀{T:List (Nat×AV)},jyn s T→∀n,VRel B w (lkT T n) (a.tmps.getD n undef)
 |[],_,_=>trivial
 |(k,v)::T,⟨h1,h2⟩,n=>by
  simp only [lkT];by_cases e:n=k
  ·rw [if_pos e];subst e;exact h1.rel (h n)
  ·rw [if_neg e];exact jym h h2 n
theorem jk (ks:List (Option Nat)) {T:List (Nat×AV)} {O:List (Nat×Ob)} (h:jyn s T∧jqT s ks O) (hn:jkk (jrS ks)=true:=by decide):Wk s (St.of T O):=
 fun B N w0 w a F hr=>⟨fp F ks O,⟨hr.below,hr.hB,hr.df,hr.sz,jym hr.sl h.1,jvG hr.ob h.2,jyj hr.fr ks O,jyk hr.dj (jec hn)⟩,
  fun g b hb=>by obtain ⟨k,_,h2⟩:=jkc hb;exact ⟨k,h2⟩⟩
theorem Wk.trans {s1 s2 s3:St} (h:Wk s1 s2) (h':Wk s2 s3):Wk s1 s3:=fun B N w0 w a F hr=>by
 obtain ⟨F1,h1,h2⟩:=h _ _ _ _ _ _ hr;obtain ⟨F2,h3,h4⟩:=h' _ _ _ _ _ _ h1;refine ⟨F2,h3,fun g b hb=>?_⟩
 obtain ⟨g1,hb1⟩:=h4 g b hb;exact h2 g1 b hb1
end
section
variable {P:Program} {β:Nat} {s:St} {Q:Ex→St→Prop}
theorem jq {ι:Type} {a:C} (mk:ι→St) (J:ι→Prop) (μ:ι→Nat) (i0:ι) (h0:J i0) (hw:Wk s (mk i0)) (hr:∀i,J i→wpC P β a (Ex.thn (fun s'=>∃i',J i'∧Wk s' (mk i')∧μ i'<μ i) Q) (mk i)):wpC P β (.loop a) Q s:=⟨ι,mk,J,μ,⟨i0,h0,hw⟩,hr⟩
end
section
variable {s:St}
theorem of_t (T:List (Nat×AV)) (O:List (Nat×Ob)) (n:Nat):(St.of T O).t n=lkT T n:=(rfl)
theorem of_o (T:List (Nat×AV)) (O:List (Nat×Ob)) (n:Nat):(St.of T O).o n=lkO O n:=(rfl)
theorem jvq (k n:Nat) (v:AV) (T:List (Nat×AV)):lkT ((k,v)::T) n=if n=k then v else lkT T n:=(rfl)
theorem jxT (n:Nat):lkO [] n=.none:=(rfl)
theorem jvr (k n:Nat) (v:Ob) (T:List (Nat×Ob)):lkO ((k,v)::T) n=if n=k then v else lkO T n:=(rfl)
theorem jvJ:jyn s []=True:=(rfl)
theorem jth (n:Nat) (v:AV) (T:List (Nat×AV)):jyn s ((n,v)::T)=((s.t n).sim v∧jyn s T):=(rfl)
theorem jvK:jqT s [] []=True:=(rfl)
theorem jAx (k g:Nat) (ob:Ob) (ks:List (Option Nat)) (O:List (Nat×Ob)):jqT s (some k::ks) ((g,ob)::O)=((s.o k).sim ob∧jqT s ks O):=(rfl)
theorem jAy (g:Nat) (ob:Ob) (ks:List (Option Nat)) (O:List (Nat×Ob)):jqT s (none::ks) ((g,ob)::O)=(nilOb ob∧jqT s ks O):=(rfl)
theorem jAb (d:D) (η:jp):nilOb (.loose d η)=(d.isSl=true∧d.cells=[]∧η=jlF):=(rfl)
theorem nilH_:jlF []=.slice none 0 0:=(rfl)
theorem sim_c (a b:A0):AV.sim (.c a) (.c b)=a.sim b:=(rfl)
theorem jxa (l m:List A0):AV.sim (.agg l) (.agg m)=simL l m:=(rfl)
theorem jze (f f':Nat) (l m:List A0):AV.sim (.fn f l) (.fn f' m)=(f=f'∧simL l m):=(rfl)
theorem juN:simL [] []=True:=(rfl)
theorem jr0 (a b:A0) (l m:List A0):simL (a::l) (b::m)=(a.sim b∧simL l m):=(rfl)
theorem sim_v (x y:Value):A0.sim (.v x) (.v y)=(x=y):=(rfl)
theorem jza (x y:Value) (g c:Nat) (p:List Nat):A0.sim (.v x) (.h g c p y)=(x=y∧x.oneCell'=true):=(rfl)
theorem sim_h (x y:Value) (g c g' c':Nat) (p p':List Nat):A0.sim (.h g c p x) (.h g' c' p' y)=(x=y):=(rfl)
theorem jzg (g c b g' c' b':Nat):A0.sim (.bp g c b) (.bp g' c' b')=(c=c'∧b=b'):=(rfl)
theorem jzf (g c i g' c' i':Nat) (p p':List Nat) (x x':Value):A0.sim (.ep g c p i x) (.ep g' c' p' i' x')=(i=i'∧x=x'):=(rfl)
theorem jzd (g c g' c' sz lo n sz' lo' n':Nat) (p p':List Nat) (x x':Value):A0.sim (.hs g c p x sz lo n) (.hs g' c' p' x' sz' lo' n')=(x=x'∧sz=sz'∧lo=lo'∧n=n'):=(rfl)
theorem jzc (d d':D):A0.sim (.ro d) (.ro d')=(d=d'):=(rfl)
theorem jzb (d d':List D):A0.sim (.rp d) (.rp d')=(d=d'):=(rfl)
theorem jy9 (x y:A0):Cell.sim (.a x) (.a y)=x.sim y:=by cases x<;>rfl
theorem juL (d d':D) (η η':jp):Cell.sim (.own d η) (.own d' η')=(d=d'∧η=η'):=(rfl)
theorem juM (x:Value) (d:D) (η:jp):Cell.sim (.a (.v x)) (.own d η)=(x=.slice none 0 0∧d.isSl=true∧d.cells=[]∧η=jlF):=(rfl)
theorem juO:simC [] []=True:=(rfl)
theorem jr1 (a b:Cell) (l m:List Cell):simC (a::l) (b::m)=(a.sim b∧simC l m):=(rfl)
theorem jzh (d d':D) (η η':jp):Ob.sim (.loose d η) (.loose d' η')=(d=d'∧η=η'):=(rfl)
theorem jzi (b ty b' ty':Nat) (cs cs':List Cell):Ob.sim (.box b ty cs) (.box b' ty' cs')=(b=b'∧ty=ty'∧simC cs cs'):=(rfl)
end
attribute [go_sem] of_t of_o jvq jxT jvr jvJ jth jvK jAx jAy jAb nilH_ sim_c jxa jze juN jr0 sim_v jza sim_h jzg jzf jzd jzc jzb jy9 juL juM juO jr1 jzh jzi
section
variable {P:Program} {β:Nat} {s:St}
theorem jnZ (l:List Int):(jg l).len=l.length:=zW (enc:=fun n=>[iv n]) (fun _=>rfl) (by decide) _ _
theorem jce {l:List Int} {k:Nat} {x:Int} (h:l[k]?=some x):(jg l).elem k=[iv x]:=vW (enc:=fun n=>[iv n]) (fun _=>rfl) h
theorem jpQ (l:List Int):(jg l).isSl=true:=(rfl)
theorem jpL (l:List Int):(jg l).size=1:=(rfl)
theorem jp6 (l:List Int):(jg l).toRo=.ro (jg l):=(rfl)
theorem jnT (l:List Int) (g:Nat) (η:jp):(jg l).obj g η=[(g,.loose (jg l) η)]:=(rfl)
theorem jnO (l:List Int) (g c:Nat) (p:List Nat) (η:jp):(jg l).toOwn g c p η=.h g c p (η p):=(rfl)
theorem jlz (l:List Int):(jg l).cells=l.flatMap (fun n=>[iv n]):=(rfl)
theorem jqD (l:List Ed):(jA l).len=l.length:=zW (enc:=jH) (fun _=>rfl) (by decide) _ _
theorem jw {l:List Ed} {k:Nat} {x:Ed} (h:l[k]?=some x):(jA l).elem k=jH x:=vW (enc:=jH) (fun _=>rfl) h
theorem jrY (l:List Ed):(jA l).isSl=true:=(rfl)
theorem jrH (l:List Ed):(jA l).size=2:=(rfl)
theorem jqr (l:List Ed) (g:Nat) (η:jp):(jA l).obj g η=[(g,.loose (jA l) η)]:=(rfl)
theorem jqk (l:List Ed) (g c:Nat) (p:List Nat) (η:jp):(jA l).toOwn g c p η=.h g c p (η p):=(rfl)
theorem jm0 (l:List Ed):(jA l).cells=l.flatMap (jH):=(rfl)
theorem jqq (l:List En) (g:Nat) (η:jp):(ji l).obj g η=[(g,.loose (ji l) η)]:=(rfl)
theorem jqj (l:List En) (g c:Nat) (p:List Nat) (η:jp):(ji l).toOwn g c p η=.h g c p (η p):=(rfl)
theorem jmZ (l:List En):(ji l).cells=l.flatMap (jf):=(rfl)
theorem jqm (l:List Tk) (g:Nat) (η:jp):(jx l).obj g η=[(g,.loose (jx l) η)]:=(rfl)
theorem jqf (l:List Tk) (g c:Nat) (p:List Nat) (η:jp):(jx l).toOwn g c p η=.h g c p (η p):=(rfl)
theorem jmW (l:List Tk):(jx l).cells=l.flatMap (jn):=(rfl)
theorem jqn (l:List Rn) (g:Nat) (η:jp):(jM l).obj g η=[(g,.loose (jM l) η)]:=(rfl)
theorem jqg (l:List Rn) (g c:Nat) (p:List Nat) (η:jp):(jM l).toOwn g c p η=.h g c p (η p):=(rfl)
theorem jmX (l:List Rn):(jM l).cells=l.flatMap (jd):=(rfl)
theorem jsO (l:List (List En)) (g:Nat) (η:jp):(kt l).obj g η=[(g,.loose (kt l) η)]:=(rfl)
theorem jsJ (l:List (List En)) (g c:Nat) (p:List Nat) (η:jp):(kt l).toOwn g c p η=.h g c p (η p):=(rfl)
theorem jom (l:List (List En)):(kt l).cells=l.flatMap (fun es=>[ji es]):=(rfl)
theorem jqA (l:List Nt):(qa l).len=l.length:=zW (enc:=jN) (fun _=>rfl) (by decide) _ _
theorem jbo {l:List Nt} {k:Nat} {x:Nt} (h:l[k]?=some x):(qa l).elem k=jN x:=vW (enc:=jN) (fun _=>rfl) h
theorem jrV (l:List Nt):(qa l).isSl=true:=(rfl)
theorem jrE (l:List Nt):(qa l).size=12:=(rfl)
theorem jsi (l:List Nt):(qa l).toRo=.ro (qa l):=(rfl)
theorem jqo (l:List Nt) (g:Nat) (η:jp):(qa l).obj g η=[(g,.loose (qa l) η)]:=(rfl)
theorem jqh (l:List Nt) (g c:Nat) (p:List Nat) (η:jp):(qa l).toOwn g c p η=.h g c p (η p):=(rfl)
theorem jns (l:List Int) (e:Nat) (k:List D→Prop):slK (jg l) e 1 k=(jfE=e∧k (l.flatMap (fun n=>[iv n]))):=by rw [show jg l=.sl 1 jfE (l.flatMap (fun n=>[iv n])) from rfl,jw9];simp
theorem jol (l:List Int):(l.flatMap (fun n=>[iv n])).length/1=l.length:=by rw [jJ (enc:=fun n=>[iv n]) (size:=1) (fun _=>rfl)];exact Nat.mul_div_cancel _ (by decide)
theorem jeK (l:List Int):jW (l.flatMap (fun n=>[iv n]))=true:=by
 induction l with
 |nil=>rfl
 |cons x l ih=>rw [List.flatMap_cons,vx,ih];rfl
theorem jiz (l:List Ed):D.sl 2 tEd (l.flatMap (jH))=jA l:=rfl
theorem jq1 (l:List Ed):(l.flatMap (jH)).length/2=l.length:=by rw [jJ (enc:=jH) (size:=2) (fun _=>rfl)];exact Nat.mul_div_cancel _ (by decide)
theorem jmO (l:List Ed):jW (l.flatMap (jH))=true:=by
 induction l with
 |nil=>rfl
 |cons x l ih=>rw [List.flatMap_cons,vx,ih];rfl
theorem jlr (l:List Ed) (r:List D):jW (jA l::r)=false:=(rfl)
theorem jnS (l:List Ed) (r:List D):ji7 (jA l::r)=ji7 r:=(rfl)
theorem jpU (l:List En) (e:Nat) (k:List D→Prop):slK (ji l) e 4 k=(tEn=e∧k (l.flatMap (jf))):=by rw [show ji l=.sl 4 tEn (l.flatMap (jf)) from rfl,jw9];simp
theorem joe (l:List En):D.sl 4 tEn (l.flatMap (jf))=ji l:=rfl
theorem jq0 (l:List En):(l.flatMap (jf)).length/4=l.length:=by rw [jJ (enc:=jf) (size:=4) (fun _=>rfl)];exact Nat.mul_div_cancel _ (by decide)
theorem jcL:D.sl 4 tEn []=ji []:=rfl
theorem jaD (l:List En):jW (l.flatMap (jf))=true:=by
 induction l with
 |nil=>rfl
 |cons x l ih=>rw [List.flatMap_cons,vx,ih];rfl
theorem jlq (l:List En) (r:List D):jW (ji l::r)=false:=(rfl)
theorem jnR (l:List En) (r:List D):ji7 (ji l::r)=ji7 r:=(rfl)
theorem jpR (l:List Tk) (e:Nat) (k:List D→Prop):slK (jx l) e 4 k=(tTk=e∧k (l.flatMap (jn))):=by rw [show jx l=.sl 4 tTk (l.flatMap (jn)) from rfl,jw9];simp
theorem jqX (l:List Tk):(l.flatMap (jn)).length/4=l.length:=by rw [jJ (enc:=jn) (size:=4) (fun _=>rfl)];exact Nat.mul_div_cancel _ (by decide)
theorem jgG (l:List Tk):jW (l.flatMap (jn))=true:=by
 induction l with
 |nil=>rfl
 |cons x l ih=>rw [List.flatMap_cons,vx,ih];rfl
theorem jnQ (l:List Tk) (r:List D):ji7 (jx l::r)=ji7 r:=(rfl)
theorem jpS (l:List Rn) (e:Nat) (k:List D→Prop):slK (jM l) e 8 k=(tRn=e∧k (l.flatMap (jd))):=by rw [show jM l=.sl 8 tRn (l.flatMap (jd)) from rfl,jw9];simp
theorem jqY (l:List Rn):(l.flatMap (jd)).length/8=l.length:=by rw [jJ (enc:=jd) (size:=8) (fun _=>rfl)];exact Nat.mul_div_cancel _ (by decide)
theorem jrZ (l:List (List En)) (e:Nat) (k:List D→Prop):slK (kt l) e 1 k=(jno=e∧k (l.flatMap (fun es=>[ji es]))):=by rw [show kt l=.sl 1 jno (l.flatMap (fun es=>[ji es])) from rfl,jw9];simp
theorem jtD (l:List (List En)):(l.flatMap (fun es=>[ji es])).length/1=l.length:=by rw [jJ (enc:=fun es=>[ji es]) (size:=1) (fun _=>rfl)];exact Nat.mul_div_cancel _ (by decide)
theorem jz4 (u:Value) (l:List D):ji7 (.val u::l)=(u.oneCell'&&ji7 l):=(rfl)
theorem jvg:ji7 []=true:=(rfl)
theorem jmE (l:List Cell) (ds:List D):IsD (.a (.v (.slice none 0 0))::l) (jg []::ds)=IsD l ds:=jlg l _ _ ds
theorem jn4 (l:List Cell) (ds:List D):IsD (.a (.v (.slice none 0 0))::l) (ji []::ds)=IsD l ds:=jlg l _ _ ds
theorem jqI:Is s (.v (.slice none 0 0)) (jA [])=True:=jwy _ _
theorem jqJ (l:List Int) (a b:Int):D.sl 1 jfE (l.flatMap (fun n=>[iv n])++[iv a,iv b])=jg (l++[a,b]):=by simp [jg]
theorem jm {l:List Int} {k:Nat} {x:Int} (h:l[k]?=some x):((l.flatMap (fun n=>[iv n])).drop (k*1)).take 1=[iv x]:=jce h
theorem jj {l:List Int} {k:Nat} (h:k<l.length):k*1+1≤(l.flatMap (fun n=>[iv n])).length:=by rw [jJ (enc:=fun n=>[iv n]) (size:=1) (fun _=>rfl)];omega
theorem jbu {l:List (List En)} {k:Nat} {x:List En} (h:l[k]?=some x):((l.flatMap (fun es=>[ji es])).drop (k*1)).take 1=[ji x]:=kY h
theorem jaB {l:List (List En)} {k:Nat} (h:k<l.length):k*1+1≤(l.flatMap (fun es=>[ji es])).length:=by rw [jJ (enc:=fun es=>[ji es]) (size:=1) (fun _=>rfl)];omega
theorem jxR (g c:Nat) (p:List Nat) (η:jp) (i:Nat) (v:Value) (l:List D):jfW g c p η i (.val v::l)=.v v::jfW g c p η (i+1) l:=(rfl)
theorem jxS (g c:Nat) (p:List Nat) (η:jp) (i:Nat):jfW g c p η i []=[]:=(rfl)
end
attribute [go_sem] jxR jxS jqI jmE jn4 jeK jns jol jlz jmO jq1 jm0 jlr jnS jaD jpU jq0 jmZ jlq jnR jgG jpR jqX jmW jnQ jpS jqY jmX jrZ jtD jom jz4 jvg Bool.and_false Bool.false_and Bool.and_true Bool.true_and jnZ jpQ jpL jp6 jnT jnO jqD jrY jrH jsk jqr jqk jqC jrX jrG jsj jqq jqj jqz jrT jrC jsg jqm jqf jcM jrU jrD jsh jqn jqg jir juK juA juW jsO jsJ jqA jrV jrE jsi jqo jqh
abbrev Ni (n:Int):AV:=.c (.v (.int .i64 n))
abbrev Hd (g:Nat) (η:jp):AV:=.c (.h g 0 [] (η []))
abbrev Bx (g b:Nat):AV:=.c (.bp g 0 b)
abbrev Ro (d:D):AV:=.c (.ro d)
abbrev Bi (b ty:Nat) (ds:List D):Ob:=.box b ty (ds.map fun x=>.a x.toRo)
theorem jvI (s t:Nat) (cs l:List D):jW (.sl s t cs::l)=false:=(rfl)
theorem jxH (s t:Nat) (cs l:List D):ji7 (.sl s t cs::l)=ji7 l:=(rfl)
attribute [go_sem] jvI jxH
theorem jAF {P:Program} {ty:Nat} {xs ys:List Value} {b:Bool} (h:∀w,(Op.equalIn 10000 ty (.agg xs.toArray) (.agg ys.toArray)).run P w=.ok b w) (hg:P.eqGuardType P.depth ty=false):EqR P .eql ty xs ys b:=fun w=>⟨by rw [run_eql_struct,h w];rfl,fun x y=>run_eqGuard_agg _ _ _ _ _ _ _ hg⟩
theorem w_any:Nonempty World:=⟨default⟩
theorem jv5 {P:Program} {d:Option Nat} {s:St} {K:St→Prop} {op:BinOp} {ty:Nat} {l m:List A0} {xs ys:List Value} {b:Bool} (hx:jbR l=some xs) (hy:jbR m=some ys) (h:EqR P op ty xs ys b):jyR P d s K op ty (.agg l) (.agg m)=K (s.put d (.c (.v (.bool b)))):=by
 apply propext
 constructor
 ·rintro ⟨av,(⟨_,_,_,h1,_⟩|⟨l',m',xs',ys',b',h1,h2,h3,h4,h5,rfl⟩),h6⟩
  ·cases h1
  ·cases h1;cases h2
   rw [hx] at h3;rw [hy] at h4;cases h3;cases h4;obtain ⟨w⟩:=w_any;have e1:=(h w).1;rw [(h5 w).1] at e1;simp at e1;subst e1;exact h6
 ·intro hk
  exact ⟨_,.inr ⟨l,m,xs,ys,b,rfl,rfl,hx,hy,h,rfl⟩,hk⟩
theorem jAG (w:World) (x y:Ed):(Op.equalIn 10000 253 (.agg #[.int .i64 x.src,.int .i64 x.dst]) (.agg #[.int .i64 y.src,.int .i64 y.dst])).run Tryz.prog w=.ok (decide (x=y)) w:=by
 have u3:=Tryz.underlying3;have a3:=Tryz.isAgg3;have z3:=Tryz.sizeOf3;rw [show (10000:Nat)=9999+1 from rfl,run_equalIn_agg w 9999 253 _ _ (by kernel_rfl) (by kernel_rfl)]
 simp only [Program.fieldsOf,Tryz.underlying253];obtain ⟨xsrc,xdst⟩:=x;obtain ⟨ysrc,ydst⟩:=y
 go_simp
 by_cases h0:xsrc=ysrc<;>by_cases h1:xdst=ydst<;>simp [h0,h1]
theorem jtS {d:Option Nat} {s:St} {K:St→Prop} (x y:Ed):jyR Tryz.prog d s K .eql 253 (.agg [.v (.int .i64 x.src),.v (.int .i64 x.dst)]) (.agg [.v (.int .i64 y.src),.v (.int .i64 y.dst)])=K (s.put d (.c (.v (.bool (decide (x=y)))))):=jv5 rfl rfl (jAF (fun w=>jAG w x y) (by kernel_rfl))
attribute [go_sem] jtS
def jdt:C:=iS [iA 1 (.box 71 5 (.t 0)),iA 2 (.alloc 71 [.int .i64 0,.int .i64 0,.int .i64 0,.int .i64 0,.slice none 0 0])] (iS [iA 3 (.bsl 253 2 0 [] []),iA 4 (iF 4 1),iA 5 (iL 4),iA 6 (.app 253 2 16 (.t 3) (.t 5)),iA 7 (iF 4 1),iC (.st 1 [some (2,253)] (.t 7) (.t 6))] (iS [iA 8 (iT 5 1),iC (.st 5 [none,none,none,none,some (2,253)] (.t 2) (.t 8))] .ret))
theorem jf8:fnC Tryz.prog Tryz.f256=some (jdt,[.cell 2 true 5],9):=by kernel_rfl
def jcv:C:=iS [iA 1 (.box 71 5 (.t 0)),iA 2 (.alloc 71 [.int .i64 0,.int .i64 0,.int .i64 0,.int .i64 0,.slice none 0 0])] (iS [iA 3 (iF 4 1),iA 4 (iL 3),iA 5 (.app 253 2 16 (.c (.slice none 0 0)) (.t 4)),iA 6 (iF 4 1),iC (.st 1 [some (2,253)] (.t 6) (.t 5))] (iS [iA 7 (iT 5 1),iC (.st 5 [none,none,none,none,some (2,253)] (.t 2) (.t 7))] .ret))
theorem jeU:fnC Tryz.prog Tryz.f270=some (jcv,[.cell 2 true 5],8):=by kernel_rfl
theorem jde (p:Pl) (hb:p.edges.length≤4000000):kf Tryz.prog 256 [.agg (ja p)] (.agg (ja p)):=by
 refine jr Tryz.func256 jf8 (by simp) ?_
 unfold jdt;have h1:p.edges.length≤maxLen:=by unfold maxLen;omega
 have h2:p.edges.length*16≤140737488355328:=by omega
 simp only [go_sem,ja,h1,h2,jiz]
theorem jb2 (p:Pl) (hb:p.edges.length≤4000000):kf Tryz.prog 270 [.agg (ja p)] (.agg (ja p)):=by
 refine jr Tryz.func270 jeU (by simp) ?_
 unfold jcv;have h1:p.edges.length≤maxLen:=by unfold maxLen;omega
 have h2:p.edges.length*16≤140737488355328:=by omega
 simp only [go_sem,ja,h1,h2,jiz]
end Go.Proofs.YtmnpailnelmpiaaGreat
