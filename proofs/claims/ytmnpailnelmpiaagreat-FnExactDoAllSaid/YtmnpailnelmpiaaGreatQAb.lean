/- Parts. -/
import Derived.Test.YtmnpailnelmpiaaGreatQE7
import Derived.Test.YtmnpailnelmpiaaGreatQMarkB
set_option linter.unusedSimpArgs false
set_option linter.unusedVariables false
set_option maxHeartbeats 2000000
set_option maxRecDepth 100000
namespace Go.Proofs.YtmnpailnelmpiaaGreat
open Go.RowKit Go.Sort
def jli:jp
 |[]=>.slice none 0 0
 |_::_=>undef
def A0.sim:A0→A0→Prop
 |.v x,.v y=>x=y
 |.v x,.h _ _ _ y=>x=y∧x.oneCell'=true
 |.h _ _ _ x,.h _ _ _ y=>x=y
 |.bp _ c b,.bp _ c' b'=>c=c'∧b=b'
 |.ep _ _ _ i x,.ep _ _ _ i' x'=>i=i'∧x=x'
 |.hs _ _ _ x s l n,.hs _ _ _ y s' l' n'=>x=y∧s=s'∧l=l'∧n=n'
 |.ro d,.ro d'=>d=d'
 |.rp ds,.rp ds'=>ds=ds'
 |.un,.un=>True
 |_,_=>False
def simL:List A0→List A0→Prop
 |[],[]=>True
 |a::l,b::m=>a.sim b∧simL l m
 |_,_=>False
def AV.sim:AV→AV→Prop
 |.c a,.c b=>a.sim b
 |.agg l,.agg m=>simL l m
 |.fn f l,.fn f' m=>f=f'∧simL l m
 |.tup l,.tup m=>l=m
 |_,.unk=>True
 |_,_=>False
def Cell.sim:Cell→Cell→Prop
 |.a x,.a y=>x.sim y
 |.own d η,.own d' η'=>d=d'∧η=η'
 |.a (.v x),.own d η=>x=.slice none 0 0∧d.isSl=true∧d.cells=[]∧η=jli
 |_,_=>False
def simC:List Cell→List Cell→Prop
 |[],[]=>True
 |a::l,b::m=>a.sim b∧simC l m
 |_,_=>False
def Ob.sim:Ob→Ob→Prop
 |.loose d η,.loose d' η'=>d=d'∧η=η'
 |.box b ty cs,.box b' ty' cs'=>b=b'∧ty=ty'∧simC cs cs'
 |.none,.none=>True
 |_,_=>False
def nilOb:Ob→Prop
 |.loose d η=>d.isSl=true∧d.cells=[]∧η=jli
 |_=>False
def lkT:List (Nat×AV)→Nat→AV
 |[],_=>.unk
 |(k,v)::T,n=>if n=k then v else lkT T n
def lkO:List (Nat×Ob)→Nat→Ob
 |[],_=>.none
 |(k,v)::T,n=>if n=k then v else lkO T n
def St.of (T:List (Nat×AV)) (O:List (Nat×Ob)):St:=⟨lkT T,lkO O⟩
def jyI (s:St):List (Nat×AV)→Prop
 |[]=>True
 |(n,v)::T=>(s.t n).sim v∧jyI s T
def jra (s:St):List (Option Nat)→List (Nat×Ob)→Prop
 |[],[]=>True
 |some k::ks,(_,ob)::O=>(s.o k).sim ob∧jra s ks O
 |none::ks,(_,ob)::O=>nilOb ob∧jra s ks O
 |_,_=>False
def fp (F:Nat→List Nat):List (Option Nat)→List (Nat×Ob)→Nat→List Nat
 |k::ks,(g',_)::O,g=>if g=g' then (match k with|some k=>F k|none=>[]) else fp F ks O g
 |_,_,_=>[]
def jsa:List (Option Nat)→List Nat
 |[]=>[]
 |some k::ks=>k::jsa ks
 |none::ks=>jsa ks
def jkt:List Nat→Bool
 |[]=>true
 |k::ks=>!ks.contains k&&jkt ks
section
variable {B N:Nat} {w0 w:World} {s:St} {a:Act} {F:Nat→List Nat}
theorem A0.sim.rel:∀{a b:A0} {u:Value},a.sim b→A0Rel B w a u→A0Rel B w b u
 |.v x,.v y,u,hh,hr=>by rw [show x=y from hh] at hr;exact hr
 |.v x,.h _ _ _ y,u,hh,hr=>by obtain ⟨h1,h2⟩:=hh;subst h1;exact ⟨hr,h2⟩
 |.h _ _ _ x,.h _ _ _ y,u,hh,hr=>by rw [show x=y from hh] at hr;exact hr
 |.bp _ c b,.bp _ c' b',u,hh,hr=>by obtain ⟨h1,h2⟩:=hh;subst h1 h2;exact hr
 |.ep _ _ _ i x,.ep _ _ _ i' x',u,hh,hr=>by obtain ⟨h1,h2⟩:=hh;subst h1 h2;exact hr
 |.hs _ _ _ x s l n,.hs _ _ _ y s' l' n',u,hh,hr=>by obtain ⟨h1,h2,h3,h4⟩:=hh;subst h1 h2 h3 h4;exact hr
 |.ro d,.ro d',u,hh,hr=>by rw [show d=d' from hh] at hr;exact hr
 |.rp ds,.rp ds',u,hh,hr=>by rw [show ds=ds' from hh] at hr;exact hr
 |.un,.un,_,_,hr=>hr
theorem simL.rel:∀{l m:List A0} {us:List Value},simL l m→A0RelL B w l us→A0RelL B w m us
 |[],[],_,_,hr=>hr
 |_::_,_::_,_,⟨h1,h2⟩,⟨u,us',e,h3,h4⟩=>⟨u,us',e,h1.rel h3,h2.rel h4⟩
theorem AV.sim.rel {v v':AV} {u:Value} (h:v.sim v') (hr:VRel B w v u):VRel B w v' u:=by
 cases v' with
 |unk=>trivial
 |c b=>cases v<;>first|exact A0.sim.rel h hr|exact h.elim
 |agg m=>cases v<;>first|(obtain ⟨us,e,h1⟩:=hr;exact ⟨us,e,simL.rel h h1⟩)|exact h.elim
 |fn f m=>cases v<;>first|(obtain ⟨us,e,h1⟩:=hr;obtain ⟨rfl,h2⟩:=h;exact ⟨us,e,h2.rel h1⟩)|exact h.elim
 |tup m=>cases v<;>first|(rw [show _=m from h] at hr;exact hr)|exact h.elim
theorem jta {d:D} (hs:d.isSl=true) (hc:d.cells=[]):(∃size ty,d=.sl size ty [])∧∀p,jli p=hdr w p d (.slice none 0 0):=by
 cases d with
 |val u=>cases hs
 |sl size ty cs=>
  obtain rfl:cs=[]:=hc;exact ⟨⟨_,_,rfl⟩,fun p=>by cases p<;>rfl⟩
theorem simC.rel:∀{cs cs':List Cell} {us:List Value} {S:List Nat},simC cs cs'→CRel B w cs us S→CRel B w cs' us S
 |[],[],_,_,_,hr=>hr
 |.a x::l,.a y::m,_,_,⟨h1,h2⟩,⟨u,us',e,h3,h4⟩=>⟨u,us',e,A0.sim.rel h1 h3,h2.rel h4⟩
 |.own d η::l,.own d' η'::m,_,_,⟨⟨h1,h1'⟩,h2⟩,⟨u,us',S1,S2,e,e',h3,h4,h5,h6⟩=>by
  subst h1 h1';exact ⟨u,us',S1,S2,e,e',h3,h4,h5,h2.rel h6⟩
 |.a (.v x)::l,.own d η::m,_,S,⟨⟨h1,h2,h3,h4⟩,h5⟩,⟨u,us',e,h6,h7⟩=>by
  subst h1 h4;obtain ⟨⟨size,ty,rfl⟩,k2⟩:=jta (w:=w) h2 h3;refine ⟨u,us',[],S,e,rfl,h2,?_,fun p=>?_,h5.rel h7⟩
  ·rw [show u=_ from h6];exact Rep.nil_ w size ty
  ·rw [show u=_ from h6];exact k2 p
theorem Ob.sim.rel {ob ob':Ob} {S:List Nat} (h:ob.sim ob') (hr:ORel B w ob S):ORel B w ob' S:=by
 cases ob<;>cases ob'<;>first|exact h.elim|skip
 ·exact hr
 ·obtain ⟨rfl,rfl⟩:=h;exact hr
 ·obtain ⟨rfl,rfl,h⟩:=h;obtain ⟨us,S1,h1,h2,h3⟩:=hr;exact ⟨us,S1,h1,h.rel h2,h3⟩
theorem nilOb.rel {ob:Ob} (h:nilOb ob):ORel B w ob []:=by
 cases ob with
 |loose d η=>
  obtain ⟨h1,h2,rfl⟩:=h;obtain ⟨⟨size,ty,rfl⟩,k2⟩:=jta (w:=w) h1 h2;exact ⟨h1,_,Rep.nil_ w size ty,k2⟩
 |_=>exact h.elim
theorem jkk:∀{ks:List (Option Nat)} {O:List (Nat×Ob)} {g b:Nat},b∈fp F ks O g→∃k∈jsa ks,b∈F k
 |[],_,_,_,h=>by simp [fp] at h
 |_::_,[],_,_,h=>by simp [fp] at h
 |k::ks,(g',ob)::O,g,b,h=>by
  simp only [fp] at h;split at h
  ·cases k with
   |some k=>exact ⟨k,by simp [jsa],h⟩
   |none=>simp at h
  ·obtain ⟨k',h1,h2⟩:=jkk h
   exact ⟨k',by cases k<;>simp [jsa,h1],h2⟩
theorem jeh:∀{l:List Nat},jkt l=true→l.Nodup
 |[],_=>List.nodup_nil
 |k::l,h=>by
  simp only [jkt,Bool.and_eq_true,Bool.not_eq_true',List.contains_eq_mem,decide_eq_false_iff_not] at h;exact List.nodup_cons.2 ⟨h.1,jeh h.2⟩
theorem jyF (hdj:∀g g',g≠g'→∀b∈F g,b∉F g'):∀{ks:List (Option Nat)} {O:List (Nat×Ob)},(jsa ks).Nodup→∀g g',g≠g'→∀b∈fp F ks O g,b∉fp F ks O g'
 |[],_,_,_,_,_,b,h=>by simp [fp] at h
 |_::_,[],_,_,_,_,b,h=>by simp [fp] at h
 |k::ks,(g0,ob)::O,hn,g,g',hne,b,h=>by
  have hn':(jsa ks).Nodup:=by cases k with
   |none=>exact hn
   |some k=>exact (List.nodup_cons.1 hn).2
  have key:∀{g g':Nat},g=g0→g'≠g0→b∈fp F (k::ks) ((g0,ob)::O) g→b∉fp F (k::ks) ((g0,ob)::O) g':=by
   intro g g' e hne' h h';simp only [fp,if_pos e] at h;simp only [fp,if_neg hne'] at h';cases k with
   |none=>simp at h
   |some k=>
    obtain ⟨k',h1,h2⟩:=jkk h';have:k≠k':=fun e=>(List.nodup_cons.1 hn).1 (by rw [e];exact h1)
    exact hdj _ _ this b h h2
  by_cases e:g=g0
  ·exact key e (fun e'=>hne (e.trans e'.symm)) h
  ·by_cases e':g'=g0
   ·exact fun h'=>key e' e h' h
   ·simp only [fp,if_neg e] at h
    simp only [fp,if_neg e'];exact jyF hdj hn' g g' hne b h
theorem jv1 (h:∀g,ORel B w (s.o g) (F g)):∀{ks:List (Option Nat)} {O:List (Nat×Ob)},jra s ks O→∀g,ORel B w (lkO O g) (fp F ks O g)
 |[],[],_,_=>rfl
 |[],_::_,hf,_=>hf.elim
 |some _::_,[],hf,_=>hf.elim
 |none::_,[],hf,_=>hf.elim
 |some k::ks,(g',ob)::O,⟨h1,h2⟩,g=>by
  simp only [lkO,fp];by_cases e:g=g'
  ·rw [if_pos e,if_pos e];exact h1.rel (h k)
  ·rw [if_neg e,if_neg e];exact jv1 h h2 g
 |none::ks,(g',ob)::O,⟨h1,h2⟩,g=>by
  simp only [lkO,fp];by_cases e:g=g'
  ·rw [if_pos e,if_pos e];exact h1.rel
  ·rw [if_neg e,if_neg e];exact jv1 h h2 g
theorem jyE (h:∀g,Fresh B (F g)):∀(ks:List (Option Nat)) (O:List (Nat×Ob)) (g:Nat),Fresh B (fp F ks O g)
 |[],_,_=>Fresh.nil _
 |_::_,[],_=>Fresh.nil _
 |k::ks,(g',ob)::O,g=>by
  simp only [fp];split
  ·cases k with
   |some k=>exact h k
   |none=>exact Fresh.nil _
  ·exact jyE h ks O g
theorem jyH (h:∀n,VRel B w (s.t n) (a.tmps.getD n undef)):∀{T:List (Nat×AV)},jyI s T→∀n,VRel B w (lkT T n) (a.tmps.getD n undef)
 |[],_,_=>trivial
 |(k,v)::T,⟨h1,h2⟩,n=>by
  simp only [lkT];by_cases e:n=k
  ·rw [if_pos e];subst e;exact h1.rel (h n)
  ·rw [if_neg e];exact jyH h h2 n
theorem jk (ks:List (Option Nat)) {T:List (Nat×AV)} {O:List (Nat×Ob)} (h:jyI s T∧jra s ks O) (hn:jkt (jsa ks)=true:=by decide):Wk s (St.of T O):=
 fun B N w0 w a F hr=>⟨fp F ks O,⟨hr.below,hr.hB,hr.df,hr.sz,jyH hr.sl h.1,jv1 hr.ob h.2,jyE hr.fr ks O,jyF hr.dj (jeh hn)⟩,
  fun g b hb=>by obtain ⟨k,_,h2⟩:=jkk hb;exact ⟨k,h2⟩⟩
theorem Wk.trans {s1 s2 s3:St} (h:Wk s1 s2) (h':Wk s2 s3):Wk s1 s3:=fun B N w0 w a F hr=>by
 obtain ⟨F1,h1,h2⟩:=h _ _ _ _ _ _ hr;obtain ⟨F2,h3,h4⟩:=h' _ _ _ _ _ _ h1;refine ⟨F2,h3,fun g b hb=>?_⟩
 obtain ⟨g1,hb1⟩:=h4 g b hb;exact h2 g1 b hb1
end
section
variable {P:Program} {β:Nat} {s:St} {Q:Ex→St→Prop}
theorem jq {ι:Type} {a:C} (mk:ι→St) (J:ι→Prop) (μ:ι→Nat) (i0:ι) (h0:J i0) (hw:Wk s (mk i0)) (hr:∀i,J i→wpC P β a (Ex.thn (fun s'=>∃i',J i'∧Wk s' (mk i')∧μ i'<μ i) Q) (mk i)):wpC P β (.loop a) Q s:=⟨ι,mk,J,μ,⟨i0,h0,hw⟩,hr⟩
end
section
variable {s:St}
theorem of_t (T:List (Nat×AV)) (O:List (Nat×Ob)) (n:Nat):(St.of T O).t n=lkT T n:=(rfl)
theorem of_o (T:List (Nat×AV)) (O:List (Nat×Ob)) (n:Nat):(St.of T O).o n=lkO O n:=(rfl)
theorem jvL (k n:Nat) (v:AV) (T:List (Nat×AV)):lkT ((k,v)::T) n=if n=k then v else lkT T n:=(rfl)
theorem jye (n:Nat):lkO [] n=.none:=(rfl)
theorem jvM (k n:Nat) (v:Ob) (T:List (Nat×Ob)):lkO ((k,v)::T) n=if n=k then v else lkO T n:=(rfl)
theorem jv4:jyI s []=True:=(rfl)
theorem jtD (n:Nat) (v:AV) (T:List (Nat×AV)):jyI s ((n,v)::T)=((s.t n).sim v∧jyI s T):=(rfl)
theorem jv5:jra s [] []=True:=(rfl)
theorem jAR (k g:Nat) (ob:Ob) (ks:List (Option Nat)) (O:List (Nat×Ob)):jra s (some k::ks) ((g,ob)::O)=((s.o k).sim ob∧jra s ks O):=(rfl)
theorem jAS (g:Nat) (ob:Ob) (ks:List (Option Nat)) (O:List (Nat×Ob)):jra s (none::ks) ((g,ob)::O)=(nilOb ob∧jra s ks O):=(rfl)
theorem jAw (d:D) (η:jp):nilOb (.loose d η)=(d.isSl=true∧d.cells=[]∧η=jli):=(rfl)
theorem nilH_:jli []=.slice none 0 0:=(rfl)
theorem sim_c (a b:A0):AV.sim (.c a) (.c b)=a.sim b:=(rfl)
theorem jxu (l m:List A0):AV.sim (.agg l) (.agg m)=simL l m:=(rfl)
theorem jzz (f f':Nat) (l m:List A0):AV.sim (.fn f l) (.fn f' m)=(f=f'∧simL l m):=(rfl)
theorem ju8:simL [] []=True:=(rfl)
theorem jsj (a b:A0) (l m:List A0):simL (a::l) (b::m)=(a.sim b∧simL l m):=(rfl)
theorem sim_v (x y:Value):A0.sim (.v x) (.v y)=(x=y):=(rfl)
theorem jzv (x y:Value) (g c:Nat) (p:List Nat):A0.sim (.v x) (.h g c p y)=(x=y∧x.oneCell'=true):=(rfl)
theorem sim_h (x y:Value) (g c g' c':Nat) (p p':List Nat):A0.sim (.h g c p x) (.h g' c' p' y)=(x=y):=(rfl)
theorem jzB (g c b g' c' b':Nat):A0.sim (.bp g c b) (.bp g' c' b')=(c=c'∧b=b'):=(rfl)
theorem jzA (g c i g' c' i':Nat) (p p':List Nat) (x x':Value):A0.sim (.ep g c p i x) (.ep g' c' p' i' x')=(i=i'∧x=x'):=(rfl)
theorem jzy (g c g' c' sz lo n sz' lo' n':Nat) (p p':List Nat) (x x':Value):A0.sim (.hs g c p x sz lo n) (.hs g' c' p' x' sz' lo' n')=(x=x'∧sz=sz'∧lo=lo'∧n=n'):=(rfl)
theorem jzx (d d':D):A0.sim (.ro d) (.ro d')=(d=d'):=(rfl)
theorem jzw (d d':List D):A0.sim (.rp d) (.rp d')=(d=d'):=(rfl)
theorem jzu (x y:A0):Cell.sim (.a x) (.a y)=x.sim y:=by cases x<;>rfl
theorem ju6 (d d':D) (η η':jp):Cell.sim (.own d η) (.own d' η')=(d=d'∧η=η'):=(rfl)
theorem ju7 (x:Value) (d:D) (η:jp):Cell.sim (.a (.v x)) (.own d η)=(x=.slice none 0 0∧d.isSl=true∧d.cells=[]∧η=jli):=(rfl)
theorem ju9:simC [] []=True:=(rfl)
theorem jsk (a b:Cell) (l m:List Cell):simC (a::l) (b::m)=(a.sim b∧simC l m):=(rfl)
theorem jzC (d d':D) (η η':jp):Ob.sim (.loose d η) (.loose d' η')=(d=d'∧η=η'):=(rfl)
theorem jzD (b ty b' ty':Nat) (cs cs':List Cell):Ob.sim (.box b ty cs) (.box b' ty' cs')=(b=b'∧ty=ty'∧simC cs cs'):=(rfl)
end
attribute [go_sem] of_t of_o jvL jye jvM jv4 jtD jv5 jAR jAS jAw nilH_ sim_c jxu jzz ju8 jsj sim_v jzv sim_h jzB jzA jzy jzx jzw jzu ju6 ju7 ju9 jsk jzC jzD
section
variable {P:Program} {β:Nat} {s:St}
theorem joc (l:List Int):(jh l).len=l.length:=zz (enc:=fun n=>[iv n]) (fun _=>rfl) (by decide) _ _
theorem jce {l:List Int} {k:Nat} {x:Int} (h:l[k]?=some x):(jh l).elem k=[iv x]:=vA (enc:=fun n=>[iv n]) (fun _=>rfl) h
theorem jp3 (l:List Int):(jh l).isSl=true:=(rfl)
theorem jpY (l:List Int):(jh l).size=1:=(rfl)
theorem jqk (l:List Int):(jh l).toRo=.ro (jh l):=(rfl)
theorem jn6 (l:List Int) (g:Nat) (η:jp):(jh l).obj g η=[(g,.loose (jh l) η)]:=(rfl)
theorem jn1 (l:List Int) (g c:Nat) (p:List Nat) (η:jp):(jh l).toOwn g c p η=.h g c p (η p):=(rfl)
theorem jlI (l:List Int):(jh l).cells=l.flatMap (fun n=>[iv n]):=(rfl)
theorem jqT (l:List Ed):(jB l).len=l.length:=zz (enc:=jI) (fun _=>rfl) (by decide) _ _
theorem jv {l:List Ed} {k:Nat} {x:Ed} (h:l[k]?=some x):(jB l).elem k=jI x:=vA (enc:=jI) (fun _=>rfl) h
theorem jsg (l:List Ed):(jB l).isSl=true:=(rfl)
theorem jrY (l:List Ed):(jB l).size=2:=(rfl)
theorem jqG (l:List Ed) (g:Nat) (η:jp):(jB l).obj g η=[(g,.loose (jB l) η)]:=(rfl)
theorem jqy (l:List Ed) (g c:Nat) (p:List Nat) (η:jp):(jB l).toOwn g c p η=.h g c p (η p):=(rfl)
theorem jnd (l:List Ed):(jB l).cells=l.flatMap (jI):=(rfl)
theorem jqF (l:List En) (g:Nat) (η:jp):(ji l).obj g η=[(g,.loose (ji l) η)]:=(rfl)
theorem jqx (l:List En) (g c:Nat) (p:List Nat) (η:jp):(ji l).toOwn g c p η=.h g c p (η p):=(rfl)
theorem jnc (l:List En):(ji l).cells=l.flatMap (jf):=(rfl)
theorem jqB (l:List Tk) (g:Nat) (η:jp):(jw l).obj g η=[(g,.loose (jw l) η)]:=(rfl)
theorem jqt (l:List Tk) (g c:Nat) (p:List Nat) (η:jp):(jw l).toOwn g c p η=.h g c p (η p):=(rfl)
theorem jm8 (l:List Tk):(jw l).cells=l.flatMap (jn):=(rfl)
theorem jqD (l:List Rn) (g:Nat) (η:jp):(jM l).obj g η=[(g,.loose (jM l) η)]:=(rfl)
theorem jqv (l:List Rn) (g c:Nat) (p:List Nat) (η:jp):(jM l).toOwn g c p η=.h g c p (η p):=(rfl)
theorem jna (l:List Rn):(jM l).cells=l.flatMap (jd):=(rfl)
theorem js9 (l:List (List En)) (g:Nat) (η:jp):(kt l).obj g η=[(g,.loose (kt l) η)]:=(rfl)
theorem js4 (l:List (List En)) (g c:Nat) (p:List Nat) (η:jp):(kt l).toOwn g c p η=.h g c p (η p):=(rfl)
theorem joz (l:List (List En)):(kt l).cells=l.flatMap (fun es=>[ji es]):=(rfl)
theorem jqU (l:List Dd):(qb l).len=l.length:=zz (enc:=jg) (fun _=>rfl) (by decide) _ _
theorem jbn {l:List Dd} {k:Nat} {x:Dd} (h:l[k]?=some x):(qb l).elem k=jg x:=vA (enc:=jg) (fun _=>rfl) h
theorem jsh (l:List Dd):(qb l).isSl=true:=(rfl)
theorem jrZ (l:List Dd):(qb l).size=11:=(rfl)
theorem jsE (l:List Dd):(qb l).toRo=.ro (qb l):=(rfl)
theorem jqH (l:List Dd) (g:Nat) (η:jp):(qb l).obj g η=[(g,.loose (qb l) η)]:=(rfl)
theorem jqz (l:List Dd) (g c:Nat) (p:List Nat) (η:jp):(qb l).toOwn g c p η=.h g c p (η p):=(rfl)
theorem jnF (l:List Int) (e:Nat) (k:List D→Prop):slK (jh l) e 1 k=(jfI=e∧k (l.flatMap (fun n=>[iv n]))):=by rw [show jh l=.sl 1 jfI (l.flatMap (fun n=>[iv n])) from rfl,jwE];simp
theorem joy (l:List Int):(l.flatMap (fun n=>[iv n])).length/1=l.length:=by rw [jG (enc:=fun n=>[iv n]) (size:=1) (fun _=>rfl)];exact Nat.mul_div_cancel _ (by decide)
theorem jeP (l:List Int):jV (l.flatMap (fun n=>[iv n]))=true:=by
 induction l with
 |nil=>rfl
 |cons x l ih=>rw [List.flatMap_cons,vB,ih];rfl
theorem jiH (l:List Ed):D.sl 2 tEd (l.flatMap (jI))=jB l:=rfl
theorem jrj (l:List Ed):(l.flatMap (jI)).length/2=l.length:=by rw [jG (enc:=jI) (size:=2) (fun _=>rfl)];exact Nat.mul_div_cancel _ (by decide)
theorem jm0 (l:List Ed):jV (l.flatMap (jI))=true:=by
 induction l with
 |nil=>rfl
 |cons x l ih=>rw [List.flatMap_cons,vB,ih];rfl
theorem jlz (l:List Ed) (r:List D):jV (jB l::r)=false:=(rfl)
theorem jn5 (l:List Ed) (r:List D):jji (jB l::r)=jji r:=(rfl)
theorem jp8 (l:List En) (e:Nat) (k:List D→Prop):slK (ji l) e 4 k=(tEn=e∧k (l.flatMap (jf))):=by rw [show ji l=.sl 4 tEn (l.flatMap (jf)) from rfl,jwE];simp
theorem jor (l:List En):D.sl 4 tEn (l.flatMap (jf))=ji l:=rfl
theorem jri (l:List En):(l.flatMap (jf)).length/4=l.length:=by rw [jG (enc:=jf) (size:=4) (fun _=>rfl)];exact Nat.mul_div_cancel _ (by decide)
theorem jcL:D.sl 4 tEn []=ji []:=rfl
theorem jaF (l:List En):jV (l.flatMap (jf))=true:=by
 induction l with
 |nil=>rfl
 |cons x l ih=>rw [List.flatMap_cons,vB,ih];rfl
theorem jly (l:List En) (r:List D):jV (ji l::r)=false:=(rfl)
theorem jn4 (l:List En) (r:List D):jji (ji l::r)=jji r:=(rfl)
theorem jp4 (l:List Tk) (e:Nat) (k:List D→Prop):slK (jw l) e 4 k=(tTk=e∧k (l.flatMap (jn))):=by rw [show jw l=.sl 4 tTk (l.flatMap (jn)) from rfl,jwE];simp
theorem jre (l:List Tk):(l.flatMap (jn)).length/4=l.length:=by rw [jG (enc:=jn) (size:=4) (fun _=>rfl)];exact Nat.mul_div_cancel _ (by decide)
theorem jgM (l:List Tk):jV (l.flatMap (jn))=true:=by
 induction l with
 |nil=>rfl
 |cons x l ih=>rw [List.flatMap_cons,vB,ih];rfl
theorem jn3 (l:List Tk) (r:List D):jji (jw l::r)=jji r:=(rfl)
theorem jp6 (l:List Rn) (e:Nat) (k:List D→Prop):slK (jM l) e 8 k=(tRn=e∧k (l.flatMap (jd))):=by rw [show jM l=.sl 8 tRn (l.flatMap (jd)) from rfl,jwE];simp
theorem jrg (l:List Rn):(l.flatMap (jd)).length/8=l.length:=by rw [jG (enc:=jd) (size:=8) (fun _=>rfl)];exact Nat.mul_div_cancel _ (by decide)
theorem jsi (l:List (List En)) (e:Nat) (k:List D→Prop):slK (kt l) e 1 k=(jnB=e∧k (l.flatMap (fun es=>[ji es]))):=by rw [show kt l=.sl 1 jnB (l.flatMap (fun es=>[ji es])) from rfl,jwE];simp
theorem jt0 (l:List (List En)):(l.flatMap (fun es=>[ji es])).length/1=l.length:=by rw [jG (enc:=fun es=>[ji es]) (size:=1) (fun _=>rfl)];exact Nat.mul_div_cancel _ (by decide)
theorem jAp (u:Value) (l:List D):jji (.val u::l)=(u.oneCell'&&jji l):=(rfl)
theorem jvB:jji []=true:=(rfl)
theorem jmP (l:List Cell) (ds:List D):IsD (.a (.v (.slice none 0 0))::l) (jh []::ds)=IsD l ds:=jlo l _ _ ds
theorem joh (l:List Cell) (ds:List D):IsD (.a (.v (.slice none 0 0))::l) (ji []::ds)=IsD l ds:=jlo l _ _ ds
theorem jqZ:Is s (.v (.slice none 0 0)) (jB [])=True:=jwS _ _
theorem jq0 (l:List Int) (a b:Int):D.sl 1 jfI (l.flatMap (fun n=>[iv n])++[iv a,iv b])=jh (l++[a,b]):=by simp [jh]
theorem jm {l:List Int} {k:Nat} {x:Int} (h:l[k]?=some x):((l.flatMap (fun n=>[iv n])).drop (k*1)).take 1=[iv x]:=jce h
theorem jj {l:List Int} {k:Nat} (h:k<l.length):k*1+1≤(l.flatMap (fun n=>[iv n])).length:=by rw [jG (enc:=fun n=>[iv n]) (size:=1) (fun _=>rfl)];omega
theorem jbs {l:List (List En)} {k:Nat} {x:List En} (h:l[k]?=some x):((l.flatMap (fun es=>[ji es])).drop (k*1)).take 1=[ji x]:=kX h
theorem jaD {l:List (List En)} {k:Nat} (h:k<l.length):k*1+1≤(l.flatMap (fun es=>[ji es])).length:=by rw [jG (enc:=fun es=>[ji es]) (size:=1) (fun _=>rfl)];omega
theorem jyc (g c:Nat) (p:List Nat) (η:jp) (i:Nat) (v:Value) (l:List D):jfZ g c p η i (.val v::l)=.v v::jfZ g c p η (i+1) l:=(rfl)
theorem jyd (g c:Nat) (p:List Nat) (η:jp) (i:Nat):jfZ g c p η i []=[]:=(rfl)
end
attribute [go_sem] jyc jyd jqZ jmP joh jeP jnF joy jlI jm0 jrj jnd jlz jn5 jaF jp8 jri jnc jly jn4 jgM jp4 jre jm8 jn3 jp6 jrg jna jsi jt0 joz jAp jvB Bool.and_false Bool.false_and Bool.and_true Bool.true_and joc jp3 jpY jqk jn6 jn1 jqT jsg jrY jsD jqG jqy jqS jsf jrX jsC jqF jqx jqP jsb jrT jsz jqB jqt jcM jsd jrV jsB jqD jqv jiz ju5 juW jvi js9 js4 jqU jsh jrZ jsE jqH jqz
abbrev Ni (n:Int):AV:=.c (.v (.int .i64 n))
abbrev Hd (g:Nat) (η:jp):AV:=.c (.h g 0 [] (η []))
abbrev Bx (g b:Nat):AV:=.c (.bp g 0 b)
abbrev Ro (d:D):AV:=.c (.ro d)
abbrev Bi (b ty:Nat) (ds:List D):Ob:=.box b ty (ds.map fun x=>.a x.toRo)
theorem jv3 (s t:Nat) (cs l:List D):jV (.sl s t cs::l)=false:=(rfl)
theorem jx2 (s t:Nat) (cs l:List D):jji (.sl s t cs::l)=jji l:=(rfl)
attribute [go_sem] jv3 jx2
theorem jAZ {P:Program} {ty:Nat} {xs ys:List Value} {b:Bool} (h:∀w,(Op.equalIn 10000 ty (.agg xs.toArray) (.agg ys.toArray)).run P w=.ok b w) (hg:P.eqGuardType P.depth ty=false):EqR P .eql ty xs ys b:=fun w=>⟨by rw [run_eql_struct,h w];rfl,fun x y=>run_eqGuard_agg _ _ _ _ _ _ _ hg⟩
theorem w_any:Nonempty World:=⟨default⟩
theorem jwp {P:Program} {d:Option Nat} {s:St} {K:St→Prop} {op:BinOp} {ty:Nat} {l m:List A0} {xs ys:List Value} {b:Bool} (hx:jbQ l=some xs) (hy:jbQ m=some ys) (h:EqR P op ty xs ys b):jzc P d s K op ty (.agg l) (.agg m)=K (s.put d (.c (.v (.bool b)))):=by
 apply propext
 constructor
 ·rintro ⟨av,(⟨_,_,_,h1,_⟩|⟨l',m',xs',ys',b',h1,h2,h3,h4,h5,rfl⟩),h6⟩
  ·cases h1
  ·cases h1;cases h2
   rw [hx] at h3;rw [hy] at h4;cases h3;cases h4;obtain ⟨w⟩:=w_any;have e1:=(h w).1;rw [(h5 w).1] at e1;simp at e1;subst e1;exact h6
 ·intro hk
  exact ⟨_,.inr ⟨l,m,xs,ys,b,rfl,rfl,hx,hy,h,rfl⟩,hk⟩
theorem jA0 (w:World) (x y:Ed):(Op.equalIn 10000 253 (.agg #[.int .i64 x.src,.int .i64 x.dst]) (.agg #[.int .i64 y.src,.int .i64 y.dst])).run Tryz.prog w=.ok (decide (x=y)) w:=by
 have u3:=Tryz.underlying3;have a3:=Tryz.isAgg3;have z3:=Tryz.sizeOf3;rw [show (10000:Nat)=9999+1 from rfl,run_equalIn_agg w 9999 253 _ _ (by kernel_rfl) (by kernel_rfl)]
 simp only [Program.fieldsOf,Tryz.underlying253];obtain ⟨xsrc,xdst⟩:=x;obtain ⟨ysrc,ydst⟩:=y
 go_simp
 by_cases h0:xsrc=ysrc<;>by_cases h1:xdst=ydst<;>simp [h0,h1]
theorem juf {d:Option Nat} {s:St} {K:St→Prop} (x y:Ed):jzc Tryz.prog d s K .eql 253 (.agg [.v (.int .i64 x.src),.v (.int .i64 x.dst)]) (.agg [.v (.int .i64 y.src),.v (.int .i64 y.dst)])=K (s.put d (.c (.v (.bool (decide (x=y)))))):=jwp rfl rfl (jAZ (fun w=>jA0 w x y) (by kernel_rfl))
attribute [go_sem] juf
def jdu:C:=iS [iA 1 (.box 71 5 (.t 0)),iA 2 (.alloc 71 [.int .i64 0,.int .i64 0,.int .i64 0,.int .i64 0,.slice none 0 0])] (iS [iA 3 (.bsl 253 2 0 [] []),iA 4 (iF 4 1),iA 5 (iL 4),iA 6 (.app 253 2 16 (.t 3) (.t 5)),iA 7 (iF 4 1),iC (.st 1 [some (2,253)] (.t 7) (.t 6))] (iS [iA 8 (iT 5 1),iC (.st 5 [none,none,none,none,some (2,253)] (.t 2) (.t 8))] .ret))
theorem jgc:fnC Tryz.prog Tryz.f256=some (jdu,[.cell 2 true 5],9):=by kernel_rfl
def jcw:C:=iS [iA 1 (.box 71 5 (.t 0)),iA 2 (.alloc 71 [.int .i64 0,.int .i64 0,.int .i64 0,.int .i64 0,.slice none 0 0])] (iS [iA 3 (iF 4 1),iA 4 (iL 3),iA 5 (.app 253 2 16 (.c (.slice none 0 0)) (.t 4)),iA 6 (iF 4 1),iC (.st 1 [some (2,253)] (.t 6) (.t 5))] (iS [iA 7 (iT 5 1),iC (.st 5 [none,none,none,none,some (2,253)] (.t 2) (.t 7))] .ret))
theorem je1:fnC Tryz.prog Tryz.f270=some (jcw,[.cell 2 true 5],8):=by kernel_rfl
theorem jdf (p:Pl) (hb:p.edges.length≤4000000):ka Tryz.prog 256 [.agg (ja p)] (.agg (ja p)):=by
 refine jr Tryz.func256 jgc (by simp) ?_
 unfold jdu;have h1:p.edges.length≤maxLen:=by unfold maxLen;omega
 have h2:p.edges.length*16≤140737488355328:=by omega
 simp only [go_sem,ja,h1,h2,jiH]
theorem jb1 (p:Pl) (hb:p.edges.length≤4000000):ka Tryz.prog 270 [.agg (ja p)] (.agg (ja p)):=by
 refine jr Tryz.func270 je1 (by simp) ?_
 unfold jcw;have h1:p.edges.length≤maxLen:=by unfold maxLen;omega
 have h2:p.edges.length*16≤140737488355328:=by omega
 simp only [go_sem,ja,h1,h2,jiH]
theorem jhT (x y:Yd):ka Tryz.prog 25 [.agg (jb x),.agg (jb y)] (.c (.val (.bool (decide (x=y))))):=jfQ ⟨_,Tryz.func25,by kernel_rfl,by kernel_rfl⟩ fun w a b ⟨S,ha⟩ ⟨S2,hb⟩=>jv7 x y a b S S2 w false false ha hb
theorem jhS (x:Yd) (hsz:jt x≤2000000):ka Tryz.prog 31 [.agg (jb x)] (.agg (jb x)):=jvt ⟨_,Tryz.func31,by kernel_rfl,by kernel_rfl⟩ fun w a ⟨S,ha⟩=>juN x a S w false ha hsz
theorem jvv (x:Yd) (left:Int) (h0:0≤left) (h1:left≤1048576):ka Tryz.prog 28 [.agg (jb x),.c (.val (.int .i64 left))] (.c (.val (.int .i64 (szf (jt x) left)))):=jfQ ⟨_,Tryz.func28,by kernel_rfl,by kernel_rfl⟩ fun w a b ⟨S,ha⟩ hb=>by rw [vE hb];exact juX x a S w false left ha h0 h1
theorem jj9 (y:Yd) (k:Int) (h0:0≤k) (h1:k+(cYd y:Nat)≤2305843009213693952) (h2:y.shelf.length≤2305843009213693952) (h3:y.runs.length≤2305843009213693952):ka Tryz.prog 27 [.agg (jb (juD y k)),.c (.val (.int .i64 k))] (.c (.val (.int .i64 (k+(cYd y:Nat))))):=jfQ ⟨_,Tryz.func27,by kernel_rfl,by kernel_rfl⟩ fun w a b ⟨S,ha⟩ hb=>by rw [vE hb];exact jq5 y k a S w false ha h0 h1 h2 h3
open Go.RowKit Go.Sort Go.BigFrame
theorem jtL (l m:List (Dd)) (a b:Value) (S S':List Nat) (w:World) (own own':Bool) (ha:Rep w own (qb l) a S) (hb:Rep w own' (qb m) b S'):
 Calls Tryz.prog 42 #[a,b] w fun e w'=>e=.returned (.bool (decide (l=m)))∧Below w.heap.size w w':=by
 obtain ⟨A,c,rfl,hc1,hc2,hca⟩:=Rep.open_ (size:=11) (enc:=jg) (fun _=>rfl) (by decide) ha
 obtain ⟨B,d,rfl,hd1,hd2,hdb⟩:=Rep.open_ (size:=11) (enc:=jg) (fun _=>rfl) (by decide) hb
 unfold maxLen at hc2 hd2;have hl1:l.length≤9223372036854775807:=by omega
 have hl2:m.length≤9223372036854775807:=by omega
 clear ha hb;by_cases hlen:l.length=m.length
 ·have HL:=Lib.hid hlen
  have hne:((l.length:Int) !=(m.length:Int))=false:=by rw [hlen];simp
  clear hlen
  go_enter Tryz.func42,Tryz.ntmps42
  go_wp2
  go_loopw [5] (fun i wr=>∃k:Nat,k≤l.length∧i=.int .i64 k∧l.take k=m.take k∧Below w.heap.size w wr) (fun i _=>l.length-(intOf i).toNat)
  case atStart=>exact ⟨0,by omega,rfl,rfl,Below.refl _ _⟩
  case round=>
   obtain ⟨k,hk,rfl,heq,hbel⟩:=hrel;have HQ:=Lib.hid heq;clear heq;by_cases hlt:k<l.length
   ·have hlt':k<m.length:=by have:=HL.out;omega
    obtain ⟨x,hx⟩:=je hlt;obtain ⟨y,hy⟩:=je hlt';obtain ⟨b1,o1,vk1,T1,rfl,-,hr1,-,-,hb1,hx1⟩:=hca k x hx;obtain ⟨b2,o2,vk2,T2,rfl,-,hr2,-,-,hb2,hx2⟩:=hdb k y hy;clear hca hdb;obtain ⟨av0,rfl,ah0⟩:=kE hr1;obtain ⟨bv0,rfl,bh0⟩:=kE hr2;have HX:=Lib.hid hx;have HY:=Lib.hid hy;clear hx hy;have p0:=cell_regrown ((hbel.cell (p:=⟨b1,o1+k*11,none⟩) hb1).trans (hx1 0 _ rfl:w.cell? ⟨b1,o1+k*11,none⟩=_));have p1:=cell_regrown ((hbel.cell (p:=⟨b1,o1+k*11+1,none⟩) hb1).trans (hx1 1 _ rfl:w.cell? ⟨b1,o1+k*11+1,none⟩=_));have p2:=cell_regrown ((hbel.cell (p:=⟨b1,o1+k*11+2,none⟩) hb1).trans (hx1 2 _ rfl:w.cell? ⟨b1,o1+k*11+2,none⟩=_));have p3:=cell_regrown ((hbel.cell (p:=⟨b1,o1+k*11+3,none⟩) hb1).trans (hx1 3 _ rfl:w.cell? ⟨b1,o1+k*11+3,none⟩=_));have p4:=cell_regrown ((hbel.cell (p:=⟨b1,o1+k*11+4,none⟩) hb1).trans (hx1 4 _ rfl:w.cell? ⟨b1,o1+k*11+4,none⟩=_));have p5:=cell_regrown ((hbel.cell (p:=⟨b1,o1+k*11+5,none⟩) hb1).trans (hx1 5 _ rfl:w.cell? ⟨b1,o1+k*11+5,none⟩=_))
    have p6:=cell_regrown ((hbel.cell (p:=⟨b1,o1+k*11+6,none⟩) hb1).trans (hx1 6 _ rfl:w.cell? ⟨b1,o1+k*11+6,none⟩=_));have p7:=cell_regrown ((hbel.cell (p:=⟨b1,o1+k*11+7,none⟩) hb1).trans (hx1 7 _ rfl:w.cell? ⟨b1,o1+k*11+7,none⟩=_));have p8:=cell_regrown ((hbel.cell (p:=⟨b1,o1+k*11+8,none⟩) hb1).trans (hx1 8 _ rfl:w.cell? ⟨b1,o1+k*11+8,none⟩=_));have p9:=cell_regrown ((hbel.cell (p:=⟨b1,o1+k*11+9,none⟩) hb1).trans (hx1 9 _ rfl:w.cell? ⟨b1,o1+k*11+9,none⟩=_));have p10:=cell_regrown ((hbel.cell (p:=⟨b1,o1+k*11+10,none⟩) hb1).trans (hx1 10 _ rfl:w.cell? ⟨b1,o1+k*11+10,none⟩=_));have q0:=cell_regrown ((hbel.cell (p:=⟨b2,o2+k*11,none⟩) hb2).trans (hx2 0 _ rfl:w.cell? ⟨b2,o2+k*11,none⟩=_));have q1:=cell_regrown ((hbel.cell (p:=⟨b2,o2+k*11+1,none⟩) hb2).trans (hx2 1 _ rfl:w.cell? ⟨b2,o2+k*11+1,none⟩=_));have q2:=cell_regrown ((hbel.cell (p:=⟨b2,o2+k*11+2,none⟩) hb2).trans (hx2 2 _ rfl:w.cell? ⟨b2,o2+k*11+2,none⟩=_))
    have q3:=cell_regrown ((hbel.cell (p:=⟨b2,o2+k*11+3,none⟩) hb2).trans (hx2 3 _ rfl:w.cell? ⟨b2,o2+k*11+3,none⟩=_));have q4:=cell_regrown ((hbel.cell (p:=⟨b2,o2+k*11+4,none⟩) hb2).trans (hx2 4 _ rfl:w.cell? ⟨b2,o2+k*11+4,none⟩=_));have q5:=cell_regrown ((hbel.cell (p:=⟨b2,o2+k*11+5,none⟩) hb2).trans (hx2 5 _ rfl:w.cell? ⟨b2,o2+k*11+5,none⟩=_));have q6:=cell_regrown ((hbel.cell (p:=⟨b2,o2+k*11+6,none⟩) hb2).trans (hx2 6 _ rfl:w.cell? ⟨b2,o2+k*11+6,none⟩=_));have q7:=cell_regrown ((hbel.cell (p:=⟨b2,o2+k*11+7,none⟩) hb2).trans (hx2 7 _ rfl:w.cell? ⟨b2,o2+k*11+7,none⟩=_));have q8:=cell_regrown ((hbel.cell (p:=⟨b2,o2+k*11+8,none⟩) hb2).trans (hx2 8 _ rfl:w.cell? ⟨b2,o2+k*11+8,none⟩=_));have q9:=cell_regrown ((hbel.cell (p:=⟨b2,o2+k*11+9,none⟩) hb2).trans (hx2 9 _ rfl:w.cell? ⟨b2,o2+k*11+9,none⟩=_));have q10:=cell_regrown ((hbel.cell (p:=⟨b2,o2+k*11+10,none⟩) hb2).trans (hx2 10 _ rfl:w.cell? ⟨b2,o2+k*11+10,none⟩=_))
    have hcall:=fun (W:World) (hW:Below w.heap.size w W)=>jwb x y _ _ _ _ W own own' ⟨_,rfl,hr1.below hW (Nat.le_refl _)⟩ ⟨_,rfl,hr2.below hW (Nat.le_refl _)⟩
    clear hx1 hx2;by_cases hxy:x=y
    ·have HXY:=Lib.hid hxy
     clear hxy
     go_wp2
     refine wp_region_quiet_below (by kernel_rfl) (by kernel_rfl) ?_
     repeat (go_big_quiet_step (exact Calls.regrown_of (cb (hcall _ (hbel.trans ((below_regrown wr _ _).mono hbel.size))) (decide_eq_true HXY.out))))
     refine wpQuiet_nil ?_;intro _ hw';obtain ⟨⟨dq,osq⟩,hw''⟩:=hw';subst hw'';have hbel2:=hbel.trans ((below_regrown wr dq osq).mono hbel.size)
     go_wp2
     go_roundw
     case rel=>exact ⟨k+1,by omega,by go_num,jbl HX.out (HXY.out▸HY.out) HQ.out,hbel2⟩
     case measure=>simp [intOf];omega
    ·go_wp2
     refine wp_region_quiet_below (by kernel_rfl) (by kernel_rfl) ?_
     repeat (go_big_quiet_step (exact Calls.regrown_of (cb (hcall _ (hbel.trans ((below_regrown wr _ _).mono hbel.size))) (decide_eq_false hxy))))
     refine wpQuiet_nil ?_;intro _ hw';obtain ⟨⟨dq,osq⟩,hw''⟩:=hw';subst hw'';have hbel2:=hbel.trans ((below_regrown wr dq osq).mono hbel.size)
     go_wp2
     go_ret
     exact ⟨jx (decide_eq_false (jiL HX.out HY.out hxy)).symm,hbel2⟩
   ·clear hca hdb
    go_wp2
    go_ret
    exact ⟨jx (decide_eq_true (jbm (k:=k) (by omega) (by have:=HL.out;omega) HQ.out)).symm,hbel⟩
 ·have hne:((l.length:Int) !=(m.length:Int))=true:=bne_iff_ne.2 (by omega)
  clear hca hdb
  go_enter Tryz.func42,Tryz.ntmps42
  go_wp2
  go_ret
  exact ⟨jx (decide_eq_false (fun e=>hlen (by rw [e]))).symm,Below.refl _ _⟩
theorem jrS (l:List (Dd)) (a:Value) (S:List Nat) (w:World) (own:Bool) (ha:Rep w own (qb l) a S) (hsz:ze l≤2000000):
 Calls Tryz.prog 39 #[a] w (jg0 w (qb l)):=by
 obtain ⟨A,c,rfl,hc1,hc2,hca⟩:=Rep.open_ (size:=11) (enc:=jg) (fun _=>rfl) (by decide) ha
 clear ha;have hszl:l.length≤2000000:=by simp only [ze] at hsz;omega
 go_enter Tryz.func39,Tryz.ntmps39
 go_wp2_with (at_make;refine qv (enc:=jg) rfl _ _ rfl slDd (⟨0,0,⟨0,0,0,0,[]⟩,0,0,0,0⟩:Dd) zDd .i64 .i64 _ _ l.length rfl rfl rfl rfl (by omega) (by unfold maxLen;omega) ?_;intro w1 A1 hr1 hb1)
 go_loopw [4] (fun i wr=>∃k:Nat,k≤l.length∧i=.int .i64 k∧jy9 jg 11 tDd w (jf1 l (⟨0,0,⟨0,0,0,0,[]⟩,0,0,0,0⟩:Dd) k) (.slice A1 l.length l.length) wr) (fun i _=>l.length-(intOf i).toNat)
 case atStart=>exact ⟨0,by omega,rfl,[w.heap.size],by rw [ja0];exact hr1,Fresh.one _ _ (Nat.le_refl _),hb1⟩
 case round=>
  obtain ⟨k,hk,rfl,S1,hrep,hF,hbel⟩:=hrel;clear hr1 hb1;by_cases hlt:k<l.length
  ·obtain ⟨x,hx⟩:=je hlt
   obtain ⟨b1,o1,vk1,T1,rfl,-,hr1,-,-,hb1,hx1⟩:=hca k x hx;clear hca;have HX:=Lib.hid hx;clear hx;obtain ⟨av0,rfl,ah0⟩:=kE hr1;obtain ⟨g,rfl,-,hg1,hg,-⟩:=Rep.head (enc:=jg) (size:=11) (xs:=jf1 l (⟨0,0,⟨0,0,0,0,[]⟩,0,0,0,0⟩:Dd) k) (fun _=>rfl) (by decide) hrep (by rw [ve _ _ _ hk];omega)
   ·skip
    have hszx:vQ x≤2000000:=by have:=jkz (tot:=vQ) HX.out;simp only [ze] at hsz;omega
    have p0:=(hbel.cell (p:=⟨b1,o1+k*11,none⟩) hb1).trans (hx1 0 _ rfl:w.cell? ⟨b1,o1+k*11,none⟩=_);have p1:=(hbel.cell (p:=⟨b1,o1+k*11+1,none⟩) hb1).trans (hx1 1 _ rfl:w.cell? ⟨b1,o1+k*11+1,none⟩=_);have p2:=(hbel.cell (p:=⟨b1,o1+k*11+2,none⟩) hb1).trans (hx1 2 _ rfl:w.cell? ⟨b1,o1+k*11+2,none⟩=_);have p3:=(hbel.cell (p:=⟨b1,o1+k*11+3,none⟩) hb1).trans (hx1 3 _ rfl:w.cell? ⟨b1,o1+k*11+3,none⟩=_);have p4:=(hbel.cell (p:=⟨b1,o1+k*11+4,none⟩) hb1).trans (hx1 4 _ rfl:w.cell? ⟨b1,o1+k*11+4,none⟩=_);have p5:=(hbel.cell (p:=⟨b1,o1+k*11+5,none⟩) hb1).trans (hx1 5 _ rfl:w.cell? ⟨b1,o1+k*11+5,none⟩=_);have p6:=(hbel.cell (p:=⟨b1,o1+k*11+6,none⟩) hb1).trans (hx1 6 _ rfl:w.cell? ⟨b1,o1+k*11+6,none⟩=_);have p7:=(hbel.cell (p:=⟨b1,o1+k*11+7,none⟩) hb1).trans (hx1 7 _ rfl:w.cell? ⟨b1,o1+k*11+7,none⟩=_);have p8:=(hbel.cell (p:=⟨b1,o1+k*11+8,none⟩) hb1).trans (hx1 8 _ rfl:w.cell? ⟨b1,o1+k*11+8,none⟩=_);have p9:=(hbel.cell (p:=⟨b1,o1+k*11+9,none⟩) hb1).trans (hx1 9 _ rfl:w.cell? ⟨b1,o1+k*11+9,none⟩=_)
    have p10:=(hbel.cell (p:=⟨b1,o1+k*11+10,none⟩) hb1).trans (hx1 10 _ rfl:w.cell? ⟨b1,o1+k*11+10,none⟩=_);clear hx1
    go_wp2_with (first
    |(go_at_call 32;refine (juR x _ _ _ _ ⟨_,rfl,hr1.below hbel (Nat.le_refl _)⟩ hszx).mono ?_;rintro e w2 ⟨_,Sx,rfl,⟨vsx,rfl,hrx⟩,hFx,hb2⟩)
    |((with_reducible refine jfD 73 21 20 ?_);refine qM (enc:=jg) (size:=11) (xs:=jf1 l (⟨0,0,⟨0,0,0,0,[]⟩,0,0,0,0⟩:Dd) k) rfl _ _ _ rfl (fun _=>rfl) (by decide) szDd jtU (hrep.below hb2 (Nat.le_refl _)) (k:=k) (by rw [ve _ _ _ hk];omega) rfl rfl _ rfl x (by simpa using hrx) w.heap.size (Fresh.join hF hFx hbel.size (fun s hs=>Rep.lt _ hrep s hs)) ?_;intro S' hr' hF' ho' _ _))
    go_roundw
    case rel=>
     rw [jcS HX.out] at hr';refine ⟨k+1,by omega,by go_num,S',hr',hF',?_⟩
     exact (jy hbel hb2).trans (ho'.below (by simpa using hF.2 g hg1) (Nat.le_trans hbel.size hb2.size))
    case measure=>simp [intOf];omega
  ·obtain rfl:k=l.length:=by omega
   clear hca
   go_wp2
   go_ret
   exact ⟨_,S1,rfl,by rw [jcT] at hrep;exact hrep,hF,hbel⟩
theorem jr2 (l:List (Dd)) (a:Value) (S:List Nat) (w:World) (own:Bool) (left:Int) (ha:Rep w own (qb l) a S) (h0:0≤left) (h1:left≤1048576):
 Calls Tryz.prog 37 #[a,.int .i64 left] w fun e w'=>e=.returned (.int .i64 (szf (ze l) left))∧Below w.heap.size w w':=by
 obtain ⟨A,c,rfl,hc1,hc2,hca⟩:=Rep.open_ (size:=11) (enc:=jg) (fun _=>rfl) (by decide) ha
 clear ha;unfold maxLen at hc2;have hl1:l.length≤9223372036854775807:=by omega
 have hs:=kI (ze l) left;have ht:ze l=l.length+kj vQ l:=rfl;rw [ht] at hs;have HT:=Lib.hid ht;clear ht;by_cases hneg:left-(l.length:Int)<0
 ·clear hca
  go_enter Tryz.func37,Tryz.ntmps37
  go_wp2
  go_ret
  exact ⟨kT (by rw [HT.out];omega),Below.refl _ _⟩
 ·go_enter Tryz.func37,Tryz.ntmps37
  go_wp2
  go_loopw [1,5] (fun q i wr=>∃(k:Nat) (v:Int),k≤l.length∧i=.int .i64 k∧q=.int .i64 v∧0≤v∧v=left-l.length-kj vQ (l.take k)∧Below w.heap.size w wr) (fun _ i _=>l.length-(intOf i).toNat)
  case atStart=>exact ⟨0,left-l.length,by omega,rfl,rfl,by omega,by simp [kj],Below.refl _ _⟩
  case round=>
   obtain ⟨k,v,hk,rfl,rfl,hv0,hv,hbel⟩:=hrel;by_cases hlt:k<l.length
   ·obtain ⟨x,hx⟩:=je hlt
    obtain ⟨b1,o1,vk1,T1,rfl,-,hr1,-,-,hb1,hx1⟩:=hca k x hx;clear hca;obtain ⟨av0,rfl,ah0⟩:=kE hr1;have htk:=kL (tot:=vQ) hx;have htl:=qE vQ l (k+1);have hsx:=kI (vQ x) v;have hv1:v≤1048576:=by omega
    have HV:=Lib.hid hv;have HK:=Lib.hid htk;clear hx hv htk;have p0:=(hbel.cell (p:=⟨b1,o1+k*11,none⟩) hb1).trans (hx1 0 _ rfl:w.cell? ⟨b1,o1+k*11,none⟩=_);have p1:=(hbel.cell (p:=⟨b1,o1+k*11+1,none⟩) hb1).trans (hx1 1 _ rfl:w.cell? ⟨b1,o1+k*11+1,none⟩=_);have p2:=(hbel.cell (p:=⟨b1,o1+k*11+2,none⟩) hb1).trans (hx1 2 _ rfl:w.cell? ⟨b1,o1+k*11+2,none⟩=_);have p3:=(hbel.cell (p:=⟨b1,o1+k*11+3,none⟩) hb1).trans (hx1 3 _ rfl:w.cell? ⟨b1,o1+k*11+3,none⟩=_);have p4:=(hbel.cell (p:=⟨b1,o1+k*11+4,none⟩) hb1).trans (hx1 4 _ rfl:w.cell? ⟨b1,o1+k*11+4,none⟩=_);have p5:=(hbel.cell (p:=⟨b1,o1+k*11+5,none⟩) hb1).trans (hx1 5 _ rfl:w.cell? ⟨b1,o1+k*11+5,none⟩=_);have p6:=(hbel.cell (p:=⟨b1,o1+k*11+6,none⟩) hb1).trans (hx1 6 _ rfl:w.cell? ⟨b1,o1+k*11+6,none⟩=_);have p7:=(hbel.cell (p:=⟨b1,o1+k*11+7,none⟩) hb1).trans (hx1 7 _ rfl:w.cell? ⟨b1,o1+k*11+7,none⟩=_);have p8:=(hbel.cell (p:=⟨b1,o1+k*11+8,none⟩) hb1).trans (hx1 8 _ rfl:w.cell? ⟨b1,o1+k*11+8,none⟩=_)
    have p9:=(hbel.cell (p:=⟨b1,o1+k*11+9,none⟩) hb1).trans (hx1 9 _ rfl:w.cell? ⟨b1,o1+k*11+9,none⟩=_);have p10:=(hbel.cell (p:=⟨b1,o1+k*11+10,none⟩) hb1).trans (hx1 10 _ rfl:w.cell? ⟨b1,o1+k*11+10,none⟩=_);clear hx1
    go_wp2_with (go_at_call 29;refine (juZ x _ _ _ _ _ ⟨_,rfl,hr1.below hbel (Nat.le_refl _)⟩ (by omega) (by omega)).mono ?_;rintro e w2 ⟨rfl,hb2⟩)
    ·go_ret
     have hv:=HV.out;have htk:=HK.out;exact ⟨kT (by rw [HT.out];(try simp only [kO] at*);omega),jy hbel hb2⟩
    ·go_roundw
     case rel=>
      have hv:=HV.out;have htk:=HK.out;refine ⟨k+1,_,by omega,by go_num,rfl,by omega,?_,jy hbel hb2⟩
      try simp only [kO] at*
      omega
     case measure=>simp [intOf];omega
   ·obtain rfl:k=l.length:=by omega
    clear hca;rw [List.take_length] at hv;have HV:=Lib.hid hv;clear hv
    go_wp2
    go_ret
    have hv:=HV.out;exact ⟨kT (by rw [HT.out];omega),hbel⟩
theorem jsZ (x y:List Dd):ka Tryz.prog 42 [.c (qb x),.c (qb y)] (.c (.val (.bool (decide (x=y))))):=jfQ ⟨_,Tryz.func42,by kernel_rfl,by kernel_rfl⟩ fun w a b ⟨S,ha⟩ ⟨S2,hb⟩=>jtL x y a b S S2 w false false ha hb
theorem jey (x:List Dd) (hsz:ze x≤2000000):ka Tryz.prog 39 [.c (qb x)] (.c (qb x)):=jvs ⟨_,Tryz.func39,by kernel_rfl,by kernel_rfl⟩ fun w a ⟨S,ha⟩=>jrS x a S w false ha hsz
theorem jsU (x:List Dd) (left:Int) (h0:0≤left) (h1:left≤1048576):ka Tryz.prog 37 [.c (qb x),.c (.val (.int .i64 left))] (.c (.val (.int .i64 (szf (ze x) left)))):=jfQ ⟨_,Tryz.func37,by kernel_rfl,by kernel_rfl⟩ fun w a b ⟨S,ha⟩ hb=>by rw [vE hb];exact jr2 x a S w false left ha h0 h1
end Go.Proofs.YtmnpailnelmpiaaGreat
