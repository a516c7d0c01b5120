/- Parts. -/
import Derived.Test.YtmnpailnelmpiaaGreatQData
import Derived.Test.YtmnpailnelmpiaaGreatQE7
import Derived.Test.YtmnpailnelmpiaaGreatQE8
import Derived.Test.YtmnpailnelmpiaaGreatProg
import Derived.Laws.StructEq
set_option linter.unusedSimpArgs false
set_option linter.unusedVariables false
set_option maxRecDepth 100000
namespace Go.Proofs.YtmnpailnelmpiaaGreat
open Go.RowKit Go.Sort
def jlu:jp
 |[]=>.slice none 0 0
 |_::_=>undef
def A0.sim:A0→A0→Prop
 |.v x,.v y=>x=y
 |.v x,.h _ _ _ y=>x=y∧x.oneCell'=true
 |.h _ _ _ x,.h _ _ _ y=>x=y
 |.bp _ c b,.bp _ c' b'=>c=c'∧b=b'
 |.ep _ _ _ i x,.ep _ _ _ i' x'=>i=i'∧x=x'
 |.hs _ _ _ x s l n,.hs _ _ _ y s' l' n'=>x=y∧s=s'∧l=l'∧n=n'
 |.ro d,.ro d'=>d=d'
 |.rp ds,.rp ds'=>ds=ds'
 |.un,.un=>True
 |_,_=>False
def simL:List A0→List A0→Prop
 |[],[]=>True
 |a::l,b::m=>a.sim b∧simL l m
 |_,_=>False
def AV.sim:AV→AV→Prop
 |.c a,.c b=>a.sim b
 |.agg l,.agg m=>simL l m
 |.fn f l,.fn f' m=>f=f'∧simL l m
 |.tup l,.tup m=>l=m
 |_,.unk=>True
 |_,_=>False
def Cell.sim:Cell→Cell→Prop
 |.a x,.a y=>x.sim y
 |.own d η,.own d' η'=>d=d'∧η=η'
 |.a (.v x),.own d η=>x=.slice none 0 0∧d.isSl=true∧d.cells=[]∧η=jlu
 |_,_=>False
def simC:List Cell→List Cell→Prop
 |[],[]=>True
 |a::l,b::m=>a.sim b∧simC l m
 |_,_=>False
def Ob.sim:Ob→Ob→Prop
 |.loose d η,.loose d' η'=>d=d'∧η=η'
 |.box b ty cs,.box b' ty' cs'=>b=b'∧ty=ty'∧simC cs cs'
 |.none,.none=>True
 |_,_=>False
def nilOb:Ob→Prop
 |.loose d η=>d.isSl=true∧d.cells=[]∧η=jlu
 |_=>False
def lkT:List (Nat×AV)→Nat→AV
 |[],_=>.unk
 |(k,v)::T,n=>if n=k then v else lkT T n
def lkO:List (Nat×Ob)→Nat→Ob
 |[],_=>.none
 |(k,v)::T,n=>if n=k then v else lkO T n
def St.of (T:List (Nat×AV)) (O:List (Nat×Ob)):St:=⟨lkT T,lkO O⟩
def jxT (s:St):List (Nat×AV)→Prop
 |[]=>True
 |(n,v)::T=>(s.t n).sim v∧jxT s T
def jqH (s:St):List (Option Nat)→List (Nat×Ob)→Prop
 |[],[]=>True
 |some k::ks,(_,ob)::O=>(s.o k).sim ob∧jqH s ks O
 |none::ks,(_,ob)::O=>nilOb ob∧jqH s ks O
 |_,_=>False
def fp (F:Nat→List Nat):List (Option Nat)→List (Nat×Ob)→Nat→List Nat
 |k::ks,(g',_)::O,g=>if g=g' then (match k with|some k=>F k|none=>[]) else fp F ks O g
 |_,_,_=>[]
def jrB:List (Option Nat)→List Nat
 |[]=>[]
 |some k::ks=>k::jrB ks
 |none::ks=>jrB ks
def jj9:List Nat→Bool
 |[]=>true
 |k::ks=>!ks.contains k&&jj9 ks
section
variable {B N:Nat} {w0 w:World} {s:St} {a:Act} {F:Nat→List Nat}
theorem A0.sim.rel:∀{a b:A0} {u:Value},a.sim b→A0Rel B w a u→A0Rel B w b u
 |.v x,.v y,u,hh,hr=>by rw [show x=y from hh] at hr;exact hr
 |.v x,.h _ _ _ y,u,hh,hr=>by obtain ⟨h1,h2⟩:=hh;subst h1;exact ⟨hr,h2⟩
 |.h _ _ _ x,.h _ _ _ y,u,hh,hr=>by rw [show x=y from hh] at hr;exact hr
 |.bp _ c b,.bp _ c' b',u,hh,hr=>by obtain ⟨h1,h2⟩:=hh;subst h1 h2;exact hr
 |.ep _ _ _ i x,.ep _ _ _ i' x',u,hh,hr=>by obtain ⟨h1,h2⟩:=hh;subst h1 h2;exact hr
 |.hs _ _ _ x s l n,.hs _ _ _ y s' l' n',u,hh,hr=>by obtain ⟨h1,h2,h3,h4⟩:=hh;subst h1 h2 h3 h4;exact hr
 |.ro d,.ro d',u,hh,hr=>by rw [show d=d' from hh] at hr;exact hr
 |.rp ds,.rp ds',u,hh,hr=>by rw [show ds=ds' from hh] at hr;exact hr
 |.un,.un,_,_,hr=>hr
theorem simL.rel:∀{l m:List A0} {us:List Value},simL l m→A0RelL B w l us→A0RelL B w m us
 |[],[],_,_,hr=>hr
 |_::_,_::_,_,⟨h1,h2⟩,⟨u,us',e,h3,h4⟩=>⟨u,us',e,h1.rel h3,h2.rel h4⟩
theorem AV.sim.rel {v v':AV} {u:Value} (h:v.sim v') (hr:VRel B w v u):VRel B w v' u:=by
 cases v' with
 |unk=>trivial
 |c b=>cases v<;>first|exact A0.sim.rel h hr|exact h.elim
 |agg m=>cases v<;>first|(obtain ⟨us,e,h1⟩:=hr;exact ⟨us,e,simL.rel h h1⟩)|exact h.elim
 |fn f m=>cases v<;>first|(obtain ⟨us,e,h1⟩:=hr;obtain ⟨rfl,h2⟩:=h;exact ⟨us,e,h2.rel h1⟩)|exact h.elim
 |tup m=>cases v<;>first|(rw [show _=m from h] at hr;exact hr)|exact h.elim
theorem jst {d:D} (hs:d.isSl=true) (hc:d.cells=[]):(∃size ty,d=.sl size ty [])∧∀p,jlu p=hdr w p d (.slice none 0 0):=by
 cases d with
 |val u=>cases hs
 |sl size ty cs=>
  obtain rfl:cs=[]:=hc;exact ⟨⟨_,_,rfl⟩,fun p=>by cases p<;>rfl⟩
theorem simC.rel:∀{cs cs':List Cell} {us:List Value} {S:List Nat},simC cs cs'→CRel B w cs us S→CRel B w cs' us S
 |[],[],_,_,_,hr=>hr
 |.a x::l,.a y::m,_,_,⟨h1,h2⟩,⟨u,us',e,h3,h4⟩=>⟨u,us',e,A0.sim.rel h1 h3,h2.rel h4⟩
 |.own d η::l,.own d' η'::m,_,_,⟨⟨h1,h1'⟩,h2⟩,⟨u,us',S1,S2,e,e',h3,h4,h5,h6⟩=>by
  subst h1 h1';exact ⟨u,us',S1,S2,e,e',h3,h4,h5,h2.rel h6⟩
 |.a (.v x)::l,.own d η::m,_,S,⟨⟨h1,h2,h3,h4⟩,h5⟩,⟨u,us',e,h6,h7⟩=>by
  subst h1 h4;obtain ⟨⟨size,ty,rfl⟩,k2⟩:=jst (w:=w) h2 h3;refine ⟨u,us',[],S,e,rfl,h2,?_,fun p=>?_,h5.rel h7⟩
  ·rw [show u=_ from h6];exact Rep.nil_ w size ty
  ·rw [show u=_ from h6];exact k2 p
theorem Ob.sim.rel {ob ob':Ob} {S:List Nat} (h:ob.sim ob') (hr:ORel B w ob S):ORel B w ob' S:=by
 cases ob<;>cases ob'<;>first|exact h.elim|skip
 ·exact hr
 ·obtain ⟨rfl,rfl⟩:=h;exact hr
 ·obtain ⟨rfl,rfl,h⟩:=h;obtain ⟨us,S1,h1,h2,h3⟩:=hr;exact ⟨us,S1,h1,h.rel h2,h3⟩
theorem nilOb.rel {ob:Ob} (h:nilOb ob):ORel B w ob []:=by
 cases ob with
 |loose d η=>
  obtain ⟨h1,h2,rfl⟩:=h;obtain ⟨⟨size,ty,rfl⟩,k2⟩:=jst (w:=w) h1 h2;exact ⟨h1,_,Rep.nil_ w size ty,k2⟩
 |_=>exact h.elim
theorem jj0:∀{ks:List (Option Nat)} {O:List (Nat×Ob)} {g b:Nat},b∈fp F ks O g→∃k∈jrB ks,b∈F k
 |[],_,_,_,h=>by simp [fp] at h
 |_::_,[],_,_,h=>by simp [fp] at h
 |k::ks,(g',ob)::O,g,b,h=>by
  simp only [fp] at h;split at h
  ·cases k with
   |some k=>exact ⟨k,by simp [jrB],h⟩
   |none=>simp at h
  ·obtain ⟨k',h1,h2⟩:=jj0 h
   exact ⟨k',by cases k<;>simp [jrB,h1],h2⟩
theorem jd8:∀{l:List Nat},jj9 l=true→l.Nodup
 |[],_=>List.nodup_nil
 |k::l,h=>by
  simp only [jj9,Bool.and_eq_true,Bool.not_eq_true',List.contains_eq_mem,decide_eq_false_iff_not] at h;exact List.nodup_cons.2 ⟨h.1,jd8 h.2⟩
theorem jxQ (hdj:∀g g',g≠g'→∀b∈F g,b∉F g'):∀{ks:List (Option Nat)} {O:List (Nat×Ob)},(jrB ks).Nodup→∀g g',g≠g'→∀b∈fp F ks O g,b∉fp F ks O g'
 |[],_,_,_,_,_,b,h=>by simp [fp] at h
 |_::_,[],_,_,_,_,b,h=>by simp [fp] at h
 |k::ks,(g0,ob)::O,hn,g,g',hne,b,h=>by
  have hn':(jrB ks).Nodup:=by cases k with
   |none=>exact hn
   |some k=>exact (List.nodup_cons.1 hn).2
  have key:∀{g g':Nat},g=g0→g'≠g0→b∈fp F (k::ks) ((g0,ob)::O) g→b∉fp F (k::ks) ((g0,ob)::O) g':=by
   intro g g' e hne' h h';simp only [fp,if_pos e] at h;simp only [fp,if_neg hne'] at h';cases k with
   |none=>simp at h
   |some k=>
    obtain ⟨k',h1,h2⟩:=jj0 h';have:k≠k':=fun e=>(List.nodup_cons.1 hn).1 (by rw [e];exact h1)
    exact hdj _ _ this b h h2
  by_cases e:g=g0
  ·exact key e (fun e'=>hne (e.trans e'.symm)) h
  ·by_cases e':g'=g0
   ·exact fun h'=>key e' e h' h
   ·simp only [fp,if_neg e] at h
    simp only [fp,if_neg e'];exact jxQ hdj hn' g g' hne b h
theorem jvd (h:∀g,ORel B w (s.o g) (F g)):∀{ks:List (Option Nat)} {O:List (Nat×Ob)},jqH s ks O→∀g,ORel B w (lkO O g) (fp F ks O g)
 |[],[],_,_=>rfl
 |[],_::_,hf,_=>hf.elim
 |some _::_,[],hf,_=>hf.elim
 |none::_,[],hf,_=>hf.elim
 |some k::ks,(g',ob)::O,⟨h1,h2⟩,g=>by
  simp only [lkO,fp];by_cases e:g=g'
  ·rw [if_pos e,if_pos e];exact h1.rel (h k)
  ·rw [if_neg e,if_neg e];exact jvd h h2 g
 |none::ks,(g',ob)::O,⟨h1,h2⟩,g=>by
  simp only [lkO,fp];by_cases e:g=g'
  ·rw [if_pos e,if_pos e];exact h1.rel
  ·rw [if_neg e,if_neg e];exact jvd h h2 g
theorem jxP (h:∀g,Fresh B (F g)):∀(ks:List (Option Nat)) (O:List (Nat×Ob)) (g:Nat),Fresh B (fp F ks O g)
 |[],_,_=>Fresh.nil _
 |_::_,[],_=>Fresh.nil _
 |k::ks,(g',ob)::O,g=>by
  simp only [fp];split
  ·cases k with
   |some k=>exact h k
   |none=>exact Fresh.nil _
  ·exact jxP h ks O g
theorem jxS (h:∀n,VRel B w (s.t n) (a.tmps.getD n undef)):∀{T:List (Nat×AV)},jxT s T→∀n,VRel B w (lkT T n) (a.tmps.getD n undef)
 |[],_,_=>trivial
 |(k,v)::T,⟨h1,h2⟩,n=>by
  simp only [lkT];by_cases e:n=k
  ·rw [if_pos e];subst e;exact h1.rel (h n)
  ·rw [if_neg e];exact jxS h h2 n
theorem jn (ks:List (Option Nat)) {T:List (Nat×AV)} {O:List (Nat×Ob)} (h:jxT s T∧jqH s ks O) (hn:jj9 (jrB ks)=true:=by decide):Wk s (St.of T O):=
 fun B N w0 w a F hr=>⟨fp F ks O,⟨hr.below,hr.hB,hr.df,hr.sz,jxS hr.sl h.1,jvd hr.ob h.2,jxP hr.fr ks O,jxQ hr.dj (jd8 hn)⟩,
  fun g b hb=>by obtain ⟨k,_,h2⟩:=jj0 hb;exact ⟨k,h2⟩⟩
theorem Wk.trans {s1 s2 s3:St} (h:Wk s1 s2) (h':Wk s2 s3):Wk s1 s3:=fun B N w0 w a F hr=>by
 obtain ⟨F1,h1,h2⟩:=h _ _ _ _ _ _ hr;obtain ⟨F2,h3,h4⟩:=h' _ _ _ _ _ _ h1;refine ⟨F2,h3,fun g b hb=>?_⟩
 obtain ⟨g1,hb1⟩:=h4 g b hb;exact h2 g1 b hb1
end
section
variable {P:Program} {β:Nat} {s:St} {Q:Ex→St→Prop}
theorem jq {ι:Type} {a:C} (mk:ι→St) (J:ι→Prop) (μ:ι→Nat) (i0:ι) (h0:J i0) (hw:Wk s (mk i0)) (hr:∀i,J i→wpC P β a (Ex.thn (fun s'=>∃i',J i'∧Wk s' (mk i')∧μ i'<μ i) Q) (mk i)):wpC P β (.loop a) Q s:=⟨ι,mk,J,μ,⟨i0,h0,hw⟩,hr⟩
theorem wp_gh {a:C} (s':St) (h:Wk s s') (hk:wpC P β a Q s'):wpC P β (.gh a) Q s:=fun _ _ _ _ _ _ hr=>let ⟨F',h1,_⟩:=h _ _ _ _ _ _ hr;⟨s',F',h1,hk⟩
end
section
variable {s:St}
theorem of_t (T:List (Nat×AV)) (O:List (Nat×Ob)) (n:Nat):(St.of T O).t n=lkT T n:=(rfl)
theorem of_o (T:List (Nat×AV)) (O:List (Nat×Ob)) (n:Nat):(St.of T O).o n=lkO O n:=(rfl)
theorem juX (k n:Nat) (v:AV) (T:List (Nat×AV)):lkT ((k,v)::T) n=if n=k then v else lkT T n:=(rfl)
theorem jxp (n:Nat):lkO [] n=.none:=(rfl)
theorem juY (k n:Nat) (v:Ob) (T:List (Nat×Ob)):lkO ((k,v)::T) n=if n=k then v else lkO T n:=(rfl)
theorem jvg:jxT s []=True:=(rfl)
theorem jsV (n:Nat) (v:AV) (T:List (Nat×AV)):jxT s ((n,v)::T)=((s.t n).sim v∧jxT s T):=(rfl)
theorem jvh:jqH s [] []=True:=(rfl)
theorem jz0 (k g:Nat) (ob:Ob) (ks:List (Option Nat)) (O:List (Nat×Ob)):jqH s (some k::ks) ((g,ob)::O)=((s.o k).sim ob∧jqH s ks O):=(rfl)
theorem jz1 (g:Nat) (ob:Ob) (ks:List (Option Nat)) (O:List (Nat×Ob)):jqH s (none::ks) ((g,ob)::O)=(nilOb ob∧jqH s ks O):=(rfl)
theorem jzG (d:D) (η:jp):nilOb (.loose d η)=(d.isSl=true∧d.cells=[]∧η=jlu):=(rfl)
theorem nilH_:jlu []=.slice none 0 0:=(rfl)
theorem sim_c (a b:A0):AV.sim (.c a) (.c b)=a.sim b:=(rfl)
theorem jwF (l m:List A0):AV.sim (.agg l) (.agg m)=simL l m:=(rfl)
theorem jyK (f f':Nat) (l m:List A0):AV.sim (.fn f l) (.fn f' m)=(f=f'∧simL l m):=(rfl)
theorem jum:simL [] []=True:=(rfl)
theorem jrI (a b:A0) (l m:List A0):simL (a::l) (b::m)=(a.sim b∧simL l m):=(rfl)
theorem sim_v (x y:Value):A0.sim (.v x) (.v y)=(x=y):=(rfl)
theorem jyG (x y:Value) (g c:Nat) (p:List Nat):A0.sim (.v x) (.h g c p y)=(x=y∧x.oneCell'=true):=(rfl)
theorem sim_h (x y:Value) (g c g' c':Nat) (p p':List Nat):A0.sim (.h g c p x) (.h g' c' p' y)=(x=y):=(rfl)
theorem jyM (g c b g' c' b':Nat):A0.sim (.bp g c b) (.bp g' c' b')=(c=c'∧b=b'):=(rfl)
theorem jyL (g c i g' c' i':Nat) (p p':List Nat) (x x':Value):A0.sim (.ep g c p i x) (.ep g' c' p' i' x')=(i=i'∧x=x'):=(rfl)
theorem jyJ (g c g' c' sz lo n sz' lo' n':Nat) (p p':List Nat) (x x':Value):A0.sim (.hs g c p x sz lo n) (.hs g' c' p' x' sz' lo' n')=(x=x'∧sz=sz'∧lo=lo'∧n=n'):=(rfl)
theorem jyI (d d':D):A0.sim (.ro d) (.ro d')=(d=d'):=(rfl)
theorem jyH (d d':List D):A0.sim (.rp d) (.rp d')=(d=d'):=(rfl)
theorem jyF (x y:A0):Cell.sim (.a x) (.a y)=x.sim y:=by cases x<;>rfl
theorem juk (d d':D) (η η':jp):Cell.sim (.own d η) (.own d' η')=(d=d'∧η=η'):=(rfl)
theorem jul (x:Value) (d:D) (η:jp):Cell.sim (.a (.v x)) (.own d η)=(x=.slice none 0 0∧d.isSl=true∧d.cells=[]∧η=jlu):=(rfl)
theorem jun:simC [] []=True:=(rfl)
theorem jrJ (a b:Cell) (l m:List Cell):simC (a::l) (b::m)=(a.sim b∧simC l m):=(rfl)
theorem jyN (d d':D) (η η':jp):Ob.sim (.loose d η) (.loose d' η')=(d=d'∧η=η'):=(rfl)
theorem jyO (b ty b' ty':Nat) (cs cs':List Cell):Ob.sim (.box b ty cs) (.box b' ty' cs')=(b=b'∧ty=ty'∧simC cs cs'):=(rfl)
end
attribute [go_sem] of_t of_o juX jxp juY jvg jsV jvh jz0 jz1 jzG nilH_ sim_c jwF jyK jum jrI sim_v jyG sim_h jyM jyL jyJ jyI jyH jyF juk jul jun jrJ jyN jyO
section
variable {P:Program} {β:Nat} {s:St}
theorem jnQ (l:List Int):(jh l).len=l.length:=jaB (enc:=fun n=>[iv n]) (fun _=>rfl) (by decide) _ _
theorem jb7 {l:List Int} {k:Nat} {x:Int} (h:l[k]?=some x):(jh l).elem k=[iv x]:=zw (enc:=fun n=>[iv n]) (fun _=>rfl) h
theorem jpG (l:List Int):(jh l).isSl=true:=(rfl)
theorem jpB (l:List Int):(jh l).size=1:=(rfl)
theorem jpV (l:List Int):(jh l).toRo=.ro (jh l):=(rfl)
theorem jnL (l:List Int) (g:Nat) (η:jp):(jh l).obj g η=[(g,.loose (jh l) η)]:=(rfl)
theorem jnG (l:List Int) (g c:Nat) (p:List Nat) (η:jp):(jh l).toOwn g c p η=.h g c p (η p):=(rfl)
theorem jlo (l:List Int):(jh l).cells=l.flatMap (fun n=>[iv n]):=(rfl)
theorem jqr (l:List Ed):(jC l).len=l.length:=jaB (enc:=jH) (fun _=>rfl) (by decide) _ _
theorem jv {l:List Ed} {k:Nat} {x:Ed} (h:l[k]?=some x):(jC l).elem k=jH x:=zw (enc:=jH) (fun _=>rfl) h
theorem jrG (l:List Ed):(jC l).isSl=true:=(rfl)
theorem jrr (l:List Ed):(jC l).size=2:=(rfl)
theorem jqe (l:List Ed) (g:Nat) (η:jp):(jC l).obj g η=[(g,.loose (jC l) η)]:=(rfl)
theorem jp8 (l:List Ed) (g c:Nat) (p:List Nat) (η:jp):(jC l).toOwn g c p η=.h g c p (η p):=(rfl)
theorem jmR (l:List Ed):(jC l).cells=l.flatMap (jH):=(rfl)
theorem jqd (l:List En) (g:Nat) (η:jp):(ji l).obj g η=[(g,.loose (ji l) η)]:=(rfl)
theorem jp7 (l:List En) (g c:Nat) (p:List Nat) (η:jp):(ji l).toOwn g c p η=.h g c p (η p):=(rfl)
theorem jmQ (l:List En):(ji l).cells=l.flatMap (jf):=(rfl)
theorem jqa (l:List Tk) (g:Nat) (η:jp):(jw l).obj g η=[(g,.loose (jw l) η)]:=(rfl)
theorem jp4 (l:List Tk) (g c:Nat) (p:List Nat) (η:jp):(jw l).toOwn g c p η=.h g c p (η p):=(rfl)
theorem jmN (l:List Tk):(jw l).cells=l.flatMap (jm):=(rfl)
theorem jqb (l:List Rn) (g:Nat) (η:jp):(jM l).obj g η=[(g,.loose (jM l) η)]:=(rfl)
theorem jp5 (l:List Rn) (g c:Nat) (p:List Nat) (η:jp):(jM l).toOwn g c p η=.h g c p (η p):=(rfl)
theorem jmO (l:List Rn):(jM l).cells=l.flatMap (jd):=(rfl)
theorem jss (l:List (List En)) (g:Nat) (η:jp):(ko l).obj g η=[(g,.loose (ko l) η)]:=(rfl)
theorem jso (l:List (List En)) (g c:Nat) (p:List Nat) (η:jp):(ko l).toOwn g c p η=.h g c p (η p):=(rfl)
theorem jod (l:List (List En)):(ko l).cells=l.flatMap (fun es=>[ji es]):=(rfl)
theorem jnk (l:List Int) (e:Nat) (k:List D→Prop):slK (jh l) e 1 k=(jfx=e∧k (l.flatMap (fun n=>[iv n]))):=by rw [show jh l=.sl 1 jfx (l.flatMap (fun n=>[iv n])) from rfl,jwE];simp
theorem joc (l:List Int):(l.flatMap (fun n=>[iv n])).length/1=l.length:=by rw [jJ (enc:=fun n=>[iv n]) (size:=1) (fun _=>rfl)];exact Nat.mul_div_cancel _ (by decide)
theorem jeH (l:List Int):jU (l.flatMap (fun n=>[iv n]))=true:=by
 induction l with
 |nil=>rfl
 |cons x l ih=>rw [List.flatMap_cons,vu,ih];rfl
theorem jio (l:List Ed):D.sl 2 tEd (l.flatMap (jH))=jC l:=rfl
theorem jqP (l:List Ed):(l.flatMap (jH)).length/2=l.length:=by rw [jJ (enc:=jH) (size:=2) (fun _=>rfl)];exact Nat.mul_div_cancel _ (by decide)
theorem jmF (l:List Ed):jU (l.flatMap (jH))=true:=by
 induction l with
 |nil=>rfl
 |cons x l ih=>rw [List.flatMap_cons,vu,ih];rfl
theorem jlh (l:List Ed) (r:List D):jU (jC l::r)=false:=(rfl)
theorem jnK (l:List Ed) (r:List D):jiX (jC l::r)=jiX r:=(rfl)
theorem jpK (l:List En) (e:Nat) (k:List D→Prop):slK (ji l) e 4 k=(tEn=e∧k (l.flatMap (jf))):=by rw [show ji l=.sl 4 tEn (l.flatMap (jf)) from rfl,jwE];simp
theorem jn5 (l:List En):D.sl 4 tEn (l.flatMap (jf))=ji l:=rfl
theorem jqO (l:List En):(l.flatMap (jf)).length/4=l.length:=by rw [jJ (enc:=jf) (size:=4) (fun _=>rfl)];exact Nat.mul_div_cancel _ (by decide)
theorem jcD:D.sl 4 tEn []=ji []:=rfl
theorem jaC (l:List En):jU (l.flatMap (jf))=true:=by
 induction l with
 |nil=>rfl
 |cons x l ih=>rw [List.flatMap_cons,vu,ih];rfl
theorem jlg (l:List En) (r:List D):jU (ji l::r)=false:=(rfl)
theorem jnJ (l:List En) (r:List D):jiX (ji l::r)=jiX r:=(rfl)
theorem jpH (l:List Tk) (e:Nat) (k:List D→Prop):slK (jw l) e 4 k=(tTk=e∧k (l.flatMap (jm))):=by rw [show jw l=.sl 4 tTk (l.flatMap (jm)) from rfl,jwE];simp
theorem jqL (l:List Tk):(l.flatMap (jm)).length/4=l.length:=by rw [jJ (enc:=jm) (size:=4) (fun _=>rfl)];exact Nat.mul_div_cancel _ (by decide)
theorem jgr (l:List Tk):jU (l.flatMap (jm))=true:=by
 induction l with
 |nil=>rfl
 |cons x l ih=>rw [List.flatMap_cons,vu,ih];rfl
theorem jnI (l:List Tk) (r:List D):jiX (jw l::r)=jiX r:=(rfl)
theorem jpI (l:List Rn) (e:Nat) (k:List D→Prop):slK (jM l) e 8 k=(tRn=e∧k (l.flatMap (jd))):=by rw [show jM l=.sl 8 tRn (l.flatMap (jd)) from rfl,jwE];simp
theorem jqM (l:List Rn):(l.flatMap (jd)).length/8=l.length:=by rw [jJ (enc:=jd) (size:=8) (fun _=>rfl)];exact Nat.mul_div_cancel _ (by decide)
theorem jrH (l:List (List En)) (e:Nat) (k:List D→Prop):slK (ko l) e 1 k=(jng=e∧k (l.flatMap (fun es=>[ji es]))):=by rw [show ko l=.sl 1 jng (l.flatMap (fun es=>[ji es])) from rfl,jwE];simp
theorem jte (l:List (List En)):(l.flatMap (fun es=>[ji es])).length/1=l.length:=by rw [jJ (enc:=fun es=>[ji es]) (size:=1) (fun _=>rfl)];exact Nat.mul_div_cancel _ (by decide)
theorem jzz (u:Value) (l:List D):jiX (.val u::l)=(u.oneCell'&&jiX l):=(rfl)
theorem juN:jiX []=true:=(rfl)
theorem jmv (l:List Cell) (ds:List D):IsD (.a (.v (.slice none 0 0))::l) (jh []::ds)=IsD l ds:=jk6 l _ _ ds
theorem jnV (l:List Cell) (ds:List D):IsD (.a (.v (.slice none 0 0))::l) (ji []::ds)=IsD l ds:=jk6 l _ _ ds
theorem jqw:Is s (.v (.slice none 0 0)) (jC [])=True:=jv3 _ _
theorem jqx (l:List Int) (a b:Int):D.sl 1 jfx (l.flatMap (fun n=>[iv n])++[iv a,iv b])=jh (l++[a,b]):=by simp [jh]
theorem jk {l:List Int} {k:Nat} {x:Int} (h:l[k]?=some x):((l.flatMap (fun n=>[iv n])).drop (k*1)).take 1=[iv x]:=jb7 h
theorem jj {l:List Int} {k:Nat} (h:k<l.length):k*1+1≤(l.flatMap (fun n=>[iv n])).length:=by rw [jJ (enc:=fun n=>[iv n]) (size:=1) (fun _=>rfl)];omega
theorem jbl {l:List (List En)} {k:Nat} {x:List En} (h:l[k]?=some x):((l.flatMap (fun es=>[ji es])).drop (k*1)).take 1=[ji x]:=kQ h
theorem jaz {l:List (List En)} {k:Nat} (h:k<l.length):k*1+1≤(l.flatMap (fun es=>[ji es])).length:=by rw [jJ (enc:=fun es=>[ji es]) (size:=1) (fun _=>rfl)];omega
theorem jxn (g c:Nat) (p:List Nat) (η:jp) (i:Nat) (v:Value) (l:List D):jfL g c p η i (.val v::l)=.v v::jfL g c p η (i+1) l:=(rfl)
theorem jxo (g c:Nat) (p:List Nat) (η:jp) (i:Nat):jfL g c p η i []=[]:=(rfl)
end
attribute [go_sem] jxn jxo jqw jmv jnV jeH jnk joc jlo jmF jqP jmR jlh jnK jaC jpK jqO jmQ jlg jnJ jgr jpH jqL jmN jnI jpI jqM jmO jrH jte jod jzz juN Bool.and_false Bool.false_and Bool.and_true Bool.true_and jnQ jpG jpB jpV jnL jnG jqr jrG jrr jr1 jqe jp8 jqq jrF jrq jr0 jqd jp7 jqo jrC jrn jrY jqa jp4 jcE jrD jro jrZ jqb jp5 jif juj jua juv jss jso
abbrev Ni (n:Int):AV:=.c (.v (.int .i64 n))
abbrev Hd (g:Nat) (η:jp):AV:=.c (.h g 0 [] (η []))
abbrev Bx (g b:Nat):AV:=.c (.bp g 0 b)
abbrev Ro (d:D):AV:=.c (.ro d)
abbrev Bi (b ty:Nat) (ds:List D):Ob:=.box b ty (ds.map fun x=>.a x.toRo)
theorem jvf (s t:Nat) (cs l:List D):jU (.sl s t cs::l)=false:=(rfl)
theorem jxd (s t:Nat) (cs l:List D):jiX (.sl s t cs::l)=jiX l:=(rfl)
attribute [go_sem] jvf jxd
theorem jz8 {P:Program} {ty:Nat} {xs ys:List Value} {b:Bool} (h:∀w,(Op.equalIn 10000 ty (.agg xs.toArray) (.agg ys.toArray)).run P w=.ok b w) (hg:P.eqGuardType P.depth ty=false):EqR P .eql ty xs ys b:=fun w=>⟨by rw [run_eql_struct,h w];rfl,fun x y=>run_eqGuard_agg _ _ _ _ _ _ _ hg⟩
theorem w_any:Nonempty World:=⟨default⟩
theorem jvB {P:Program} {d:Option Nat} {s:St} {K:St→Prop} {op:BinOp} {ty:Nat} {l m:List A0} {xs ys:List Value} {b:Bool} (hx:jbJ l=some xs) (hy:jbJ m=some ys) (h:EqR P op ty xs ys b):jym P d s K op ty (.agg l) (.agg m)=K (s.put d (.c (.v (.bool b)))):=by
 apply propext
 constructor
 ·rintro ⟨av,(⟨_,_,_,h1,_⟩|⟨l',m',xs',ys',b',h1,h2,h3,h4,h5,rfl⟩),h6⟩
  ·cases h1
  ·cases h1;cases h2
   rw [hx] at h3;rw [hy] at h4;cases h3;cases h4;obtain ⟨w⟩:=w_any;have e1:=(h w).1;rw [(h5 w).1] at e1;simp at e1;subst e1;exact h6
 ·intro hk
  exact ⟨_,.inr ⟨l,m,xs,ys,b,rfl,rfl,hx,hy,h,rfl⟩,hk⟩
theorem jz9 (w:World) (x y:Ed):(Op.equalIn 10000 253 (.agg #[.int .i64 x.src,.int .i64 x.dst]) (.agg #[.int .i64 y.src,.int .i64 y.dst])).run Tryz.prog w=.ok (decide (x=y)) w:=by
 have u3:=Tryz.underlying3;have a3:=Tryz.isAgg3;have z3:=Tryz.sizeOf3;rw [show (10000:Nat)=9999+1 from rfl,run_equalIn_agg w 9999 253 _ _ (by kernel_rfl) (by kernel_rfl)]
 simp only [Program.fieldsOf,Tryz.underlying253];obtain ⟨xsrc,xdst⟩:=x;obtain ⟨ysrc,ydst⟩:=y
 go_simp
 by_cases h0:xsrc=ysrc<;>by_cases h1:xdst=ydst<;>simp [h0,h1]
theorem jtt {d:Option Nat} {s:St} {K:St→Prop} (x y:Ed):jym Tryz.prog d s K .eql 253 (.agg [.v (.int .i64 x.src),.v (.int .i64 x.dst)]) (.agg [.v (.int .i64 y.src),.v (.int .i64 y.dst)])=K (s.put d (.c (.v (.bool (decide (x=y)))))):=jvB rfl rfl (jz8 (fun w=>jz9 w x y) (by kernel_rfl))
attribute [go_sem] jtt
def jdm:C:=iS [iA 1 (.box 71 5 (.t 0)),iA 2 (.alloc 71 [.int .i64 0,.int .i64 0,.int .i64 0,.int .i64 0,.slice none 0 0])] (iS [iA 3 (.bsl 253 2 0 [] []),iA 4 (iF 4 1),iA 5 (iL 4),iA 6 (.app 253 2 16 (.t 3) (.t 5)),iA 7 (iF 4 1),iC (.st 1 [some (2,253)] (.t 7) (.t 6))] (iS [iA 8 (iT 5 1),iC (.st 5 [none,none,none,none,some (2,253)] (.t 2) (.t 8))] .ret))
theorem jfV:fnC Tryz.prog Tryz.f256=some (jdm,[.cell 2 true 5],9):=by kernel_rfl
def jco:C:=iS [iA 1 (.box 71 5 (.t 0)),iA 2 (.alloc 71 [.int .i64 0,.int .i64 0,.int .i64 0,.int .i64 0,.slice none 0 0])] (iS [iA 3 (iF 4 1),iA 4 (iL 3),iA 5 (.app 253 2 16 (.c (.slice none 0 0)) (.t 4)),iA 6 (iF 4 1),iC (.st 1 [some (2,253)] (.t 6) (.t 5))] (iS [iA 7 (iT 5 1),iC (.st 5 [none,none,none,none,some (2,253)] (.t 2) (.t 7))] .ret))
theorem jeR:fnC Tryz.prog Tryz.f270=some (jco,[.cell 2 true 5],8):=by kernel_rfl
theorem jc7 (p:Pl) (hb:p.edges.length≤4000000):kb Tryz.prog 256 [.agg (ja p)] (.agg (ja p)):=by
 refine jr Tryz.func256 jfV (by simp) ?_
 unfold jdm;have h1:p.edges.length≤maxLen:=by unfold maxLen;omega
 have h2:p.edges.length*16≤140737488355328:=by omega
 simp only [go_sem,ja,h1,h2,jio]
theorem jbU (p:Pl) (hb:p.edges.length≤4000000):kb Tryz.prog 270 [.agg (ja p)] (.agg (ja p)):=by
 refine jr Tryz.func270 jeR (by simp) ?_
 unfold jco;have h1:p.edges.length≤maxLen:=by unfold maxLen;omega
 have h2:p.edges.length*16≤140737488355328:=by omega
 simp only [go_sem,ja,h1,h2,jio]
end Go.Proofs.YtmnpailnelmpiaaGreat
