/- Parts. -/
import Derived.Test.YtmnpailnelmpiaaQE8
import Derived.Test.YtmnpailnelmpiaaQMarkB
set_option linter.unusedSimpArgs false
set_option linter.unusedVariables false
namespace Go.Proofs.Ytmnpailnelmpiaa
open Go.RowKit Go.Sort
def jad:jm
 |[]=>.slice none 0 0
 |_::_=>undef
def A0.sim:A0→A0→Prop
 |.v x,.v y=>x=y
 |.v x,.h _ _ _ y=>x=y∧x.oneCell'=true
 |.h _ _ _ x,.h _ _ _ y=>x=y
 |.bp _ c b,.bp _ c' b'=>c=c'∧b=b'
 |.ep _ _ _ i x,.ep _ _ _ i' x'=>i=i'∧x=x'
 |.hs _ _ _ x s l n,.hs _ _ _ y s' l' n'=>x=y∧s=s'∧l=l'∧n=n'
 |.ro d,.ro d'=>d=d'
 |.rp ds,.rp ds'=>ds=ds'
 |.un,.un=>True
 |_,_=>False
def simL:List A0→List A0→Prop
 |[],[]=>True
 |a::l,b::m=>a.sim b∧simL l m
 |_,_=>False
def AV.sim:AV→AV→Prop
 |.c a,.c b=>a.sim b
 |.agg l,.agg m=>simL l m
 |.fn f l,.fn f' m=>f=f'∧simL l m
 |.tup l,.tup m=>l=m
 |_,.unk=>True
 |_,_=>False
def Cell.sim:Cell→Cell→Prop
 |.a x,.a y=>x.sim y
 |.own d η,.own d' η'=>d=d'∧η=η'
 |.a (.v x),.own d η=>x=.slice none 0 0∧d.isSl=true∧d.cells=[]∧η=jad
 |_,_=>False
def simC:List Cell→List Cell→Prop
 |[],[]=>True
 |a::l,b::m=>a.sim b∧simC l m
 |_,_=>False
def Ob.sim:Ob→Ob→Prop
 |.loose d η,.loose d' η'=>d=d'∧η=η'
 |.box b ty cs,.box b' ty' cs'=>b=b'∧ty=ty'∧simC cs cs'
 |.none,.none=>True
 |_,_=>False
def nilOb:Ob→Prop
 |.loose d η=>d.isSl=true∧d.cells=[]∧η=jad
 |_=>False
def lkT:List (Nat×AV)→Nat→AV
 |[],_=>.unk
 |(k,v)::T,n=>if n=k then v else lkT T n
def lkO:List (Nat×Ob)→Nat→Ob
 |[],_=>.none
 |(k,v)::T,n=>if n=k then v else lkO T n
def St.of (T:List (Nat×AV)) (O:List (Nat×Ob)):St:=⟨lkT T,lkO O⟩
def jsH (s:St):List (Nat×AV)→Prop
 |[]=>True
 |(n,v)::T=>(s.t n).sim v∧jsH s T
def joX (s:St):List (Option Nat)→List (Nat×Ob)→Prop
 |[],[]=>True
 |some k::ks,(_,ob)::O=>(s.o k).sim ob∧joX s ks O
 |none::ks,(_,ob)::O=>nilOb ob∧joX s ks O
 |_,_=>False
def fp (F:Nat→List Nat):List (Option Nat)→List (Nat×Ob)→Nat→List Nat
 |k::ks,(g',_)::O,g=>if g=g' then (match k with|some k=>F k|none=>[]) else fp F ks O g
 |_,_,_=>[]
def joR:List (Option Nat)→List Nat
 |[]=>[]
 |some k::ks=>k::joR ks
 |none::ks=>joR ks
def jiM:List Nat→Bool
 |[]=>true
 |k::ks=>!ks.contains k&&jiM ks
section
variable {B N:Nat} {w0 w:World} {s:St} {a:Act} {F:Nat→List Nat}
theorem A0.sim.rel:∀{a b:A0} {u:Value},a.sim b→A0Rel B w a u→A0Rel B w b u
 |.v x,.v y,u,hh,hr=>by rw [show x=y from hh] at hr;exact hr
 |.v x,.h _ _ _ y,u,hh,hr=>by obtain ⟨h1,h2⟩:=hh;subst h1;exact ⟨hr,h2⟩
 |.h _ _ _ x,.h _ _ _ y,u,hh,hr=>by rw [show x=y from hh] at hr;exact hr
 |.bp _ c b,.bp _ c' b',u,hh,hr=>by obtain ⟨h1,h2⟩:=hh;subst h1 h2;exact hr
 |.ep _ _ _ i x,.ep _ _ _ i' x',u,hh,hr=>by obtain ⟨h1,h2⟩:=hh;subst h1 h2;exact hr
 |.hs _ _ _ x s l n,.hs _ _ _ y s' l' n',u,hh,hr=>by obtain ⟨h1,h2,h3,h4⟩:=hh;subst h1 h2 h3 h4;exact hr
 |.ro d,.ro d',u,hh,hr=>by rw [show d=d' from hh] at hr;exact hr
 |.rp ds,.rp ds',u,hh,hr=>by rw [show ds=ds' from hh] at hr;exact hr
 |.un,.un,_,_,hr=>hr
theorem simL.rel:∀{l m:List A0} {us:List Value},simL l m→A0RelL B w l us→A0RelL B w m us
 |[],[],_,_,hr=>hr
 |_::_,_::_,_,⟨h1,h2⟩,⟨u,us',e,h3,h4⟩=>⟨u,us',e,h1.rel h3,h2.rel h4⟩
theorem AV.sim.rel {v v':AV} {u:Value} (h:v.sim v') (hr:VRel B w v u):VRel B w v' u:=by
 cases v' with
 |unk=>trivial
 |c b=>cases v<;>first|exact A0.sim.rel h hr|exact h.elim
 |agg m=>cases v<;>first|(obtain ⟨us,e,h1⟩:=hr;exact ⟨us,e,simL.rel h h1⟩)|exact h.elim
 |fn f m=>cases v<;>first|(obtain ⟨us,e,h1⟩:=hr;obtain ⟨rfl,h2⟩:=h;exact ⟨us,e,h2.rel h1⟩)|exact h.elim
 |tup m=>cases v<;>first|(rw [show _=m from h] at hr;exact hr)|exact h.elim
theorem jnK {d:D} (hs:d.isSl=true) (hc:d.cells=[]):(∃size ty,d=.sl size ty [])∧∀p,jad p=hdr w p d (.slice none 0 0):=by
 cases d with
 |val u=>cases hs
 |sl size ty cs=>
  obtain rfl:cs=[]:=hc;exact ⟨⟨_,_,rfl⟩,fun p=>by cases p<;>rfl⟩
theorem simC.rel:∀{cs cs':List Cell} {us:List Value} {S:List Nat},simC cs cs'→CRel B w cs us S→CRel B w cs' us S
 |[],[],_,_,_,hr=>hr
 |.a x::l,.a y::m,_,_,⟨h1,h2⟩,⟨u,us',e,h3,h4⟩=>⟨u,us',e,A0.sim.rel h1 h3,h2.rel h4⟩
 |.own d η::l,.own d' η'::m,_,_,⟨⟨h1,h1'⟩,h2⟩,⟨u,us',S1,S2,e,e',h3,h4,h5,h6⟩=>by
  subst h1 h1';exact ⟨u,us',S1,S2,e,e',h3,h4,h5,h2.rel h6⟩
 |.a (.v x)::l,.own d η::m,_,S,⟨⟨h1,h2,h3,h4⟩,h5⟩,⟨u,us',e,h6,h7⟩=>by
  subst h1 h4;obtain ⟨⟨size,ty,rfl⟩,k2⟩:=jnK (w:=w) h2 h3;refine ⟨u,us',[],S,e,rfl,h2,?_,fun p=>?_,h5.rel h7⟩
  ·rw [show u=_ from h6];exact Rep.nil_ w size ty
  ·rw [show u=_ from h6];exact k2 p
theorem Ob.sim.rel {ob ob':Ob} {S:List Nat} (h:ob.sim ob') (hr:ORel B w ob S):ORel B w ob' S:=by
 cases ob<;>cases ob'<;>first|exact h.elim|skip
 ·exact hr
 ·obtain ⟨rfl,rfl⟩:=h;exact hr
 ·obtain ⟨rfl,rfl,h⟩:=h;obtain ⟨us,S1,h1,h2,h3⟩:=hr;exact ⟨us,S1,h1,h.rel h2,h3⟩
theorem nilOb.rel {ob:Ob} (h:nilOb ob):ORel B w ob []:=by
 cases ob with
 |loose d η=>
  obtain ⟨h1,h2,rfl⟩:=h;obtain ⟨⟨size,ty,rfl⟩,k2⟩:=jnK (w:=w) h1 h2;exact ⟨h1,_,Rep.nil_ w size ty,k2⟩
 |_=>exact h.elim
theorem jgt:∀{ks:List (Option Nat)} {O:List (Nat×Ob)} {g b:Nat},b∈fp F ks O g→∃k∈joR ks,b∈F k
 |[],_,_,_,h=>by simp [fp] at h
 |_::_,[],_,_,h=>by simp [fp] at h
 |k::ks,(g',ob)::O,g,b,h=>by
  simp only [fp] at h;split at h
  ·cases k with
   |some k=>exact ⟨k,by simp [joR],h⟩
   |none=>simp at h
  ·obtain ⟨k',h1,h2⟩:=jgt h
   exact ⟨k',by cases k<;>simp [joR,h1],h2⟩
theorem jbX:∀{l:List Nat},jiM l=true→l.Nodup
 |[],_=>List.nodup_nil
 |k::l,h=>by
  simp only [jiM,Bool.and_eq_true,Bool.not_eq_true',List.contains_eq_mem,decide_eq_false_iff_not] at h;exact List.nodup_cons.2 ⟨h.1,jbX h.2⟩
theorem jsD (hdj:∀g g',g≠g'→∀b∈F g,b∉F g'):∀{ks:List (Option Nat)} {O:List (Nat×Ob)},(joR ks).Nodup→∀g g',g≠g'→∀b∈fp F ks O g,b∉fp F ks O g'
 |[],_,_,_,_,_,b,h=>by simp [fp] at h
 |_::_,[],_,_,_,_,b,h=>by simp [fp] at h
 |k::ks,(g0,ob)::O,hn,g,g',hne,b,h=>by
  have hn':(joR ks).Nodup:=by cases k with
   |none=>exact hn
   |some k=>exact (List.nodup_cons.1 hn).2
  have key:∀{g g':Nat},g=g0→g'≠g0→b∈fp F (k::ks) ((g0,ob)::O) g→b∉fp F (k::ks) ((g0,ob)::O) g':=by
   intro g g' e hne' h h';simp only [fp,if_pos e] at h;simp only [fp,if_neg hne'] at h';cases k with
   |none=>simp at h
   |some k=>
    obtain ⟨k',h1,h2⟩:=jgt h';have:k≠k':=fun e=>(List.nodup_cons.1 hn).1 (by rw [e];exact h1)
    exact hdj _ _ this b h h2
  by_cases e:g=g0
  ·exact key e (fun e'=>hne (e.trans e'.symm)) h
  ·by_cases e':g'=g0
   ·exact fun h'=>key e' e h' h
   ·simp only [fp,if_neg e] at h
    simp only [fp,if_neg e'];exact jsD hdj hn' g g' hne b h
theorem jqe (h:∀g,ORel B w (s.o g) (F g)):∀{ks:List (Option Nat)} {O:List (Nat×Ob)},joX s ks O→∀g,ORel B w (lkO O g) (fp F ks O g)
 |[],[],_,_=>rfl
 |[],_::_,hf,_=>hf.elim
 |some _::_,[],hf,_=>hf.elim
 |none::_,[],hf,_=>hf.elim
 |some k::ks,(g',ob)::O,⟨h1,h2⟩,g=>by
  simp only [lkO,fp];by_cases e:g=g'
  ·rw [if_pos e,if_pos e];exact h1.rel (h k)
  ·rw [if_neg e,if_neg e];exact jqe h h2 g
 |none::ks,(g',ob)::O,⟨h1,h2⟩,g=>by
  simp only [lkO,fp];by_cases e:g=g'
  ·rw [if_pos e,if_pos e];exact h1.rel
  ·rw [if_neg e,if_neg e];exact jqe h h2 g
theorem jsC (h:∀g,Fresh B (F g)):∀(ks:List (Option Nat)) (O:List (Nat×Ob)) (g:Nat),Fresh B (fp F ks O g)
 |[],_,_=>Fresh.nil _
 |_::_,[],_=>Fresh.nil _
 |k::ks,(g',ob)::O,g=>by
  simp only [fp];split
  ·cases k with
   |some k=>exact h k
   |none=>exact Fresh.nil _
  ·exact jsC h ks O g
theorem jsG (h:∀n,VRel B w (s.t n) (a.tmps.getD n undef)):∀{T:List (Nat×AV)},jsH s T→∀n,VRel B w (lkT T n) (a.tmps.getD n undef)
 |[],_,_=>trivial
 |(k,v)::T,⟨h1,h2⟩,n=>by
  simp only [lkT];by_cases e:n=k
  ·rw [if_pos e];subst e;exact h1.rel (h n)
  ·rw [if_neg e];exact jsG h h2 n
theorem jo (ks:List (Option Nat)) {T:List (Nat×AV)} {O:List (Nat×Ob)} (h:jsH s T∧joX s ks O) (hn:jiM (joR ks)=true:=by decide):Wk s (St.of T O):=
 fun B N w0 w a F hr=>⟨fp F ks O,⟨hr.below,hr.hB,hr.df,hr.sz,jsG hr.sl h.1,jqe hr.ob h.2,jsC hr.fr ks O,jsD hr.dj (jbX hn)⟩,
  fun g b hb=>by obtain ⟨k,_,h2⟩:=jgt hb;exact ⟨k,h2⟩⟩
theorem Wk.trans {s1 s2 s3:St} (h:Wk s1 s2) (h':Wk s2 s3):Wk s1 s3:=fun B N w0 w a F hr=>by
 obtain ⟨F1,h1,h2⟩:=h _ _ _ _ _ _ hr;obtain ⟨F2,h3,h4⟩:=h' _ _ _ _ _ _ h1;refine ⟨F2,h3,fun g b hb=>?_⟩
 obtain ⟨g1,hb1⟩:=h4 g b hb;exact h2 g1 b hb1
end
section
variable {P:Program} {β:Nat} {s:St} {Q:Ex→St→Prop}
theorem jp {ι:Type} {a:C} (mk:ι→St) (J:ι→Prop) (μ:ι→Nat) (i0:ι) (h0:J i0) (hw:Wk s (mk i0)) (hr:∀i,J i→wpC P β a (Ex.thn (fun s'=>∃i',J i'∧Wk s' (mk i')∧μ i'<μ i) Q) (mk i)):wpC P β (.loop a) Q s:=⟨ι,mk,J,μ,⟨i0,h0,hw⟩,hr⟩
theorem wp_gh {a:C} (s':St) (h:Wk s s') (hk:wpC P β a Q s'):wpC P β (.gh a) Q s:=fun _ _ _ _ _ _ hr=>let ⟨F',h1,_⟩:=h _ _ _ _ _ _ hr;⟨s',F',h1,hk⟩
end
section
variable {s:St}
theorem of_t (T:List (Nat×AV)) (O:List (Nat×Ob)) (n:Nat):(St.of T O).t n=lkT T n:=(rfl)
theorem of_o (T:List (Nat×AV)) (O:List (Nat×Ob)) (n:Nat):(St.of T O).o n=lkO O n:=(rfl)
theorem jpY (k n:Nat) (v:AV) (T:List (Nat×AV)):lkT ((k,v)::T) n=if n=k then v else lkT T n:=(rfl)
theorem jsf (n:Nat):lkO [] n=.none:=(rfl)
theorem jpZ (k n:Nat) (v:Ob) (T:List (Nat×Ob)):lkO ((k,v)::T) n=if n=k then v else lkO T n:=(rfl)
theorem jqg:jsH s []=True:=(rfl)
theorem jn6 (n:Nat) (v:AV) (T:List (Nat×AV)):jsH s ((n,v)::T)=((s.t n).sim v∧jsH s T):=(rfl)
theorem jqh:joX s [] []=True:=(rfl)
theorem juS (k g:Nat) (ob:Ob) (ks:List (Option Nat)) (O:List (Nat×Ob)):joX s (some k::ks) ((g,ob)::O)=((s.o k).sim ob∧joX s ks O):=(rfl)
theorem juT (g:Nat) (ob:Ob) (ks:List (Option Nat)) (O:List (Nat×Ob)):joX s (none::ks) ((g,ob)::O)=(nilOb ob∧joX s ks O):=(rfl)
theorem juA (d:D) (η:jm):nilOb (.loose d η)=(d.isSl=true∧d.cells=[]∧η=jad):=(rfl)
theorem nilH_:jad []=.slice none 0 0:=(rfl)
theorem sim_c (a b:A0):AV.sim (.c a) (.c b)=a.sim b:=(rfl)
theorem sim_v (x y:Value):A0.sim (.v x) (.v y)=(x=y):=(rfl)
theorem jty (x y:Value) (g c:Nat) (p:List Nat):A0.sim (.v x) (.h g c p y)=(x=y∧x.oneCell'=true):=(rfl)
theorem sim_h (x y:Value) (g c g' c':Nat) (p p':List Nat):A0.sim (.h g c p x) (.h g' c' p' y)=(x=y):=(rfl)
theorem jtB (g c b g' c' b':Nat):A0.sim (.bp g c b) (.bp g' c' b')=(c=c'∧b=b'):=(rfl)
theorem jtA (g c g' c' sz lo n sz' lo' n':Nat) (p p':List Nat) (x x':Value):A0.sim (.hs g c p x sz lo n) (.hs g' c' p' x' sz' lo' n')=(x=x'∧sz=sz'∧lo=lo'∧n=n'):=(rfl)
theorem jtz (d d':D):A0.sim (.ro d) (.ro d')=(d=d'):=(rfl)
theorem jtx (x y:A0):Cell.sim (.a x) (.a y)=x.sim y:=by cases x<;>rfl
theorem jpl (d d':D) (η η':jm):Cell.sim (.own d η) (.own d' η')=(d=d'∧η=η'):=(rfl)
theorem jpm (x:Value) (d:D) (η:jm):Cell.sim (.a (.v x)) (.own d η)=(x=.slice none 0 0∧d.isSl=true∧d.cells=[]∧η=jad):=(rfl)
theorem jpn:simC [] []=True:=(rfl)
theorem jmZ (a b:Cell) (l m:List Cell):simC (a::l) (b::m)=(a.sim b∧simC l m):=(rfl)
theorem jtC (d d':D) (η η':jm):Ob.sim (.loose d η) (.loose d' η')=(d=d'∧η=η'):=(rfl)
theorem jtD (b ty b' ty':Nat) (cs cs':List Cell):Ob.sim (.box b ty cs) (.box b' ty' cs')=(b=b'∧ty=ty'∧simC cs cs'):=(rfl)
end
attribute [go_sem] of_t of_o jpY jsf jpZ jqg jn6 jqh juS juT juA nilH_ sim_c sim_v jty sim_h jtB jtA jtz jtx jpl jpm jpn jmZ jtC jtD
section
variable {P:Program} {β:Nat} {s:St}
theorem jjA (l:List Int):(jj l).len=l.length:=vm (enc:=fun n=>[iv n]) (fun _=>rfl) (by decide) _ _
theorem qo {l:List Int} {k:Nat} {x:Int} (h:l[k]?=some x):(jj l).elem k=[iv x]:=vC (enc:=fun n=>[iv n]) (fun _=>rfl) h
theorem jlf (l:List Int):(jj l).isSl=true:=(rfl)
theorem jk8 (l:List Int):(jj l).size=1:=(rfl)
theorem jlr (l:List Int):(jj l).toRo=.ro (jj l):=(rfl)
theorem jjo (l:List Int) (g:Nat) (η:jm):(jj l).obj g η=[(g,.loose (jj l) η)]:=(rfl)
theorem jjh (l:List Int) (g c:Nat) (p:List Nat) (η:jm):(jj l).toOwn g c p η=.h g c p (η p):=(rfl)
theorem jho (l:List Int):(jj l).cells=l.flatMap (fun n=>[iv n]):=(rfl)
theorem jlS (l:List Ed):(jv l).len=l.length:=vm (enc:=jF) (fun _=>rfl) (by decide) _ _
theorem jw {l:List Ed} {k:Nat} {x:Ed} (h:l[k]?=some x):(jv l).elem k=jF x:=vC (enc:=jF) (fun _=>rfl) h
theorem jmX (l:List Ed):(jv l).isSl=true:=(rfl)
theorem jmK (l:List Ed):(jv l).size=2:=(rfl)
theorem jlF (l:List Ed) (g:Nat) (η:jm):(jv l).obj g η=[(g,.loose (jv l) η)]:=(rfl)
theorem jlA (l:List Ed) (g c:Nat) (p:List Nat) (η:jm):(jv l).toOwn g c p η=.h g c p (η p):=(rfl)
theorem jiC (l:List Ed):(jv l).cells=l.flatMap (jF):=(rfl)
theorem jlE (l:List En) (g:Nat) (η:jm):(js l).obj g η=[(g,.loose (js l) η)]:=(rfl)
theorem jlz (l:List En) (g c:Nat) (p:List Nat) (η:jm):(js l).toOwn g c p η=.h g c p (η p):=(rfl)
theorem jiB (l:List En):(js l).cells=l.flatMap (jk):=(rfl)
theorem jiy (l:List Tk):(km l).cells=l.flatMap (jn):=(rfl)
theorem jlC (l:List Rn) (g:Nat) (η:jm):(kr l).obj g η=[(g,.loose (kr l) η)]:=(rfl)
theorem jlx (l:List Rn) (g c:Nat) (p:List Nat) (η:jm):(kr l).toOwn g c p η=.h g c p (η p):=(rfl)
theorem jiz (l:List Rn):(kr l).cells=l.flatMap (jc):=(rfl)
theorem jnH (l:List (List En)) (g:Nat) (η:jm):(kO l).obj g η=[(g,.loose (kO l) η)]:=(rfl)
theorem jnD (l:List (List En)) (g c:Nat) (p:List Nat) (η:jm):(kO l).toOwn g c p η=.h g c p (η p):=(rfl)
theorem jjY (l:List (List En)):(kO l).cells=l.flatMap (fun es=>[js es]):=(rfl)
theorem jlQ (l:List Nt):(ke l).len=l.length:=vm (enc:=jq) (fun _=>rfl) (by decide) _ _
theorem jmV (l:List Nt):(ke l).isSl=true:=(rfl)
theorem jmI (l:List Nt):(ke l).size=12:=(rfl)
theorem jlD (l:List Nt) (g:Nat) (η:jm):(ke l).obj g η=[(g,.loose (ke l) η)]:=(rfl)
theorem jly (l:List Nt) (g c:Nat) (p:List Nat) (η:jm):(ke l).toOwn g c p η=.h g c p (η p):=(rfl)
theorem jiA (l:List Nt):(ke l).cells=l.flatMap (jq):=(rfl)
theorem ji3 (l:List Int) (e:Nat) (k:List D→Prop):slK (jj l) e 1 k=(jiY=e∧k (l.flatMap (fun n=>[iv n]))):=by rw [show jj l=.sl 1 jiY (l.flatMap (fun n=>[iv n])) from rfl,joS];simp
theorem jjX (l:List Int):(l.flatMap (fun n=>[iv n])).length/1=l.length:=by rw [jU (enc:=fun n=>[iv n]) (size:=1) (fun _=>rfl)];exact Nat.mul_div_cancel _ (by decide)
theorem jcj (l:List Int):kq (l.flatMap (fun n=>[iv n]))=true:=by
 induction l with
 |nil=>rfl
 |cons x l ih=>rw [List.flatMap_cons,jay,ih];rfl
theorem jlk (l:List Ed) (e:Nat) (k:List D→Prop):slK (jv l) e 2 k=(tEd=e∧k (l.flatMap (jF))):=by rw [show jv l=.sl 2 tEd (l.flatMap (jF)) from rfl,joS];simp
theorem jmc (l:List Ed):(l.flatMap (jF)).length/2=l.length:=by rw [jU (enc:=jF) (size:=2) (fun _=>rfl)];exact Nat.mul_div_cancel _ (by decide)
theorem jt:D.sl 2 tEd []=jv []:=rfl
theorem jmm (l:List Ed) (x:Ed):D.sl 2 tEd (l.flatMap (jF)++(jF) x)=jv (l++[x]):=by simp [jv]
theorem jhk (l:List Ed) (r:List D):kq (jv l::r)=false:=(rfl)
theorem jjl (l:List Ed) (r:List D):jjm (jv l::r)=jjm r:=(rfl)
theorem jlj (l:List En) (e:Nat) (k:List D→Prop):slK (js l) e 4 k=(tEn=e∧k (l.flatMap (jk))):=by rw [show js l=.sl 4 tEn (l.flatMap (jk)) from rfl,joS];simp
theorem jjP (l:List En):D.sl 4 tEn (l.flatMap (jk))=js l:=rfl
theorem jmb (l:List En):(l.flatMap (jk)).length/4=l.length:=by rw [jU (enc:=jk) (size:=4) (fun _=>rfl)];exact Nat.mul_div_cancel _ (by decide)
theorem ja0:D.sl 4 tEn []=js []:=rfl
theorem jml (l:List En) (x:En):D.sl 4 tEn (l.flatMap (jk)++(jk) x)=js (l++[x]):=by simp [js]
theorem jit (l:List En):kq (l.flatMap (jk))=true:=by
 induction l with
 |nil=>rfl
 |cons x l ih=>rw [List.flatMap_cons,jay,ih];rfl
theorem jhj (l:List En) (r:List D):kq (js l::r)=false:=(rfl)
theorem jjk (l:List En) (r:List D):jjm (js l::r)=jjm r:=(rfl)
theorem jlg (l:List Tk) (e:Nat) (k:List D→Prop):slK (km l) e 4 k=(tTk=e∧k (l.flatMap (jn))):=by rw [show km l=.sl 4 tTk (l.flatMap (jn)) from rfl,joS];simp
theorem jl8 (l:List Tk):(l.flatMap (jn)).length/4=l.length:=by rw [jU (enc:=jn) (size:=4) (fun _=>rfl)];exact Nat.mul_div_cancel _ (by decide)
theorem zj:D.sl 4 tTk []=km []:=rfl
theorem jmj (l:List Tk) (x:Tk):D.sl 4 tTk (l.flatMap (jn)++(jn) x)=km (l++[x]):=by simp [km]
theorem jjj (l:List Tk) (r:List D):jjm (km l::r)=jjm r:=(rfl)
theorem jlh (l:List Rn) (e:Nat) (k:List D→Prop):slK (kr l) e 8 k=(tRn=e∧k (l.flatMap (jc))):=by rw [show kr l=.sl 8 tRn (l.flatMap (jc)) from rfl,joS];simp
theorem jl9 (l:List Rn):(l.flatMap (jc)).length/8=l.length:=by rw [jU (enc:=jc) (size:=8) (fun _=>rfl)];exact Nat.mul_div_cancel _ (by decide)
theorem jH:D.sl 8 tRn []=kr []:=rfl
theorem jmY (l:List (List En)) (e:Nat) (k:List D→Prop):slK (kO l) e 1 k=(joQ=e∧k (l.flatMap (fun es=>[js es]))):=by rw [show kO l=.sl 1 joQ (l.flatMap (fun es=>[js es])) from rfl,joS];simp
theorem jok (l:List (List En)):(l.flatMap (fun es=>[js es])).length/1=l.length:=by rw [jU (enc:=fun es=>[js es]) (size:=1) (fun _=>rfl)];exact Nat.mul_div_cancel _ (by decide)
theorem jT:D.sl 1 joQ []=kO []:=rfl
theorem jli (l:List Nt) (e:Nat) (k:List D→Prop):slK (ke l) e 12 k=(tNt=e∧k (l.flatMap (jq))):=by rw [show ke l=.sl 12 tNt (l.flatMap (jq)) from rfl,joS];simp
theorem jma (l:List Nt):(l.flatMap (jq)).length/12=l.length:=by rw [jU (enc:=jq) (size:=12) (fun _=>rfl)];exact Nat.mul_div_cancel _ (by decide)
theorem jgo:D.sl 12 tNt []=ke []:=rfl
theorem jmk (l:List Nt) (x:Nt):D.sl 12 tNt (l.flatMap (jq)++(jq) x)=ke (l++[x]):=by simp [ke]
theorem jus (u:Value) (l:List D):jjm (.val u::l)=(u.oneCell'&&jjm l):=(rfl)
theorem jpM:jjm []=true:=(rfl)
theorem jik (l:List Cell) (ds:List D):IsD (.a (.v (.slice none 0 0))::l) (jj []::ds)=IsD l ds:=ja1 l _ _ ds
theorem jjF (l:List Cell) (ds:List D):IsD (.a (.v (.slice none 0 0))::l) (jv []::ds)=IsD l ds:=ja1 l _ _ ds
theorem jjE (l:List Cell) (ds:List D):IsD (.a (.v (.slice none 0 0))::l) (js []::ds)=IsD l ds:=ja1 l _ _ ds
theorem jjD (l:List Cell) (ds:List D):IsD (.a (.v (.slice none 0 0))::l) (kr []::ds)=IsD l ds:=ja1 l _ _ ds
theorem jlY (l:List Cell) (ds:List D):IsD (.a (.v (.slice none 0 0))::l) (kO []::ds)=IsD l ds:=ja1 l _ _ ds
theorem jlX:Is s (.v (.slice none 0 0)) (jv [])=True:=jqZ _ _
theorem jdh (l:List Int) (a b:Int):D.sl 1 jiY (l.flatMap (fun n=>[iv n])++[iv a,iv b])=jj (l++[a,b]):=by simp [jj]
theorem jh {l:List Int} {k:Nat} {x:Int} (h:l[k]?=some x):((l.flatMap (fun n=>[iv n])).drop (k*1)).take 1=[iv x]:=qo h
theorem jf {l:List Int} {k:Nat} (h:k<l.length):k*1+1≤(l.flatMap (fun n=>[iv n])).length:=by rw [jU (enc:=fun n=>[iv n]) (size:=1) (fun _=>rfl)];omega
theorem jqH {l:List (List En)} {k:Nat} {x:List En} (h:l[k]?=some x):((l.flatMap (fun es=>[js es])).drop (k*1)).take 1=[js x]:=qO h
theorem jqa {l:List (List En)} {k:Nat} (h:k<l.length):k*1+1≤(l.flatMap (fun es=>[js es])).length:=by rw [jU (enc:=fun es=>[js es]) (size:=1) (fun _=>rfl)];omega
theorem jsd (g c:Nat) (p:List Nat) (η:jm) (i:Nat) (v:Value) (l:List D):jdg g c p η i (.val v::l)=.v v::jdg g c p η (i+1) l:=(rfl)
theorem jse (g c:Nat) (p:List Nat) (η:jm) (i:Nat):jdg g c p η i []=[]:=(rfl)
end
attribute [go_sem] jsd jse jlX jik jjF jjE jjD jlY jcj ji3 jjX jho jlk jmc jiC jhk jjl jit jlj jmb jiB jhj jjk jlg jl8 jiy jjj jlh jl9 jiz jmY jok jjY jli jma jiA jus jpM Bool.and_false Bool.false_and Bool.and_true Bool.true_and jjA jlf jk8 jlr jjo jjh jlS jmX jmK jnh jlF jlA jlR jmW jmJ jng jlE jlz jlO jmT jmG jne jlP jmU jmH jnf jlC jlx jnO jpk jpd jpw jnH jnD jlQ jmV jmI jlD jly
abbrev Ni (n:Int):AV:=.c (.v (.int .i64 n))
abbrev Hd (g:Nat) (η:jm):AV:=.c (.h g 0 [] (η []))
abbrev Bx (g b:Nat):AV:=.c (.bp g 0 b)
abbrev Ro (d:D):AV:=.c (.ro d)
abbrev Bi (b ty:Nat) (ds:List D):Ob:=.box b ty (ds.map fun x=>.a x.toRo)
theorem jqf (s t:Nat) (cs l:List D):kq (.sl s t cs::l)=false:=(rfl)
attribute [go_sem] jqf
theorem jku (x y:Yd):kg Try.prog 19 [.agg (jd x),.agg (jd y)] (.c (.val (.bool (decide (x=y))))):=jgN ⟨_,Try.func19,by kernel_rfl,by kernel_rfl⟩ fun w a b ⟨S,ha⟩ ⟨S2,hb⟩=>jqk x y a b S S2 w false false ha hb
theorem jkv (x y:Nt):kg Try.prog 9 [.agg (jq x),.agg (jq y)] (.c (.val (.bool (decide (x=y))))):=jgN ⟨_,Try.func9,by kernel_rfl,by kernel_rfl⟩ fun w a b ⟨S,ha⟩ ⟨S2,hb⟩=>jkL x y a b S S2 w false false ha hb
theorem jh4 (x y:List Nt):kg Try.prog 14 [.c (ke x),.c (ke y)] (.c (.val (.bool (decide (x=y))))):=jgN ⟨_,Try.func14,by kernel_rfl,by kernel_rfl⟩ fun w a b ⟨S,ha⟩ ⟨S2,hb⟩=>joa x y a b S S2 w false false ha hb
theorem je7 (l:List Nt) (k:Int) (h0:0≤k) (h1:k+(jP cNt l:Nat)≤2305843009213693952) (h2:l.length≤2305843009213693952):kg Try.prog 16 [.c (ke (mkL jnL cNt l k)),.c (.val (.int .i64 k))] (.c (.val (.int .i64 (k+(jP cNt l:Nat))))):=jgN ⟨_,Try.func16,by kernel_rfl,by kernel_rfl⟩ fun w a b ⟨S,ha⟩ hb=>by rw [zx hb];exact jjK l k a S w false ha h0 h1 h2
theorem jgj (y:Yd) (k:Int) (h0:0≤k) (h1:k+(cYd y:Nat)≤2305843009213693952) (h2:y.shelf.length≤2305843009213693952) (h3:y.runs.length≤2305843009213693952):kg Try.prog 21 [.agg (jd (jpW y k)),.c (.val (.int .i64 k))] (.c (.val (.int .i64 (k+(cYd y:Nat))))):=jgN ⟨_,Try.func21,by kernel_rfl,by kernel_rfl⟩ fun w a b ⟨S,ha⟩ hb=>by rw [zx hb];exact jl2 y k a S w false ha h0 h1 h2 h3
end Go.Proofs.Ytmnpailnelmpiaa
