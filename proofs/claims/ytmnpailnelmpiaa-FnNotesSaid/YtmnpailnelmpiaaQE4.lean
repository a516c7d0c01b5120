/- Parts. -/
import Derived.Test.YtmnpailnelmpiaaQE3b
set_option linter.unusedSimpArgs false
set_option linter.unusedVariables false
namespace Go.Proofs.Ytmnpailnelmpiaa
open Go.RowKit Go.Sort
def Goes (P:Program) (o:Oper) (a:Act) (w:World) (R:Value→World→Prop):Prop:=
 ∀(next:Act→World→Prop) (Q:Exit→Act→World→Prop),(∀v w',R v w'→next (a.put o.dst v) w')→o.wp P a w next Q
theorem Goes.of_run {P:Program} {o:Oper} {a:Act} {w w':World} {R:Value→World→Prop} {v:Value} (h:(execOp a.eval o).run P w=.ok (.value v) w') (hr:R v w'):Goes P o a w R:=
 fun _ _ hk=>by unfold Oper.wp;rw [h];exact hk v w' hr
def ka (B:Nat) (w:World) (G:AV→List (Nat×Ob)→Prop) (v:Value) (w':World):Prop:=∃av os S,VRel B w' av v∧ja0 B w' os S∧Fresh w.heap.size S∧Below w.heap.size w w'∧G av os
section
variable {P:Program} {B N:Nat} {w w0:World} {s:St} {a:Act} {F:Nat→List Nat} {o:Oper} {G:AV→List (Nat×Ob)→Prop} {d:Nat} {rt:RT}
theorem qT {v:Value} {av:AV} (h:(execOp a.eval o).run P w=.ok (.value v) w) (hv:VRel B w av v) (hg:G av []):Goes P o a w (ka B w G):=
 Goes.of_run h ⟨av,[],[],hv,rfl,Fresh.nil _,Below.refl _ _,hg⟩
theorem mk_ {v:Value} {w':World} {av:AV} {os:List (Nat×Ob)} {S:List Nat} (h:(execOp a.eval o).run P w=.ok (.value v) w') (hv:VRel B w' av v) (hn:ja0 B w' os S) (hf:Fresh w.heap.size S) (hb:Below w.heap.size w w') (hg:G av os):Goes P o a w (ka B w G):=
 Goes.of_run h ⟨av,os,S,hv,hn,hf,hb,hg⟩
theorem jok (w:World) (o:Obj):(w.alloc o).heap[w.heap.size]?=some o:=by
 show (w.heap.push o)[w.heap.size]?=_;simp
theorem qb (h:RelF B w0 N s a w F) {x:Operand} {x':X} (hx:jC x=some x'):VRel B w (s.ev x') (a.eval x):=by
 cases x with
 |tmp t=>simp [jC] at hx;subst hx;exact h.sl t
 |global g=>simp [jC] at hx
 |func f=>simp [jC] at hx;subst hx;exact ⟨[],rfl,rfl⟩
 |const v=>
  simp only [jC] at hx;split at hx
  ·rename_i hp
   simp at hx;subst hx;cases v with
   |agg cs=>
    refine ⟨cs.toList,by simp [Act.eval],?_⟩
    simp only [jeQ,List.all_eq_true] at hp
    have:∀l:List Value,(∀x∈l,x.oneCell'=true)→A0RelL B w (l.map .v) l:=by
     intro l
     induction l with
     |nil=>intro _;rfl
     |cons x l ih=>intro hl;exact ⟨x,l,rfl,rfl,ih fun y hy=>hl y (by simp [hy])⟩
    exact this _ hp
   |tuple _=>simp [jeQ] at hp
   |_=>exact rfl
  ·simp at hx
theorem jgh (h:RelF B w0 N s a w F) {x:Operand} {x':X} (hx:jC x=some x') {u:Value} (hu:s.ev x'=.c (.v u)):a.eval x=u:=by
 have:=qb h hx;rw [hu] at this;exact this
theorem go_mov (h:RelF B w0 N s a w F) {x:Operand} {x':X} (ho:o.op=.move x∨o.op=.assign x) (hx:jC x=some x') (hg:∀st,∃av os,Gen P s d rt st (.mov x') av os∧G av os):Goes P o a w (ka B w G):=by
 obtain ⟨av,os,⟨rfl,rfl⟩,hG⟩:=hg ⟨0,fun _ _=>undef⟩
 refine qT (v:=a.eval x) ?_ (qb h hx) hG;rcases ho with ho|ho<;>simp [execOp,ho]
theorem go_pick (h:RelF B w0 N s a w F) {c x y:Operand} {c' x' y':X} (ho:o.op=.pick c x y) (hc:jC c=some c') (hx:jC x=some x') (hy:jC y=some y')
 (hg:∀st,∃av os,Gen P s d rt st (.pick c' x' y') av os∧G av os):Goes P o a w (ka B w G):=by
 obtain ⟨av,os,⟨t,h1,rfl,rfl⟩,hG⟩:=hg ⟨0,fun _ _=>undef⟩
 have e:=jgh h hc h1;refine qT (v:=if t then a.eval x else a.eval y) ?_ ?_ hG
 ·simp [execOp,ho,e,asBool]
 ·cases t
  ·exact qb h hy
  ·exact qb h hx
theorem go_alloc (h:RelF B w0 N s a w F) {e:TypeId} {zs:List Value} (ho:o.op=.alloc e) (hz:qI P e=some zs) (hg:∀st,∃av os,Gen P s d rt st (.alloc e zs) av os∧G av os):Goes P o a w (ka B w G):=by
 obtain ⟨av,os,⟨rfl,rfl⟩,hG⟩:=hg ⟨w.heap.size,fun _ _=>undef⟩
 unfold qI at hz;split at hz
 ·rename_i i hi
  split at hz
  ·rename_i z hzz
   split at hz
   ·rename_i hc
    simp only [Bool.and_eq_true,decide_eq_true_eq,List.all_eq_true] at hc;simp at hz;subst hz
    have hrun:(execOp a.eval o).run P w=.ok (.value (.pointer (some ⟨w.heap.size,0,none⟩))) (w.alloc (.cells z.cells e)):=by
     simp [execOp,ho,Instr.alloc,zeroValue,typeInfo,hi,hzz,newVar,newRow]
    have:∀l:List Value,(∀x∈l,x.oneCell'=true)→CRel B (w.alloc (.cells z.cells e)) (l.map fun z=>Cell.a (.v z)) l []:=by
     intro l
     induction l with
     |nil=>intro _;exact ⟨rfl,rfl⟩
     |cons x l ih=>intro hl;exact ⟨x,l,rfl,rfl,ih fun y hy=>hl y (by simp [hy])⟩
    have hn:ja0 B (w.alloc (.cells z.cells e)) [(100*d,.box w.heap.size e (z.cells.toList.map fun z=>.a (.v z)))] [w.heap.size]:=
     ⟨[w.heap.size],[],rfl,⟨z.cells.toList,[],jok _ _,this _ hc.2,rfl⟩,rfl⟩
    have hv:VRel B (w.alloc (.cells z.cells e)) (.c (.bp (100*d) 0 w.heap.size)) (.pointer (some ⟨w.heap.size,0,none⟩)):=rfl;exact mk_ hrun hv hn (Fresh.one _ _ (Nat.le_refl _)) ((Below.refl _ _).alloc (Nat.le_refl _) _) hG
   ·simp at hz
  ·simp at hz
 ·simp at hz
theorem vI (b o n:Nat):(⟨b,o,none⟩:Addr).add n=⟨b,o+n,none⟩:=by unfold Addr.add;split<;>simp_all
theorem ju0 (x:Value) (i n:Nat):(jaz x i).add n=jaz x (i+n):=by
 unfold jaz;split
 ·rw [vI];congr 1;omega
 ·rw [vI]
theorem RepL.drop {own:Bool}:∀(n:Nat) {ds:List D} {us:List Value} {S:List Nat},RepL w own ds us S→∃S',RepL w own (ds.drop n) (us.drop n) S'∧∀x∈S',x∈S
 |0,_,_,S,h=>⟨S,h,fun _ h=>h⟩
 |n+1,[],_,_,h=>by obtain ⟨rfl,rfl⟩:=h;exact ⟨[],⟨rfl,rfl⟩,by simp⟩
 |n+1,_::ds,_,_,⟨v,vs',S1,S2,rfl,rfl,_,h4⟩=>by
  obtain ⟨S',h5,h6⟩:=RepL.drop n h4;exact ⟨S',h5,fun x hx=>by simp [h6 x hx]⟩
theorem RepL.take {own:Bool}:∀(n:Nat) {ds:List D} {us:List Value} {S:List Nat},RepL w own ds us S→∃S',RepL w own (ds.take n) (us.take n) S'∧∀x∈S',x∈S
 |0,_,_,S,h=>⟨[],⟨rfl,rfl⟩,by simp⟩
 |n+1,[],_,_,h=>by obtain ⟨rfl,rfl⟩:=h;exact ⟨[],⟨rfl,rfl⟩,by simp⟩
 |n+1,_::ds,_,_,⟨v,vs',S1,S2,rfl,rfl,h3,h4⟩=>by
  obtain ⟨S',h5,h6⟩:=RepL.take n h4;exact ⟨S1++S',RepL.cons_ h3 h5,fun x hx=>by rcases List.mem_append.1 hx with hx|hx;simp [hx];simp [h6 x hx]⟩
theorem go_fa0 (h:RelF B w0 N s a w F) {x:Operand} {x':X} {off:Nat} (hx:jC x=some x') (hrun:∀ad:Addr,a.eval x=.pointer (some ad)→(execOp a.eval o).run P w=.ok (.value (.pointer (some (ad.add off)))) w)
 (hg:∀st,∃av os,Gen P s d rt st (.fa off x') av os∧G av os):Goes P o a w (ka B w G):=by
 obtain ⟨av,os,⟨h1,rfl⟩,hG⟩:=hg ⟨0,fun _ _=>undef⟩
 have hv:=qb h hx;split at h1
 ·rename_i ds he
  subst h1;rw [he] at hv;obtain ⟨b,o',us,S,hp,h2,h3,h4,h5⟩:=hv;obtain ⟨S',h6,h7⟩:=RepL.drop off h2
  refine qT (hrun _ hp) (by exact ⟨b,o'+off,us.drop off,S',by rw [vI],h6,fun y hy=>h3 y (h7 y hy),fun hne=>h4 fun e=>hne (by rw [e];simp),fun j y hy=>by
   rw [List.getElem?_drop] at hy;rw [Nat.add_assoc];exact h5 _ _ hy⟩) hG
 ·rename_i g c b he
  subst h1;rw [he] at hv;refine qT (hrun _ hv) ?_ hG;rw [vI];rfl
 ·rename_i g c p i' x'' he
  subst h1;rw [he] at hv;refine qT (hrun _ hv) ?_ hG;rw [ju0];rfl
 ·exact h1.elim
theorem go_fa (h:RelF B w0 N s a w F) {t:TypeId} {x:Operand} {x':X} {f n:Nat} {fs:Array Field} {fd:Field} (ho:o.op=.fieldAddr t x f) (ht:P.underlying t=some (.struct fs)) (hf:fs[f]?=some fd) (hn:kD P fd.type=some (n+1)) (hx:jC x=some x')
 (hg:∀st,∃av os,Gen P s d rt st (.fa fd.offset x') av os∧G av os):Goes P o a w (ka B w G):=by
 obtain ⟨i,hi,hin⟩:∃i,P.info? fd.type=some i∧i.size=n+1:=by
  unfold kD at hn;cases hq:P.info? fd.type with
  |none=>simp [hq] at hn
  |some i=>exact ⟨i,rfl,by simpa [hq] using hn⟩
 exact go_fa0 h hx (fun ad he=>by
  simp [execOp,ho,Instr.fieldAt,run_underlying ht,hf,he,Instr.sureAddr,fieldPlace,sizeOf,typeInfo,hi,hin]) hg
theorem go_nc (h:RelF B w0 N s a w F) {x:Operand} {x':X} (ho:o.op=.nilCheck x) (hx:jC x=some x')
 (hg:∀st,∃av os,Gen P s d rt st (.fa 0 x') av os∧G av os):Goes P o a w (ka B w G):=
 go_fa0 h hx (fun ad he=>by
  rw [show ad.add 0=ad from rfl]
  simp [execOp,ho,he]) hg
theorem RepL.ro_cells {own:Bool} {ds:List D} {us:List Value} {S:List Nat} (h:RepL w own ds us S) (hS:own=false∧∀x∈S,x<B):A0RelL B w (ds.map D.toRo) us:=by
 induction ds generalizing us S with
 |nil=>obtain ⟨rfl,_⟩:=h;rfl
 |cons d ds ih=>
  obtain ⟨v,vs',S1,S2,rfl,rfl,h3,h4⟩:=h;refine ⟨v,vs',rfl,?_,ih h4 ⟨hS.1,fun x hx=>hS.2 x (by simp [hx])⟩⟩
  cases d with
  |val u=>exact h3.1
  |sl size ty cs=>exact ⟨rfl,S1,by rw [←hS.1];exact h3,fun x hx=>hS.2 x (by simp [hx])⟩
theorem A0RelL.of_get:∀{l:List A0} {us:List Value},us.length=l.length→(∀(j:Nat) (a:A0) (u:Value),l[j]?=some a→us[j]?=some u→A0Rel B w a u)→A0RelL B w l us
 |[],us,h,_=>List.eq_nil_of_length_eq_zero h
 |a::l,[],h,_=>by simp at h
 |a::l,u::us,h,hk=>⟨u,us,rfl,hk 0 a u rfl rfl,A0RelL.of_get (by simpa using h) fun j a' u' h1 h2=>hk (j+1) a' u' h1 h2⟩
theorem CRel.load {g:Nat}:∀{cs:List Cell} {us:List Value} {S:List Nat} (c:Nat),CRel B w cs us S→A0RelL B w (jdS g c cs) us
 |[],_,_,_,⟨h,_⟩=>h
 |.a x::cs,_,_,c,⟨u,us',h1,h2,h3⟩=>⟨u,us',h1,h2,CRel.load (c+1) h3⟩
 |.own d η::cs,_,_,c,⟨u,us',S1,S2,h1,h2,h3,h4,h5,h6⟩=>by
  refine ⟨u,us',h1,⟨?_,?_⟩,CRel.load (c+1) h6⟩
  ·rw [h5,vL h3]
  ·rw [h5,vL h3]
   cases d with
   |val _=>cases h3
   |sl _ _ _=>obtain ⟨_,_,_,rfl⟩:=qW h4;rfl
theorem CRel.drop:∀(n:Nat) {cs:List Cell} {us:List Value} {S:List Nat},CRel B w cs us S→∃S',CRel B w (cs.drop n) (us.drop n) S'∧∀x∈S',x∈S
 |0,_,_,S,h=>⟨S,h,fun _ h=>h⟩
 |n+1,[],_,_,⟨h,h'⟩=>by subst h h';exact ⟨[],⟨rfl,rfl⟩,by simp⟩
 |n+1,.a _::cs,_,_,⟨u,us',h1,h2,h3⟩=>by
  subst h1;obtain ⟨S',h5,h6⟩:=CRel.drop n h3;exact ⟨S',h5,h6⟩
 |n+1,.own _ _::cs,_,_,⟨u,us',S1,S2,h1,h2,h3,h4,h5,h6⟩=>by
  subst h1 h2;obtain ⟨S',h7,h8⟩:=CRel.drop n h6;exact ⟨S',h7,fun x hx=>by simp [h8 x hx]⟩
theorem CRel.take:∀(n:Nat) {cs:List Cell} {us:List Value} {S:List Nat},CRel B w cs us S→∃S',CRel B w (cs.take n) (us.take n) S'∧∀x∈S',x∈S
 |0,_,_,S,h=>⟨[],⟨rfl,rfl⟩,by simp⟩
 |n+1,[],_,_,⟨h,h'⟩=>by subst h h';exact ⟨[],⟨rfl,rfl⟩,by simp⟩
 |n+1,.a _::cs,_,_,⟨u,us',h1,h2,h3⟩=>by
  subst h1;obtain ⟨S',h5,h6⟩:=CRel.take n h3;exact ⟨S',⟨u,_,rfl,h2,h5⟩,h6⟩
 |n+1,.own _ _::cs,_,_,⟨u,us',S1,S2,h1,h2,h3,h4,h5,h6⟩=>by
  subst h1 h2;obtain ⟨S',h7,h8⟩:=CRel.take n h6;exact ⟨S1++S',⟨u,_,S1,S',rfl,rfl,h3,h4,h5,h7⟩,fun x hx=>by rcases List.mem_append.1 hx with hx|hx;simp [hx];simp [h8 x hx]⟩
theorem jls {g c:Nat} {p:List Nat} {η:jm}:∀{ds:List D} {i j:Nat} {d:D},ds[j]?=some d→(jeW g c p η i ds)[j]?=some (d.toOwn g c (p++[i+j]) η)
 |[],_,_,_,h=>by simp at h
 |_::_,i,0,_,h=>by simp at h;subst h;rfl
 |_::ds,i,j+1,_,h=>by
  have:=jls (g:=g) (c:=c) (p:=p) (η:=η) (ds:=ds) (i:=i+1) (j:=j) (by simpa using h)
  simp only [jeW,List.getElem?_cons_succ,this];rw [show i+1+j=i+(j+1) by omega]
theorem jhv {g c:Nat} {p:List Nat} {η:jm}:∀{ds:List D} {i:Nat},(jeW g c p η i ds).length=ds.length
 |[],_=>rfl
 |_::ds,i=>by simp [jeW,jhv (ds:=ds)]
theorem qX (h:RelF B w0 N s a w F) {g c:Nat} {p:List Nat} {x:Value} {d0 dd:D} {η:jm} (ho:(s.o g).own c=some (d0,η)) (hx:η p=x) (hg:D.get p d0=some dd) (hs:dd.isSl=true):
 ∃S,Rep w true dd x S∧∀q,η (p++q)=hdr w q dd x:=by
 obtain ⟨u,S',h1,h2,h3,h4⟩:=(h.ob g).own ho;obtain ⟨S2,h5,_⟩:=jrz p h2 hg hs;rw [←h3 p,hx] at h5;refine ⟨S2,h5,fun q=>?_⟩
 rw [h3,←hx,h3]
 have key:∀(p:List Nat) {d0:D} {u:Value} {S:List Nat},Rep w true d0 u S→D.get p d0=some dd→hdr w (p++q) d0 u=hdr w q dd (hdr w p d0 u):=by
  intro p
  induction p with
  |nil=>
   intro d0 u S _ hg;simp [D.get] at hg;subst hg;rw [List.nil_append,vL hs]
  |cons i p ih=>
   intro d0 u S hr hg;cases d0 with
   |val _=>simp [D.get] at hg
   |sl size ty cs=>
    simp only [D.get] at hg;obtain ⟨vs,T,S',k1,k2,k3⟩:=hr;cases hc:cs[i]? with
    |none=>rw [hc] at hg;simp at hg
    |some d=>
     rw [hc] at hg;obtain ⟨v,S1,k6,k7,k8⟩:=RepL.nth k2 hc;rcases kY k1 with ⟨rfl,rfl⟩|⟨g,n,c,rfl,rfl,k4,k5,_⟩
     ·simp at k6
     ·simp only [List.cons_append,hdr,hc,Nat.zero_add,k5 i v k6,Option.getD_some]
      exact ih k7 hg
 exact key p h2 hg
theorem joc (h:RelF B w0 N s a w F) {A:AV} {u0:Value} {n:Nat} {l:List A0} (hv:VRel B w A u0) (h1:vQ s n l A):
 ∃b k us,u0=.pointer (some ⟨b,k,none⟩)∧us.length=n∧l.length=n∧(∀j u,us[j]?=some u→w.cell? ⟨b,k+j,none⟩=some u)∧A0RelL B w l us:=by
 have key:∀(b k:Nat) (us:List Value),u0=.pointer (some ⟨b,k,none⟩)→us.length=n→l.length=n→(∀j u,us[j]?=some u→w.cell? ⟨b,k+j,none⟩=some u)→A0RelL B w l us→
  ∃b k us,u0=.pointer (some ⟨b,k,none⟩)∧us.length=n∧l.length=n∧(∀j u,us[j]?=some u→w.cell? ⟨b,k+j,none⟩=some u)∧A0RelL B w l us:=fun b k us k1 k2 k3 k4 k5=>⟨b,k,us,k1,k2,k3,k4,k5⟩
 generalize he:A=A' at h1;unfold vQ at h1;split at h1
 ·rename_i ds
  obtain ⟨h3,rfl⟩:=h1;rw [he] at hv;obtain ⟨b,k,us,S,hp,k2,k3,k4,k5⟩:=hv;obtain ⟨S',k6,k7⟩:=RepL.take n k2;have hlen:=RepL.length _ k6;refine key b k (us.take n) hp (by rw [hlen,List.length_take];omega) (by simp;omega) (fun j u hu=>?_) (RepL.ro_cells k6 ⟨rfl,fun y hy=>k3 y (k7 y hy)⟩)
  rw [List.getElem?_take] at hu;split at hu
  ·exact k5 j u hu
  ·simp at hu
 ·rename_i g c b
  obtain ⟨ty,cs,h3,h4,rfl⟩:=h1;rw [he] at hv;have hob:=h.ob g;rw [h3] at hob;obtain ⟨us,S1,k1,k2,k3⟩:=hob;obtain ⟨S2,k4,k5⟩:=CRel.drop c k2;obtain ⟨S3,k6,k7⟩:=CRel.take n k4;have hul:=CRel.len k2;refine key b c ((us.drop c).take n) hv (by simp;omega) ?_ (fun j u hu=>?_) (CRel.load c k6)
  ·have:∀(g c:Nat) (cs:List Cell),(jdS g c cs).length=cs.length:=by
    intro g c cs
    induction cs generalizing c with
    |nil=>rfl
    |cons x l ih=>cases x<;>simp [jdS,ih]
   rw [this];simp;omega
  ·rw [List.getElem?_take] at hu
   split at hu
   ·rw [List.getElem?_drop] at hu
    simp [World.cell?,k1,hu]
   ·simp at hu
 ·rename_i g c p i' x''
  obtain ⟨d0,η,dd,h3,h4,h5,hs,h6,rfl⟩:=h1;rw [he] at hv;obtain ⟨S,k1,k2⟩:=qX h h3 h4 h5 hs;cases dd with
  |val _=>cases hs
  |sl size ty cs=>
   obtain ⟨vs,T,S',k3,k4,k5⟩:=k1;have hvl:=RepL.length _ k4;simp only [D.cells] at h6 key;rcases kY k3 with ⟨rfl,rfl⟩|⟨gg,nn,cc,rfl,rfl,k6,k7,_⟩
   ·have hcs:cs=[]:=List.eq_nil_of_length_eq_zero (by simpa using hvl.symm)
    subst hcs;simp at h6;obtain ⟨rfl,rfl⟩:=h6;exact key 0 (0+0) [] (by rw [hv];rfl) rfl rfl (by simp) rfl
   ·refine key gg (0+i') ((vs.drop i').take n) (by rw [hv];rfl) (by simp;omega) (by rw [jhv];simp;omega) (fun j u hu=>?_) (A0RelL.of_get (by rw [jhv];simp;omega) fun j a0 u ha hu=>?_)
    ·rw [List.getElem?_take] at hu
     split at hu
     ·rw [List.getElem?_drop] at hu
      rw [Nat.zero_add];exact k7 _ _ hu
     ·simp at hu
    ·rw [List.getElem?_take] at hu
     split at hu
     ·rename_i hj
      rw [List.getElem?_drop] at hu;obtain ⟨dj,hdj⟩:∃dj,cs[i'+j]?=some dj:=⟨cs[i'+j],List.getElem?_eq_getElem (by omega)⟩
      have hdt:((cs.drop i').take n)[j]?=some dj:=by rw [List.getElem?_take,if_pos hj,List.getElem?_drop];exact hdj
      rw [jls hdt] at ha;simp at ha;subst ha;obtain ⟨u',S1,k8,k9,_⟩:=RepL.nth k4 hdj;rw [hu] at k8;simp at k8;subst k8;cases dj with
      |val _=>exact k9.1
      |sl _ _ _=>
       have e:η (p++[i'+j])=u:=by rw [k2];simp [hdr,hdj,k7 _ _ hu]
       obtain ⟨_,_,_,rfl⟩:=qW k9;exact ⟨e.symm,by rw [e];rfl⟩
     ·simp at hu
 ·exact h1.elim
def jz3:TypeDesc→Bool
 |.struct _|.array _ _=>true
 |_=>false
theorem jkb {t:TypeId} {dsc:TypeDesc} {agg:Bool} {n b k:Nat} {us:List Value} (ht:P.underlying t=some dsc) (hagg:agg=jz3 dsc) (hn:kD P t=some n) (hl:us.length=n)
 (hc:∀j u,us[j]?=some u→w.cell? ⟨b,k+j,none⟩=some u) {v:Value} (hv:if agg then v=.agg us.toArray else us=[v]):(loadVar t ⟨b,k,none⟩).run P w=.ok v w:=by
 obtain ⟨i,hi,hin⟩:∃i,P.info? t=some i∧i.size=n:=by
  unfold kD at hn;cases hq:P.info? t with
  |none=>simp [hq] at hn
  |some i=>exact ⟨i,rfl,by simpa [hq] using hn⟩
 cases agg with
 |true=>
  obtain rfl:v=.agg us.toArray:=by simpa using hv
  have hlc:=run_loadCells_list (P:=P) w ⟨b,k,none⟩ us (fun j u hu=>by rw [vI];exact hc j u hu)
  rw [hl] at hlc
  have hisagg:(isAgg t).run P w=.ok true w:=by
   simp only [isAgg,Sem.run_bind,run_underlying ht];cases dsc<;>first|rfl|cases hagg
  simp [loadVar,hisagg,sizeOf,typeInfo,hi,hin,hlc]
 |false=>
  obtain rfl:us=[v]:=by simpa using hv
  have hcell:=hc 0 v rfl
  have hisagg:(isAgg t).run P w=.ok false w:=by
   simp only [isAgg,Sem.run_bind,run_underlying ht];cases dsc<;>first|rfl|cases hagg
  simp only [Nat.add_zero] at hcell;simp [loadVar,hisagg,hcell]
theorem go_ld (h:RelF B w0 N s a w F) {t:TypeId} {x:Operand} {x':X} {agg:Bool} {n:Nat} {dsc:TypeDesc} (ho:o.op=.load t x) (ht:P.underlying t=some dsc) (hagg:agg=jz3 dsc) (hn:kD P t=some n) (hx:jC x=some x')
 (hg:∀st,∃av os,Gen P s d rt st (.ld agg n x') av os∧G av os):Goes P o a w (ka B w G):=by
 obtain ⟨av,os,⟨l,h1,h2,rfl⟩,hG⟩:=hg ⟨0,fun _ _=>undef⟩
 have hv:=qb h hx;obtain ⟨b,k,us,hp,hl,hll,hc,hr⟩:=joc h hv h1;cases agg with
 |true=>
  obtain rfl:av=.agg l:=by simpa using h2
  have:=jkb (P:=P) (v:=.agg us.toArray) ht hagg hn hl hc (by simp)
  refine qT (v:=.agg us.toArray) ?_ (by exact ⟨us,rfl,hr⟩) hG
  simp [execOp,ho,Instr.loadAt,hp,Instr.sureAddr,this]
 |false=>
  obtain ⟨a0,rfl,rfl⟩:∃a0,l=[a0]∧av=.c a0:=by simpa using h2
  obtain ⟨u,us',rfl,k1,k2⟩:=hr;have k3:us'=[]:=k2;subst k3;have:=jkb (P:=P) (v:=u) ht hagg hn hl hc (by simp)
  refine qT (v:=u) ?_ (by exact k1) hG
  simp [execOp,ho,Instr.loadAt,hp,Instr.sureAddr,this]
theorem jjE {t:TypeId} {n:Nat} (hn:kD P t=some n):∃i,P.info? t=some i∧i.size=n:=by
 unfold kD at hn;cases hq:P.info? t with
 |none=>simp [hq] at hn
 |some i=>exact ⟨i,rfl,by simpa [hq] using hn⟩
theorem vq {size:Nat} {ty:TypeId} {cs:List D} {u:Value} {S:List Nat} (h:Rep w false (.sl size ty cs) u S):
 ∃A n c vs S',u=.slice A n c∧cs.length=n*size∧RepL w false cs vs S'∧(∀x∈S',x∈S)∧n≤c∧c≤maxLen∧(A=none→c=0)∧(vs≠ []→∃b o,A=some ⟨b,o,none⟩∧b∈S∧∀j u,vs[j]?=some u→w.cell? ⟨b,o+j,none⟩=some u):=by
 obtain ⟨vs,T,S',⟨_,A,n,c,rfl,h2,h3,h4,h5,h6⟩,h7,rfl⟩:=h;refine ⟨A,n,c,vs,S',rfl,by rw [←RepL.length _ h7];exact h2,h7,fun x hx=>by simp [hx],h3,h4,h5,fun hne=>?_⟩
 obtain ⟨b,o',rfl,rfl,h8⟩:=h6 hne;exact ⟨b,o',rfl,by simp,h8⟩
theorem jfU {size:Nat} {ty:TypeId} {cs:List D} {n:Nat} (hs:0<size) (h:cs.length=n*size):D.len (.sl size ty cs)=n:=by
 simp only [D.len,D.cells,D.size,h];exact Nat.mul_div_cancel _ hs
theorem jrw {size:Nat} {ty:TypeId} {cs:List D} {A:Option Addr} {n c:Nat} {S:List Nat} {l hh:Nat} (hs:0<size) (hr:Rep w false (.sl size ty cs) (.slice A n c) S) (hS:∀b∈S,b<B) (h1:l≤hh) (h2:hh≤n):
 ∃S',Rep w false (D.sub (.sl size ty cs) l hh) (.slice (if c=l then A else A.map (·.add (l*size))) (hh-l) (c-l)) S'∧∀b∈S',b<B:=by
 obtain ⟨vs,T,S',⟨hT,A',n',c',he,h3,h4,h5,h6,h7⟩,h8,rfl⟩:=hr;cases he;obtain ⟨S2,h9,h10⟩:=RepL.drop (l*size) h8;obtain ⟨S3,h11,h12⟩:=RepL.take ((hh-l)*size) h9;have hmul:(hh-l)*size+l*size≤n*size:=by rw [←Nat.add_mul];exact Nat.mul_le_mul_right _ (by omega)
 have hlen:((vs.drop (l*size)).take ((hh-l)*size)).length=(hh-l)*size:=by simp;omega
 by_cases hne:(vs.drop (l*size)).take ((hh-l)*size)=[]
 ·refine ⟨[]++S3,⟨_,[],S3,⟨by simp,_,_,_,rfl,hlen,by omega,by omega,fun hA=>?_,fun h=>absurd hne h⟩,h11,rfl⟩,fun b hb=>hS b (by simp [h10 b (h12 b (by simpa using hb))])⟩
  split at hA
  ·omega
  ·have:A=none:=by simpa using hA
   have:=h6 this;omega
 ·have hvne:vs≠ []:=fun e=>hne (by subst e;simp)
  obtain ⟨b,o',rfl,rfl,h13⟩:=h7 hvne
  have hcl:c≠l:=fun e=>hne (by
   have:hh-l=0:=by omega
   rw [this];simp)
  refine ⟨[b]++S3,⟨_,[b],S3,⟨by simpa using hT,_,_,_,rfl,hlen,by omega,by omega,by rw [if_neg hcl];simp,fun _=>⟨b,o'+l*size,by rw [if_neg hcl];simp [vI],rfl,fun j u hu=>?_⟩⟩,h11,rfl⟩,fun x hx=>?_⟩
  ·rw [List.getElem?_take] at hu
   split at hu
   ·rw [List.getElem?_drop] at hu
    rw [Nat.add_assoc];exact h13 _ _ hu
   ·simp at hu
  ·rcases List.mem_append.1 hx with hx|hx
   ·exact hS x (by simp at hx⊢;exact .inl hx)
   ·exact hS x (by simp [h10 x (h12 x hx)])
theorem jhz (h:RelF B w0 N s a w F) {x:A0} {u:Value} {dd:D} (hr:A0Rel B w x u) (hi:Is s x dd):∃S,Rep w false dd u S:=by
 cases x with
 |v x=>
  have hr:u=x:=hr;subst hr;rcases hi with rfl|⟨rfl,size,ty,rfl⟩
  ·exact ⟨[],rfl,rfl⟩
  ·exact ⟨[],[],[],[],⟨by simp,none,0,0,rfl,by simp,Nat.le_refl _,Nat.zero_le _,fun _=>rfl,fun h=>absurd rfl h⟩,RepL.nil_,rfl⟩
 |ro d'=>
  have hi:dd=d':=hi;subst hi;obtain ⟨_,S,h1,_⟩:=hr;exact ⟨S,h1⟩
 |h g c p x=>
  obtain ⟨hr,_⟩:=hr;subst hr;obtain ⟨d0,η,h1,h2,h3,h4⟩:=hi;obtain ⟨S,h5,_⟩:=qX h h1 h2 h3 h4;exact ⟨S,h5.ro⟩
 |hs g c p x size lo n=>
  obtain ⟨hr,_⟩:=hr;obtain ⟨d0,η,dd,h1,h2,h3,h4,h5,h6,h7,rfl⟩:=hi;obtain ⟨S,h8,_⟩:=qX h h1 h2 h3 h4;have h8:=h8.ro;cases dd with
  |val _=>cases h4
  |sl size' ty cs=>
   have h5':size'=size:=h5;subst h5';rcases hr with rfl|⟨_,rfl,A,rfl⟩;rotate_left
   ·refine ⟨[],[],[],[],⟨by simp,A,0,0,rfl,by simp,Nat.le_refl _,Nat.zero_le _,fun _=>rfl,fun h=>absurd rfl h⟩,?_,rfl⟩
    have e:D.sub (.sl size' ty cs) lo (lo+0)=.sl size' ty []:=by simp [D.sub]
    simp only [Nat.add_zero,Nat.sub_self,Nat.zero_mul,List.take_zero];exact RepL.nil_
   obtain ⟨A,n',c',vs,S',hu,k5,_⟩:=vq h8;have hlen:=jfU (ty:=ty) h6 k5;rw [hlen] at h7;rw [hu] at h8⊢;obtain ⟨S2,k7,_⟩:=jrw (B:=w.heap.size) h6 h8 (Rep.lt _ h8) (Nat.le_add_right lo n) h7;have e:lo+n-lo=n:=by omega
   rw [e] at k7;exact ⟨S2,k7⟩
 |_=>exact hi.elim
theorem go_len (h:RelF B w0 N s a w F) {c:Call} {x:Operand} {x':X} (ho:o.op=.call c) (hc:c.callee=.builtin .len) (ha:c.args.toList=[x]) {str:Bool} (ht:if str then (c.argTypes[0]?).bind P.underlying=some .string else∃e,(c.argTypes[0]?).bind P.underlying=some (.slice e)) (hx:jC x=some x')
 (hg:∀st,∃av os,Gen P s d rt st (.len str x') av os∧G av os):Goes P o a w (ka B w G):=by
 obtain ⟨av,os,⟨n,h1,rfl,rfl⟩,hG⟩:=hg ⟨0,fun _ _=>undef⟩
 have hv:=qb h hx;have hargs:c.args=#[x]:=by rw [←Array.toArray_toList (xs:=c.args),ha]
 have hty:∀td,(c.argTypes[0]?).bind P.underlying=some td→∃t,c.argTypes[0]?=some t∧P.underlying t=some td:=fun td hb=>by
  cases hq:c.argTypes[0]? with
  |none=>simp [hq] at hb
  |some t=>exact ⟨t,rfl,by simpa [hq] using hb⟩
 have hsr:str=false→∀(A:Option Addr) (c':Nat),a.eval x=.slice A n c'→Goes P o a w (ka B w G):=fun hf A c' he=>by
  rw [hf] at ht;obtain ⟨e,hb⟩:∃e,(c.argTypes[0]?).bind P.underlying=some (.slice e):=by simpa using ht
  obtain ⟨t,h2,h3⟩:=hty _ hb;refine qT (v:=.int .i64 n) ?_ (by exact rfl) hG
  simp [execOp,ho,resolve,hc,hargs,he,invoke,builtin,Builtin.len_,h2,run_underlying h3,goInt]
 have hd:str=false→∀dd:D,dd.isSl=true→0<dd.size→n=dd.len→∀S,Rep w false dd (a.eval x) S→Goes P o a w (ka B w G):=fun hf dd k1 k2 k3 S k4=>by
  cases dd with
  |val _=>cases k1
  |sl size ty cs=>
   obtain ⟨A,n',c',vs,S',he,k5,_⟩:=vq k4;obtain rfl:n=n':=by rw [k3];exact jfU k2 k5
   exact hsr hf A c' he
 unfold jqr at h1;split at h1
 ·rename_i b he
  have he':=jgh h hx he;obtain ⟨t,h2,h3⟩:=hty _ (show (c.argTypes[0]?).bind P.underlying=some .string by simpa using ht)
  subst h1;refine qT (v:=.int .i64 b.size) ?_ (by exact rfl) hG
  simp [execOp,ho,resolve,hc,hargs,he',invoke,builtin,Builtin.len_,h2,run_underlying h3,goInt]
 ·rename_i he
  have he':=jgh h hx he;subst h1;exact hsr rfl none 0 he'
 ·rename_i dd he
  rw [he] at hv;obtain ⟨k1,S,k2,_⟩:=hv;exact hd rfl dd k1 h1.2.1 h1.2.2 S k2
 ·rename_i g c p x'' he
  obtain ⟨dd,k1,k2,k3⟩:=h1;rw [he] at hv;have hv:A0Rel B w (.h g c p x'') (a.eval x):=hv;obtain ⟨S,k4⟩:=jhz h hv k1;obtain ⟨_,_,_,_,_,k5⟩:=k1;exact hd rfl dd k5 k2 k3 S k4
 ·rename_i g c p x'' size lo m he
  obtain ⟨⟨dd,d0,η,d1,k1,k2,k3,k4,k5,k6,k7,rfl⟩,rfl⟩:=h1;rw [he] at hv;have hv:a.eval x=joY x'' size lo n∨0<lo∧n=0∧∃A,a.eval x=.slice A 0 0:=hv.1;rcases hv with hv|⟨_,rfl,A,hv⟩;rotate_left
  ·exact hsr rfl _ _ hv
  obtain ⟨S,k8,_⟩:=qX h k1 k2 k3 k4;cases d1 with
  |val _=>cases k4
  |sl size' ty cs=>
   obtain ⟨A,n',c',vs,S',hu,_⟩:=vq k8.ro;subst hu;exact hsr rfl _ _ hv
 ·exact h1.elim
theorem go_ia (h:RelF B w0 N s a w F) {t e:TypeId} {x i:Operand} {x' i':X} {m:Nat} (ho:o.op=.indexAddr t x i) (ht:P.underlying t=some (.slice e)) (hm:kD P e=some (m+1)) (hx:jC x=some x') (hi:jC i=some i')
 (hg:∀st,∃av os,Gen P s d rt st (.ia (m+1) x' i') av os∧G av os):Goes P o a w (ka B w G):=by
 obtain ⟨av,os,⟨k,n,h1,h2,h3,rfl⟩,hG⟩:=hg ⟨0,fun _ _=>undef⟩
 have hv:=qb h hx;have hiv:=jgh h hi h1;obtain ⟨inf,hinf,hsz⟩:=jjE hm
 have hrun:∀(ad:Addr) (len c:Nat),a.eval x=.slice (some ad) len c→n<len→(execOp a.eval o).run P w=.ok (.value (.pointer (some (ad.add (n.toNat*(m+1)))))) w:=fun ad len c he hlt=>by
  simp [execOp,ho,Instr.indexAt,asIntOf,hiv,he,run_underlying ht,h2,hlt,sizeOf,typeInfo,hinf,hsz]
 split at h3
 ·rename_i dd he
  obtain ⟨k1,k2,k3,rfl⟩:=h3;rw [he] at hv;obtain ⟨_,S,k4,k5⟩:=hv;cases dd with
  |val _=>cases k1
  |sl size ty cs=>
   have k2':size=m+1:=k2;subst k2';obtain ⟨A,n',c',vs,S',hu,k6,k7,k8,k9,_,_,k10⟩:=vq k4;have hlen:=jfU (ty:=ty) (by omega:0<m+1) k6
   rw [hlen] at k3;have hvl:=RepL.length _ k7;have hmul:n.toNat*(m+1)+(m+1)≤n'*(m+1):=by rw [←Nat.succ_mul];exact Nat.mul_le_mul_right _ k3
   obtain ⟨b,o',rfl,hb,k11⟩:=k10 (fun e=>by subst e;simp at hvl;omega)
   obtain ⟨S2,k12,k13⟩:=RepL.drop (n.toNat*(m+1)) k7;obtain ⟨S3,k14,k15⟩:=RepL.take (m+1) k12
   refine qT (hrun _ _ _ hu (by omega)) (by
    refine ⟨b,o'+n.toNat*(m+1),(vs.drop (n.toNat*(m+1))).take (m+1),S3,by rw [vI],k14,fun y hy=>k5 y (k8 y (k13 y (k15 y hy))),fun _=>k5 b hb,fun j y hy=>?_⟩
    rw [List.getElem?_take] at hy;split at hy
    ·rw [List.getElem?_drop] at hy
     rw [Nat.add_assoc];exact k11 _ _ hy
    ·simp at hy) hG
 ·rename_i g c p hx' he
  obtain ⟨⟨dd,k1,k2,k3⟩,rfl⟩:=h3;rw [he] at hv;have hv:a.eval x=hx':=hv.1;obtain ⟨d0,η,k4,k5,k6,k7⟩:=k1;obtain ⟨S,k8,_⟩:=qX h k4 k5 k6 k7;cases dd with
  |val _=>cases k7
  |sl size ty cs=>
   have k2':size=m+1:=k2;subst k2';obtain ⟨vs,T,S',k9,k10,_⟩:=k8;have hvl:=RepL.length _ k10;rcases kY k9 with ⟨rfl,rfl⟩|⟨gg,nn,cc,rfl,rfl,k11,_,_⟩
   ·simp at hvl
    simp [D.len,D.cells,←hvl] at k3
   ·have hlen:D.len (.sl (m+1) ty cs)=nn:=jfU (by omega) (by rw [←hvl];exact k11)
    rw [hlen] at k3;refine qT (hrun _ _ _ hv (by omega)) (by show _=_;rw [vI];rfl) hG
 ·rename_i g c p hx' sz lo m' he
  obtain ⟨⟨dd,d0,η,d1,k4,k5,k6,k7,k8,k9,k10,rfl⟩,rfl,k3,rfl⟩:=h3;rw [he] at hv;have hv:a.eval x=joY hx' (m+1) lo m':=hv.1.resolve_right fun ⟨_,hm0,_⟩=>by omega
  obtain ⟨S,k11,_⟩:=qX h k4 k5 k6 k7;cases d1 with
  |val _=>cases k7
  |sl size ty cs=>
   have k8':size=m+1:=k8;subst k8';obtain ⟨vs,T,S',k12,k13,_⟩:=k11;have hvl:=RepL.length _ k13;rcases kY k12 with ⟨rfl,rfl⟩|⟨gg,nn,cc,rfl,rfl,k14,_,_⟩
   ·simp at hvl
    simp [D.len,D.cells,←hvl] at k10;omega
   ·have hlen:D.len (.sl (m+1) ty cs)=nn:=jfU (by omega) (by rw [←hvl];exact k14)
    rw [hlen] at k10;obtain ⟨nv,hown,_⟩:=k12;obtain ⟨_,⟨h,_⟩|⟨g1,cap,cur,he1,_,_,hcap,_⟩⟩:=hown
    ·cases h
    ·cases he1
     have hne:cc≠lo:=by omega
     simp only [joY,if_neg hne,Option.map_some] at hv
     refine qT (hrun _ _ _ hv (by omega)) (by
      show _=_;rw [vI,vI,Nat.add_mul,Nat.zero_add];simp [jaz]) hG
 ·exact h3.elim
theorem go_sidx (h:RelF B w0 N s a w F) {t:TypeId} {x i:Operand} {x' i':X} (ho:o.op=.index t x i) (ht:P.underlying t=some .string) (hx:jC x=some x') (hi:jC i=some i')
 (hg:∀st,∃av os,Gen P s d rt st (.sidx x' i') av os∧G av os):Goes P o a w (ka B w G):=by
 obtain ⟨av,os,⟨b,k,n,u,h1,h2,h3,h4,rfl,rfl⟩,hG⟩:=hg ⟨0,fun _ _=>undef⟩
 refine qT (v:=.int .u8 u.toNat) ?_ (by exact rfl) hG
 simp [execOp,ho,Instr.index,asIntOf,jgh h hx h1,jgh h hi h2,run_underlying ht,h3,h4]
theorem go_mm (h:RelF B w0 N s a w F) {c:Call} {mx:Bool} {x y:Operand} {x' y':X} (ho:o.op=.call c) (hc:c.callee=.builtin (if mx then .max else .min)) (ha:c.args.toList=[x,y]) (hx:jC x=some x') (hy:jC y=some y')
 (hg:∀st,∃av os,Gen P s d rt st (.mm mx x' y') av os∧G av os):Goes P o a w (ka B w G):=by
 obtain ⟨av,os,⟨k,k',m,n,h1,h2,rfl,rfl⟩,hG⟩:=hg ⟨0,fun _ _=>undef⟩
 have hargs:c.args=#[x,y]:=by rw [←Array.toArray_toList (xs:=c.args),ha]
 refine qT (v:=.int k (if mx then (if n>m then n else m) else (if n<m then n else m))) ?_ (by exact rfl) hG
 cases mx
 ·simp at hc
  simp [execOp,ho,resolve,hc,hargs,jgh h hx h1,jgh h hy h2,invoke,builtin,Builtin.min_,Builtin.min2]
 ·simp at hc
  simp [execOp,ho,resolve,hc,hargs,jgh h hx h1,jgh h hy h2,invoke,builtin,Builtin.max_,Builtin.max2]
theorem go_un (h:RelF B w0 N s a w F) {op:UnOp} {t:TypeId} {x:Operand} {x':X} (ho:o.op=.unOp op t x) (hx:jC x=some x')
 (hg:∀st,∃av os,Gen P s d rt st (.un op x') av os∧G av os):Goes P o a w (ka B w G):=by
 obtain ⟨av,os,⟨h1,rfl⟩,hG⟩:=hg ⟨0,fun _ _=>undef⟩
 cases op with
 |not=>
  obtain ⟨b,h2,rfl⟩:=h1;refine qT (v:=.bool (!b)) ?_ (by exact rfl) hG
  simp [execOp,ho,jgh h hx h2,Op.unary]
 |neg=>
  obtain ⟨k,n,h2,rfl⟩:=h1;refine qT (v:=.int k (k.wrap (0-n))) ?_ (by exact rfl) hG
  simp [execOp,ho,jgh h hx h2,Op.unary,Op.intArith]
 |_=>exact h1.elim
theorem go_beq (h:RelF B w0 N s a w F) {neg:Bool} {t t':TypeId} {x y:Operand} {x' y':X} (ho:o.op=.binOp (if neg then .neq else .eql) t x y t') (ht:P.underlying t=some .bool) (hx:jC x=some x') (hy:jC y=some y')
 (hg:∀st,∃av os,Gen P s d rt st (.beq neg x' y') av os∧G av os):Goes P o a w (ka B w G):=by
 obtain ⟨av,os,⟨b,c,h1,h2,rfl,rfl⟩,hG⟩:=hg ⟨0,fun _ _=>undef⟩
 refine qT (v:=.bool (if neg then !(b==c) else b==c)) ?_ (by exact rfl) hG
 cases neg
 ·simp at ho
  simp [execOp,ho,jgh h hx h1,jgh h hy h2,eqGuard,binOp,run_equal_bool (P:=P) w t b c ht]
 ·simp at ho
  simp [execOp,ho,jgh h hx h1,jgh h hy h2,eqGuard,binOp,run_equal_bool (P:=P) w t b c ht]
end
end Go.Proofs.Ytmnpailnelmpiaa
