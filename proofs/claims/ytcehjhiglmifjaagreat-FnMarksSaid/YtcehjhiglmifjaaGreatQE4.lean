/- Parts. -/
import Derived.Test.YtcehjhiglmifjaaGreatQData
set_option linter.all false
namespace Go.Proofs.YtcehjhiglmifjaaGreat
open Go.RowKit Go.Sort
def Goes (P:Program) (o:Oper) (a:Act) (w:World) (R:Value->World->Prop):Prop:=
 ∀(next:Act->World->Prop) (Q:Exit->Act->World->Prop),(∀v w',R v w'->next (a.put o.dst v) w')->o.wp P a w next Q
theorem Goes.of_run {P:Program} {o:Oper} {a:Act} {w w':World} {R:Value->World->Prop} {v:Value} (h:(execOp a.eval o).run P w=.ok (.value v) w') (hr:R v w'):Goes P o a w R:=
 λ_ _ hk=>by unfold Oper.wp;rw [h];exact hk v w' hr
def ku (B:Nat) (w:World) (G:AV->List (Nat×Ob)->Prop) (v:Value) (w':World):Prop:=∃av os S,VRel B w' av v/\jcV B w' os S/\Fresh w.heap.size S/\Below w.heap.size w w'/\G av os
section
variable {P:Program} {B N:Nat} {w w0:World} {s:St} {a:Act} {F:Nat->List Nat} {o:Oper} {G:AV->List (Nat×Ob)->Prop} {d:Nat} {rt:RT}
theorem vU {v:Value} {av:AV} (h:(execOp a.eval o).run P w=.ok (.value v) w) (hv:VRel B w av v) (hg:G av []):Goes P o a w (ku B w G):=
 Goes.of_run h ⟨av,[],[],hv,rfl,Fresh.nil _,Below.refl _ _,hg⟩
theorem mk_ {v:Value} {w':World} {av:AV} {os:List (Nat×Ob)} {S:List Nat} (h:(execOp a.eval o).run P w=.ok (.value v) w') (hv:VRel B w' av v) (hn:jcV B w' os S) (hf:Fresh w.heap.size S) (hb:Below w.heap.size w w') (hg:G av os):Goes P o a w (ku B w G):=
 Goes.of_run h ⟨av,os,S,hv,hn,hf,hb,hg⟩
theorem jtK (w:World) (o:Obj):(w.alloc o).heap[w.heap.size]?=some o:=by
 show (w.heap.push o)[w.heap.size]?=_;simp
theorem qP (h:RelF B w0 N s a w F) {x:Operand} {x':X} (hx:jQ x=some x'):VRel B w (s.ev x') (a.eval x):=by
 cases x with
 |tmp t=>simp [jQ] at hx;subst hx;exact h.sl t
 |global g=>simp [jQ] at hx
 |func f=>simp [jQ] at hx;subst hx;exact ⟨[],rfl,rfl⟩
 |const v=>
  simp only [jQ] at hx;split at hx
  ·rename_i hp
   simp at hx;subst hx;cases v with
   |agg cs=>
    refine ⟨cs.toList,by simp [Act.eval],?_⟩
    simp only [jh6,List.all_eq_true] at hp
    have:∀l:List Value,(∀x∈l,x.oneCell'=true)->A0RelL B w (l.map .v) l:=by
     intro l
     induction l with
     |nil=>intro _;rfl
     |cons x l ih=>intro hl;exact ⟨x,l,rfl,rfl,ih λy hy=>hl y (by simp [hy])⟩
    exact this _ hp
   |tuple _=>simp [jh6] at hp
   |_=>exact rfl
  ·simp at hx
theorem jjD (h:RelF B w0 N s a w F) {x:Operand} {x':X} (hx:jQ x=some x') {u:Value} (hu:s.ev x'=.c (.v u)):a.eval x=u:=by
 have:=qP h hx;rw [hu] at this;exact this
theorem go_mov (h:RelF B w0 N s a w F) {x:Operand} {x':X} (ho:o.op=.move x\/o.op=.assign x) (hx:jQ x=some x') (hg:∀st,∃av os,Gen P s d rt st (.mov x') av os/\G av os):Goes P o a w (ku B w G):=by
 obtain ⟨av,os,⟨rfl,rfl⟩,hG⟩:=hg ⟨0,λ_ _=>undef⟩
 refine vU (v:=a.eval x) ?_ (qP h hx) hG;rcases ho with ho|ho<;>simp [execOp,ho]
theorem go_pick (h:RelF B w0 N s a w F) {c x y:Operand} {c' x' y':X} (ho:o.op=.pick c x y) (hc:jQ c=some c') (hx:jQ x=some x') (hy:jQ y=some y')
 (hg:∀st,∃av os,Gen P s d rt st (.pick c' x' y') av os/\G av os):Goes P o a w (ku B w G):=by
 obtain ⟨av,os,⟨t,h1,rfl,rfl⟩,hG⟩:=hg ⟨0,λ_ _=>undef⟩
 have e:=jjD h hc h1;refine vU (v:=if t then a.eval x else a.eval y) ?_ ?_ hG
 ·simp [execOp,ho,e,asBool]
 ·cases t
  ·exact qP h hy
  ·exact qP h hx
theorem go_alloc (h:RelF B w0 N s a w F) {e:TypeId} {zs:List Value} (ho:o.op=.alloc e) (hz:vE P e=some zs) (hg:∀st,∃av os,Gen P s d rt st (.alloc e zs) av os/\G av os):Goes P o a w (ku B w G):=by
 obtain ⟨av,os,⟨rfl,rfl⟩,hG⟩:=hg ⟨w.heap.size,λ_ _=>undef⟩
 unfold vE at hz;split at hz
 ·rename_i i hi
  split at hz
  ·rename_i z l0
   split at hz
   ·rename_i hc
    simp only [aOF,aOJ,List.all_eq_true] at hc;simp at hz;subst hz
    have aV:(execOp a.eval o).run P w=.ok (.value (.pointer (some ⟨w.heap.size,0,none⟩))) (w.alloc (.cells z.cells e)):=by
     simp [execOp,ho,Instr.alloc,zeroValue,typeInfo,hi,l0,newVar,newRow]
    have:∀l:List Value,(∀x∈l,x.oneCell'=true)->CRel B (w.alloc (.cells z.cells e)) (l.map λz=>Cell.a (.v z)) l []:=by
     intro l
     induction l with
     |nil=>intro _;exact ⟨rfl,rfl⟩
     |cons x l ih=>intro hl;exact ⟨x,l,rfl,rfl,ih λy hy=>hl y (by simp [hy])⟩
    have hn:jcV B (w.alloc (.cells z.cells e)) [(100*d,.box w.heap.size e (z.cells.toList.map λz=>.a (.v z)))] [w.heap.size]:=
     ⟨[w.heap.size],[],rfl,⟨z.cells.toList,[],jtK _ _,this _ hc.2,rfl⟩,rfl⟩
    have hv:VRel B (w.alloc (.cells z.cells e)) (.c (.bp (100*d) 0 w.heap.size)) (.pointer (some ⟨w.heap.size,0,none⟩)):=rfl;exact mk_ aV hv hn (Fresh.one _ _ (aOC _)) ((Below.refl _ _).alloc (aOC _) _) hG
   ·simp at hz
  ·simp at hz
 ·simp at hz
theorem jam (b o n:Nat):(⟨b,o,none⟩:Addr).add n=⟨b,o+n,none⟩:=by unfold Addr.add;split<;>simp_all
theorem jBd (x:Value) (i n:Nat):(jcn x i).add n=jcn x (i+n):=by
 unfold jcn;split
 ·rw [jam];congr 1;omega
 ·rw [jam]
theorem RepL.drop {own:Bool}:∀(n:Nat) {ds:List D} {us:List Value} {S:List Nat},RepL w own ds us S->∃S',RepL w own (ds.drop n) (us.drop n) S'/\∀x∈S',x∈S
 |0,_,_,S,h=>⟨S,h,λ_ h=>h⟩
 |n+1,[],_,_,h=>by obtain ⟨rfl,rfl⟩:=h;exact ⟨[],⟨rfl,rfl⟩,by simp⟩
 |n+1,_::ds,_,_,⟨v,vs',S1,S2,rfl,rfl,_,h4⟩=>by
  obtain ⟨S',h5,h6⟩:=RepL.drop n h4;exact ⟨S',h5,λx hx=>by simp [h6 x hx]⟩
theorem RepL.take {own:Bool}:∀(n:Nat) {ds:List D} {us:List Value} {S:List Nat},RepL w own ds us S->∃S',RepL w own (ds.take n) (us.take n) S'/\∀x∈S',x∈S
 |0,_,_,S,h=>⟨[],⟨rfl,rfl⟩,by simp⟩
 |n+1,[],_,_,h=>by obtain ⟨rfl,rfl⟩:=h;exact ⟨[],⟨rfl,rfl⟩,by simp⟩
 |n+1,_::ds,_,_,⟨v,vs',S1,S2,rfl,rfl,h3,h4⟩=>by
  obtain ⟨S',h5,h6⟩:=RepL.take n h4;exact ⟨S1++S',RepL.cons_ h3 h5,λx hx=>by rcases aNT.1 hx with hx|hx;simp [hx];simp [h6 x hx]⟩
theorem go_fa0 (h:RelF B w0 N s a w F) {x:Operand} {x':X} {off:Nat} (hx:jQ x=some x') (aV:∀ad:Addr,a.eval x=.pointer (some ad)->(execOp a.eval o).run P w=.ok (.value (.pointer (some (ad.add off)))) w)
 (hg:∀st,∃av os,Gen P s d rt st (.fa off x') av os/\G av os):Goes P o a w (ku B w G):=by
 obtain ⟨av,os,⟨h1,rfl⟩,hG⟩:=hg ⟨0,λ_ _=>undef⟩
 have hv:=qP h hx;split at h1
 ·rename_i ds he
  subst h1;rw [he] at hv;obtain ⟨b,o',us,S,hp,h2,h3,h4,h5⟩:=hv;obtain ⟨S',h6,h7⟩:=RepL.drop off h2
  refine vU (aV _ hp) (by exact ⟨b,o'+off,us.drop off,S',by rw [jam],h6,λy hy=>h3 y (h7 y hy),λaJ=>h4 λe=>aJ (by rw [e];simp),λj y hy=>by
   rw [aPR] at hy;rw [aRC];exact h5 _ _ hy⟩) hG
 ·rename_i g c b he
  subst h1;rw [he] at hv;refine vU (aV _ hv) ?_ hG;rw [jam];rfl
 ·rename_i g c p i' x'' he
  subst h1;rw [he] at hv;refine vU (aV _ hv) ?_ hG;rw [jBd];rfl
 ·exact h1.elim
theorem go_fa (h:RelF B w0 N s a w F) {t:TypeId} {x:Operand} {x':X} {f n:Nat} {fs:Array Field} {fd:Field} (ho:o.op=.fieldAddr t x f) (ht:P.underlying t=some (.struct fs)) (hf:fs[f]?=some fd) (hn:qk P fd.type=some (n+1)) (hx:jQ x=some x')
 (hg:∀st,∃av os,Gen P s d rt st (.fa fd.offset x') av os/\G av os):Goes P o a w (ku B w G):=by
 obtain ⟨i,hi,bW⟩:∃i,P.info? fd.type=some i/\i.size=n+1:=by
  unfold qk at hn;cases hq:P.info? fd.type with
  |none=>simp [hq] at hn
  |some i=>exact ⟨i,rfl,by simpa [hq] using hn⟩
 exact go_fa0 h hx (λad he=>by
  simp [execOp,ho,Instr.fieldAt,run_underlying ht,hf,he,Instr.sureAddr,fieldPlace,sizeOf,typeInfo,hi,bW]) hg
theorem go_nc (h:RelF B w0 N s a w F) {x:Operand} {x':X} (ho:o.op=.nilCheck x) (hx:jQ x=some x')
 (hg:∀st,∃av os,Gen P s d rt st (.fa 0 x') av os/\G av os):Goes P o a w (ku B w G):=
 go_fa0 h hx (λad he=>by
  rw [show ad.add 0=ad from rfl]
  simp [execOp,ho,he]) hg
theorem RepL.ro_cells {own:Bool} {ds:List D} {us:List Value} {S:List Nat} (h:RepL w own ds us S) (hS:own=false/\∀x∈S,x<B):A0RelL B w (ds.map D.toRo) us:=by
 induction ds generalizing us S with
 |nil=>obtain ⟨rfl,_⟩:=h;rfl
 |cons d ds ih=>
  obtain ⟨v,vs',S1,S2,rfl,rfl,h3,h4⟩:=h;refine ⟨v,vs',rfl,?_,ih h4 ⟨hS.1,λx hx=>hS.2 x (by simp [hx])⟩⟩
  cases d with
  |val u=>exact h3.1
  |sl size ty cs=>exact ⟨rfl,S1,by rw [<-hS.1];exact h3,λx hx=>hS.2 x (by simp [hx])⟩
theorem A0RelL.of_get:∀{l:List A0} {us:List Value},us.length=l.length->(∀(j:Nat) (a:A0) (u:Value),l[j]?=some a->us[j]?=some u->A0Rel B w a u)->A0RelL B w l us
 |[],us,h,_=>aON h
 |a::l,[],h,_=>by simp at h
 |a::l,u::us,h,hk=>⟨u,us,rfl,hk 0 a u rfl rfl,A0RelL.of_get (by simpa using h) λj a' u' h1 h2=>hk (j+1) a' u' h1 h2⟩
theorem CRel.load {g:Nat}:∀{cs:List Cell} {us:List Value} {S:List Nat} (c:Nat),CRel B w cs us S->A0RelL B w (jez g c cs) us
 |[],_,_,_,⟨h,_⟩=>h
 |.a x::cs,_,_,c,⟨u,us',h1,h2,h3⟩=>⟨u,us',h1,h2,CRel.load (c+1) h3⟩
 |.own d η::cs,_,_,c,⟨u,us',S1,S2,h1,h2,h3,h4,h5,h6⟩=>by
  refine ⟨u,us',h1,⟨?_,?_⟩,CRel.load (c+1) h6⟩
  ·rw [h5,zt h3]
  ·rw [h5,zt h3]
   cases d with
   |val _=>cases h3
   |sl _ _ _=>obtain ⟨_,_,_,rfl⟩:=vR h4;rfl
theorem CRel.drop:∀(n:Nat) {cs:List Cell} {us:List Value} {S:List Nat},CRel B w cs us S->∃S',CRel B w (cs.drop n) (us.drop n) S'/\∀x∈S',x∈S
 |0,_,_,S,h=>⟨S,h,λ_ h=>h⟩
 |n+1,[],_,_,⟨h,h'⟩=>by subst h h';exact ⟨[],⟨rfl,rfl⟩,by simp⟩
 |n+1,.a _::cs,_,_,⟨u,us',h1,h2,h3⟩=>by
  subst h1;obtain ⟨S',h5,h6⟩:=CRel.drop n h3;exact ⟨S',h5,h6⟩
 |n+1,.own _ _::cs,_,_,⟨u,us',S1,S2,h1,h2,h3,h4,h5,h6⟩=>by
  subst h1 h2;obtain ⟨S',h7,h8⟩:=CRel.drop n h6;exact ⟨S',h7,λx hx=>by simp [h8 x hx]⟩
theorem CRel.take:∀(n:Nat) {cs:List Cell} {us:List Value} {S:List Nat},CRel B w cs us S->∃S',CRel B w (cs.take n) (us.take n) S'/\∀x∈S',x∈S
 |0,_,_,S,h=>⟨[],⟨rfl,rfl⟩,by simp⟩
 |n+1,[],_,_,⟨h,h'⟩=>by subst h h';exact ⟨[],⟨rfl,rfl⟩,by simp⟩
 |n+1,.a _::cs,_,_,⟨u,us',h1,h2,h3⟩=>by
  subst h1;obtain ⟨S',h5,h6⟩:=CRel.take n h3;exact ⟨S',⟨u,_,rfl,h2,h5⟩,h6⟩
 |n+1,.own _ _::cs,_,_,⟨u,us',S1,S2,h1,h2,h3,h4,h5,h6⟩=>by
  subst h1 h2;obtain ⟨S',h7,h8⟩:=CRel.take n h6;exact ⟨S1++S',⟨u,_,S1,S',rfl,rfl,h3,h4,h5,h7⟩,λx hx=>by rcases aNT.1 hx with hx|hx;simp [hx];simp [h8 x hx]⟩
theorem jqd {g c:Nat} {p:List Nat} {η:jf}:∀{ds:List D} {i j:Nat} {d:D},ds[j]?=some d->(jig g c p η i ds)[j]?=some (d.toOwn g c (p++[i+j]) η)
 |[],_,_,_,h=>by simp at h
 |_::_,i,0,_,h=>by simp at h;subst h;rfl
 |_::ds,i,j+1,_,h=>by
  have:=jqd (g:=g) (c:=c) (p:=p) (η:=η) (ds:=ds) (i:=i+1) (j:=j) (by simpa using h)
  simp only [jig,List.getElem?_cons_succ,this];rw [show i+1+j=i+(j+1) by omega]
theorem jlb {g c:Nat} {p:List Nat} {η:jf}:∀{ds:List D} {i:Nat},(jig g c p η i ds).length=ds.length
 |[],_=>rfl
 |_::ds,i=>by simp [jig,jlb (ds:=ds)]
theorem zq (h:RelF B w0 N s a w F) {g c:Nat} {p:List Nat} {x:Value} {d0 dd:D} {η:jf} (ho:(s.o g).own c=some (d0,η)) (hx:η p=x) (hg:D.get p d0=some dd) (hs:dd.isSl=true):
 ∃S,Rep w true dd x S/\∀q,η (p++q)=hdr w q dd x:=by
 obtain ⟨u,S',h1,h2,h3,h4⟩:=(h.ob g).own ho;obtain ⟨S2,h5,_⟩:=jxl p h2 hg hs;rw [<-h3 p,hx] at h5;refine ⟨S2,h5,λq=>?_⟩
 rw [h3,<-hx,h3]
 have key:∀(p:List Nat) {d0:D} {u:Value} {S:List Nat},Rep w true d0 u S->D.get p d0=some dd->hdr w (p++q) d0 u=hdr w q dd (hdr w p d0 u):=by
  intro p
  induction p with
  |nil=>
   intro d0 u S _ hg;simp [D.get] at hg;subst hg;rw [aOQ,zt hs]
  |cons i p ih=>
   intro d0 u S hr hg;cases d0 with
   |val _=>simp [D.get] at hg
   |sl size ty cs=>
    simp only [D.get] at hg;obtain ⟨vs,T,S',k1,k2,k3⟩:=hr;cases hc:cs[i]? with
    |none=>rw [hc] at hg;simp at hg
    |some d=>
     rw [hc] at hg;obtain ⟨v,S1,k6,k7,k8⟩:=RepL.nth k2 hc;rcases kX k1 with ⟨rfl,rfl⟩|⟨g,n,c,rfl,rfl,k4,k5,_⟩
     ·simp at k6
     ·simp only [aOU,hdr,hc,aPH,k5 i v k6,aNZ]
      exact ih k7 hg
 exact key p h2 hg
theorem jty (h:RelF B w0 N s a w F) {A:AV} {u0:Value} {n:Nat} {l:List A0} (hv:VRel B w A u0) (h1:jaw s n l A):
 ∃b k us,u0=.pointer (some ⟨b,k,none⟩)/\us.length=n/\l.length=n/\(∀j u,us[j]?=some u->w.cell? ⟨b,k+j,none⟩=some u)/\A0RelL B w l us:=by
 have key:∀(b k:Nat) (us:List Value),u0=.pointer (some ⟨b,k,none⟩)->us.length=n->l.length=n->(∀j u,us[j]?=some u->w.cell? ⟨b,k+j,none⟩=some u)->A0RelL B w l us->
  ∃b k us,u0=.pointer (some ⟨b,k,none⟩)/\us.length=n/\l.length=n/\(∀j u,us[j]?=some u->w.cell? ⟨b,k+j,none⟩=some u)/\A0RelL B w l us:=λb k us k1 k2 k3 k4 k5=>⟨b,k,us,k1,k2,k3,k4,k5⟩
 generalize he:A=A' at h1;unfold jaw at h1;split at h1
 ·rename_i ds
  obtain ⟨h3,rfl⟩:=h1;rw [he] at hv;obtain ⟨b,k,us,S,hp,k2,k3,k4,k5⟩:=hv;obtain ⟨S',k6,k7⟩:=RepL.take n k2;have aD:=RepL.length _ k6;refine key b k (us.take n) hp (by rw [aD,aNV];omega) (by simp;omega) (λj u hu=>?_) (RepL.ro_cells k6 ⟨rfl,λy hy=>k3 y (k7 y hy)⟩)
  rw [aPW] at hu;split at hu
  ·exact k5 j u hu
  ·simp at hu
 ·rename_i g c b
  obtain ⟨ty,cs,h3,h4,rfl⟩:=h1;rw [he] at hv;have bS:=h.ob g;rw [h3] at bS;obtain ⟨us,S1,k1,k2,k3⟩:=bS;obtain ⟨S2,k4,k5⟩:=CRel.drop c k2;obtain ⟨S3,k6,k7⟩:=CRel.take n k4;have nW:=CRel.len k2;refine key b c ((us.drop c).take n) hv (by simp;omega) ?_ (λj u hu=>?_) (CRel.load c k6)
  ·have:∀(g c:Nat) (cs:List Cell),(jez g c cs).length=cs.length:=by
    intro g c cs
    induction cs generalizing c with
    |nil=>rfl
    |cons x l ih=>cases x<;>simp [jez,ih]
   rw [this];simp;omega
  ·rw [aPW] at hu
   split at hu
   ·rw [aPR] at hu
    simp [World.cell?,k1,hu]
   ·simp at hu
 ·rename_i g c p i' x''
  obtain ⟨d0,η,dd,h3,h4,h5,hs,h6,rfl⟩:=h1;rw [he] at hv;obtain ⟨S,k1,k2⟩:=zq h h3 h4 h5 hs;cases dd with
  |val _=>cases hs
  |sl size ty cs=>
   obtain ⟨vs,T,S',k3,k4,k5⟩:=k1;have bQ:=RepL.length _ k4;simp only [D.cells] at h6 key;rcases kX k3 with ⟨rfl,rfl⟩|⟨gg,nn,cc,rfl,rfl,k6,k7,_⟩
   ·have fE:cs=[]:=aON (by simpa using bQ.symm)
    subst fE;simp at h6;obtain ⟨rfl,rfl⟩:=h6;exact key 0 (0+0) [] (by rw [hv];rfl) rfl rfl (by simp) rfl
   ·refine key gg (0+i') ((vs.drop i').take n) (by rw [hv];rfl) (by simp;omega) (by rw [jlb];simp;omega) (λj u hu=>?_) (A0RelL.of_get (by rw [jlb];simp;omega) λj a0 u ha hu=>?_)
    ·rw [aPW] at hu
     split at hu
     ·rw [aPR] at hu
      rw [aPH];exact k7 _ _ hu
     ·simp at hu
    ·rw [aPW] at hu
     split at hu
     ·rename_i hj
      rw [aPR] at hu;obtain ⟨dj,n4⟩:∃dj,cs[i'+j]?=some dj:=⟨cs[i'+j],aNS (by omega)⟩
      have tE:((cs.drop i').take n)[j]?=some dj:=by rw [aPW,if_pos hj,aPR];exact n4
      rw [jqd tE] at ha;simp at ha;subst ha;obtain ⟨u',S1,k8,k9,_⟩:=RepL.nth k4 n4;rw [hu] at k8;simp at k8;subst k8;cases dj with
      |val _=>exact k9.1
      |sl _ _ _=>
       have e:η (p++[i'+j])=u:=by rw [k2];simp [hdr,n4,k7 _ _ hu]
       obtain ⟨_,_,_,rfl⟩:=vR k9;exact ⟨e.symm,by rw [e];rfl⟩
     ·simp at hu
 ·exact h1.elim
def jEK:TypeDesc->Bool
 |.struct _|.array _ _=>true
 |_=>false
theorem joq {t:TypeId} {dsc:TypeDesc} {agg:Bool} {n b k:Nat} {us:List Value} (ht:P.underlying t=some dsc) (gW:agg=jEK dsc) (hn:qk P t=some n) (hl:us.length=n)
 (hc:∀j u,us[j]?=some u->w.cell? ⟨b,k+j,none⟩=some u) {v:Value} (hv:if agg then v=.agg us.toArray else us=[v]):(loadVar t ⟨b,k,none⟩).run P w=.ok v w:=by
 obtain ⟨i,hi,bW⟩:∃i,P.info? t=some i/\i.size=n:=by
  unfold qk at hn;cases hq:P.info? t with
  |none=>simp [hq] at hn
  |some i=>exact ⟨i,rfl,by simpa [hq] using hn⟩
 cases agg with
 |true=>
  obtain rfl:v=.agg us.toArray:=by simpa using hv
  have xU:=run_loadCells_list (P:=P) w ⟨b,k,none⟩ us (λj u hu=>by rw [jam];exact hc j u hu)
  rw [hl] at xU
  have eY:(isAgg t).run P w=.ok true w:=by
   simp only [isAgg,Sem.run_bind,run_underlying ht];cases dsc<;>first|rfl|cases gW
  simp [loadVar,eY,sizeOf,typeInfo,hi,bW,xU]
 |false=>
  obtain rfl:us=[v]:=by simpa using hv
  have bK:=hc 0 v rfl
  have eY:(isAgg t).run P w=.ok false w:=by
   simp only [isAgg,Sem.run_bind,run_underlying ht];cases dsc<;>first|rfl|cases gW
  simp only [aOO] at bK;simp [loadVar,eY,bK]
theorem go_ld (h:RelF B w0 N s a w F) {t:TypeId} {x:Operand} {x':X} {agg:Bool} {n:Nat} {dsc:TypeDesc} (ho:o.op=.load t x) (ht:P.underlying t=some dsc) (gW:agg=jEK dsc) (hn:qk P t=some n) (hx:jQ x=some x')
 (hg:∀st,∃av os,Gen P s d rt st (.ld agg n x') av os/\G av os):Goes P o a w (ku B w G):=by
 obtain ⟨av,os,⟨l,h1,h2,rfl⟩,hG⟩:=hg ⟨0,λ_ _=>undef⟩
 have hv:=qP h hx;obtain ⟨b,k,us,hp,hl,eQ,hc,hr⟩:=jty h hv h1;cases agg with
 |true=>
  obtain rfl:av=.agg l:=by simpa using h2
  have:=joq (P:=P) (v:=.agg us.toArray) ht gW hn hl hc (by simp)
  refine vU (v:=.agg us.toArray) ?_ (by exact ⟨us,rfl,hr⟩) hG
  simp [execOp,ho,Instr.loadAt,hp,Instr.sureAddr,this]
 |false=>
  obtain ⟨a0,rfl,rfl⟩:∃a0,l=[a0]/\av=.c a0:=by simpa using h2
  obtain ⟨u,us',rfl,k1,k2⟩:=hr;have k3:us'=[]:=k2;subst k3;have:=joq (P:=P) (v:=u) ht gW hn hl hc (by simp)
  refine vU (v:=u) ?_ (by exact k1) hG
  simp [execOp,ho,Instr.loadAt,hp,Instr.sureAddr,this]
theorem jkJ {t:TypeId} {n:Nat} (hn:qk P t=some n):∃i,P.info? t=some i/\i.size=n:=by
 unfold qk at hn;cases hq:P.info? t with
 |none=>simp [hq] at hn
 |some i=>exact ⟨i,rfl,by simpa [hq] using hn⟩
theorem zX {size:Nat} {ty:TypeId} {cs:List D} {u:Value} {S:List Nat} (h:Rep w false (.sl size ty cs) u S):
 ∃A n c vs S',u=.slice A n c/\cs.length=n*size/\RepL w false cs vs S'/\(∀x∈S',x∈S)/\n<=c/\c<=maxLen/\(A=none->c=0)/\(vs≠ []->∃b o,A=some ⟨b,o,none⟩/\b∈S/\∀j u,vs[j]?=some u->w.cell? ⟨b,o+j,none⟩=some u):=by
 obtain ⟨vs,T,S',⟨_,A,n,c,rfl,h2,h3,h4,h5,h6⟩,h7,rfl⟩:=h;refine ⟨A,n,c,vs,S',rfl,by rw [<-RepL.length _ h7];exact h2,h7,λx hx=>by simp [hx],h3,h4,h5,λaJ=>?_⟩
 obtain ⟨b,o',rfl,rfl,h8⟩:=h6 aJ;exact ⟨b,o',rfl,by simp,h8⟩
theorem jjc {size:Nat} {ty:TypeId} {cs:List D} {n:Nat} (hs:0<size) (h:cs.length=n*size):D.len (.sl size ty cs)=n:=by
 simp only [D.len,D.cells,D.size,h];exact aOS _ hs
theorem jxi {size:Nat} {ty:TypeId} {cs:List D} {A:Option Addr} {n c:Nat} {S:List Nat} {l hh:Nat} (hs:0<size) (hr:Rep w false (.sl size ty cs) (.slice A n c) S) (hS:∀b∈S,b<B) (h1:l<=hh) (h2:hh<=n):
 ∃S',Rep w false (D.sub (.sl size ty cs) l hh) (.slice (if c=l then A else A.map (·.add (l*size))) (hh-l) (c-l)) S'/\∀b∈S',b<B:=by
 obtain ⟨vs,T,S',⟨hT,A',n',c',he,h3,h4,h5,h6,h7⟩,h8,rfl⟩:=hr;cases he;obtain ⟨S2,h9,lA⟩:=RepL.drop (l*size) h8;obtain ⟨S3,gI,cF⟩:=RepL.take ((hh-l)*size) h9;have xO:(hh-l)*size+l*size<=n*size:=by rw [<-aRB];exact aQW _ (by omega)
 have aD:((vs.drop (l*size)).take ((hh-l)*size)).length=(hh-l)*size:=by simp;omega
 by_cases aJ:(vs.drop (l*size)).take ((hh-l)*size)=[]
 ·refine ⟨[]++S3,⟨_,[],S3,⟨by simp,_,_,_,rfl,aD,by omega,by omega,λhA=>?_,λh=>absurd aJ h⟩,gI,rfl⟩,λb hb=>hS b (by simp [lA b (cF b (by simpa using hb))])⟩
  split at hA
  ·omega
  ·have:A=none:=by simpa using hA
   have:=h6 this;omega
 ·have aBN:vs≠ []:=λe=>aJ (by subst e;simp)
  obtain ⟨b,o',rfl,rfl,h13⟩:=h7 aBN
  have cV:c≠l:=λe=>aJ (by
   have:hh-l=0:=by omega
   rw [this];simp)
  refine ⟨[b]++S3,⟨_,[b],S3,⟨by simpa using hT,_,_,_,rfl,aD,by omega,by omega,by rw [if_neg cV];simp,λ_=>⟨b,o'+l*size,by rw [if_neg cV];simp [jam],rfl,λj u hu=>?_⟩⟩,gI,rfl⟩,λx hx=>?_⟩
  ·rw [aPW] at hu
   split at hu
   ·rw [aPR] at hu
    rw [aRC];exact h13 _ _ hu
   ·simp at hu
  ·rcases aNT.1 hx with hx|hx
   ·exact hS x (by simp at hx⊢;exact .inl hx)
   ·exact hS x (by simp [lA x (cF x hx)])
theorem jle (h:RelF B w0 N s a w F) {x:A0} {u:Value} {dd:D} (hr:A0Rel B w x u) (hi:Is s x dd):∃S,Rep w false dd u S:=by
 cases x with
 |v x=>
  have hr:u=x:=hr;subst hr;rcases hi with rfl|⟨rfl,size,ty,rfl⟩
  ·exact ⟨[],rfl,rfl⟩
  ·exact ⟨[],[],[],[],⟨by simp,none,0,0,rfl,by simp,aOC _,aOL _,λ_=>rfl,λh=>absurd rfl h⟩,RepL.nil_,rfl⟩
 |ro d'=>
  have hi:dd=d':=hi;subst hi;obtain ⟨_,S,h1,_⟩:=hr;exact ⟨S,h1⟩
 |h g c p x=>
  obtain ⟨hr,_⟩:=hr;subst hr;obtain ⟨d0,η,h1,h2,h3,h4⟩:=hi;obtain ⟨S,h5,_⟩:=zq h h1 h2 h3 h4;exact ⟨S,h5.ro⟩
 |hs g c p x size lo n=>
  obtain ⟨hr,_⟩:=hr;obtain ⟨d0,η,dd,h1,h2,h3,h4,h5,h6,h7,rfl⟩:=hi;obtain ⟨S,h8,_⟩:=zq h h1 h2 h3 h4;have h8:=h8.ro;cases dd with
  |val _=>cases h4
  |sl size' ty cs=>
   have mH:size'=size:=h5;subst mH;rcases hr with rfl|⟨_,rfl,A,rfl⟩;rotate_left
   ·refine ⟨[],[],[],[],⟨by simp,A,0,0,rfl,by simp,aOC _,aOL _,λ_=>rfl,λh=>absurd rfl h⟩,?_,rfl⟩
    have e:D.sub (.sl size' ty cs) lo (lo+0)=.sl size' ty []:=by simp [D.sub]
    simp only [aOO,aRD,Nat.zero_mul,aOW];exact RepL.nil_
   obtain ⟨A,n',c',vs,S',hu,k5,_⟩:=zX h8;have aD:=jjc (ty:=ty) h6 k5;rw [aD] at h7;rw [hu] at h8⊢;obtain ⟨S2,k7,_⟩:=jxi (B:=w.heap.size) h6 h8 (Rep.lt _ h8) (aQR lo n) h7;have e:lo+n-lo=n:=by omega
   rw [e] at k7;exact ⟨S2,k7⟩
 |_=>exact hi.elim
theorem go_len (h:RelF B w0 N s a w F) {c:Call} {x:Operand} {x':X} (ho:o.op=.call c) (hc:c.callee=.builtin .len) (ha:c.args.toList=[x]) {str:Bool} (ht:if str then (c.argTypes[0]?).bind P.underlying=some .string else∃e,(c.argTypes[0]?).bind P.underlying=some (.slice e)) (hx:jQ x=some x')
 (hg:∀st,∃av os,Gen P s d rt st (.len str x') av os/\G av os):Goes P o a w (ku B w G):=by
 obtain ⟨av,os,⟨n,h1,rfl,rfl⟩,hG⟩:=hg ⟨0,λ_ _=>undef⟩
 have hv:=qP h hx;have cM:c.args=#[x]:=by rw [<-Array.toArray_toList (xs:=c.args),ha]
 have hty:∀td,(c.argTypes[0]?).bind P.underlying=some td->∃t,c.argTypes[0]?=some t/\P.underlying t=some td:=λtd hb=>by
  cases hq:c.argTypes[0]? with
  |none=>simp [hq] at hb
  |some t=>exact ⟨t,rfl,by simpa [hq] using hb⟩
 have tW:str=false->∀(A:Option Addr) (c':Nat),a.eval x=.slice A n c'->Goes P o a w (ku B w G):=λhf A c' he=>by
  rw [hf] at ht;obtain ⟨e,hb⟩:∃e,(c.argTypes[0]?).bind P.underlying=some (.slice e):=by simpa using ht
  obtain ⟨t,h2,h3⟩:=hty _ hb;refine vU (v:=.int .i64 n) ?_ (by exact rfl) hG
  simp [execOp,ho,resolve,hc,cM,he,invoke,builtin,Builtin.len_,h2,run_underlying h3,goInt]
 have hd:str=false->∀dd:D,dd.isSl=true->0<dd.size->n=dd.len->∀S,Rep w false dd (a.eval x) S->Goes P o a w (ku B w G):=λhf dd k1 k2 k3 S k4=>by
  cases dd with
  |val _=>cases k1
  |sl size ty cs=>
   obtain ⟨A,n',c',vs,S',he,k5,_⟩:=zX k4;obtain rfl:n=n':=by rw [k3];exact jjc k2 k5
   exact tW hf A c' he
 unfold jvX at h1;split at h1
 ·rename_i b he
  have eZ:=jjD h hx he;obtain ⟨t,h2,h3⟩:=hty _ (show (c.argTypes[0]?).bind P.underlying=some .string by simpa using ht)
  subst h1;refine vU (v:=.int .i64 b.size) ?_ (by exact rfl) hG
  simp [execOp,ho,resolve,hc,cM,eZ,invoke,builtin,Builtin.len_,h2,run_underlying h3,goInt]
 ·rename_i he
  have eZ:=jjD h hx he;subst h1;exact tW rfl none 0 eZ
 ·rename_i dd he
  rw [he] at hv;obtain ⟨k1,S,k2,_⟩:=hv;exact hd rfl dd k1 h1.2.1 h1.2.2 S k2
 ·rename_i g c p x'' he
  obtain ⟨dd,k1,k2,k3⟩:=h1;rw [he] at hv;have hv:A0Rel B w (.h g c p x'') (a.eval x):=hv;obtain ⟨S,k4⟩:=jle h hv k1;obtain ⟨_,_,_,_,_,k5⟩:=k1;exact hd rfl dd k5 k2 k3 S k4
 ·rename_i g c p x'' size lo m he
  obtain ⟨⟨dd,d0,η,d1,k1,k2,k3,k4,k5,k6,k7,rfl⟩,rfl⟩:=h1;rw [he] at hv;have hv:a.eval x=jki x'' size lo n\/0<lo/\n=0/\∃A,a.eval x=.slice A 0 0:=hv.1;rcases hv with hv|⟨_,rfl,A,hv⟩;rotate_left
  ·exact tW rfl _ _ hv
  obtain ⟨S,k8,_⟩:=zq h k1 k2 k3 k4;cases d1 with
  |val _=>cases k4
  |sl size' ty cs=>
   obtain ⟨A,n',c',vs,S',hu,_⟩:=zX k8.ro;subst hu;exact tW rfl _ _ hv
 ·exact h1.elim
theorem go_ia (h:RelF B w0 N s a w F) {t e:TypeId} {x i:Operand} {x' i':X} {m:Nat} (ho:o.op=.indexAddr t x i) (ht:P.underlying t=some (.slice e)) (hm:qk P e=some (m+1)) (hx:jQ x=some x') (hi:jQ i=some i')
 (hg:∀st,∃av os,Gen P s d rt st (.ia (m+1) x' i') av os/\G av os):Goes P o a w (ku B w G):=by
 obtain ⟨av,os,⟨k,n,h1,h2,h3,rfl⟩,hG⟩:=hg ⟨0,λ_ _=>undef⟩
 have hv:=qP h hx;have hiv:=jjD h hi h1;obtain ⟨inf,fD,cP⟩:=jkJ hm
 have aV:∀(ad:Addr) (len c:Nat),a.eval x=.slice (some ad) len c->n<len->(execOp a.eval o).run P w=.ok (.value (.pointer (some (ad.add (n.toNat*(m+1)))))) w:=λad len c he aB=>by
  simp [execOp,ho,Instr.indexAt,asIntOf,hiv,he,run_underlying ht,h2,aB,sizeOf,typeInfo,fD,cP]
 split at h3
 ·rename_i dd he
  obtain ⟨k1,k2,k3,rfl⟩:=h3;rw [he] at hv;obtain ⟨_,S,k4,k5⟩:=hv;cases dd with
  |val _=>cases k1
  |sl size ty cs=>
   have k2':size=m+1:=k2;subst k2';obtain ⟨A,n',c',vs,S',hu,k6,k7,k8,k9,_,_,k10⟩:=zX k4;have aD:=jjc (ty:=ty) (by omega:0<m+1) k6
   rw [aD] at k3;have bQ:=RepL.length _ k7;have xO:n.toNat*(m+1)+(m+1)<=n'*(m+1):=by rw [<-Nat.succ_mul];exact aQW _ k3
   obtain ⟨b,o',rfl,hb,k11⟩:=k10 (λe=>by subst e;simp at bQ;omega)
   obtain ⟨S2,k12,k13⟩:=RepL.drop (n.toNat*(m+1)) k7;obtain ⟨S3,k14,k15⟩:=RepL.take (m+1) k12
   refine vU (aV _ _ _ hu (by omega)) (by
    refine ⟨b,o'+n.toNat*(m+1),(vs.drop (n.toNat*(m+1))).take (m+1),S3,by rw [jam],k14,λy hy=>k5 y (k8 y (k13 y (k15 y hy))),λ_=>k5 b hb,λj y hy=>?_⟩
    rw [aPW] at hy;split at hy
    ·rw [aPR] at hy
     rw [aRC];exact k11 _ _ hy
    ·simp at hy) hG
 ·rename_i g c p bT he
  obtain ⟨⟨dd,k1,k2,k3⟩,rfl⟩:=h3;rw [he] at hv;have hv:a.eval x=bT:=hv.1;obtain ⟨d0,η,k4,k5,k6,k7⟩:=k1;obtain ⟨S,k8,_⟩:=zq h k4 k5 k6 k7;cases dd with
  |val _=>cases k7
  |sl size ty cs=>
   have k2':size=m+1:=k2;subst k2';obtain ⟨vs,T,S',k9,k10,_⟩:=k8;have bQ:=RepL.length _ k10;rcases kX k9 with ⟨rfl,rfl⟩|⟨gg,nn,cc,rfl,rfl,k11,_,_⟩
   ·simp at bQ
    simp [D.len,D.cells,<-bQ] at k3
   ·have aD:D.len (.sl (m+1) ty cs)=nn:=jjc (by omega) (by rw [<-bQ];exact k11)
    rw [aD] at k3;refine vU (aV _ _ _ hv (by omega)) (by show _=_;rw [jam];rfl) hG
 ·rename_i g c p bT sz lo m' he
  obtain ⟨⟨dd,d0,η,d1,k4,k5,k6,k7,k8,k9,k10,rfl⟩,rfl,k3,rfl⟩:=h3;rw [he] at hv;have hv:a.eval x=jki bT (m+1) lo m':=hv.1.resolve_right λ⟨_,oO,_⟩=>by omega
  obtain ⟨S,k11,_⟩:=zq h k4 k5 k6 k7;cases d1 with
  |val _=>cases k7
  |sl size ty cs=>
   have k8':size=m+1:=k8;subst k8';obtain ⟨vs,T,S',k12,k13,_⟩:=k11;have bQ:=RepL.length _ k13;rcases kX k12 with ⟨rfl,rfl⟩|⟨gg,nn,cc,rfl,rfl,k14,_,_⟩
   ·simp at bQ
    simp [D.len,D.cells,<-bQ] at k10;omega
   ·have aD:D.len (.sl (m+1) ty cs)=nn:=jjc (by omega) (by rw [<-bQ];exact k14)
    rw [aD] at k10;obtain ⟨nv,cA,_⟩:=k12;obtain ⟨_,⟨h,_⟩|⟨g1,cap,cur,mU,_,_,aDO,_⟩⟩:=cA
    ·cases h
    ·cases mU
     have aJ:cc≠lo:=by omega
     simp only [jki,if_neg aJ,Option.map_some] at hv
     refine vU (aV _ _ _ hv (by omega)) (by
      show _=_;rw [jam,jam,aRB,aPH];simp [jcn]) hG
 ·exact h3.elim
theorem go_sidx (h:RelF B w0 N s a w F) {t:TypeId} {x i:Operand} {x' i':X} (ho:o.op=.index t x i) (ht:P.underlying t=some .string) (hx:jQ x=some x') (hi:jQ i=some i')
 (hg:∀st,∃av os,Gen P s d rt st (.sidx x' i') av os/\G av os):Goes P o a w (ku B w G):=by
 obtain ⟨av,os,⟨b,k,n,u,h1,h2,h3,h4,rfl,rfl⟩,hG⟩:=hg ⟨0,λ_ _=>undef⟩
 refine vU (v:=.int .u8 u.toNat) ?_ (by exact rfl) hG
 simp [execOp,ho,Instr.index,asIntOf,jjD h hx h1,jjD h hi h2,run_underlying ht,h3,h4]
theorem go_mm (h:RelF B w0 N s a w F) {c:Call} {mx:Bool} {x y:Operand} {x' y':X} (ho:o.op=.call c) (hc:c.callee=.builtin (if mx then .max else .min)) (ha:c.args.toList=[x,y]) (hx:jQ x=some x') (hy:jQ y=some y')
 (hg:∀st,∃av os,Gen P s d rt st (.mm mx x' y') av os/\G av os):Goes P o a w (ku B w G):=by
 obtain ⟨av,os,⟨k,k',m,n,h1,h2,rfl,rfl⟩,hG⟩:=hg ⟨0,λ_ _=>undef⟩
 have cM:c.args=#[x,y]:=by rw [<-Array.toArray_toList (xs:=c.args),ha]
 refine vU (v:=.int k (if mx then (if n>m then n else m) else (if n<m then n else m))) ?_ (by exact rfl) hG
 cases mx
 ·simp at hc
  simp [execOp,ho,resolve,hc,cM,jjD h hx h1,jjD h hy h2,invoke,builtin,Builtin.min_,Builtin.min2]
 ·simp at hc
  simp [execOp,ho,resolve,hc,cM,jjD h hx h1,jjD h hy h2,invoke,builtin,Builtin.max_,Builtin.max2]
theorem go_un (h:RelF B w0 N s a w F) {op:UnOp} {t:TypeId} {x:Operand} {x':X} (ho:o.op=.unOp op t x) (hx:jQ x=some x')
 (hg:∀st,∃av os,Gen P s d rt st (.un op x') av os/\G av os):Goes P o a w (ku B w G):=by
 obtain ⟨av,os,⟨h1,rfl⟩,hG⟩:=hg ⟨0,λ_ _=>undef⟩
 cases op with
 |not=>
  obtain ⟨b,h2,rfl⟩:=h1;refine vU (v:=.bool (!b)) ?_ (by exact rfl) hG
  simp [execOp,ho,jjD h hx h2,Op.unary]
 |neg=>
  obtain ⟨k,n,h2,rfl⟩:=h1;refine vU (v:=.int k (k.wrap (0-n))) ?_ (by exact rfl) hG
  simp [execOp,ho,jjD h hx h2,Op.unary,Op.intArith]
 |_=>exact h1.elim
theorem go_beq (h:RelF B w0 N s a w F) {neg:Bool} {t t':TypeId} {x y:Operand} {x' y':X} (ho:o.op=.binOp (if neg then .neq else .eql) t x y t') (ht:P.underlying t=some .bool) (hx:jQ x=some x') (hy:jQ y=some y')
 (hg:∀st,∃av os,Gen P s d rt st (.beq neg x' y') av os/\G av os):Goes P o a w (ku B w G):=by
 obtain ⟨av,os,⟨b,c,h1,h2,rfl,rfl⟩,hG⟩:=hg ⟨0,λ_ _=>undef⟩
 refine vU (v:=.bool (if neg then !(b==c) else b==c)) ?_ (by exact rfl) hG
 cases neg
 ·simp at ho
  simp [execOp,ho,jjD h hx h1,jjD h hy h2,eqGuard,binOp,run_equal_bool (P:=P) w t b c ht]
 ·simp at ho
  simp [execOp,ho,jjD h hx h1,jjD h hy h2,eqGuard,binOp,run_equal_bool (P:=P) w t b c ht]
end
section
variable {P:Program} {B N:Nat} {w w0:World} {s:St} {a:Act} {F:Nat->List Nat} {o:Oper} {G:AV->List (Nat×Ob)->Prop} {d:Nat} {rt:RT}
theorem jC7 {op:BinOp} {t:TypeId} {k k':IntKind} {m n:Int} (h:jAP op k k' n):(binOp op t (.int k m) (.int k' n)).run P w=.ok (jcB op k m n) w:=by
 cases op with
 |shl=>have h:0<=n:=h;have h':¬n<0:=by omega
       simp [binOp,Op.shift,h',jcB]
 |shr=>have h:0<=n:=h;have h':¬n<0:=by omega
       simp [binOp,Op.shift,h',jcB]
 |quo=>obtain ⟨rfl,h⟩:=h
       simp [binOp,Op.intDiv,h,jcB]
 |rem=>obtain ⟨rfl,h⟩:=h
       simp [binOp,Op.intDiv,h,jcB]
 |_=>
  obtain rfl:k=k':=h;simp [binOp,Op.intArith,Op.intBits,Op.intCmp,jcB]
theorem go_bin (h:RelF B w0 N s a w F) {op:BinOp} {t t':TypeId} {x y:Operand} {x' y':X} (ho:o.op=.binOp op t x y t') (hx:jQ x=some x') (hy:jQ y=some y')
 (hg:∀st,∃av os,Gen P s d rt st (.bin op t x' y') av os/\G av os):Goes P o a w (ku B w G):=by
 obtain ⟨av,os,⟨h1,rfl⟩,hG⟩:=hg ⟨0,λ_ _=>undef⟩
 rcases h1 with ⟨u,v,r,h2,h3,h4,rfl⟩|⟨l,m,xs,ys,b,h2,h3,h4,h5,h6,rfl⟩
 ·have e1:=jjD h hx h2
  have e2:=jjD h hy h3;refine vU (v:=r) ?_ (by exact rfl) hG
  unfold jEG at h4;split at h4
  ·obtain ⟨h5,rfl⟩:=h4
   have hr:=λm=>jC7 (P:=P) (w:=w) (t:=t) (m:=m) h5
   cases op<;>simp [execOp,ho,e1,e2,eqGuard,hr]
  ·split at h4
   ·obtain ⟨h5,rfl⟩:=h4
    unfold maxLen at h5;rename_i b1 b2 _;have h6:¬((9223372036854775807:Int)<(b1.size:Int)+(b2.size:Int)):=by omega
    simp [execOp,ho,e1,e2,eqGuard,binOp,Op.stringOp,IntKind.max];simp [IntKind.signed,IntKind.bits];omega
   ·subst h4
    simp [execOp,ho,e1,e2,eqGuard,binOp,Op.stringOp]
   ·subst h4
    simp [execOp,ho,e1,e2,eqGuard,binOp,Op.stringOp]
   ·exact h4.elim
  ·exact h4.elim
 ·have gM:=qP h hx
  have sK:=qP h hy;rw [h2] at gM;rw [h3] at sK;obtain ⟨us,e1,k1⟩:=gM;obtain ⟨vs,e2,k2⟩:=sK
  have key:∀(l:List A0) (us xs:List Value),A0RelL B w l us->jc2 l=some xs->us=xs:=by
   intro l
   induction l with
   |nil=>intro us xs k1 k2;simp [jc2] at k2;subst k2;exact k1
   |cons a0 l ih=>
    intro us xs k1 k2;obtain ⟨u,us',rfl,k3,k4⟩:=k1;cases a0 with
    |v x=>
     simp only [jc2] at k2;split at k2
     ·simp at k2;subst k2
      rw [show u=x from k3,ih us' _ k4 (by assumption)]
     ·simp at k2
    |_=>simp [jc2] at k2
  obtain rfl:=key l us xs k1 h4;obtain rfl:=key m vs ys k2 h5;obtain ⟨h7,h8⟩:=h6 w;refine vU (v:=.bool b) ?_ (by exact rfl) hG
  simp [execOp,ho,e1,e2,h7,h8]
theorem go_num (h:RelF B w0 N s a w F) {t t':TypeId} {x:Operand} {x':X} {k0 k:IntKind} {e:Nat} (ho:o.op=.convert t t' x) (ht:P.underlying t=some (.int k0)) (dN:P.underlying t'=some (.int k)) (hx:jQ x=some x')
 (hg:∀st,∃av os,Gen P s d rt st (.cv (.num k) e x') av os/\G av os):Goes P o a w (ku B w G):=by
 obtain ⟨av,os,⟨⟨k',n,h1,rfl⟩,rfl⟩,hG⟩:=hg ⟨0,λ_ _=>undef⟩
 refine vU (v:=.int k (k.wrap n)) ?_ (by exact rfl) hG
 simp [execOp,ho,convert,run_underlying ht,run_underlying dN,jjD h hx h1,Conv.intToInt]
theorem go_text (h:RelF B w0 N s a w F) {t t' e:TypeId} {x:Operand} {x':X} (ho:o.op=.convert t t' x) (ht:P.underlying t=some (.slice e)) (he:P.underlying e=some (.int .u8)) (dN:P.underlying t'=some .string) (hx:jQ x=some x')
 (hg:∀st,∃av os,Gen P s d rt st (.cv .text e x') av os/\G av os):Goes P o a w (ku B w G):=by
 obtain ⟨av,os,⟨⟨a0,ty,bs,h1,h2,rfl⟩,rfl⟩,hG⟩:=hg ⟨0,λ_ _=>undef⟩
 have hv:=qP h hx;rw [h1] at hv;obtain ⟨S,h3⟩:=jle h hv h2;obtain ⟨A,n,c,vs,S',hu,h4,h5,_,_,_,h6,h7⟩:=zX h3;simp only [aPA,aOG] at h4;subst h4;refine vU (v:=.string ⟨bs.toArray⟩) ?_ (by exact rfl) hG
 have mK:vs=bs.map λb=>.int .u8 (b.toNat:Int):=by
  have key:∀(bs:List UInt8) (vs:List Value) (S:List Nat),RepL w false (bs.map qe) vs S->vs=bs.map λb=>.int .u8 (b.toNat:Int):=by
   intro bs
   induction bs with
   |nil=>intro vs S h;exact h.1
   |cons b bs ih=>
    intro vs S h;obtain ⟨v,vs',S1,S2,rfl,_,k1,k2⟩:=h;rw [aPB,<-ih vs' S2 k2,show v=.int .u8 (b.toNat:Int) from k1.1]
  exact key bs vs S' h5
 have aV:(convert t t' (.slice A bs.length c)).run P w=.ok (.string ⟨bs.toArray⟩) w:=by
  cases A with
  |none=>
   have:=h6 rfl;subst this
   have hn:bs=[]:=by
    cases bs with
    |nil=>rfl
    |cons b bs=>
     obtain ⟨_,_,k1,_⟩:=h7 (by rw [mK];simp)
     cases k1
   subst hn;exact run_convert_bytes_nil w t e ht he _ _ t' dN
  |some ad=>
   by_cases aJ:bs=[]
   ·subst aJ
    rw [run_convert_bytes_string w t t' e _ _ _ ht he dN,run_bytesToString w _ _ _ [] (by simp [loadCells,loadCellsFrom])]
    simp;rfl
   ·obtain ⟨b,off,hA,_,h8⟩:=h7 (by rw [mK];simpa using aJ)
    cases hA;rw [run_convert_bytes_string w t t' e _ _ _ ht he dN,run_bytesToString w _ _ _ (bs.map λb=>(b.toNat:Int)) ?_]
    ·rw [foldl_push_bytes]
     simp [ByteArray.empty,ByteArray.emptyWithCapacity];show []++_=_;rw [aOQ]
     conv=>rhs;rw [<-List.map_id bs]
     exact List.map_congr_left λb _=>by simp
    ·have:=run_loadCells_list (P:=P) w ⟨b,off,none⟩ vs (λj v hj=>by rw [jam];exact h8 j v hj)
     rw [mK] at this;simpa [Function.comp_def] using this
 simp only [execOp,ho,hu,Sem.run_bind,aV,Result.andThen];rfl
theorem jtu (k:Option (Nat×Nat)) (x:Value):Rep w true (jre k x) x []:=by
 unfold jre;split
 ·exact Rep.nil_ _ _ _
 ·exact ⟨rfl,rfl⟩
theorem jr3:∀(ks:List (Option (Nat×Nat))) (l:List Value),RepL w true (jve ks l) l []
 |_,[]=>⟨rfl,rfl⟩
 |ks,x::l=>⟨x,l,[],[],rfl,rfl,jtu _ _,jr3 ks.tail l⟩
theorem go_mks (h:RelF B w0 N s a w F) {t e:TypeId} {l c:Operand} {l' c':X} {i:TypeInfo} {zs:List Value} {ks:List (Option (Nat×Nat))} (ho:o.op=.makeSlice t l c) (ht:P.underlying t=some (.slice e)) (hi:P.info? e=some i) (hz:vE P e=some zs) (hs:0<i.size) (hl:jQ l=some l') (hc:jQ c=some c')
 (hg:∀st,∃av os,Gen P s d rt st (.mks e i.size i.bytes (jve ks zs) l' c') av os/\G av os):Goes P o a w (ku B w G):=by
 obtain ⟨_,_,⟨k,k',n,h1,h2,h3,h4,_⟩,_⟩:=hg ⟨0,λ_ _=>undef⟩
 unfold vE at hz;rw [hi] at hz;simp only at hz;split at hz
 ·rename_i z l0
  split at hz
  ·rename_i nL
   simp only [aOF,aOJ] at nL;simp at hz;subst hz;obtain ⟨w',hr,r1,r2⟩:=run_make_full (P:=P) w 0 t e i z i.size ht hi l0 rfl k k' n h3 h4 (aOL _);obtain ⟨av,os,⟨k2,k2',n2,cW,bI,_,_,rfl,rfl⟩,hG⟩:=hg ⟨0,λ_ p=>hdr w' p (.sl i.size e ((List.replicate n (jve ks z.cells.toList)).flatten)) (.slice (some ⟨w.heap.size,0,none⟩) n n)⟩
   rw [h1] at cW
   have sR:n=n2:=by
    have:=cW;simp at this;omega
   subst sR
   have aV:(execOp a.eval o).run P w=.ok (.value (.slice (some ⟨w.heap.size,0,none⟩) n n)) w':=by
    simp [execOp,ho,jjD h hl h1,jjD h hc h2,hr]
   have bE:Rep w' true (.sl i.size e ((List.replicate n (jve ks z.cells.toList)).flatten)) (.slice (some ⟨w.heap.size,0,none⟩) n n) [w.heap.size]:=by
    have h5:(madeCells z.cells (n*i.size)).toList=(List.replicate n z.cells.toList).flatten:=by
     apply aPY
     intro j;by_cases hj:j<n*i.size
     ·rw [zW (by simp [nL.1]) hs n j hj]
      simp [madeCells,hj,nL.1];rw [Array.getElem?_eq_getElem (by rw [nL.1];exact Nat.mod_lt _ hs)]
      simp only [Option.some.injEq];exact getElem!_pos _ _ _
     ·rw [aPN (by simp [madeCells];omega),aPN (by simp [nL.1];omega)]
    rw [h5] at r1
    have key:∀(n:Nat),RepL w' true (List.replicate n (jve ks z.cells.toList)).flatten (List.replicate n z.cells.toList).flatten []:=by
     intro n
     induction n with
     |zero=>exact ⟨rfl,rfl⟩
     |succ n ih=>
      simp only [List.replicate_succ,aQY];have:=RepL.append_ (jve ks z.cells.toList) (jr3 (w:=w') ks z.cells.toList) ih;simpa using this
    exact ⟨_,[w.heap.size],[],⟨n,r1,rfl⟩,key _,rfl⟩
   have hn:jcV B w' [(100*d,.loose (.sl i.size e ((List.replicate n (jve ks z.cells.toList)).flatten)) (λp=>hdr w' p (.sl i.size e ((List.replicate n (jve ks z.cells.toList)).flatten)) (.slice (some ⟨w.heap.size,0,none⟩) n n)))] [w.heap.size]:=
    ⟨[w.heap.size],[],rfl,⟨rfl,_,bE,λ_=>rfl⟩,rfl⟩
   exact mk_ aV (by exact ⟨rfl,rfl⟩) hn (Fresh.one _ _ (aOC _)) (jq1 r2) hG
  ·simp at hz
 ·simp at hz
theorem A0RelL.drop_:∀{l:List A0} {us:List Value} (k:Nat),A0RelL B w l us->A0RelL B w (l.drop k) (us.drop k)
 |_,_,0,h=>h
 |[],_,_+1,h=>by rw [show _=_ from h];rfl
 |_::_,_,k+1,⟨_,us',h1,_,h3⟩=>by subst h1;exact A0RelL.drop_ k h3
theorem A0RelL.take_:∀{l:List A0} {us:List Value} (k:Nat),A0RelL B w l us->A0RelL B w (l.take k) (us.take k)
 |_,_,0,_=>rfl
 |[],_,_+1,h=>by rw [show _=_ from h];rfl
 |_::_,_,k+1,⟨u,us',h1,h2,h3⟩=>by subst h1;exact ⟨u,us'.take k,rfl,h2,A0RelL.take_ k h3⟩
theorem go_fld (h:RelF B w0 N s a w F) {t:TypeId} {x:Operand} {x':X} {f n:Nat} {agg:Bool} {fs:Array Field} {fd:Field} {dsc:TypeDesc} (ho:o.op=.field t x f) (ht:P.underlying t=some (.struct fs)) (hf:fs[f]?=some fd) (hu:P.underlying fd.type=some dsc) (gW:agg=jEK dsc) (hn:qk P fd.type=some n) (hx:jQ x=some x')
 (hg:∀st,∃av os,Gen P s d rt st (.fld agg fd.offset n x') av os/\G av os):Goes P o a w (ku B w G):=by
 obtain ⟨av,os,⟨l,h1,h2,h3,rfl⟩,hG⟩:=hg ⟨0,λ_ _=>undef⟩
 have hv:=qP h hx;rw [h1] at hv;obtain ⟨us,he,hr⟩:=hv;obtain ⟨i,hi,bW⟩:=jkJ hn;have hl:=A0RelL.len hr;have hp:A0RelL B w ((l.drop fd.offset).take n) ((us.drop fd.offset).take n):=(hr.drop_ _).take_ _;cases agg with
 |true=>
  obtain rfl:av=.agg ((l.drop fd.offset).take n):=by simpa using h3
  have eY:(isAgg fd.type).run P w=.ok true w:=by
   simp only [isAgg,Sem.run_bind,run_underlying hu];cases dsc<;>first|rfl|cases gW
  refine vU (v:=.agg ((us.drop fd.offset).take n).toArray) ?_ (by exact ⟨_,rfl,hp⟩) hG
  simp [execOp,ho,Instr.field,run_underlying ht,hf,he,asAgg,part,eY,sizeOf,typeInfo,hi,bW,List.extract_eq_take_drop]
 |false=>
  obtain ⟨a0,e0,rfl⟩:∃a0,(l.drop fd.offset).take n=[a0]/\av=.c a0:=by simpa using h3
  rw [e0] at hp;obtain ⟨u,us',k0,k1,k2⟩:=hp
  have eY:(isAgg fd.type).run P w=.ok false w:=by
   simp only [isAgg,Sem.run_bind,run_underlying hu];cases dsc<;>first|rfl|cases gW
  have fP:us[fd.offset]?=some u:=by
   have e1:((us.drop fd.offset).take n)[0]?=some u:=by rw [k0];rfl
   have nC:0<n:=by
    rcases Nat.eq_zero_or_pos n with h0|h0
    ·subst h0;simp at e0
    ·exact h0
   rw [aPW,if_pos nC,aPR,aOO] at e1;exact e1
  refine vU (v:=u) ?_ (by exact k1) hG
  simp [execOp,ho,Instr.field,run_underlying ht,hf,he,asAgg,part,eY,fP]
theorem go_ext (h:RelF B w0 N s a w F) {x:Operand} {x':X} {i:Nat} (ho:o.op=.extract x i) (hx:jQ x=some x') (hg:∀st,∃av os,Gen P s d rt st (.ext x' i) av os/\G av os):Goes P o a w (ku B w G):=by
 obtain ⟨av,os,⟨l,b,az,h1,h2,h3,rfl⟩,hG⟩:=hg ⟨0,λ_ _=>undef⟩
 have hv:=qP h hx;rw [h1] at hv;obtain ⟨us,he,hr⟩:=hv
 have key:∀(l:List (Bool×List A0)) (us:List Value) (i:Nat),TRelL B w l us->l[i]?=some (b,az)->∃u xs,us[i]?=some u/\A0RelL B w az xs/\(if b then u=.agg xs.toArray else xs=[u]):=by
  intro l
  induction l with
  |nil=>intro _ _ _ h;simp at h
  |cons x l ih=>
   intro us i hr hi;obtain ⟨b',as'⟩:=x;obtain ⟨u,us',xs,rfl,k1,k2,k3⟩:=hr;cases i with
   |zero=>simp at hi;obtain ⟨rfl,rfl⟩:=hi;exact ⟨u,xs,rfl,k1,k2⟩
   |succ i=>exact ih us' i k3 (by simpa using hi)
 obtain ⟨u,xs,k1,k2,k3⟩:=key l us i hr h2;refine vU (v:=u) (by simp [execOp,ho,he,Instr.extract,k1]) ?_ hG
 cases b with
 |true=>
  obtain rfl:av=.agg az:=by simpa using h3
  exact ⟨xs,by simpa using k3,k2⟩
 |false=>
  obtain ⟨a0,rfl,rfl⟩:∃a0,az=[a0]/\av=.c a0:=by simpa using h3
  obtain rfl:xs=[u]:=by simpa using k3
  obtain ⟨u',us',k4,k5,_⟩:=k2;cases k4;exact k5
theorem go_mkf (h:RelF B w0 N s a w F) {f:Nat} {first caps:Array Operand} {l:List X} (ho:o.op=.makeFunc (.func f) first caps) (hf:first=#[]) (hc:zE caps.toList=some l) (hg:∀st,∃av os,Gen P s d rt st (.mkf f l) av os/\G av os):Goes P o a w (ku B w G):=by
 obtain ⟨av,os,⟨az,h1,rfl,rfl⟩,hG⟩:=hg ⟨0,λ_ _=>undef⟩
 have key:∀(cs:List Operand) (l:List X) (az:List A0),zE cs=some l->jcF s l=some az->A0RelL B w az (cs.map a.eval):=by
  intro cs
  induction cs with
  |nil=>intro l az k1 k2;simp [zE] at k1;subst k1;simp [jcF] at k2;subst k2;rfl
  |cons c cs ih=>
   intro l az k1 k2;simp only [zE] at k1;split at k1
   ·rename_i c' l' k3 k4
    simp at k1;subst k1;simp only [jcF] at k2;split at k2
    ·rename_i a0 r k5 k6
     simp at k2;subst k2;have:=qP h k3;rw [k5] at this;exact ⟨a.eval c,_,rfl,this,ih l' r k4 k6⟩
    ·simp at k2
   ·simp at k1
 refine vU (v:=.func (.func f) #[] (caps.map a.eval)) (by simp [execOp,ho,hf,Instr.makeFunc]) ?_ hG
 exact ⟨caps.toList.map a.eval,by rw [<-Array.toList_map,Array.toArray_toList],key _ _ _ hc h1⟩
end
section
variable {P:Program} {B N:Nat} {w w0:World} {s:St} {a:Act} {F:Nat->List Nat} {o:Oper} {G:AV->List (Nat×Ob)->Prop} {d:Nat} {rt:RT}
theorem jbD {isSl:Bool} {len cap l h:Nat} {lo hi:Option Value} (hl:(lo=none/\l=0)\/∃k,lo=some (.int k (l:Int))) (hh:(hi=none/\h=len)\/∃k,hi=some (.int k (h:Int))) (h1:l<=h) (h2:h<=cap):
 (Instr.sliceBounds isSl len cap lo hi none).run P w=.ok (l,h,cap) w:=by
 have e1:(l:Int)<=(h:Int):=by omega
 have e2:(h:Int)<=(cap:Int):=by omega
 rcases hl with ⟨rfl,rfl⟩|⟨k,rfl⟩<;>rcases hh with ⟨rfl,rfl⟩|⟨k',rfl⟩<;>simp [Instr.sliceBounds,Instr.sliceBound,asIntOf,h1,h2]
theorem vQ (h:RelF B w0 N s a w F) {x:Option Operand} {x':Option X} {dflt n:Nat} (hx:(x=none/\x'=none)\/∃y y',x=some y/\x'=some y'/\jQ y=some y') (hb:jhK s x' dflt n):
 (x.map a.eval=none/\n=dflt)\/∃k,x.map a.eval=some (.int k (n:Int)):=by
 rcases hx with ⟨rfl,rfl⟩|⟨y,y',rfl,rfl,h1⟩
 ·exact .inl ⟨rfl,hb⟩
 ·obtain ⟨k,h2⟩:=hb
  exact .inr ⟨k,by simp [jjD h h1 h2]⟩
theorem go_sl_str (h:RelF B w0 N s a w F) {t:TypeId} {x:Operand} {x':X} {lo hi:Option Operand} {lo' nG:Option X} (ho:o.op=.slice t x lo hi none) (ht:P.underlying t=some .string) (hx:jQ x=some x')
 (sU:(lo=none/\lo'=none)\/∃y y',lo=some y/\lo'=some y'/\jQ y=some y') (oW:(hi=none/\nG=none)\/∃y y',hi=some y/\nG=some y'/\jQ y=some y')
 (hg:∀st,∃av os,Gen P s d rt st (.sl 0 x' lo' nG) av os/\G av os):Goes P o a w (ku B w G):=by
 obtain ⟨av,os,⟨l,hh,h1,h2,h3,rfl⟩,hG⟩:=hg ⟨0,λ_ _=>undef⟩
 split at h3
 ·rename_i b he
  obtain ⟨_,h4,h5,rfl⟩:=h3;have hb:=jbD (P:=P) (w:=w) (isSl:=false) (vQ h sU h1) (vQ h oW h4) h2 h5;refine vU (v:=.string (b.extract l hh)) ?_ (by exact rfl) hG
  simp [execOp,ho,Instr.sliceAt,run_underlying ht,Instr.slice,jjD h hx he,hb]
 ·rename_i dd he
  exact absurd h3.1 (by omega)
 ·rename_i dd he
  exact absurd h3.1 (by omega)
 ·obtain ⟨⟨_,_,_,_,_,_,_,_,_,h6,_⟩,h7,_⟩:=h3
  omega
 ·exact h3.elim
theorem go_sl_ro (h:RelF B w0 N s a w F) {t e:TypeId} {x:Operand} {x':X} {lo hi:Option Operand} {lo' nG:Option X} {m:Nat} (ho:o.op=.slice t x lo hi none) (ht:P.underlying t=some (.slice e)) (hm:qk P e=some (m+1)) (hx:jQ x=some x')
 (sU:(lo=none/\lo'=none)\/∃y y',lo=some y/\lo'=some y'/\jQ y=some y') (oW:(hi=none/\nG=none)\/∃y y',hi=some y/\nG=some y'/\jQ y=some y')
 (hg:∀st,∃av os,Gen P s d rt st (.sl (m+1) x' lo' nG) av os/\G av os):Goes P o a w (ku B w G):=by
 obtain ⟨av,os,⟨l,hh,h1,h2,h3,rfl⟩,hG⟩:=hg ⟨0,λ_ _=>undef⟩
 have hv:=qP h hx;obtain ⟨inf,fD,cP⟩:=jkJ hm;split at h3
 ·rename_i b he
  exact absurd h3.1 (by omega)
 ·rename_i dd he
  obtain ⟨_,k1,k2,h4,h5,rfl⟩:=h3;rw [he] at hv;obtain ⟨_,S,k3,k4⟩:=hv;cases dd with
  |val _=>cases k1
  |sl size ty cs=>
   have k2':size=m+1:=k2;subst k2';obtain ⟨A,n,c,vs,S',hu,k5,_,_,k6,_⟩:=zX k3;have aD:=jjc (ty:=ty) (by omega:0<m+1) k5
   rw [aD] at h4 h5;rw [hu] at k3;obtain ⟨S2,k7,k8⟩:=jxi (by omega) k3 k4 h2 h5
   have hb:=jbD (P:=P) (w:=w) (isSl:=true) (len:=n) (cap:=c) (vQ h sU h1) (vQ h oW h4) h2 (by omega)
   refine vU (v:=.slice (if c=l then A else A.map (·.add (l*(m+1)))) (hh-l) (c-l)) ?_ (by exact ⟨rfl,S2,k7,k8⟩) hG
   simp [execOp,ho,Instr.sliceAt,run_underlying ht,Instr.slice,hu,hb,sizeOf,typeInfo,fD,cP]
 ·rename_i g c p bT he
  obtain ⟨_,⟨dd,⟨d0,η,k1,k2,k3,k4⟩,k5,h4,h5⟩,rfl⟩:=h3;rw [he] at hv;have hv:a.eval x=bT:=hv.1;obtain ⟨S,k6,_⟩:=zq h k1 k2 k3 k4;cases dd with
  |val _=>cases k4
  |sl size ty cs=>
   have k5':size=m+1:=k5;subst k5';obtain ⟨A,n,c,vs,S',hu,k7,_⟩:=zX k6.ro;have aD:=jjc (ty:=ty) (by omega:0<m+1) k7
   rw [aD] at h4 h5;obtain ⟨A2,n2,c2,_,_,wW,_,_,_,mR,_⟩:=zX k6.ro;rw [hu] at wW;cases wW;have hb:=jbD (P:=P) (w:=w) (isSl:=true) (len:=n) (cap:=c) (vQ h sU h1) (vQ h oW h4) h2 (by omega)
   refine vU (v:=jki bT (m+1) l (hh-l)) ?_ (by exact ⟨.inl rfl,by rw [hu];rfl⟩) hG
   simp [execOp,ho,Instr.sliceAt,run_underlying ht,Instr.slice,hv,hu,hb,sizeOf,typeInfo,fD,cP,jki]
 ·rename_i g c p bT sz lo m' he
  obtain ⟨⟨dd,d0,η,d1,k1,k2,k3,k4,k5,k6,k7,rfl⟩,rfl,h4,h5,rfl⟩:=h3;rw [he] at hv;have hv:a.eval x=jki bT (m+1) lo m'\/0<lo/\m'=0/\∃A,a.eval x=.slice A 0 0:=hv.1;rcases hv with hv|⟨aJC,rfl,A,hv⟩;rotate_left
  ·have hb:=jbD (P:=P) (w:=w) (isSl:=true) (len:=0) (cap:=0) (vQ h sU h1) (vQ h oW h4) h2 (by omega)
   obtain rfl:hh=0:=by omega
   obtain rfl:l=0:=by omega
   refine vU (v:=.slice A 0 0) ?_ (by exact ⟨.inr ⟨by omega,rfl,A,rfl⟩,rfl⟩) hG
   simp [execOp,ho,Instr.sliceAt,run_underlying ht,Instr.slice,hv,hb,sizeOf,typeInfo,fD,cP]
  obtain ⟨S,k8,_⟩:=zq h k1 k2 k3 k4;cases d1 with
  |val _=>cases k4
  |sl size ty cs=>
   have k5':size=m+1:=k5;subst k5';obtain ⟨A,n,c,vs,S',hu,k9,_,_,mR,_⟩:=zX k8.ro;have aD:=jjc (ty:=ty) (by omega:0<m+1) k9
   rw [aD] at k7;rw [hu] at hv;simp only [jki] at hv;have hb:=jbD (P:=P) (w:=w) (isSl:=true) (len:=m') (cap:=c-lo) (vQ h sU h1) (vQ h oW h4) h2 (by omega)
   refine vU (v:=.slice (if c-lo=l then (if c=lo then A else A.map (·.add (lo*(m+1)))) else (if c=lo then A else A.map (·.add (lo*(m+1)))).map (·.add (l*(m+1)))) (hh-l) (c-lo-l)) ?_ (by
    refine ⟨?_,rfl⟩;rw [hu];simp only [jki];by_cases cV:c-lo=l
    ·rw [if_pos cV]
     obtain rfl:hh=l:=by omega
     by_cases hz:lo+hh=0
     ·obtain rfl:lo=0:=by omega
      obtain rfl:hh=0:=by omega
      obtain rfl:c=0:=by omega
      left;simp
     ·right
      refine ⟨by omega,by omega,_,by rw [show hh-hh=0 by omega,show c-lo-hh=0 by omega]⟩
    ·left
     have h8:c≠lo:=by omega
     have h9:¬c=lo+l:=by omega
     rw [if_neg cV,if_neg h8,if_neg h9];rw [Nat.sub_sub]
     congr 1
     cases A with
     |none=>rfl
     |some ad=>simp [Addr.add_add,aRB]) hG
   simp [execOp,ho,Instr.sliceAt,run_underlying ht,Instr.slice,hv,hb,sizeOf,typeInfo,fD,cP]
 ·exact h3.elim
theorem jpr {α:Type}:∀(l:List α) (cs:List α) (k:Nat),(ky cs k l).length=cs.length
 |[],_,_=>rfl
 |x::l,cs,k=>by rw [ky,jpr l];simp
theorem A0RelL.set:∀{l:List A0} {us:List Value} {k:Nat} {a0:A0} {u:Value},A0RelL B w l us->A0Rel B w a0 u->A0RelL B w (l.set k a0) (us.set k u)
 |[],us,_,_,_,h,_=>by rw [show us=[] from h];rfl
 |_::_,_,0,_,u,⟨u',us',h1,h2,h3⟩,hu=>by subst h1;exact ⟨u,us',rfl,hu,h3⟩
 |_::_,_,k+1,_,_,⟨u',us',h1,h2,h3⟩,hu=>by subst h1;exact ⟨u',_,rfl,h2,A0RelL.set h3 hu⟩
theorem A0RelL.setAt_:∀{m:List A0} {xs:List Value} {l:List A0} {us:List Value} {k:Nat},A0RelL B w l us->A0RelL B w m xs->A0RelL B w (ky l k m) (ky us k xs)
 |[],xs,_,_,_,h,hm=>by rw [show xs=[] from hm];exact h
 |_::_,_,_,_,k,h,⟨u',us',h1,h2,h3⟩=>by subst h1;have:=A0RelL.setAt_ (k:=k+1) (h.set (k:=k) h2) h3;exact this
theorem jij (off:Nat):∀(xs:List Value) (k:Nat) (us:List Value),(xs.zipIdx k).foldl (λcs (p:Value×Nat)=>cs.setIfInBounds (off+p.2) p.1) us.toArray=(ky us (off+k) xs).toArray
 |[],_,_=>rfl
 |x::xs,k,us=>by
  rw [List.zipIdx_cons,aQI,ky];have:us.toArray.setIfInBounds (off+k) x=(us.set (off+k) x).toArray:=by simp
  simp only [this];rw [jij off xs (k+1) _];rfl
theorem jtQ (h:RelF B w0 N s a w F) {place:Nat->Option (Nat×Nat)}:∀{parts:List (Nat×Operand)} {ps:List (Nat×Nat×X)} {l l':List A0} {us:List Value},jdA place parts=some ps->A0RelL B w l us->jjC s l ps=some l'->
 ∃us':List Value,Instr.fill place us.toArray (parts.map λp=>(p.1,a.eval p.2))=some us'.toArray/\A0RelL B w l' us'
 |[],ps,l,l',us,h1,h2,h3=>by
  simp [jdA] at h1;subst h1;simp [jjC] at h3;subst h3;exact ⟨us,rfl,h2⟩
 |(i,x)::parts,ps,l,l',us,h1,h2,h3=>by
  simp only [jdA] at h1;split at h1
  ·rename_i off n x' ps' k1 k2 k3
   simp at h1;subst h1;simp only [jjC] at h3;split at h3
   ·rename_i m k4
    split at h3
    ·rename_i k5
     obtain ⟨xs,k6,k7⟩:=VRel.cells (qP h k2) k4;obtain ⟨us',k8,k9⟩:=jtQ h k3 (h2.setAt_ k7 (k:=off)) h3;refine ⟨us',?_,k9⟩;have f8:=A0RelL.len k7;have nW:=A0RelL.len h2;have e1:¬(xs.length≠n\/us.length<off+xs.length):=by omega
     have e2:=jij off xs 0 us;simp only [aOO] at e2;simp only [aPB,Instr.fill,k1,k6];rw [if_neg (by simpa using e1)]
     rw [<-Array.foldl_toList,Array.toList_zipIdx];rw [show (xs.toArray.toList.zipIdx 0)=xs.zipIdx 0 from rfl,e2]
     exact k8
    ·simp at h3
   ·simp at h3
  ·simp at h1
theorem go_bld (h:RelF B w0 N s a w F) {t:TypeId} {parts:Array (Nat×Operand)} {fs:Array Field} {zs:List Value} {ps:List (Nat×Nat×X)} (ho:o.op=.build t parts) (ht:P.underlying t=some (.struct fs)) (hz:vE P t=some zs)
 (cX:(fs.toList.all λf=>(P.info? f.type).isSome)=true) (sO:jdA (λi=>match fs[i]? with|some f=>(qk P f.type).map λn=>(f.offset,n)|none=>none) parts.toList=some ps)
 (hg:∀st,∃av os,Gen P s d rt st (.bld zs ps) av os/\G av os):Goes P o a w (ku B w G):=by
 obtain ⟨av,os,⟨l,h1,rfl,rfl⟩,hG⟩:=hg ⟨0,λ_ _=>undef⟩
 unfold vE at hz;split at hz
 ·rename_i i hi
  split at hz
  ·rename_i z l0
   split at hz
   ·simp at hz;subst hz
    have hzr:∀l:List Value,A0RelL B w (l.map .v) l:=by
     intro l
     induction l with
     |nil=>rfl
     |cons x l ih=>exact ⟨x,l,rfl,rfl,ih⟩
    have gD:∀l:List Field,(l.all λf=>(P.info? f.type).isSome)=true->l.mapM (λf=>(P.info? f.type).map λi=>(f.offset,i.size))=some (l.map λf=>(f.offset,(qk P f.type).getD 0)):=by
     intro l
     induction l with
     |nil=>intro _;rfl
     |cons f l ih=>
      intro hl;simp only [List.all_cons,aOF] at hl;obtain ⟨j,hj⟩:=Option.isSome_iff_exists.1 hl.1;rw [List.mapM_cons,ih hl.2];simp [hj,qk]
    have uA:(λ(i:Nat)=>match fs[i]? with|some f=>(qk P f.type).map λn=>(f.offset,n)|none=>none)=λi=>((fs.toList.map λ(f:Field)=>(f.offset,(qk P f.type).getD 0)).toArray[i]?):=by
     funext j
     cases hj:fs[j]? with
     |none=>simp [hj]
     |some f=>
      have hm:f∈fs.toList:=by simpa using Array.mem_of_getElem? hj
      obtain ⟨k,hk⟩:=Option.isSome_iff_exists.1 (List.all_eq_true.1 cX f hm);simp [hj,qk,hk]
    obtain ⟨us',k1,k2⟩:=jtQ h sO (hzr z.cells.toList) h1;refine vU (v:=.agg us'.toArray) ?_ (by exact ⟨us',rfl,k2⟩) hG
    have hb:P.built t (parts.map λ(p:Nat×Operand)=>(p.1,a.eval p.2)).toList=some us'.toArray:=by
     unfold Program.built;simp only [hi,ht,l0,gD _ cX];rw [<-uA,Array.toList_map];simpa using k1
    have:=run_build w t _ _ hb;simp only [execOp,ho];rw [Sem.run_bind,this];rfl
   ·simp at hz
  ·simp at hz
 ·simp at hz
end
section
variable {P:Program} {B N:Nat} {w w0:World} {s:St} {a:Act} {F:Nat->List Nat} {o:Oper} {G:AV->List (Nat×Ob)->Prop} {d:Nat} {rt:RT}
theorem jx5 (h:RelF B w0 N s a w F):∀{l:List A0} {us:List Value} {ds:List D},A0RelL B w l us->IsL s l ds->∃S,RepL w false ds us S
 |[],us,[],h1,_=>⟨[],h1,rfl⟩
 |[],_,_::_,_,h2=>h2.elim
 |_::_,_,[],_,h2=>h2.elim
 |_::_,_,_::_,⟨u,us',h1,h3,h4⟩,⟨h5,h6⟩=>by
  subst h1;obtain ⟨S1,k1⟩:=jle h h3 h5;obtain ⟨S2,k2⟩:=jx5 h h4 h6;exact ⟨S1++S2,RepL.cons_ k1 k2⟩
theorem IsP.is {x:A0} {d:D} (h:IsP x d):Is s x d:=by cases x<;>first|exact h|exact h.elim
theorem jlU (h:RelF B w0 N s a w F) {g b:Nat}:∀{l:List Cell} {us:List Value} {S:List Nat} {c:Nat} {ds:List D},CRel B w l us S->Ptr.go s g b l c ds->∃S',RepL w false ds us S'
 |[],us,_,_,[],⟨h1,_⟩,_=>⟨[],h1,rfl⟩
 |[],_,_,_,_::_,_,h2=>h2.elim
 |.a _::_,_,_,_,[],_,h2=>h2.elim
 |.own _ _::_,_,_,_,[],_,h2=>h2.elim
 |.a x::l,_,_,c,d::ds,⟨u,us',h1,h3,h4⟩,⟨h5,h6⟩=>by
  subst h1;obtain ⟨S1,k1⟩:=jle h h3 h5.is;obtain ⟨S2,k2⟩:=jlU h h4 h6;exact ⟨S1++S2,RepL.cons_ k1 k2⟩
 |.own d' η::l,_,_,c,d::ds,⟨u,us',S1,S2,h1,h3,h4,h5,_,h6⟩,⟨h7,h8⟩=>by
  subst h1 h7;obtain ⟨S3,k2⟩:=jlU h h6 h8;exact ⟨S1++S3,RepL.cons_ h5.ro k2⟩
theorem jxr (h:RelF B w0 N s a w F) {x:A0} {u:Value} {ds:List D} (hr:A0Rel B w x u) (hp:Ptr s x ds):ViewRel.CellsAt w ds u:=by
 cases x with
 |rp ds'=>
  have hp:ds'=ds:=hp;subst hp;obtain ⟨b,o',us,S,h1,h2,_,_,h5⟩:=hr;exact ⟨b,o',us,S,h1,h2,h5⟩
 |bp g c b=>
  obtain ⟨ty,cs,h1,l,h2,h3⟩:=hp;have bS:=h.ob g;rw [h1] at bS;obtain ⟨us,S1,k1,k2,_⟩:=bS;obtain ⟨S2,k3,_⟩:=CRel.drop c k2;obtain ⟨S3,k4,_⟩:=CRel.take ds.length k3;rw [h2] at k4;obtain ⟨S4,k5⟩:=jlU h k4 h3;refine ⟨b,c,_,S4,hr,k5,λj y hy=>?_⟩
  rw [aPW] at hy;split at hy
  ·rw [aPR] at hy
   simp [World.cell?,k1,hy]
  ·simp at hy
 |_=>exact hp.elim
theorem jzn (h:RelF B w0 N s a w F):∀{v:AV} {u:Value} {vw:View},VRel B w v u->jmB s v vw->ViewRel w vw u
 |.c x,u,.c dd,hv,hi=>jle h hv hi
 |.agg l,u,.agg ds,⟨us,h1,h2⟩,hi=>by
  obtain ⟨S,k⟩:=jx5 h h2 hi;exact ⟨S,us,h1,k⟩
 |.c x,u,.ptr ds,hv,hi=>jxr h hv hi
 |.fn f caps,u,.fn f' caps',⟨us,h1,h2⟩,⟨h3,h4⟩=>by
  subst h3;refine ⟨us,h1,?_⟩
  have key:∀(caps:List A0) (us:List Value) (caps':List (List D)),A0RelL B w caps us->jBD s caps caps'->ViewRel.All2 w caps' us:=by
   intro caps
   induction caps with
   |nil=>intro us caps' k1 k2;cases caps' with|nil=>exact k1|cons _ _=>exact k2.elim
   |cons x l ih=>
    intro us caps' k1 k2;obtain ⟨u,us',rfl,k3,k4⟩:=k1;cases caps' with
    |nil=>exact k2.elim
    |cons ds l'=>exact ⟨u,us',rfl,jxr h k3 k2.1,ih us' l' k4 k2.2⟩
  exact key _ _ _ h2 h4
 |.c _,_,.agg _,_,hi=>hi.elim
 |.c _,_,.fn _ _,_,hi=>hi.elim
 |.agg _,_,.c _,_,hi=>hi.elim
 |.agg _,_,.ptr _,_,hi=>hi.elim
 |.agg _,_,.fn _ _,_,hi=>hi.elim
 |.fn _ _,_,.c _,_,hi=>hi.elim
 |.fn _ _,_,.agg _,_,hi=>hi.elim
 |.fn _ _,_,.ptr _,_,hi=>hi.elim
 |.tup _,_,.c _,_,hi=>hi.elim
 |.tup _,_,.agg _,_,hi=>hi.elim
 |.tup _,_,.ptr _,_,hi=>hi.elim
 |.tup _,_,.fn _ _,_,hi=>hi.elim
 |.unk,_,.c _,_,hi=>hi.elim
 |.unk,_,.agg _,_,hi=>hi.elim
 |.unk,_,.ptr _,_,hi=>hi.elim
 |.unk,_,.fn _ _,_,hi=>hi.elim
theorem jo1 (h:RelF B w0 N s a w F):∀{args:List Operand} {xs:List X} {caps:List A0} {cs:List Value} {vs:List View},zE args=some xs->A0RelL B w caps cs->zR s (xs.map s.ev++caps.map .c) vs->jab w vs (args.map a.eval++cs)
 |[],xs,caps,cs,vs,h1,h2,h3=>by
  simp [zE] at h1;subst h1
  have key:∀(caps:List A0) (cs:List Value) (vs:List View),A0RelL B w caps cs->zR s (caps.map .c) vs->jab w vs cs:=by
   intro caps
   induction caps with
   |nil=>intro cs vs k1 k2;cases vs with|nil=>exact k1|cons _ _=>exact k2.elim
   |cons x l ih=>
    intro cs vs k1 k2;obtain ⟨u,us',rfl,k3,k4⟩:=k1;cases vs with
    |nil=>exact k2.elim
    |cons v l'=>exact ⟨u,us',rfl,jzn (v:=.c x) h k3 k2.1,ih us' l' k4 k2.2⟩
  exact key caps cs vs h2 (by simpa using h3)
 |x::args,xs,caps,cs,vs,h1,h2,h3=>by
  simp only [zE] at h1;split at h1
  ·rename_i x' xs' k1 k2
   simp at h1;subst h1;cases vs with
   |nil=>exact h3.elim
   |cons v vs=>exact ⟨a.eval x,_,rfl,jzn h (qP h k1) h3.1,jo1 h k2 h2 h3.2⟩
  ·simp at h1
theorem jxf {w':World}:∀{rt:RT} {v:Value} {S:List Nat} (g:Nat),jl0 w' rt v S->∃η:Nat->jf,VRel B w' (rt.av g η) v/\jcV B w' (jl3 g η 0 rt.flat) S:=by
 have key:∀(ds:List D) (us:List Value) (S:List Nat) (g j:Nat),RepL w' true ds us S->∃η:Nat->jf,(∀aC,(∀i,i<ds.length->aC (j+i)=η i)->A0RelL B w' (jF9 g aC j ds) us/\jcV B w' (jl3 g aC j ds) S):=by
  intro ds
  induction ds with
  |nil=>intro us S g j h;obtain ⟨rfl,rfl⟩:=h;exact ⟨λ_ _=>undef,λaC _=>⟨rfl,rfl⟩⟩
  |cons d ds ih=>
   intro us S g j h;obtain ⟨v,vs',S1,S2,rfl,rfl,h3,h4⟩:=h;obtain ⟨η,h5⟩:=ih vs' S2 g (j+1) h4;refine ⟨λi=>match i with|0=>λp=>hdr w' p d v|i+1=>η i,λaC hη=>?_⟩
   have h0:=hη 0 (by simp)
   obtain ⟨h6,h7⟩:=h5 aC λi hi=>by
    have:=hη (i+1) (by simp;omega)
    rw [show j+1+i=j+(i+1) by omega]
    exact this
   cases d with
   |val u=>
    obtain ⟨rfl,rfl⟩:=h3;exact ⟨⟨_,_,rfl,rfl,h6⟩,by simpa [jl3,D.obj] using h7⟩
   |sl size ty cs=>
    simp only [aOO] at h0;refine ⟨⟨v,vs',rfl,?_,h6⟩,S1,S2,rfl,⟨rfl,v,h3,λp=>by rw [h0]⟩,h7⟩
    obtain ⟨_,_,_,rfl⟩:=vR h3;show _/\_;rw [h0];exact ⟨rfl,rfl⟩
 intro rt v S g hr;cases rt with
 |c d=>
  obtain ⟨η,h1⟩:=key [d] [v] S g 0 ⟨v,[],S,[],rfl,by simp,hr,rfl,rfl⟩
  obtain ⟨⟨u,us',h2,h3,_⟩,h4⟩:=h1 η λi _=>by rw [aPH]
  cases h2;exact ⟨η,h3,h4⟩
 |agg ds=>
  obtain ⟨us,rfl,hr⟩:=hr;obtain ⟨η,h1⟩:=key ds us S g 0 hr;obtain ⟨h2,h3⟩:=h1 η λi _=>by rw [aPH]
  exact ⟨η,⟨us,rfl,h2⟩,h3⟩
 |tup l=>
  obtain ⟨xs,rfl,hr⟩:=hr
  have key2:∀(l:List (Bool×List D)) (xs:List Value) (S:List Nat) (j:Nat),juk w' l xs S->∃η:Nat->jf,∀aC,(∀i,i<(l.flatMap (·.2)).length->aC (j+i)=η i)->TRelL B w' (jHn g aC j l) xs/\jcV B w' (jl3 g aC j (l.flatMap (·.2))) S:=by
   intro l
   induction l with
   |nil=>intro xs S j h;obtain ⟨rfl,rfl⟩:=h;exact ⟨λ_ _=>undef,λaC _=>⟨rfl,rfl⟩⟩
   |cons p l ih=>
    intro xs S j h;obtain ⟨b,ds⟩:=p;obtain ⟨x,xs',us,S1,S2,rfl,rfl,h1,h2,h3⟩:=h;obtain ⟨eH,h4⟩:=key ds us S1 g j h1;obtain ⟨aS,h5⟩:=ih xs' S2 (j+ds.length) h3;refine ⟨λi=>if i<ds.length then eH i else aS (i-ds.length),λaC hη=>?_⟩
    obtain ⟨h6,h7⟩:=h4 aC λi hi=>by
     rw [hη i (by simp;omega)];simp [hi]
    obtain ⟨h8,h9⟩:=h5 aC λi hi=>by
     have:=hη (ds.length+i) (by simp at hi⊢;omega)
     rw [aRC,this];show (if ds.length+i<ds.length then eH (ds.length+i) else aS (ds.length+i-ds.length))=_
     rw [if_neg (by omega),aPI]
    refine ⟨⟨x,xs',us,rfl,h6,h2,h8⟩,?_⟩
    have nN:∀(ds es:List D) (j:Nat),jl3 g aC j (ds++es)=jl3 g aC j ds++jl3 g aC (j+ds.length) es:=by
     intro ds
     induction ds with
     |nil=>intro es j;simp [jl3]
     |cons d ds ih=>intro es j;simp only [aOU,jl3,ih,aOB,aOD];rw [show j+1+ds.length=j+(ds.length+1) by omega]
    have cD:∀(l m:List (Nat×Ob)) (S1 S2:List Nat),jcV B w' l S1->jcV B w' m S2->jcV B w' (l++m) (S1++S2):=by
     intro l
     induction l with
     |nil=>intro m S1 S2 k1 k2;rw [show S1=[] from k1];exact k2
     |cons q l ih=>intro m S1 S2 k1 k2;obtain ⟨T1,T2,rfl,k3,k4⟩:=k1;exact ⟨T1,T2++S2,by simp,k3,ih m T2 S2 k4 k2⟩
    simp only [aOM,nN];exact cD _ _ _ _ h7 h9
  obtain ⟨η,h1⟩:=key2 l xs S 0 hr;obtain ⟨h2,h3⟩:=h1 η λi _=>by rw [aPH]
  exact ⟨η,⟨xs,rfl,h2⟩,h3⟩
theorem jqV (h:RelF B w0 N s a w F) {f:Nat} {vs:List View} {xs:List Value} (aV:(execOp a.eval o).run P w=.ok (.enter f xs.toArray) w) (hp:jW P f vs rt) (hv:jab w vs xs)
 (hG:∀st:jzt,G (rt.av (100*d) st.η) (jl3 (100*d) st.η 0 rt.flat)):Goes P o a w (ku B w G):=by
 intro next Q hk;unfold Oper.wp;rw [aV];refine (hp.2 w xs hv).mono λe w' ⟨v,S,he,hr,hf,hb⟩=>?_
 subst he;obtain ⟨η,h1,h2⟩:=jxf (B:=B) (100*d) hr;exact hk v w' ⟨_,_,S,h1,h2,hf,hb,hG ⟨0,η⟩⟩
theorem RelF.bare (h:RelF B w0 N s a w F):RelF B w 0 (.only s.o) Act.bare w F:=
 ⟨Below.refl _ _,aPC h.hB h.below.size,rfl,rfl,λ_=>trivial,h.ob,h.fr,h.dj⟩
theorem jkw (h:RelF B w0 N s a w F):∀{args:List Operand} {xs:List X} {caps:List A0} {cs:List Value},zE args=some xs->A0RelL B w caps cs->jlZ B w (xs.map s.ev++caps.map .c) (args.map a.eval++cs)
 |[],xs,caps,cs,h1,h2=>by
  simp [zE] at h1;subst h1
  have key:∀(caps:List A0) (cs:List Value),A0RelL B w caps cs->jlZ B w (caps.map .c) cs:=by
   intro caps
   induction caps with
   |nil=>intro cs k1;exact k1
   |cons x l ih=>intro cs k1;obtain ⟨u,us',rfl,k3,k4⟩:=k1;exact ⟨u,us',rfl,k3,ih us' k4⟩
  exact key caps cs h2
 |x::args,xs,caps,cs,h1,h2=>by
  simp only [zE] at h1;split at h1
  ·rename_i x' xs' k1 k2
   simp at h1;subst h1;exact ⟨a.eval x,_,rfl,qP h k1,jkw h k2 h2⟩
  ·simp at h1
theorem jdg {f:Nat} {c:Call} {cs xs:List Value} (hn:jrb P f) (ho:o.op=.call c) {y:Operand} (hc:c.callee=.value y) (hy:a.eval y=.func (.func f) #[] cs.toArray) (hx:c.args.toList.map a.eval=xs):
 (execOp a.eval o).run P w=.ok (.enter f (xs++cs).toArray) w:=by
 obtain ⟨fn,hfn,hb,xN⟩:=hn;have hbn:¬fn.body=none:=by intro hq;simp [hq] at hb
 have aJ:¬fn.name= "runtime.NumGoroutine":=by simpa using xN
 have cM:c.args.map a.eval=xs.toArray:=by rw [<-hx,<-Array.toList_map,Array.toArray_toList]
 simp [execOp,ho,resolve,hc,hy,cM,Deferred.ofValue,invoke,callFunc,hfn,hbn,aJ]
theorem go_call (h:RelF B w0 N s a w F) {c:Call} {f:Nat} {xs:List X} (ho:o.op=.call c) (hc:c.callee=.value (.func f)) (m8:zE c.args.toList=some xs)
 (hg:∀st,∃av os,Gen P s d rt st (.call f xs) av os/\G av os):Goes P o a w (ku B w G):=by
 obtain ⟨_,_,⟨vs,h1,h2,_,_⟩,_⟩:=hg ⟨0,λ_ _=>undef⟩
 have hv:=jo1 (caps:=[]) (cs:=[]) h m8 rfl (by simpa using h1)
 exact jqV (d:=d) h (jdg (cs:=[]) h2.1 ho hc rfl rfl) h2 hv λst=>by
  obtain ⟨_,_,⟨_,_,_,rfl,rfl⟩,hG⟩:=hg st;exact hG
theorem go_callv (h:RelF B w0 N s a w F) {c:Call} {t:Nat} {xs:List X} (ho:o.op=.call c) (hc:c.callee=.value (.tmp t)) (m8:zE c.args.toList=some xs)
 (hg:∀st,∃av os,Gen P s d rt st (.callv (.t t) xs) av os/\G av os):Goes P o a w (ku B w G):=by
 obtain ⟨_,_,⟨f,caps,vs,h0,h1,h2,_,_⟩,_⟩:=hg ⟨0,λ_ _=>undef⟩
 have wV:=h.sl t;rw [show s.t t=.fn f caps from h0] at wV
 obtain ⟨cs,k1,k2⟩:=wV;have hv:=jo1 h m8 k2 h1
 exact jqV (d:=d) h (jdg h2.1 ho hc k1 rfl) h2 hv λst=>by
  obtain ⟨_,_,⟨f',caps',vs',eU,cW,bI,rfl,rfl⟩,hG⟩:=hg st;exact hG
end
