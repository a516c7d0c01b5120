/- Parts. -/
import Derived.Test.YtekegiiikglhbaaGreatQE3b
set_option linter.all false
namespace Go.Proofs.YtekegiiikglhbaaGreat
open Go.RowKit Go.Sort
def Goes (P:Program) (o:Oper) (a:Act) (w:World) (R:Value->World->Prop):Prop:=
 ∀(next:Act->World->Prop) (Q:Exit->Act->World->Prop),(∀v w',R v w'->next (a.put o.dst v) w')->o.wp P a w next Q
theorem Goes.of_run {P:Program} {o:Oper} {a:Act} {w w':World} {R:Value->World->Prop} {v:Value} (h:(execOp a.eval o).run P w=.ok (.value v) w') (hr:R v w'):Goes P o a w R:=
 λ_ _ hk=>by unfold Oper.wp;rw [h];exact hk v w' hr
def jK (B:Nat) (w:World) (G:AV->List (Nat×Ob)->Prop) (v:Value) (w':World):Prop:=∃av os S,VRel B w' av v/\zh B w' os S/\Fresh w.heap.size S/\Below w.heap.size w w'/\G av os
section
variable {P:Program} {B N:Nat} {w w0:World} {s:St} {a:Act} {F:Nat->List Nat} {o:Oper} {G:AV->List (Nat×Ob)->Prop} {d:Nat} {rt:RT}
theorem kT {v:Value} {av:AV} (h:(execOp a.eval o).run P w=.ok (.value v) w) (hv:VRel B w av v) (hg:G av []):Goes P o a w (jK B w G):=
 Goes.of_run h ⟨av,[],[],hv,rfl,Fresh.nil _,Below.refl _ _,hg⟩
theorem mk_ {v:Value} {w':World} {av:AV} {os:List (Nat×Ob)} {S:List Nat} (h:(execOp a.eval o).run P w=.ok (.value v) w') (hv:VRel B w' av v) (hn:zh B w' os S) (hf:Fresh w.heap.size S) (Z:Below w.heap.size w w') (hg:G av os):Goes P o a w (jK B w G):=
 Goes.of_run h ⟨av,os,S,hv,hn,hf,Z,hg⟩
theorem jiJ (w:World) (o:Obj):(w.alloc o).heap[w.heap.size]?=some o:=by
 show (w.heap.push o)[w.heap.size]?=_;simp
theorem kn (h:RelF B w0 N s a w F) {x:Operand} {x':X} (hx:jr x=some x'):VRel B w (s.ev x') (a.eval x):=by
 cases x with
 |tmp t=>simp [jr] at hx;subst hx;exact h.sl t
 |global g=>simp [jr] at hx
 |func f=>simp [jr] at hx;subst hx;exact ⟨[],rfl,rfl⟩
 |const v=>
  simp only [jr] at hx;split at hx
  ·rename_i hp
   simp at hx;subst hx;cases v with
   |agg cs=>
    refine ⟨cs.toList,by simp [Act.eval],?_⟩
    simp only [jcj,List.all_eq_true] at hp
    have:∀l:List Value,(∀x∈l,x.oneCell'=true)->A0RelL B w (l.map .v) l:=by
     intro l
     induction l with
     |nil=>intro _;rfl
     |cons x l ih=>intro hl;exact ⟨x,l,rfl,rfl,ih λy hy=>hl y (by simp [hy])⟩
    exact this _ hp
   |tuple _=>simp [jcj] at hp
   |_=>exact rfl
  ·simp at hx
theorem jdc (h:RelF B w0 N s a w F) {x:Operand} {x':X} (hx:jr x=some x') {u:Value} (hu:s.ev x'=.c (.v u)):a.eval x=u:=by
 have:=kn h hx;rw [hu] at this;exact this
theorem go_mov (h:RelF B w0 N s a w F) {x:Operand} {x':X} (ho:o.op=.move x\/o.op=.assign x) (hx:jr x=some x') (hg:∀st,∃av os,Gen P s d rt st (.mov x') av os/\G av os):Goes P o a w (jK B w G):=by
 obtain ⟨av,os,⟨rfl,rfl⟩,hG⟩:=hg ⟨0,λ_ _=>undef⟩
 refine kT (v:=a.eval x) ?_ (kn h hx) hG;rcases ho with ho|ho<;>simp [execOp,ho]
theorem go_pick (h:RelF B w0 N s a w F) {c x y:Operand} {c' x' y':X} (ho:o.op=.pick c x y) (hc:jr c=some c') (hx:jr x=some x') (hy:jr y=some y')
 (hg:∀st,∃av os,Gen P s d rt st (.pick c' x' y') av os/\G av os):Goes P o a w (jK B w G):=by
 obtain ⟨av,os,⟨t,V,rfl,rfl⟩,hG⟩:=hg ⟨0,λ_ _=>undef⟩
 have e:=jdc h hc V;refine kT (v:=if t then a.eval x else a.eval y) ?_ ?_ hG
 ·simp [execOp,ho,e,asBool]
 ·cases t
  ·exact kn h hy
  ·exact kn h hx
theorem go_alloc (h:RelF B w0 N s a w F) {e:TypeId} {zs:List Value} (ho:o.op=.alloc e) (hz:kV P e=some zs) (hg:∀st,∃av os,Gen P s d rt st (.alloc e zs) av os/\G av os):Goes P o a w (jK B w G):=by
 obtain ⟨av,os,⟨rfl,rfl⟩,hG⟩:=hg ⟨w.heap.size,λ_ _=>undef⟩
 unfold kV at hz;split at hz
 ·rename_i i hi
  split at hz
  ·rename_i z d6
   split at hz
   ·rename_i hc
    simp only [aBH,aCJ,List.all_eq_true] at hc;simp at hz;subst hz
    have a8:(execOp a.eval o).run P w=.ok (.value (.pointer (some ⟨w.heap.size,0,none⟩))) (w.alloc (.cells z.cells e)):=by
     simp [execOp,ho,Instr.alloc,zeroValue,typeInfo,hi,d6,newVar,newRow]
    have:∀l:List Value,(∀x∈l,x.oneCell'=true)->CRel B (w.alloc (.cells z.cells e)) (l.map λz=>Cell.a (.v z)) l []:=by
     intro l
     induction l with
     |nil=>intro _;exact ⟨rfl,rfl⟩
     |cons x l ih=>intro hl;exact ⟨x,l,rfl,rfl,ih λy hy=>hl y (by simp [hy])⟩
    have hn:zh B (w.alloc (.cells z.cells e)) [(100*d,.box w.heap.size e (z.cells.toList.map λz=>.a (.v z)))] [w.heap.size]:=
     ⟨[w.heap.size],[],rfl,⟨z.cells.toList,[],jiJ _ _,this _ hc.2,rfl⟩,rfl⟩
    have hv:VRel B (w.alloc (.cells z.cells e)) (.c (.bp (100*d) 0 w.heap.size)) (.pointer (some ⟨w.heap.size,0,none⟩)):=rfl;exact mk_ a8 hv hn (Fresh.one _ _ (aAV _)) ((Below.refl _ _).alloc (aAV _) _) hG
   ·simp at hz
  ·simp at hz
 ·simp at hz
theorem qB (b o n:Nat):(⟨b,o,none⟩:Addr).add n=⟨b,o+n,none⟩:=by unfold Addr.add;split<;>simp_all
theorem joc (x:Value) (i n:Nat):(vT x i).add n=vT x (i+n):=by
 unfold vT;split
 ·rw [qB];congr 1;omega
 ·rw [qB]
theorem RepL.drop {own:Bool}:∀(n:Nat) {ds:List D} {us:List Value} {S:List Nat},RepL w own ds us S->∃S',RepL w own (ds.drop n) (us.drop n) S'/\∀x∈S',x∈S
 |0,_,_,S,h=>⟨S,h,λ_ h=>h⟩
 |n+1,[],_,_,h=>by obtain ⟨rfl,rfl⟩:=h;exact ⟨[],⟨rfl,rfl⟩,by simp⟩
 |n+1,_::ds,_,_,⟨v,vs',S1,S2,rfl,rfl,_,h4⟩=>by
  obtain ⟨S',h5,h6⟩:=RepL.drop n h4;exact ⟨S',h5,λx hx=>by simp [h6 x hx]⟩
theorem RepL.take {own:Bool}:∀(n:Nat) {ds:List D} {us:List Value} {S:List Nat},RepL w own ds us S->∃S',RepL w own (ds.take n) (us.take n) S'/\∀x∈S',x∈S
 |0,_,_,S,h=>⟨[],⟨rfl,rfl⟩,by simp⟩
 |n+1,[],_,_,h=>by obtain ⟨rfl,rfl⟩:=h;exact ⟨[],⟨rfl,rfl⟩,by simp⟩
 |n+1,_::ds,_,_,⟨v,vs',S1,S2,rfl,rfl,h3,h4⟩=>by
  obtain ⟨S',h5,h6⟩:=RepL.take n h4;exact ⟨S1++S',RepL.cons_ h3 h5,λx hx=>by rcases aAS.1 hx with hx|hx;simp [hx];simp [h6 x hx]⟩
theorem go_fa0 (h:RelF B w0 N s a w F) {x:Operand} {x':X} {off:Nat} (hx:jr x=some x') (a8:∀ad:Addr,a.eval x=.pointer (some ad)->(execOp a.eval o).run P w=.ok (.value (.pointer (some (ad.add off)))) w)
 (hg:∀st,∃av os,Gen P s d rt st (.fa off x') av os/\G av os):Goes P o a w (jK B w G):=by
 obtain ⟨av,os,⟨V,rfl⟩,hG⟩:=hg ⟨0,λ_ _=>undef⟩
 have hv:=kn h hx;split at V
 ·rename_i ds he
  subst V;rw [he] at hv;obtain ⟨b,o',us,S,hp,Y,h3,h4,h5⟩:=hv;obtain ⟨S',h6,h7⟩:=RepL.drop off Y
  refine kT (a8 _ hp) (by exact ⟨b,o'+off,us.drop off,S',by rw [qB],h6,λy hy=>h3 y (h7 y hy),λa7=>h4 λe=>a7 (by rw [e];simp),λj y hy=>by
   rw [aBQ] at hy;rw [Nat.add_assoc];exact h5 _ _ hy⟩) hG
 ·rename_i g c b he
  subst V;rw [he] at hv;refine kT (a8 _ hv) ?_ hG;rw [qB];rfl
 ·rename_i g c p i' x'' he
  subst V;rw [he] at hv;refine kT (a8 _ hv) ?_ hG;rw [joc];rfl
 ·exact V.elim
theorem go_fa (h:RelF B w0 N s a w F) {t:TypeId} {x:Operand} {x':X} {f n:Nat} {fs:Array Field} {fd:Field} (ho:o.op=.fieldAddr t x f) (ht:P.underlying t=some (.struct fs)) (hf:fs[f]?=some fd) (hn:jZ P fd.type=some (n+1)) (hx:jr x=some x')
 (hg:∀st,∃av os,Gen P s d rt st (.fa fd.offset x') av os/\G av os):Goes P o a w (jK B w G):=by
 obtain ⟨i,hi,dM⟩:∃i,P.info? fd.type=some i/\i.size=n+1:=by
  unfold jZ at hn;cases hq:P.info? fd.type with
  |none=>simp [hq] at hn
  |some i=>exact ⟨i,rfl,by simpa [hq] using hn⟩
 exact go_fa0 h hx (λad he=>by
  simp [execOp,ho,Instr.fieldAt,run_underlying ht,hf,he,Instr.sureAddr,fieldPlace,sizeOf,typeInfo,hi,dM]) hg
theorem go_nc (h:RelF B w0 N s a w F) {x:Operand} {x':X} (ho:o.op=.nilCheck x) (hx:jr x=some x')
 (hg:∀st,∃av os,Gen P s d rt st (.fa 0 x') av os/\G av os):Goes P o a w (jK B w G):=
 go_fa0 h hx (λad he=>by
  rw [show ad.add 0=ad from rfl]
  simp [execOp,ho,he]) hg
theorem RepL.ro_cells {own:Bool} {ds:List D} {us:List Value} {S:List Nat} (h:RepL w own ds us S) (hS:own=false/\∀x∈S,x<B):A0RelL B w (ds.map D.toRo) us:=by
 induction ds generalizing us S with
 |nil=>obtain ⟨rfl,_⟩:=h;rfl
 |cons d ds ih=>
  obtain ⟨v,vs',S1,S2,rfl,rfl,h3,h4⟩:=h;refine ⟨v,vs',rfl,?_,ih h4 ⟨hS.1,λx hx=>hS.2 x (by simp [hx])⟩⟩
  cases d with
  |val u=>exact h3.1
  |sl size ty cs=>exact ⟨rfl,S1,by rw [<-hS.1];exact h3,λx hx=>hS.2 x (by simp [hx])⟩
theorem A0RelL.of_get:∀{l:List A0} {us:List Value},us.length=l.length->(∀(j:Nat) (a:A0) (u:Value),l[j]?=some a->us[j]?=some u->A0Rel B w a u)->A0RelL B w l us
 |[],us,h,_=>aBC h
 |a::l,[],h,_=>by simp at h
 |a::l,u::us,h,hk=>⟨u,us,rfl,hk 0 a u rfl rfl,A0RelL.of_get (by simpa using h) λj a' u' V Y=>hk (j+1) a' u' V Y⟩
theorem CRel.load {g:Nat}:∀{cs:List Cell} {us:List Value} {S:List Nat} (c:Nat),CRel B w cs us S->A0RelL B w (jda g c cs) us
 |[],_,_,_,⟨h,_⟩=>h
 |.a x::cs,_,_,c,⟨u,us',V,Y,h3⟩=>⟨u,us',V,Y,CRel.load (c+1) h3⟩
 |.own d η::cs,_,_,c,⟨u,us',S1,S2,V,Y,h3,h4,h5,h6⟩=>by
  refine ⟨u,us',V,⟨?_,?_⟩,CRel.load (c+1) h6⟩
  ·rw [h5,qZ h3]
  ·rw [h5,qZ h3]
   cases d with
   |val _=>cases h3
   |sl _ _ _=>obtain ⟨_,_,_,rfl⟩:=qL h4;rfl
theorem CRel.drop:∀(n:Nat) {cs:List Cell} {us:List Value} {S:List Nat},CRel B w cs us S->∃S',CRel B w (cs.drop n) (us.drop n) S'/\∀x∈S',x∈S
 |0,_,_,S,h=>⟨S,h,λ_ h=>h⟩
 |n+1,[],_,_,⟨h,h'⟩=>by subst h h';exact ⟨[],⟨rfl,rfl⟩,by simp⟩
 |n+1,.a _::cs,_,_,⟨u,us',V,Y,h3⟩=>by
  subst V;obtain ⟨S',h5,h6⟩:=CRel.drop n h3;exact ⟨S',h5,h6⟩
 |n+1,.own _ _::cs,_,_,⟨u,us',S1,S2,V,Y,h3,h4,h5,h6⟩=>by
  subst V Y;obtain ⟨S',h7,h8⟩:=CRel.drop n h6;exact ⟨S',h7,λx hx=>by simp [h8 x hx]⟩
theorem CRel.take:∀(n:Nat) {cs:List Cell} {us:List Value} {S:List Nat},CRel B w cs us S->∃S',CRel B w (cs.take n) (us.take n) S'/\∀x∈S',x∈S
 |0,_,_,S,h=>⟨[],⟨rfl,rfl⟩,by simp⟩
 |n+1,[],_,_,⟨h,h'⟩=>by subst h h';exact ⟨[],⟨rfl,rfl⟩,by simp⟩
 |n+1,.a _::cs,_,_,⟨u,us',V,Y,h3⟩=>by
  subst V;obtain ⟨S',h5,h6⟩:=CRel.take n h3;exact ⟨S',⟨u,_,rfl,Y,h5⟩,h6⟩
 |n+1,.own _ _::cs,_,_,⟨u,us',S1,S2,V,Y,h3,h4,h5,h6⟩=>by
  subst V Y;obtain ⟨S',h7,h8⟩:=CRel.take n h6;exact ⟨S1++S',⟨u,_,S1,S',rfl,rfl,h3,h4,h5,h7⟩,λx hx=>by rcases aAS.1 hx with hx|hx;simp [hx];simp [h8 x hx]⟩
theorem jgS {g c:Nat} {p:List Nat} {η:jl}:∀{ds:List D} {i j:Nat} {d:D},ds[j]?=some d->(jcq g c p η i ds)[j]?=some (d.toOwn g c (p++[i+j]) η)
 |[],_,_,_,h=>by simp at h
 |_::_,i,0,_,h=>by simp at h;subst h;rfl
 |_::ds,i,j+1,_,h=>by
  have:=jgS (g:=g) (c:=c) (p:=p) (η:=η) (ds:=ds) (i:=i+1) (j:=j) (by simpa using h)
  simp only [jcq,aCR,this];rw [show i+1+j=i+(j+1) by omega]
theorem jek {g c:Nat} {p:List Nat} {η:jl}:∀{ds:List D} {i:Nat},(jcq g c p η i ds).length=ds.length
 |[],_=>rfl
 |_::ds,i=>by simp [jcq,jek (ds:=ds)]
theorem qa (h:RelF B w0 N s a w F) {g c:Nat} {p:List Nat} {x:Value} {d0 dd:D} {η:jl} (ho:(s.o g).own c=some (d0,η)) (hx:η p=x) (hg:D.get p d0=some dd) (hs:dd.isSl=true):
 ∃S,Rep w true dd x S/\∀q,η (p++q)=hdr w q dd x:=by
 obtain ⟨u,S',V,Y,h3,h4⟩:=(h.ob g).own ho;obtain ⟨S2,h5,_⟩:=jln p Y hg hs;rw [<-h3 p,hx] at h5;refine ⟨S2,h5,λq=>?_⟩
 rw [h3,<-hx,h3]
 have key:∀(p:List Nat) {d0:D} {u:Value} {S:List Nat},Rep w true d0 u S->D.get p d0=some dd->hdr w (p++q) d0 u=hdr w q dd (hdr w p d0 u):=by
  intro p
  induction p with
  |nil=>
   intro d0 u S _ hg;simp [D.get] at hg;subst hg;rw [aCA,qZ hs]
  |cons i p ih=>
   intro d0 u S hr hg;cases d0 with
   |val _=>simp [D.get] at hg
   |sl size ty cs=>
    simp only [D.get] at hg;obtain ⟨vs,T,S',k1,k2,k3⟩:=hr;cases hc:cs[i]? with
    |none=>rw [hc] at hg;simp at hg
    |some d=>
     rw [hc] at hg;obtain ⟨v,S1,k6,k7,k8⟩:=RepL.nth k2 hc;rcases kO k1 with ⟨rfl,rfl⟩|⟨g,n,c,rfl,rfl,k4,k5,_⟩
     ·simp at k6
     ·simp only [aDD,hdr,hc,aBK,k5 i v k6,aCF]
      exact ih k7 hg
 exact key p Y hg
theorem jiC (h:RelF B w0 N s a w F) {A:AV} {u0:Value} {n:Nat} {l:List A0} (hv:VRel B w A u0) (V:vi s n l A):
 ∃b k us,u0=.pointer (some ⟨b,k,none⟩)/\us.length=n/\l.length=n/\(∀j u,us[j]?=some u->w.cell? ⟨b,k+j,none⟩=some u)/\A0RelL B w l us:=by
 have key:∀(b k:Nat) (us:List Value),u0=.pointer (some ⟨b,k,none⟩)->us.length=n->l.length=n->(∀j u,us[j]?=some u->w.cell? ⟨b,k+j,none⟩=some u)->A0RelL B w l us->
  ∃b k us,u0=.pointer (some ⟨b,k,none⟩)/\us.length=n/\l.length=n/\(∀j u,us[j]?=some u->w.cell? ⟨b,k+j,none⟩=some u)/\A0RelL B w l us:=λb k us k1 k2 k3 k4 k5=>⟨b,k,us,k1,k2,k3,k4,k5⟩
 generalize he:A=A' at V;unfold vi at V;split at V
 ·rename_i ds
  obtain ⟨h3,rfl⟩:=V;rw [he] at hv;obtain ⟨b,k,us,S,hp,k2,k3,k4,k5⟩:=hv;obtain ⟨S',k6,k7⟩:=RepL.take n k2;have aJ:=RepL.length _ k6;refine key b k (us.take n) hp (by rw [aJ,aBA];omega) (by simp;omega) (λj u hu=>?_) (RepL.ro_cells k6 ⟨rfl,λy hy=>k3 y (k7 y hy)⟩)
  rw [aBV] at hu;split at hu
  ·exact k5 j u hu
  ·simp at hu
 ·rename_i g c b
  obtain ⟨ty,cs,h3,h4,rfl⟩:=V;rw [he] at hv;have bL:=h.ob g;rw [h3] at bL;obtain ⟨us,S1,k1,k2,k3⟩:=bL;obtain ⟨S2,k4,k5⟩:=CRel.drop c k2;obtain ⟨S3,k6,k7⟩:=CRel.take n k4;have gS:=CRel.len k2;refine key b c ((us.drop c).take n) hv (by simp;omega) ?_ (λj u hu=>?_) (CRel.load c k6)
  ·have:∀(g c:Nat) (cs:List Cell),(jda g c cs).length=cs.length:=by
    intro g c cs
    induction cs generalizing c with
    |nil=>rfl
    |cons x l ih=>cases x<;>simp [jda,ih]
   rw [this];simp;omega
  ·rw [aBV] at hu
   split at hu
   ·rw [aBQ] at hu
    simp [World.cell?,k1,hu]
   ·simp at hu
 ·rename_i g c p i' x''
  obtain ⟨d0,η,dd,h3,h4,h5,hs,h6,rfl⟩:=V;rw [he] at hv;obtain ⟨S,k1,k2⟩:=qa h h3 h4 h5 hs;cases dd with
  |val _=>cases hs
  |sl size ty cs=>
   obtain ⟨vs,T,S',k3,k4,k5⟩:=k1;have cQ:=RepL.length _ k4;simp only [D.cells] at h6 key;rcases kO k3 with ⟨rfl,rfl⟩|⟨gg,nn,cc,rfl,rfl,k6,k7,_⟩
   ·have lL:cs=[]:=aBC (by simpa using cQ.symm)
    subst lL;simp at h6;obtain ⟨rfl,rfl⟩:=h6;exact key 0 (0+0) [] (by rw [hv];rfl) rfl rfl (by simp) rfl
   ·refine key gg (0+i') ((vs.drop i').take n) (by rw [hv];rfl) (by simp;omega) (by rw [jek];simp;omega) (λj u hu=>?_) (A0RelL.of_get (by rw [jek];simp;omega) λj a0 u ha hu=>?_)
    ·rw [aBV] at hu
     split at hu
     ·rw [aBQ] at hu
      rw [aBK];exact k7 _ _ hu
     ·simp at hu
    ·rw [aBV] at hu
     split at hu
     ·rename_i hj
      rw [aBQ] at hu;obtain ⟨dj,lJ⟩:∃dj,cs[i'+j]?=some dj:=⟨cs[i'+j],aAT (by omega)⟩
      have x0:((cs.drop i').take n)[j]?=some dj:=by rw [aBV,if_pos hj,aBQ];exact lJ
      rw [jgS x0] at ha;simp at ha;subst ha;obtain ⟨u',S1,k8,k9,_⟩:=RepL.nth k4 lJ;rw [hu] at k8;simp at k8;subst k8;cases dj with
      |val _=>exact k9.1
      |sl _ _ _=>
       have e:η (p++[i'+j])=u:=by rw [k2];simp [hdr,lJ,k7 _ _ hu]
       obtain ⟨_,_,_,rfl⟩:=qL k9;exact ⟨e.symm,by rw [e];rfl⟩
     ·simp at hu
 ·exact V.elim
def jqL:TypeDesc->Bool
 |.struct _|.array _ _=>true
 |_=>false
theorem jfO {t:TypeId} {dsc:TypeDesc} {agg:Bool} {n b k:Nat} {us:List Value} (ht:P.underlying t=some dsc) (dW:agg=jqL dsc) (hn:jZ P t=some n) (hl:us.length=n)
 (hc:∀j u,us[j]?=some u->w.cell? ⟨b,k+j,none⟩=some u) {v:Value} (hv:if agg then v=.agg us.toArray else us=[v]):(loadVar t ⟨b,k,none⟩).run P w=.ok v w:=by
 obtain ⟨i,hi,dM⟩:∃i,P.info? t=some i/\i.size=n:=by
  unfold jZ at hn;cases hq:P.info? t with
  |none=>simp [hq] at hn
  |some i=>exact ⟨i,rfl,by simpa [hq] using hn⟩
 cases agg with
 |true=>
  obtain rfl:v=.agg us.toArray:=by simpa using hv
  have oX:=run_loadCells_list (P:=P) w ⟨b,k,none⟩ us (λj u hu=>by rw [qB];exact hc j u hu)
  rw [hl] at oX
  have cY:(isAgg t).run P w=.ok true w:=by
   simp only [isAgg,Sem.run_bind,run_underlying ht];cases dsc<;>first|rfl|cases dW
  simp [loadVar,cY,sizeOf,typeInfo,hi,dM,oX]
 |false=>
  obtain rfl:us=[v]:=by simpa using hv
  have aZ:=hc 0 v rfl
  have cY:(isAgg t).run P w=.ok false w:=by
   simp only [isAgg,Sem.run_bind,run_underlying ht];cases dsc<;>first|rfl|cases dW
  simp only [aAQ] at aZ;simp [loadVar,cY,aZ]
theorem go_ld (h:RelF B w0 N s a w F) {t:TypeId} {x:Operand} {x':X} {agg:Bool} {n:Nat} {dsc:TypeDesc} (ho:o.op=.load t x) (ht:P.underlying t=some dsc) (dW:agg=jqL dsc) (hn:jZ P t=some n) (hx:jr x=some x')
 (hg:∀st,∃av os,Gen P s d rt st (.ld agg n x') av os/\G av os):Goes P o a w (jK B w G):=by
 obtain ⟨av,os,⟨l,V,Y,rfl⟩,hG⟩:=hg ⟨0,λ_ _=>undef⟩
 have hv:=kn h hx;obtain ⟨b,k,us,hp,hl,oU,hc,hr⟩:=jiC h hv V;cases agg with
 |true=>
  obtain rfl:av=.agg l:=by simpa using Y
  have:=jfO (P:=P) (v:=.agg us.toArray) ht dW hn hl hc (by simp)
  refine kT (v:=.agg us.toArray) ?_ (by exact ⟨us,rfl,hr⟩) hG
  simp [execOp,ho,Instr.loadAt,hp,Instr.sureAddr,this]
 |false=>
  obtain ⟨a0,rfl,rfl⟩:∃a0,l=[a0]/\av=.c a0:=by simpa using Y
  obtain ⟨u,us',rfl,k1,k2⟩:=hr;have k3:us'=[]:=k2;subst k3;have:=jfO (P:=P) (v:=u) ht dW hn hl hc (by simp)
  refine kT (v:=u) ?_ (by exact k1) hG
  simp [execOp,ho,Instr.loadAt,hp,Instr.sureAddr,this]
theorem jdY {t:TypeId} {n:Nat} (hn:jZ P t=some n):∃i,P.info? t=some i/\i.size=n:=by
 unfold jZ at hn;cases hq:P.info? t with
 |none=>simp [hq] at hn
 |some i=>exact ⟨i,rfl,by simpa [hq] using hn⟩
theorem qu {size:Nat} {ty:TypeId} {cs:List D} {u:Value} {S:List Nat} (h:Rep w false (.sl size ty cs) u S):
 ∃A n c vs S',u=.slice A n c/\cs.length=n*size/\RepL w false cs vs S'/\(∀x∈S',x∈S)/\n<=c/\c<=maxLen/\(A=none->c=0)/\(vs≠ []->∃b o,A=some ⟨b,o,none⟩/\b∈S/\∀j u,vs[j]?=some u->w.cell? ⟨b,o+j,none⟩=some u):=by
 obtain ⟨vs,T,S',⟨_,A,n,c,rfl,Y,h3,h4,h5,h6⟩,h7,rfl⟩:=h;refine ⟨A,n,c,vs,S',rfl,by rw [<-RepL.length _ h7];exact Y,h7,λx hx=>by simp [hx],h3,h4,h5,λa7=>?_⟩
 obtain ⟨b,o',rfl,rfl,h8⟩:=h6 a7;exact ⟨b,o',rfl,by simp,h8⟩
theorem jcT {size:Nat} {ty:TypeId} {cs:List D} {n:Nat} (hs:0<size) (h:cs.length=n*size):D.len (.sl size ty cs)=n:=by
 simp only [D.len,D.cells,D.size,h];exact aBP _ hs
theorem jll {size:Nat} {ty:TypeId} {cs:List D} {A:Option Addr} {n c:Nat} {S:List Nat} {l hh:Nat} (hs:0<size) (hr:Rep w false (.sl size ty cs) (.slice A n c) S) (hS:∀b∈S,b<B) (V:l<=hh) (Y:hh<=n):
 ∃S',Rep w false (D.sub (.sl size ty cs) l hh) (.slice (if c=l then A else A.map (·.add (l*size))) (hh-l) (c-l)) S'/\∀b∈S',b<B:=by
 obtain ⟨vs,T,S',⟨hT,A',n',c',he,h3,h4,h5,h6,h7⟩,h8,rfl⟩:=hr;cases he;obtain ⟨S2,h9,eD⟩:=RepL.drop (l*size) h8;obtain ⟨S3,fB,dN⟩:=RepL.take ((hh-l)*size) h9;have sF:(hh-l)*size+l*size<=n*size:=by rw [<-aCX];exact aBY _ (by omega)
 have aJ:((vs.drop (l*size)).take ((hh-l)*size)).length=(hh-l)*size:=by simp;omega
 by_cases a7:(vs.drop (l*size)).take ((hh-l)*size)=[]
 ·refine ⟨[]++S3,⟨_,[],S3,⟨by simp,_,_,_,rfl,aJ,by omega,by omega,λhA=>?_,λh=>absurd a7 h⟩,fB,rfl⟩,λb Z=>hS b (by simp [eD b (dN b (by simpa using Z))])⟩
  split at hA
  ·omega
  ·have:A=none:=by simpa using hA
   have:=h6 this;omega
 ·have rM:vs≠ []:=λe=>a7 (by subst e;simp)
  obtain ⟨b,o',rfl,rfl,tZ⟩:=h7 rM
  have cJ:c≠l:=λe=>a7 (by
   have:hh-l=0:=by omega
   rw [this];simp)
  refine ⟨[b]++S3,⟨_,[b],S3,⟨by simpa using hT,_,_,_,rfl,aJ,by omega,by omega,by rw [if_neg cJ];simp,λ_=>⟨b,o'+l*size,by rw [if_neg cJ];simp [qB],rfl,λj u hu=>?_⟩⟩,fB,rfl⟩,λx hx=>?_⟩
  ·rw [aBV] at hu
   split at hu
   ·rw [aBQ] at hu
    rw [Nat.add_assoc];exact tZ _ _ hu
   ·simp at hu
  ·rcases aAS.1 hx with hx|hx
   ·exact hS x (by simp at hx⊢;exact .inl hx)
   ·exact hS x (by simp [eD x (dN x hx)])
theorem jem (h:RelF B w0 N s a w F) {x:A0} {u:Value} {dd:D} (hr:A0Rel B w x u) (hi:Is s x dd):∃S,Rep w false dd u S:=by
 cases x with
 |v x=>
  have hr:u=x:=hr;subst hr;rcases hi with rfl|⟨rfl,size,ty,rfl⟩
  ·exact ⟨[],rfl,rfl⟩
  ·exact ⟨[],[],[],[],⟨by simp,none,0,0,rfl,by simp,aAV _,aBR _,λ_=>rfl,λh=>absurd rfl h⟩,RepL.nil_,rfl⟩
 |ro d'=>
  have hi:dd=d':=hi;subst hi;obtain ⟨_,S,V,_⟩:=hr;exact ⟨S,V⟩
 |h g c p x=>
  obtain ⟨hr,_⟩:=hr;subst hr;obtain ⟨d0,η,V,Y,h3,h4⟩:=hi;obtain ⟨S,h5,_⟩:=qa h V Y h3 h4;exact ⟨S,h5.ro⟩
 |hs g c p x size lo n=>
  obtain ⟨hr,_⟩:=hr;obtain ⟨d0,η,dd,V,Y,h3,h4,h5,h6,h7,rfl⟩:=hi;obtain ⟨S,h8,_⟩:=qa h V Y h3 h4;have h8:=h8.ro;cases dd with
  |val _=>cases h4
  |sl size' ty cs=>
   have yN:size'=size:=h5;subst yN;rcases hr with rfl|⟨_,rfl,A,rfl⟩;rotate_left
   ·refine ⟨[],[],[],[],⟨by simp,A,0,0,rfl,by simp,aAV _,aBR _,λ_=>rfl,λh=>absurd rfl h⟩,?_,rfl⟩
    have e:D.sub (.sl size' ty cs) lo (lo+0)=.sl size' ty []:=by simp [D.sub]
    simp only [aAQ,Nat.sub_self,Nat.zero_mul,aCK];exact RepL.nil_
   obtain ⟨A,n',c',vs,S',hu,k5,_⟩:=qu h8;have aJ:=jcT (ty:=ty) h6 k5;rw [aJ] at h7;rw [hu] at h8⊢;obtain ⟨S2,k7,_⟩:=jll (B:=w.heap.size) h6 h8 (Rep.lt _ h8) (Nat.le_add_right lo n) h7;have e:lo+n-lo=n:=by omega
   rw [e] at k7;exact ⟨S2,k7⟩
 |_=>exact hi.elim
theorem go_len (h:RelF B w0 N s a w F) {c:Call} {x:Operand} {x':X} (ho:o.op=.call c) (hc:c.callee=.builtin .len) (ha:c.args.toList=[x]) {str:Bool} (ht:if str then (c.argTypes[0]?).bind P.underlying=some .string else∃e,(c.argTypes[0]?).bind P.underlying=some (.slice e)) (hx:jr x=some x')
 (hg:∀st,∃av os,Gen P s d rt st (.len str x') av os/\G av os):Goes P o a w (jK B w G):=by
 obtain ⟨av,os,⟨n,V,rfl,rfl⟩,hG⟩:=hg ⟨0,λ_ _=>undef⟩
 have hv:=kn h hx;have bO:c.args=#[x]:=by rw [<-Array.toArray_toList (xs:=c.args),ha]
 have p8:∀td,(c.argTypes[0]?).bind P.underlying=some td->∃t,c.argTypes[0]?=some t/\P.underlying t=some td:=λtd Z=>by
  cases hq:c.argTypes[0]? with
  |none=>simp [hq] at Z
  |some t=>exact ⟨t,rfl,by simpa [hq] using Z⟩
 have hD:str=false->∀(A:Option Addr) (c':Nat),a.eval x=.slice A n c'->Goes P o a w (jK B w G):=λhf A c' he=>by
  rw [hf] at ht;obtain ⟨e,Z⟩:∃e,(c.argTypes[0]?).bind P.underlying=some (.slice e):=by simpa using ht
  obtain ⟨t,Y,h3⟩:=p8 _ Z;refine kT (v:=.int .i64 n) ?_ (by exact rfl) hG
  simp [execOp,ho,resolve,hc,bO,he,invoke,builtin,Builtin.len_,Y,run_underlying h3,goInt]
 have hd:str=false->∀dd:D,dd.isSl=true->0<dd.size->n=dd.len->∀S,Rep w false dd (a.eval x) S->Goes P o a w (jK B w G):=λhf dd k1 k2 k3 S k4=>by
  cases dd with
  |val _=>cases k1
  |sl size ty cs=>
   obtain ⟨A,n',c',vs,S',he,k5,_⟩:=qu k4;obtain rfl:n=n':=by rw [k3];exact jcT k2 k5
   exact hD hf A c' he
 unfold jmE at V;split at V
 ·rename_i b he
  have eQ:=jdc h hx he;obtain ⟨t,Y,h3⟩:=p8 _ (show (c.argTypes[0]?).bind P.underlying=some .string by simpa using ht)
  subst V;refine kT (v:=.int .i64 b.size) ?_ (by exact rfl) hG
  simp [execOp,ho,resolve,hc,bO,eQ,invoke,builtin,Builtin.len_,Y,run_underlying h3,goInt]
 ·rename_i he
  have eQ:=jdc h hx he;subst V;exact hD rfl none 0 eQ
 ·rename_i dd he
  rw [he] at hv;obtain ⟨k1,S,k2,_⟩:=hv;exact hd rfl dd k1 V.2.1 V.2.2 S k2
 ·rename_i g c p x'' he
  obtain ⟨dd,k1,k2,k3⟩:=V;rw [he] at hv;have hv:A0Rel B w (.h g c p x'') (a.eval x):=hv;obtain ⟨S,k4⟩:=jem h hv k1;obtain ⟨_,_,_,_,_,k5⟩:=k1;exact hd rfl dd k5 k2 k3 S k4
 ·rename_i g c p x'' size lo m he
  obtain ⟨⟨dd,d0,η,d1,k1,k2,k3,k4,k5,k6,k7,rfl⟩,rfl⟩:=V;rw [he] at hv;have hv:a.eval x=jmF x'' size lo n\/0<lo/\n=0/\∃A,a.eval x=.slice A 0 0:=hv.1;rcases hv with hv|⟨_,rfl,A,hv⟩;rotate_left
  ·exact hD rfl _ _ hv
  obtain ⟨S,k8,_⟩:=qa h k1 k2 k3 k4;cases d1 with
  |val _=>cases k4
  |sl size' ty cs=>
   obtain ⟨A,n',c',vs,S',hu,_⟩:=qu k8.ro;subst hu;exact hD rfl _ _ hv
 ·exact V.elim
theorem go_ia (h:RelF B w0 N s a w F) {t e:TypeId} {x i:Operand} {x' i':X} {m:Nat} (ho:o.op=.indexAddr t x i) (ht:P.underlying t=some (.slice e)) (hm:jZ P e=some (m+1)) (hx:jr x=some x') (hi:jr i=some i')
 (hg:∀st,∃av os,Gen P s d rt st (.ia (m+1) x' i') av os/\G av os):Goes P o a w (jK B w G):=by
 obtain ⟨av,os,⟨k,n,V,Y,h3,rfl⟩,hG⟩:=hg ⟨0,λ_ _=>undef⟩
 have hv:=kn h hx;have xT:=jdc h hi V;obtain ⟨inf,c7,bT⟩:=jdY hm
 have a8:∀(ad:Addr) (len c:Nat),a.eval x=.slice (some ad) len c->n<len->(execOp a.eval o).run P w=.ok (.value (.pointer (some (ad.add (n.toNat*(m+1)))))) w:=λad len c he aC=>by
  simp [execOp,ho,Instr.indexAt,asIntOf,xT,he,run_underlying ht,Y,aC,sizeOf,typeInfo,c7,bT]
 split at h3
 ·rename_i dd he
  obtain ⟨k1,k2,k3,rfl⟩:=h3;rw [he] at hv;obtain ⟨_,S,k4,k5⟩:=hv;cases dd with
  |val _=>cases k1
  |sl size ty cs=>
   have k2':size=m+1:=k2;subst k2';obtain ⟨A,n',c',vs,S',hu,k6,k7,k8,k9,_,_,k10⟩:=qu k4;have aJ:=jcT (ty:=ty) (by omega:0<m+1) k6
   rw [aJ] at k3;have cQ:=RepL.length _ k7;have sF:n.toNat*(m+1)+(m+1)<=n'*(m+1):=by rw [<-Nat.succ_mul];exact aBY _ k3
   obtain ⟨b,o',rfl,Z,k11⟩:=k10 (λe=>by subst e;simp at cQ;omega)
   obtain ⟨S2,k12,k13⟩:=RepL.drop (n.toNat*(m+1)) k7;obtain ⟨S3,k14,k15⟩:=RepL.take (m+1) k12
   refine kT (a8 _ _ _ hu (by omega)) (by
    refine ⟨b,o'+n.toNat*(m+1),(vs.drop (n.toNat*(m+1))).take (m+1),S3,by rw [qB],k14,λy hy=>k5 y (k8 y (k13 y (k15 y hy))),λ_=>k5 b Z,λj y hy=>?_⟩
    rw [aBV] at hy;split at hy
    ·rw [aBQ] at hy
     rw [Nat.add_assoc];exact k11 _ _ hy
    ·simp at hy) hG
 ·rename_i g c p cL he
  obtain ⟨⟨dd,k1,k2,k3⟩,rfl⟩:=h3;rw [he] at hv;have hv:a.eval x=cL:=hv.1;obtain ⟨d0,η,k4,k5,k6,k7⟩:=k1;obtain ⟨S,k8,_⟩:=qa h k4 k5 k6 k7;cases dd with
  |val _=>cases k7
  |sl size ty cs=>
   have k2':size=m+1:=k2;subst k2';obtain ⟨vs,T,S',k9,k10,_⟩:=k8;have cQ:=RepL.length _ k10;rcases kO k9 with ⟨rfl,rfl⟩|⟨gg,nn,cc,rfl,rfl,k11,_,_⟩
   ·simp at cQ
    simp [D.len,D.cells,<-cQ] at k3
   ·have aJ:D.len (.sl (m+1) ty cs)=nn:=jcT (by omega) (by rw [<-cQ];exact k11)
    rw [aJ] at k3;refine kT (a8 _ _ _ hv (by omega)) (by show _=_;rw [qB];rfl) hG
 ·rename_i g c p cL sz lo m' he
  obtain ⟨⟨dd,d0,η,d1,k4,k5,k6,k7,k8,k9,k10,rfl⟩,rfl,k3,rfl⟩:=h3;rw [he] at hv;have hv:a.eval x=jmF cL (m+1) lo m':=hv.1.resolve_right λ⟨_,sG,_⟩=>by omega
  obtain ⟨S,k11,_⟩:=qa h k4 k5 k6 k7;cases d1 with
  |val _=>cases k7
  |sl size ty cs=>
   have k8':size=m+1:=k8;subst k8';obtain ⟨vs,T,S',k12,k13,_⟩:=k11;have cQ:=RepL.length _ k13;rcases kO k12 with ⟨rfl,rfl⟩|⟨gg,nn,cc,rfl,rfl,k14,_,_⟩
   ·simp at cQ
    simp [D.len,D.cells,<-cQ] at k10;omega
   ·have aJ:D.len (.sl (m+1) ty cs)=nn:=jcT (by omega) (by rw [<-cQ];exact k14)
    rw [aJ] at k10;obtain ⟨nv,bB,_⟩:=k12;obtain ⟨_,⟨h,_⟩|⟨g1,cap,cur,sZ,_,_,s9,_⟩⟩:=bB
    ·cases h
    ·cases sZ
     have a7:cc≠lo:=by omega
     simp only [jmF,if_neg a7,Option.map_some] at hv
     refine kT (a8 _ _ _ hv (by omega)) (by
      show _=_;rw [qB,qB,aCX,aBK];simp [vT]) hG
 ·exact h3.elim
theorem go_sidx (h:RelF B w0 N s a w F) {t:TypeId} {x i:Operand} {x' i':X} (ho:o.op=.index t x i) (ht:P.underlying t=some .string) (hx:jr x=some x') (hi:jr i=some i')
 (hg:∀st,∃av os,Gen P s d rt st (.sidx x' i') av os/\G av os):Goes P o a w (jK B w G):=by
 obtain ⟨av,os,⟨b,k,n,u,V,Y,h3,h4,rfl,rfl⟩,hG⟩:=hg ⟨0,λ_ _=>undef⟩
 refine kT (v:=.int .u8 u.toNat) ?_ (by exact rfl) hG
 simp [execOp,ho,Instr.index,asIntOf,jdc h hx V,jdc h hi Y,run_underlying ht,h3,h4]
theorem go_mm (h:RelF B w0 N s a w F) {c:Call} {mx:Bool} {x y:Operand} {x' y':X} (ho:o.op=.call c) (hc:c.callee=.builtin (if mx then .max else .min)) (ha:c.args.toList=[x,y]) (hx:jr x=some x') (hy:jr y=some y')
 (hg:∀st,∃av os,Gen P s d rt st (.mm mx x' y') av os/\G av os):Goes P o a w (jK B w G):=by
 obtain ⟨av,os,⟨k,k',m,n,V,Y,rfl,rfl⟩,hG⟩:=hg ⟨0,λ_ _=>undef⟩
 have bO:c.args=#[x,y]:=by rw [<-Array.toArray_toList (xs:=c.args),ha]
 refine kT (v:=.int k (if mx then (if n>m then n else m) else (if n<m then n else m))) ?_ (by exact rfl) hG
 cases mx
 ·simp at hc
  simp [execOp,ho,resolve,hc,bO,jdc h hx V,jdc h hy Y,invoke,builtin,Builtin.min_,Builtin.min2]
 ·simp at hc
  simp [execOp,ho,resolve,hc,bO,jdc h hx V,jdc h hy Y,invoke,builtin,Builtin.max_,Builtin.max2]
theorem go_un (h:RelF B w0 N s a w F) {op:UnOp} {t:TypeId} {x:Operand} {x':X} (ho:o.op=.unOp op t x) (hx:jr x=some x')
 (hg:∀st,∃av os,Gen P s d rt st (.un op x') av os/\G av os):Goes P o a w (jK B w G):=by
 obtain ⟨av,os,⟨V,rfl⟩,hG⟩:=hg ⟨0,λ_ _=>undef⟩
 cases op with
 |not=>
  obtain ⟨b,Y,rfl⟩:=V;refine kT (v:=.bool (!b)) ?_ (by exact rfl) hG
  simp [execOp,ho,jdc h hx Y,Op.unary]
 |neg=>
  obtain ⟨k,n,Y,rfl⟩:=V;refine kT (v:=.int k (k.wrap (0-n))) ?_ (by exact rfl) hG
  simp [execOp,ho,jdc h hx Y,Op.unary,Op.intArith]
 |_=>exact V.elim
theorem go_beq (h:RelF B w0 N s a w F) {neg:Bool} {t t':TypeId} {x y:Operand} {x' y':X} (ho:o.op=.binOp (if neg then .neq else .eql) t x y t') (ht:P.underlying t=some .bool) (hx:jr x=some x') (hy:jr y=some y')
 (hg:∀st,∃av os,Gen P s d rt st (.beq neg x' y') av os/\G av os):Goes P o a w (jK B w G):=by
 obtain ⟨av,os,⟨b,c,V,Y,rfl,rfl⟩,hG⟩:=hg ⟨0,λ_ _=>undef⟩
 refine kT (v:=.bool (if neg then !(b==c) else b==c)) ?_ (by exact rfl) hG
 cases neg
 ·simp at ho
  simp [execOp,ho,jdc h hx V,jdc h hy Y,eqGuard,binOp,run_equal_bool (P:=P) w t b c ht]
 ·simp at ho
  simp [execOp,ho,jdc h hx V,jdc h hy Y,eqGuard,binOp,run_equal_bool (P:=P) w t b c ht]
end
