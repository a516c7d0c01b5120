/- Parts. -/
import Derived.Test.YtcehjhiglmifjaaGreatQDrawB
set_option linter.all false
set_option maxRecDepth 100000
namespace Go.Proofs.YtcehjhiglmifjaaGreat
open Go.RowKit Go.Sort
theorem jy7 (s:Int) (ts:List Tk):cS s ts=ts.countP (λx=>x.aLV==s):=by
 have e:ts=(List.range ts.length).map λj=>(ts[j]?).getD default:=by
  refine List.ext_getElem (by simp) λj h1 h2=>?_
  simp [h1]
 simp only [cS,qQ,zh,aNT]
 conv=>rhs;rw [e]
 rw [List.countP_map,aOQ];rfl
theorem jC4 (s:Int) {ts:List Tk} {t:Nat} {x:Tk} (hx:ts[t]?=some x) (y:Tk):cS s (ts.set t y)+(if x.aLV==s then 1 else 0)=cS s ts+(if y.aLV==s then 1 else 0):=by
 obtain ⟨ht,e⟩:=aMI.1 hx;rw [jy7,jy7,List.countP_set (h:=ht),e]
 have:(if (x.aLV==s)=true then 1 else 0)<=ts.countP (λx=>x.aLV==s):=by
  split
  ·rename_i h
   exact List.countP_pos_iff.2 ⟨x,aMJ hx,h⟩
  ·omega
 omega
theorem jxz:∀h:Nat,h<4->∀v:Nat,v<4->v≠h->v=(h+1)%4\/v=(h+2)%4\/v=(h+3)%4:=by decide
theorem jwO {h:Nat} (hh:h<4) (aMB:Int) {v:Nat} (hv:v<4) (aR:v≠h):(v:Int)∈jeX h aMB:=by
 have hb:brI (h:Int) 0 3=h:=by
  unfold brI;rw [if_neg (by omega),if_neg (by omega)]
 have hd:0<=(if aMB<0 then 0 else aMB):=by split<;>omega
 obtain ⟨v0,v1,v2⟩:=jqN h aMB h _ hb rfl (by omega)
 have e:∀j:Nat,((h:Int)+(j:Int)).tmod 4=(((h+j)%4:Nat):Int):=λj=>by
  rw [aNU (by omega)];omega
 have e1:=e 1;have e2:=e 2;have e3:=e 3;simp only [Int.natCast_one,Int.cast_ofNat_Int] at e1 e2 e3;have hm:=jxz h hh v hv aR;rcases jwS hd with h3|h3|h3
 ·rw [v0 h3,e1,e2,e3];simp only [aNB,List.not_mem_nil,or_false,Int.natCast_inj];exact hm
 ·rw [v1 h3,e1,e2,e3];simp only [aNB,List.not_mem_nil,or_false,Int.natCast_inj];exact (by rcases hm with g|g|g;exact .inr (.inr g);exact .inl g;exact .inr (.inl g))
 ·rw [v2 h3,e1,e2,e3];simp only [aNB,List.not_mem_nil,or_false,Int.natCast_inj];exact (by rcases hm with g|g|g;exact .inr (.inl g);exact .inr (.inr g);exact .inl g)
theorem jqa {b:List En} (h:b.length<=80) (he:qb [] b=[]):b=[]:=by
 have aD:¬(([]:List En).length+b.length>80):=by rw [aOM];omega
 have e:qb [] b=b.foldl jch []:=if_neg aD;have h2:=(jfK b []).length_eq;rw [<-e,he,aON,aOM] at h2;exact aPH.1 h2.symm
theorem jvG {l:List En} (h:vf l=[]):l=[]:=by
 have:=congrArg List.length h;simp only [vf,aMP,aOM] at this;exact aPH.1 (by omega)
theorem juZ {z:Yd} (h:YdI z) {hm v:Nat} (hv:v<4) (hh:hm<4) (aR:v≠hm) (h0:z.aLU[hm]?=some []) (h1:(pollV z hm v).aLU[hm]?=some []):
 (pollV z hm v).aLU[v]?=some []/\∀u:Nat,u≠hm->z.aLU[u]?=some []->(pollV z hm v).aLU[u]?=some []:=by
 obtain ⟨l,hl⟩:=jd (show v<z.aLU.length by rw [h.four];exact hv)
 obtain ⟨-,e2⟩:=jfL hl h0 aR;have bN:v<z.aLU.length:=(aMI.1 hl).1;have fR:hm<z.aLU.length:=(aMI.1 h0).1
 have aDL:(vf (l.filter (jP z))).length<=80:=by
  have b2:l.length<=z.aLU.flatten.length:=jkb hl;have b3:=h.flat_le;have b4:=aNH (jP z) l;simp only [vf,aMP];omega
 rw [e2] at h1⊢;dsimp only at h1⊢;rw [aML (by rw [aMU];exact fR)] at h1
 have hL:=jvG (jqa aDL (aMW h1));have hB:jaS (l.filter (jP z))=[]:=by rw [hL];rfl
 rw [hB];refine ⟨?_,λu hu hz=>?_⟩
 ·rw [aNJ (Ne.symm aR),aML bN]
 ·rw [aNJ (Ne.symm hu),aNY]
  split
  ·rfl
  ·exact hz
theorem joe {hm:Nat} (hh:hm<4):∀(vs:List Int) (z:Yd),(∀v∈vs,∃n:Nat,v=n/\n<4/\n≠hm)->YdI z->(pollF hm vs z).aLU[hm]?=some []->
 z.aLU[hm]?=some []/\(∀v:Nat,(v:Int)∈vs->(pollF hm vs z).aLU[v]?=some [])/\∀u:Nat,u≠hm->z.aLU[u]?=some []->(pollF hm vs z).aLU[u]?=some []
 |[],z,_,_,he=>⟨he,by simp,λu _ hz=>hz⟩
 |v::vs,z,hv,hI,he=>by
  unfold pollF at he⊢;by_cases hc:((z.aLU[hm]?).getD []).length=0
  ·rw [if_pos hc] at he⊢
   obtain ⟨n,hn,h4,aR⟩:=hv v (by simp)
   subst hn
   have h0:z.aLU[hm]?=some []:=by
    obtain ⟨a,ha⟩:=jd (show hm<z.aLU.length by rw [hI.four];exact hh)
    rw [ha,aMM] at hc;rw [ha,aPH.1 hc]
   rw [aMQ] at he⊢;have hI2:=hI.pollV h4 hh aR;obtain ⟨g1,g2,g3⟩:=joe hh vs _ (λw hw=>hv w (by simp [hw])) hI2 he
   obtain ⟨k1,k2⟩:=juZ hI h4 hh aR h0 g1;refine ⟨h0,λw hw=>?_,λu hu hz=>g3 u hu (k2 u hu hz)⟩
   rcases aNB.1 hw with hw|hw
   ·have hw:w=n:=by omega
    subst hw;exact g3 w aR k1
   ·exact g2 w hw
  ·rw [if_neg hc] at he⊢
   rw [he] at hc;exact absurd rfl hc
structure HandP (y z:Yd) (R:Rp) (k t:Nat) (r:Rn) (x:Tk) (rz:Rn) (xz:Tk):Prop where
 at_:runAt y R.run=k
 row:y.aLX[k]?=some r
 aMA:R.aMA=t
 was:r.aLT[t]?=some x
 st:x.aLV=2
 tri:x.tri=R.tri-1
 atz:runAt z R.run=k
 rowz:z.aLX[k]?=some rz
 now:rz.aLT[t]?=some xz
 stz:xz.aLV=3
 triz:xz.tri=R.tri
 small:R.tri<=5
 low:0<=R.tri
structure PollP (y:Yd) (w d:Int) (h:Nat):Prop where
 code:(ja5 y w d).code=0\/(ja5 y w d).code=9
 some_:(ja5 y w d).code=0↔0<(jfJ y).length
 ok:YardOkP (qj y w d)
 idle:(ja5 y w d).code≠0->kw (qj y w d)<=kw y/\jfJ (qj y w d)=[]
 own:(ja5 y w d).code=0->∀e l,(vE y h).aLU[h]?=some (e::l)->e.run=(ja5 y w d).run/\e.aMA=(ja5 y w d).aMA
 hand:(ja5 y w d).code=0->∃k t r x rz xz,HandP y (qj y w d) (ja5 y w d) k t r x rz xz/\(jfJ (qj y w d)).length+1=(jfJ y).length
theorem jrj {y:Yd} (h:YdI y) (w d:Int):(qj y w d).seq=y.seq:=by
 unfold qj;split
 ·rfl
 ·rename_i hc
  have aC:jw y=true:=by
   cases h:jw y with
   |true=>rfl
   |false=>exact absurd (.inl h) hc
  have hw:0<=w/\w<=99:=by
   refine aOL λh=>hc (.inr h)
  have eW:(w.tmod 4).toNat<4:=by rw [aNU hw.1];omega
  have hI:=(jjO (yard_iff.1 aC) eW d).seq;split
  ·exact hI
  ·simp only [jdX];exact hI
theorem jsM {h:Nat} {z:Yd} (hz:((z.aLU[h]?).getD []).length≠0):∀vs,pollF h vs z=z
 |[]=>rfl
 |v::vs=>by rw [pollF,if_neg hz]
theorem polls {y:Yd} (hI:YdI y) (hq:y.seq<=100000) {w d:Int} (hw:0<=w/\w<=99) {h:Nat} (hh:w.tmod 4=h):PollP y w d h:=by
 have aC:=hI.ok (by omega)
 have fZ:=qF aC;have fV:(w.tmod 4).toNat=h:=by omega
 have eW:h<4:=by rw [aNU hw.1] at hh;omega
 have hP:=jjO aC eW d;have hZ:=hI.pollZ eW d;have eJ:=hI.poll w d;have wC:YardOkP (qj y w d):=eJ.ok (by rw [jrj hI];omega)
 have uA:qj y w d=match ja6 y h d with
  |[]=>pollZ y h d
  |e::l=>jdX (pollZ y h d) h e l:=by
  unfold qj;rw [if_neg (by simp [fZ];omega),fV]
  cases ja6 y h d<;>rfl
 have l9:ja5 y w d=if (ja6 y h d).length=0 then ⟨9,0,0,0⟩ else match ja6 y h d with
  |[]=>⟨0,0,0,0⟩
  |e::l=>⟨0,e.run,e.aMA,jla (pollZ y h d) e⟩:=by
  have hk:jan y w d=if (ja6 y h d).length=0 then 9 else 0:=by
   unfold jan;rw [if_neg (by simp [fZ]),if_neg (by omega),fV]
  unfold ja5;rw [hk,fV];by_cases he:(ja6 y h d).length=0
  ·rw [if_pos he,if_pos he,if_pos (by decide)]
  ·rw [if_neg he,if_neg he,if_neg (by decide)]
   cases ja6 y h d<;>rfl
 have hR1:=jbL hI.rns.eight hI.rns.ids hI.ens;have hR2:=jbL hZ.rns.eight hZ.rns.ids hZ.ens;have hR3:=jbL eJ.rns.eight eJ.rns.ids eJ.ens;cases hE:ja6 y h d with
 |nil=>
  rw [hE] at uA l9;dsimp only at uA;rw [if_pos aOM] at l9
  have ha:(pollZ y h d).aLU[h]?=some []:=by
   obtain ⟨l,hl⟩:=jd (show h<(pollZ y h d).aLU.length by rw [hZ.four];exact eW)
   rw [ja6,hl,aMM] at hE;rw [hl,hE]
  obtain ⟨a,b,c,e,ha4,hb4,eX,na,nb,nc⟩:=jfw eW d
  have hN:=joe eW (jeX h d) (vE y h) (λv hv=>by
   rw [e] at hv;simp only [aNB,List.not_mem_nil,or_false] at hv;rcases hv with rfl|rfl|rfl
   ·exact ⟨a,rfl,ha4,na⟩
   ·exact ⟨b,rfl,hb4,nb⟩
   ·exact ⟨c,rfl,eX,nc⟩) (hI.swept h) ha
  have cK:∀v:Nat,v<4->(pollZ y h d).aLU[v]?=some []:=λv hv=>by
   by_cases ev:v=h
   ·subst ev;exact ha
   ·exact hN.2.1 v (jwO eW d hv ev)
  have fW:(pollZ y h d).aLU.flatten=[]:=by
   refine List.flatten_eq_nil_iff.2 λl hl=>?_
   obtain ⟨v,hv⟩:=aNV hl;have bN:=(aMI.1 hv).1;rw [hZ.four] at bN;rw [cK v bN] at hv;exact (aMW hv).symm
  have mM:zr y.aLX=0:=by
   rw [fW] at hR2;rw [<-hP.aLX,<-hR2];rfl
  have hc9:(ja5 y w d).code=9:=by rw [l9]
  refine ⟨.inr hc9,⟨λh=>by omega,λh=>by simp only [jfJ] at h;omega⟩,wC,λ_=>?_,λh=>by omega,λh=>by omega⟩
  rw [uA];refine ⟨?_,by simp only [jfJ,fW];rfl⟩
  have s1:=jdB hI;have s2:=jdB hZ;rw [fW,hP.aLX] at s2;have:0<=(qh y (zR y):Int):=Int.natCast_nonneg _;simp only [kw] at s1 s2⊢;rw [hP.aLX] at s2⊢;simp only [aOM] at s2;omega
 |cons e l=>
  rw [hE] at uA l9;dsimp only at uA;rw [if_neg (by rw [aNG];omega)] at l9
  dsimp only at l9
  have ha:(pollZ y h d).aLU[h]?=some (e::l):=by
   obtain ⟨m,hm⟩:=jd (show h<(pollZ y h d).aLU.length by rw [hZ.four];exact eW)
   rw [ja6,hm,aMM] at hE;rw [hm,hE]
  have bR:∀e' l',(vE y h).aLU[h]?=some (e'::l')->e'=e:=λe' l' fE=>by
   have aJ:=jsM (h:=h) (z:=vE y h) (by rw [fE,aMM,aNG];omega) (jeX h d)
   rw [pollZ,aJ,fE] at ha;exact (List.cons.inj (aMW ha)).1
  obtain ⟨k,t,r,x,bT,hr,fY,hx,gS⟩:=jf2 (hP.frs _ ha e (by simp))
  have hRk:=hI.rns.right r (aMJ hr)
  have lY:r.id=e.run:=by
   obtain ⟨k',r',h1,h2,h3,_⟩:=kU (y:=y) (id:=e.run) (by rw [bT];omega)
   rw [bT] at h1;obtain rfl:k=k':=by omega
   rw [hr] at h2;obtain rfl:=aMW h2;exact h3
  have bK:=taskB_iff.1 (hRk.aLT t x hx);obtain ⟨n,lK,d8,cC,dS,bV,aX,lJ,gR,lB⟩:=jcH hRk.aLW;have f8:=bK.2.2.2.2
  have f8:x.aME=0/\x.tri<r.aLW.aMG:=by
   simp only [vg,gS] at f8;simpa using f8
  have nQ:=bK.2.2.1;have w1:IntKind.i64.wrap (x.tri+1)=x.tri+1:=zy;have gV:(pollZ y h d).aLX[k]?=some r:=by rw [hP.aLX];exact hr
  have wQ:runAt (pollZ y h d) e.run=k:=by rw [<-bT];unfold runAt;rw [hP.aLX]
  have hT:jla (pollZ y h d) e=x.tri+1:=by
   simp only [jla,wQ,fY,aMQ,gV,hx,aMM];exact w1
  have hH:jdX (pollZ y h d) h e l=⟨(pollZ y h d).now,(pollZ y h d).seq,(pollZ y h d).aLU.set h l,(pollZ y h d).aLX.set k (kD r t x (pollZ y h d).now)⟩:=by
   simp only [jdX,wQ,fY,aMQ,gV,hx,aMM]
  obtain ⟨p8,dO⟩:=jqW hRk hx gS hZ.now;have hk:=(aMI.1 gV).1;have cP:=(aMI.1 hx).1
  have rX:(qj y w d).aLX[k]?=some (kD r t x (pollZ y h d).now):=by
   rw [uA,hH];exact aML hk
  have aDC:runAt (qj y w d) e.run=k:=by
   have:=jg1 eJ.rns.eight eJ.rns.ids rX;rw [<-lY];exact this
  have fF:=jC4 2 hx ⟨3,x.aME,x.tri+1,(pollZ y h d).now+r.aLW.aMF⟩;rw [<-dO,gS] at fF;have eF:=qB (f:=λr:Rn=>cS 2 r.aLT) (kD r t x (pollZ y h d).now) gV
  have tI:zr (qj y w d).aLX+1=zr y.aLX:=by
   have e1:(qj y w d).aLX=(pollZ y h d).aLX.set k (kD r t x (pollZ y h d).now):=by rw [uA,hH]
   rw [e1,<-hP.aLX];simp only [zr];have c1:((2:Int)==2)=true:=rfl;have c2:((3:Int)==2)=false:=rfl;simp only [c1,c2,if_true,aOZ,if_false] at fF;omega
  have pO:(ja5 y w d).code=0:=by rw [l9]
  have aD:(jfJ (qj y w d)).length+1=(jfJ y).length:=by simp only [jfJ];omega
  refine ⟨.inl pO,⟨λ_=>by omega,λ_=>pO⟩,wC,λh=>absurd pO h,λ_ e' l' fE=>by rw [bR e' l' fE,l9];exact ⟨rfl,rfl⟩,λ_=>⟨k,t,r,x,_,⟨3,x.aME,x.tri+1,(pollZ y h d).now+r.aLW.aMF⟩,⟨?_,hr,?_,hx,gS,?_,?_,rX,?_,rfl,?_,?_,?_⟩,aD⟩⟩
  ·rw [l9];exact bT
  ·rw [l9];exact fY
  ·rw [l9];dsimp only;omega
  ·rw [l9];exact aDC
  ·rw [dO];exact aML cP
  ·rw [l9];dsimp only;omega
  ·rw [l9];dsimp only;omega
  ·rw [l9];dsimp only;omega
