/- Parts. -/
import Derived.Test.YtcehjhiglmifjaaGreatQReadY
set_option linter.all false
set_option maxRecDepth 100000
namespace Go.Proofs.YtcehjhiglmifjaaGreat
open Go.RowKit Go.Sort
theorem jBp (s:Int) (ts:List Tk):cS s ts=ts.countP (λx=>x.aOG==s):=by
 have e:ts=(List.range ts.length).map λj=>(ts[j]?).getD default:=by
  refine List.ext_getElem (by simp) λj h1 h2=>?_
  simp [h1]
 simp only [cS,qG,zk,aQI]
 conv=>rhs;rw [e]
 rw [List.countP_map,aRA];rfl
theorem jFW (s:Int) {ts:List Tk} {t:Nat} {x:Tk} (hx:ts[t]?=some x) (y:Tk):cS s (ts.set t y)+(if x.aOG==s then 1 else 0)=cS s ts+(if y.aOG==s then 1 else 0):=by
 obtain ⟨ht,e⟩:=aOS.1 hx;rw [jBp,jBp,List.countP_set (h:=ht),e]
 have:(if (x.aOG==s)=true then 1 else 0)<=ts.countP (λx=>x.aOG==s):=by
  split
  ·rename_i h
   exact List.countP_pos_iff.2 ⟨x,aOT hx,h⟩
  ·omega
 omega
theorem jzC:∀h:Nat,h<4->∀v:Nat,v<4->v≠h->v=(h+1)%4\/v=(h+2)%4\/v=(h+3)%4:=by decide
theorem jyG {h:Nat} (hh:h<4) (aOM:Int) {v:Nat} (hv:v<4) (aK:v≠h):(v:Int)∈ja9 h aOM:=by
 have hb:brI (h:Int) 0 3=h:=by
  unfold brI;rw [if_neg (by omega),if_neg (by omega)]
 have hd:0<=(if aOM<0 then 0 else aOM):=by split<;>omega
 obtain ⟨v0,v1,v2⟩:=jsk h aOM h _ hb rfl (by omega)
 have e:∀j:Nat,((h:Int)+(j:Int)).tmod 4=(((h+j)%4:Nat):Int):=λj=>by
  rw [aQA (by omega)];omega
 have e1:=e 1;have e2:=e 2;have e3:=e 3;simp only [Int.natCast_one,Int.cast_ofNat_Int] at e1 e2 e3;have hm:=jzC h hh v hv aK;rcases jyL hd with h3|h3|h3
 ·rw [v0 h3,e1,e2,e3];simp only [aPL,List.not_mem_nil,or_false,Int.natCast_inj];exact hm
 ·rw [v1 h3,e1,e2,e3];simp only [aPL,List.not_mem_nil,or_false,Int.natCast_inj];exact (by rcases hm with g|g|g;exact .inr (.inr g);exact .inl g;exact .inr (.inl g))
 ·rw [v2 h3,e1,e2,e3];simp only [aPL,List.not_mem_nil,or_false,Int.natCast_inj];exact (by rcases hm with g|g|g;exact .inr (.inl g);exact .inr (.inr g);exact .inl g)
theorem jyF {h:Nat} (hh:h<4) (aOM:Int):(ja9 h aOM).length=3/\(h:Int)∉ja9 h aOM:=by
 obtain ⟨a,b,c,e,ha,hb,hc,na,nb,nc⟩:=jd6 hh aOM;rw [e];refine ⟨rfl,λhm=>?_⟩
 rcases aPL.1 hm with hm|hm
 ·omega
 rcases aPL.1 hm with hm|hm
 ·omega
 rcases aPL.1 hm with hm|hm
 ·omega
 ·exact absurd hm (List.not_mem_nil)
theorem jrF {b:List En} (h:b.length<=80) (he:kS [] b=[]):b=[]:=by
 have aC:¬(([]:List En).length+b.length>80):=by rw [aPU];omega
 have e:kS [] b=b.foldl jcy []:=if_neg aC;have h2:=(jgo b []).length_eq;rw [<-e,he,aQG,aPU] at h2;exact aRT.1 h2.symm
theorem jxn {l:List En} (h:vf l=[]):l=[]:=by
 have:=congrArg List.length h;simp only [vf,aOZ,aPU] at this;exact aRT.1 (by omega)
theorem jwB {z:Yd} (h:YdI z) {hm v:Nat} (hv:v<4) (hh:hm<4) (aK:v≠hm) (h0:z.aOE[hm]?=some []) (h1:(pollV z hm v).aOE[hm]?=some []):
 (pollV z hm v).aOE[v]?=some []/\∀u:Nat,u≠hm->z.aOE[u]?=some []->(pollV z hm v).aOE[u]?=some []:=by
 obtain ⟨l,hl⟩:=ja (show v<z.aOE.length by rw [h.four];exact hv)
 obtain ⟨-,e2⟩:=jgp hl h0 aK;have bO:v<z.aOE.length:=(aOS.1 hl).1;have fS:hm<z.aOE.length:=(aOS.1 h0).1
 have aEN:(vf (l.filter (jJ z))).length<=80:=by
  have b2:l.length<=z.aOE.flatten.length:=jll hl;have b3:=h.flat_le;have b4:=aPT (jJ z) l;simp only [vf,aOZ];omega
 rw [e2] at h1⊢;dsimp only at h1⊢;rw [aOY (by rw [aPF];exact fS)] at h1
 have hL:=jxn (jrF aEN (aPJ h1));have hB:ja2 (l.filter (jJ z))=[]:=by rw [hL];rfl
 rw [hB];refine ⟨?_,λu hu hz=>?_⟩
 ·rw [aPW (Ne.symm aK),aOY bO]
 ·rw [aPW (Ne.symm hu),aQK]
  split
  ·rfl
  ·exact hz
theorem jpE {hm:Nat} (hh:hm<4):∀(vs:List Int) (z:Yd),(∀v∈vs,∃n:Nat,v=n/\n<4/\n≠hm)->YdI z->(pollF hm vs z).aOE[hm]?=some []->
 z.aOE[hm]?=some []/\(∀v:Nat,(v:Int)∈vs->(pollF hm vs z).aOE[v]?=some [])/\∀u:Nat,u≠hm->z.aOE[u]?=some []->(pollF hm vs z).aOE[u]?=some []
 |[],z,_,_,he=>⟨he,by simp,λu _ hz=>hz⟩
 |v::vs,z,hv,hI,he=>by
  unfold pollF at he⊢;by_cases hc:((z.aOE[hm]?).getD []).length=0
  ·rw [if_pos hc] at he⊢
   obtain ⟨n,hn,h4,aK⟩:=hv v (by simp)
   subst hn
   have h0:z.aOE[hm]?=some []:=by
    obtain ⟨a,ha⟩:=ja (show hm<z.aOE.length by rw [hI.four];exact hh)
    rw [ha,aPA] at hc;rw [ha,aRT.1 hc]
   rw [aPB] at he⊢;have hI2:=hI.pollV h4 hh aK;obtain ⟨g1,g2,g3⟩:=jpE hh vs _ (λw hw=>hv w (by simp [hw])) hI2 he
   obtain ⟨k1,k2⟩:=jwB hI h4 hh aK h0 g1;refine ⟨h0,λw hw=>?_,λu hu hz=>g3 u hu (k2 u hu hz)⟩
   rcases aPL.1 hw with hw|hw
   ·have hw:w=n:=by omega
    subst hw;exact g3 w aK k1
   ·exact g2 w hw
  ·rw [if_neg hc] at he⊢
   rw [he] at hc;exact absurd rfl hc
structure HandP (y z:Yd) (R:Rp) (k t:Nat) (r:Rn) (x:Tk) (rz:Rn) (xz:Tk):Prop where
 at_:runAt y R.run=k
 row:y.aOH[k]?=some r
 aOK:R.aOK=t
 was:r.aOD[t]?=some x
 st:x.aOG=2
 tri:x.tri=R.tri-1
 atz:runAt z R.run=k
 rowz:z.aOH[k]?=some rz
 now:rz.aOD[t]?=some xz
 stz:xz.aOG=3
 triz:xz.tri=R.tri
 small:R.tri<=5
 low:0<=R.tri
structure PollP (y:Yd) (w d:Int) (h:Nat):Prop where
 code:(jbw y w d).code=0\/(jbw y w d).code=9
 some_:(jbw y w d).code=0↔0<(ql y).length
 ok:YardOkP (qu y w d)
 idle:(jbw y w d).code≠0->kG (qu y w d)<=kG y/\ql (qu y w d)=[]
 own:(jbw y w d).code=0->∀e l,(qr y h).aOE[h]?=some (e::l)->e.run=(jbw y w d).run/\e.aOK=(jbw y w d).aOK
 hand:(jbw y w d).code=0->∃k t r x rz xz,HandP y (qu y w d) (jbw y w d) k t r x rz xz/\(ql (qu y w d)).length+1=(ql y).length
theorem jzp {y:Yd} (h:YdI y) (w d:Int):(qu y w d).seq=y.seq:=by
 unfold qu;split
 ·rfl
 ·rename_i hc
  have aR:jt y=true:=by
   cases h:jt y with
   |true=>rfl
   |false=>exact absurd (.inl h) hc
  have hw:0<=w/\w<=99:=by
   refine aQM λh=>hc (.inr h)
  have eZ:(w.tmod 4).toNat<4:=by rw [aQA hw.1];omega
  have hI:=(jnV (yard_iff.1 aR) eZ d).seq;split
  ·exact hI
  ·simp only [jgI];exact hI
theorem jur {h:Nat} {z:Yd} (hz:((z.aOE[h]?).getD []).length≠0):∀vs,pollF h vs z=z
 |[]=>rfl
 |v::vs=>by rw [pollF,if_neg hz]
theorem polls {y:Yd} (hI:YdI y) (hq:y.seq<=100000) {w d:Int} (hw:0<=w/\w<=99) {h:Nat} (hh:w.tmod 4=h):PollP y w d h:=by
 have aR:=hI.ok (by omega)
 have gO:=qX aR;have fZ:(w.tmod 4).toNat=h:=by omega
 have eZ:h<4:=by rw [aQA hw.1] at hh;omega
 have hP:=jnV aR eZ d;have hZ:=hI.pollZ eZ d;have gC:=hI.poll w d;have nN:YardOkP (qu y w d):=gC.ok (by rw [jzp hI];omega)
 have u7:qu y w d=match jbc y h d with
  |[]=>pollZ y h d
  |e::l=>jgI (pollZ y h d) h e l:=by
  unfold qu;rw [if_neg (by simp [gO];omega),fZ]
  cases jbc y h d<;>rfl
 have mS:jbw y w d=if (jbc y h d).length=0 then ⟨9,0,0,0⟩ else match jbc y h d with
  |[]=>⟨0,0,0,0⟩
  |e::l=>⟨0,e.run,e.aOK,jmm (pollZ y h d) e⟩:=by
  have hk:jbb y w d=if (jbc y h d).length=0 then 9 else 0:=by
   unfold jbb;rw [if_neg (by simp [gO]),if_neg (by omega),fZ]
  unfold jbw;rw [hk,fZ];by_cases he:(jbc y h d).length=0
  ·rw [if_pos he,if_pos he,if_pos (by decide)]
  ·rw [if_neg he,if_neg he,if_neg (by decide)]
   cases jbc y h d<;>rfl
 have hR1:=zA hI.rns.eight hI.rns.ids hI.ens;have mE:=zA hZ.rns.eight hZ.rns.ids hZ.ens;have v5:=zA gC.rns.eight gC.rns.ids gC.ens;cases hE:jbc y h d with
 |nil=>
  rw [hE] at u7 mS;dsimp only at u7;rw [if_pos aPU] at mS
  have ha:(pollZ y h d).aOE[h]?=some []:=by
   obtain ⟨l,hl⟩:=ja (show h<(pollZ y h d).aOE.length by rw [hZ.four];exact eZ)
   rw [jbc,hl,aPA] at hE;rw [hl,hE]
  obtain ⟨a,b,c,e,ha4,hb4,gB,na,nb,nc⟩:=jd6 eZ d
  have hN:=jpE eZ (ja9 h d) (qr y h) (λv hv=>by
   rw [e] at hv;simp only [aPL,List.not_mem_nil,or_false] at hv;rcases hv with rfl|rfl|rfl
   ·exact ⟨a,rfl,ha4,na⟩
   ·exact ⟨b,rfl,hb4,nb⟩
   ·exact ⟨c,rfl,gB,nc⟩) (hI.swept h) ha
  have cV:∀v:Nat,v<4->(pollZ y h d).aOE[v]?=some []:=λv hv=>by
   by_cases ev:v=h
   ·subst ev;exact ha
   ·exact hN.2.1 v (jyG eZ d hv ev)
  have f8:(pollZ y h d).aOE.flatten=[]:=by
   refine List.flatten_eq_nil_iff.2 λl hl=>?_
   obtain ⟨v,hv⟩:=aQC hl;have bO:=(aOS.1 hv).1;rw [hZ.four] at bO;rw [cV v bO] at hv;exact (aPJ hv).symm
  have nC:zd y.aOH=0:=by
   rw [f8] at mE;rw [<-hP.aOH,<-mE];rfl
  have hc9:(jbw y w d).code=9:=by rw [mS]
  refine ⟨.inr hc9,⟨λh=>by omega,λh=>by simp only [ql] at h;omega⟩,nN,λ_=>?_,λh=>by omega,λh=>by omega⟩
  rw [u7];refine ⟨?_,by simp only [ql,f8];rfl⟩
  have s1:=jsA hI;have s2:=jsA hZ;rw [f8,hP.aOH] at s2;have:0<=(qi y (zY y):Int):=Int.natCast_nonneg _;simp only [kG] at s1 s2⊢;rw [hP.aOH] at s2⊢;simp only [aPU] at s2;omega
 |cons e l=>
  rw [hE] at u7 mS;dsimp only at u7;rw [if_neg (by rw [aPI];omega)] at mS
  dsimp only at mS
  have ha:(pollZ y h d).aOE[h]?=some (e::l):=by
   obtain ⟨m,hm⟩:=ja (show h<(pollZ y h d).aOE.length by rw [hZ.four];exact eZ)
   rw [jbc,hm,aPA] at hE;rw [hm,hE]
  have bQ:∀e' l',(qr y h).aOE[h]?=some (e'::l')->e'=e:=λe' l' eS=>by
   have aJ:=jur (h:=h) (z:=qr y h) (by rw [eS,aPA,aPI];omega) (ja9 h d)
   rw [pollZ,aJ,eS] at ha;exact (List.cons.inj (aPJ ha)).1
  obtain ⟨k,t,r,x,cD,hr,iX,hx,lN⟩:=jkj (hP.frs _ ha e (by simp))
  have hRk:=hI.rns.right r (aOT hr)
  have rR:r.id=e.run:=by
   obtain ⟨k',r',h1,h2,h3,_⟩:=qk (y:=y) (id:=e.run) (by rw [cD];omega)
   rw [cD] at h1;obtain rfl:k=k':=by omega
   rw [hr] at h2;obtain rfl:=aPJ h2;exact h3
  have bA:=taskB_iff.1 (hRk.aOD t x hx);obtain ⟨n,lW,eB,cC,dI,bU,aY,lV,iW,lO⟩:=ja8 hRk.aOF;have gH:=bA.2.2.2.2
  have gH:x.aOO=0/\x.tri<r.aOF.aOQ:=by
   simp only [vn,lN] at gH;simpa using gH
  have sO:=bA.2.2.1;have w1:IntKind.i64.wrap (x.tri+1)=x.tri+1:=zm;have lA:(pollZ y h d).aOH[k]?=some r:=by rw [hP.aOH];exact hr
  have xL:runAt (pollZ y h d) e.run=k:=by rw [<-cD];unfold runAt;rw [hP.aOH]
  have hT:jmm (pollZ y h d) e=x.tri+1:=by
   simp only [jmm,xL,iX,aPB,lA,hx,aPA];exact w1
  have hH:jgI (pollZ y h d) h e l=⟨(pollZ y h d).now,(pollZ y h d).seq,(pollZ y h d).aOE.set h l,(pollZ y h d).aOH.set k (kD r t x (pollZ y h d).now)⟩:=by
   simp only [jgI,xL,iX,aPB,lA,hx,aPA]
  obtain ⟨xT,dV⟩:=jsv hRk hx lN hZ.now;have hk:=(aOS.1 lA).1;have dD:=(aOS.1 hx).1
  have sW:(qu y w d).aOH[k]?=some (kD r t x (pollZ y h d).now):=by
   rw [u7,hH];exact aOY hk
  have uW:runAt (qu y w d) e.run=k:=by
   have:=jnr gC.rns.eight gC.rns.ids sW;rw [<-rR];exact this
  have fI:=jFW 2 hx ⟨3,x.aOO,x.tri+1,(pollZ y h d).now+r.aOF.aOP⟩;rw [<-dV,lN] at fI;have eI:=qZ (f:=λr:Rn=>cS 2 r.aOD) (kD r t x (pollZ y h d).now) lA
  have mJ:zd (qu y w d).aOH+1=zd y.aOH:=by
   have e1:(qu y w d).aOH=(pollZ y h d).aOH.set k (kD r t x (pollZ y h d).now):=by rw [u7,hH]
   rw [e1,<-hP.aOH];simp only [zd];have c1:((2:Int)==2)=true:=rfl;have c2:((3:Int)==2)=false:=rfl;simp only [c1,c2,if_true,aRG,if_false] at fI;omega
  have hc0:(jbw y w d).code=0:=by rw [mS]
  have aC:(ql (qu y w d)).length+1=(ql y).length:=by simp only [ql];omega
  refine ⟨.inl hc0,⟨λ_=>by omega,λ_=>hc0⟩,nN,λh=>absurd hc0 h,λ_ e' l' eS=>by rw [bQ e' l' eS,mS];exact ⟨rfl,rfl⟩,λ_=>⟨k,t,r,x,_,⟨3,x.aOO,x.tri+1,(pollZ y h d).now+r.aOF.aOP⟩,⟨?_,hr,?_,hx,lN,?_,?_,sW,?_,rfl,?_,?_,?_⟩,aC⟩⟩
  ·rw [mS];exact cD
  ·rw [mS];exact iX
  ·rw [mS];dsimp only;omega
  ·rw [mS];exact uW
  ·rw [dV];exact aOY dD
  ·rw [mS];dsimp only;omega
  ·rw [mS];dsimp only;omega
  ·rw [mS];dsimp only;omega
