/- Parts. -/
import Derived.Test.YtcehjhiglmifjaaGreatQPollsP
set_option linter.all false
set_option maxRecDepth 100000
namespace Go.Proofs.YtcehjhiglmifjaaGreat
open Go.RowKit Go.Sort
theorem jyf {y:Yd} (h:YdI y) (id aMA tri:Int):(qz y id aMA tri).seq<=y.seq+2000:=by
 unfold qz;split
 ·have h1:=jcR y (runAt y id).toNat (kx ((y.aLX[(runAt y id).toNat]?).getD default) aMA)
  have h2:=jlE h (runAt y id).toNat;rw [zI] at h1;omega
 ·omega
theorem jx1 {y:Yd} (h:YdI y) (id aMA tri:Int):(vp y id aMA tri).seq<=y.seq+2000:=by
 unfold vp;split
 ·have h1:=jcR y (runAt y id).toNat (jz ((y.aLX[(runAt y id).toNat]?).getD default) aMA)
  have h2:=jlE h (runAt y id).toNat;rw [kF] at h1;omega
 ·omega
structure TellP (z:Yd) (R:Rp) (k t:Nat):Prop where
 held:qw z R.run R.aMA R.tri=true
 stale:zm z R.run R.aMA (R.tri+1)=11
 away:zm z R.run 99 R.tri=11
 code:zm z R.run R.aMA R.tri=0
 twice:zm (qz z R.run R.aMA R.tri) R.run R.aMA R.tri=11
 same:qz (qz z R.run R.aMA R.tri) R.run R.aMA R.tri=qz z R.run R.aMA R.tri
 ata:runAt (qz z R.run R.aMA R.tri) R.run=k
 lens:(vp z R.run R.aMA R.tri).aLX.length=(qz z R.run R.aMA R.tri).aLX.length
 oka:YardOkP (qz z R.run R.aMA R.tri)
 okb:YardOkP (vp z R.run R.aMA R.tri)
 aMA:R.aMA=t
 rows:∃(ra rb:Rn) (xa xb:Tk),(qz z R.run R.aMA R.tri).aLX[k]?=some ra/\(vp z R.run R.aMA R.tri).aLX[k]?=some rb/\ra.aLT.length=rb.aLT.length/\ra.aLT[t]?=some xa/\rb.aLT[t]?=some xb/\xa.aLV=4/\xb.aLV≠3
 noth:qw (vp z R.run R.aMA R.tri) R.run R.aMA R.tri=false
theorem jjn {y:Yd} {id aMA tri:Int} {k t:Nat} {r:Rn} {x:Tk} (eD:runAt y id=k) (hr:y.aLX[k]?=some r) (ht:aMA=t) (hx:r.aLT[t]?=some x):qw y id aMA tri=(x.aLV==3&&x.tri==tri):=by
 have h:jad y id aMA=some x:=by
  unfold jad;simp only [eD,ht,aMQ,hr];simp [hx]
 simp [qw,h]
theorem tells {z:Yd} (hZ:YdI z) (hq:z.seq<=200000) {R:Rp} {k t:Nat} {r:Rn} {x:Tk} (eD:runAt z R.run=k) (hr:z.aLX[k]?=some r) (ht:R.aMA=t) (hx:r.aLT[t]?=some x) (hs:x.aLV=3) (n7:x.tri=R.tri):TellP z R k t:=by
 have aC:=qF (hZ.ok (by omega))
 have aK:¬runAt z R.run<0:=by omega
 have hg:(z.aLX[(runAt z R.run).toNat]?).getD default=r:=by rw [eD,aMQ,hr];rfl
 have hR:=hZ.rns.right r (aMJ hr);have fK:=je2 hR hx hs
 have lY:r.id=R.run:=by
  obtain ⟨k',r',h1,h2,h3,_⟩:=kU aK;rw [eD] at h1;obtain rfl:k=k':=by omega
  rw [hr] at h2;obtain rfl:=aMW h2;exact h3
 have cP:=(aMI.1 hx).1;have cZ:=(aMI.1 hr).1;have held:qw z R.run R.aMA R.tri=true:=by rw [jjn eD hr ht hx,hs,n7];simp
 have code:zm z R.run R.aMA R.tri=0:=by
  rw [zm,if_neg (by simp [aC]),if_neg aK,if_neg (by simp [held])]
 have stale:zm z R.run R.aMA (R.tri+1)=11:=by
  have:qw z R.run R.aMA (R.tri+1)=false:=by
   rw [jjn eD hr ht hx,hs,n7];have:¬R.tri=R.tri+1:=by omega
   simp [this]
  rw [zm,if_neg (by simp [aC]),if_neg aK,if_pos this]
 have cC:r.aLT.length<=12:=by
  obtain ⟨n,hn,_,cC,_⟩:=jcH hR.aLW;have:=hR.len;omega
 have away:zm z R.run 99 R.tri=11:=by
  have:qw z R.run 99 R.tri=false:=by
   refine Bool.eq_false_iff.2 λhh=>?_
   obtain ⟨k',t',r',x',h1,h2,h3,h4,h5,_,_⟩:=jqn hh;rw [eD] at h1;obtain rfl:k=k':=by omega
   rw [hr] at h2;obtain rfl:=aMW h2;have:=(aMI.1 h5).1;omega
  rw [zm,if_neg (by simp [aC]),if_neg aK,if_pos this]
 have hA:qz z R.run R.aMA R.tri=kT z k (kx r t):=by rw [qz,if_pos code,hg,eD,aMQ,ht]
 have hB:vp z R.run R.aMA R.tri=failK z k t:=by
  have aJ:stT ((z.aLX[k]?).getD default).aLT (t:Int)==3:=by rw [hr,aMM,kt hx,hs];rfl
  rw [vp,if_pos code,hg,eD,aMQ,ht,Go.Proofs.YtcehjhiglmifjaaGreat.failK,if_pos aJ,hr,aMM]
 have hAI:=hZ.comp R.run R.aMA R.tri;have hBI:=hZ.fail R.run R.aMA R.tri;have hAq:=jyf hZ R.run R.aMA R.tri;have hBq:=jx1 hZ R.run R.aMA R.tri;have o8:(qz z R.run R.aMA R.tri).aLX=z.aLX.set k (kx r t):=by rw [hA];rfl
 have o9:(qz z R.run R.aMA R.tri).aLX[k]?=some (kx r t):=by rw [o8];exact aML cZ
 have yI:runAt (qz z R.run R.aMA R.tri) R.run=k:=by
  have:=jg1 hAI.rns.eight hAI.rns.ids o9
  rwa [jjL,lY] at this
 have hDl:(kx r t).aLT.length=r.aLT.length:=zI r t;obtain ⟨xa,lA⟩:=jd (show t<(kx r t).aLT.length by rw [hDl];exact cP)
 have wI:xa.aLV=4:=by
  have h1:=jrQ hR hx hs t;have h2:(kx r t).aLT=vS r.aLW r.aLT t x:=by rw [jb0 hx fK];rfl
  rw [h2] at lA;rw [kt lA] at h1;simpa using h1
 have eT:(vp z R.run R.aMA R.tri).aLX.map (·.id)=z.aLX.map (·.id):=by rw [hB];exact jf8 _ _ _
 have hBl:(vp z R.run R.aMA R.tri).aLX.length=z.aLX.length:=by
  have:=congrArg List.length eT;simpa using this
 obtain ⟨rb,lH⟩:=jd (show k<(vp z R.run R.aMA R.tri).aLX.length by rw [hBl];exact cZ)
 have wU:rb=jz r t:=by
  rw [hB] at lH;unfold Go.Proofs.YtcehjhiglmifjaaGreat.failK at lH;rw [if_pos (by rw [hr,aMM,kt hx,hs];rfl),jbw,aML cZ,hr,aMM] at lH
  exact (aMW lH).symm
 have wT:rb.aLT.length=r.aLT.length:=by rw [wU];exact kF r t
 obtain ⟨xb,hxb⟩:=jd (show t<rb.aLT.length by rw [wT];exact cP)
 have wH:xb.aLV≠3:=jo1 hZ (by rw [<-hB];exact lH) hxb
 have aDS:runAt (vp z R.run R.aMA R.tri) R.run=k:=by
  have:=jg1 hBI.rns.eight hBI.rns.ids lH
  rwa [wU,(jaH r t).1,lY] at this
 have pZ:=hAI.ok (by omega)
 have twice:zm (qz z R.run R.aMA R.tri) R.run R.aMA R.tri=11:=by
  have:qw (qz z R.run R.aMA R.tri) R.run R.aMA R.tri=false:=by
   rw [jjn yI o9 ht lA,wI];rfl
  rw [zm,if_neg (by simp [qF pZ]),if_neg (by omega),if_pos this]
 refine ⟨held,stale,away,code,twice,?_,yI,?_,pZ,hBI.ok (by omega),ht,⟨_,rb,xa,xb,o9,lH,by rw [hDl,wT],lA,hxb,wI,wH⟩,?_⟩
 ·generalize qz z R.run R.aMA R.tri=a at*
  rw [qz,if_neg (by rw [twice];decide)]
 ·rw [hBl,o8,aMU]
 ·rw [jjn aDS lH ht hxb]
  simp [wH]
theorem jyq {y:Yd} (hI:YdI y) (hq:y.seq<=100000) (eT:idsLe y):zm y 123 0 1=10:=by
 have d7:=jCk (id:=123) eT hI.rns.eight (by decide)
 rw [zm,if_neg (by simp [qF (hI.ok (by omega))]),if_pos (by omega)]
