/- Parts. -/
import Derived.Test.YtcehjhiglmifjaaGreatQForg
set_option linter.all false
set_option maxRecDepth 100000
namespace Go.Proofs.YtcehjhiglmifjaaGreat
open Go.RowKit Go.Sort
structure jpy (r r2:Rn):Prop where
 id:r2.id=r.id
 aLW:r2.aLW=r.aLW
 ok:RunOkP r2
 len:r2.aLT.length=r.aLT.length
 aMA:∀(t:Nat) (x z:Tk),r.aLT[t]?=some x->r2.aLT[t]?=some z->(x.aLV=2->z.aLV=2\/z.aLV=6)/\(x.aLV=6->z.aLV=6)/\(z.aLV=2->x.aLV≠6)/\(z.aLV=3->z=x)/\(z.aLV=1->x.aLV=1/\z.tri=x.tri)
 room:kH r2+cS 2 r.aLT+(zk r.aLT r2.aLT r2.aLT.length).length<=kH r+cS 2 r2.aLT
theorem newL_mem {was ts:List Tk} {k:Nat} {v:Int}:v∈zk was ts k↔∃j:Nat,v=j/\j<k/\jpA was ts j=true:=by
 simp only [zk,aOB,aOD,aPJ];constructor
 ·rintro ⟨j,⟨h1,h2⟩,rfl⟩;exact ⟨j,rfl,h1,h2⟩
 ·rintro ⟨j,rfl,h1,h2⟩;exact ⟨j,⟨h1,h2⟩,rfl⟩
theorem js6 (was ts:List Tk) (k:Nat):(zk was ts k).Nodup:=jcg _ _
theorem jrs {was ts:List Tk} {j:Nat} {x z:Tk} (hx:was[j]?=some x) (hz:ts[j]?=some z):jpA was ts j=(z.aLV==2&&!(x.aLV==2)):=by
 have hj:=(aMI.1 hx).1;simp [jpA,kt hx,kt hz,hj]
theorem jn7 {was ts:List Tk} (hl:ts.length=was.length) (h:∀(j:Nat) (x z:Tk),was[j]?=some x->ts[j]?=some z->x.aLV=2->z.aLV=2):cS 2 ts=cS 2 was+(zk was ts ts.length).length:=by
 have e1:(zk was ts ts.length).length=((List.range ts.length).filter λ(j:Nat)=>(stT ts (j:Int)==2)&&!(stT was (j:Int)==2)).length:=by
  simp only [zk,aNT]
  congr 1
  refine List.filter_congr λj hj=>?_
  have:j<was.length:=by rw [<-hl];exact aPJ.1 hj
  simp [jpA,this]
 have e2:cS 2 was=((List.range ts.length).filter λ(j:Nat)=>(stT ts (j:Int)==2)&&(stT was (j:Int)==2)).length:=by
  simp only [cS,qQ,zh,aNT,<-hl]
  congr 1
  refine List.filter_congr λj hj=>?_
  have mQ:=aPJ.1 hj;obtain ⟨z,hz⟩:=jd mQ;obtain ⟨x,hx⟩:=jd (show j<was.length by omega)
  rw [kt hz,kt hx];cases h2:x.aLV==2
  ·simp
  ·rw [h j x z hx hz (by simpa using h2)];rfl
 have e3:cS 2 ts=((List.range ts.length).filter λ(j:Nat)=>stT ts (j:Int)==2).length:=by simp only [cS,qQ,zh,aNT]
 rw [e1,e2,e3];have:=List.length_eq_countP_add_countP (λ(j:Nat)=>stT was (j:Int)==2) (l:=(List.range ts.length).filter λ(j:Nat)=>stT ts (j:Int)==2)
 simp only [aOQ,List.filter_filter] at this;rw [this]
 congr 1
 ·congr 1
  refine List.filter_congr λj _=>?_
  exact Bool.and_comm _ _
 ·congr 1
  refine List.filter_congr λj _=>?_
  cases stT was (j:Int)==2<;>cases stT ts (j:Int)==2<;>rfl
theorem jcP {rs:List Rn} {k:Nat} {r2 r':Rn} (h:r'∈rs.set k r2):r'=r2\/∃j,j≠k/\rs[j]?=some r':=by
 obtain ⟨j,hj⟩:=aNV h;rw [aNY] at hj;by_cases e:k=j
 ·subst e
  rw [if_pos rfl] at hj;split at hj
  ·exact .inl (aMW hj).symm
  ·simp at hj
 ·rw [if_neg e] at hj;exact .inr ⟨j,λh=>e h.symm,hj⟩
theorem jmA {rs:List Rn} {k:Nat} {r r2:Rn} (hr:rs[k]?=some r) (h:r2.id=r.id):(rs.set k r2).map (·.id)=rs.map (·.id):=by
 apply aOR
 intro j;simp only [aPG,aNY];by_cases e:k=j
 ·subst e
  rw [if_pos rfl,if_pos (aMI.1 hr).1,hr];simp [h]
 ·rw [if_neg e]
theorem jvo {rs rs':List Rn} {q:Int} {L:List En} {r2:Rn} {ids:List Int} (h:EnsI rs q L) (hq:1<=q) (hid:(rs'.map (·.id)).Nodup) (cL:r2∈rs') (eT:ids.Nodup)
 (h1:∀t∈ids,∃(j:Nat) (x:Tk),t=j/\r2.aLT[j]?=some x/\x.aLV=2)
 (h2:∀e∈L,∃r∈rs',∃(t:Nat) (x:Tk),e.run=r.id/\e.aMA=t/\r.aLT[t]?=some x/\(x.aLV=2/\e.aMC=r.aLW.aMC\/x.aLV=6))
 (h3:∀r'∈rs',r'.id≠r2.id->r'∈rs)
 (h4:∀(t:Nat) (x:Tk),r2.aLT[t]?=some x->x.aLV=2->(t:Int)∉ids->jaj r2.id t L=1)
 (h5:∀t∈ids,jaj r2.id t L=0):EnsI rs' (q+ids.length) (jlU r2.aLW.aMC r2.id q ids++L):=by
 refine ⟨λe he=>?_,?_,λe he=>?_,λr' bE t x hx hs=>?_⟩
 ·rcases aMN.1 he with he|he
  ·obtain ⟨_,_,_,k4,k5⟩:=jdL he;omega
  ·have:=h.range e he;omega
 ·rw [aOT]
  refine aMS.2 ⟨jlT _ _ _ _,h.apart,λa ha b hb e=>?_⟩
  obtain ⟨e1,mT,rfl⟩:=aOB.1 ha;obtain ⟨e2,cB,rfl⟩:=aOB.1 hb;have:=(jdL mT).2.2.2.1;have:=h.range e2 cB;omega
 ·rcases aMN.1 he with he|he
  ·obtain ⟨k1,k2,k3,_⟩:=jdL he
   obtain ⟨j,x,hj,hx,hs⟩:=h1 _ k3;exact ⟨r2,cL,j,x,k2,hj,hx,.inl ⟨hs,k1⟩⟩
  ·exact h2 e he
 ·rw [jhX]
  by_cases hi:r'.id=r2.id
  ·obtain rfl:=jjm hid bE cL hi
   rw [jrr];by_cases ht:(t:Int)∈ids
   ·rw [eT.count,if_pos ht,h5 _ ht]
   ·rw [List.count_eq_zero.2 ht,h4 t x hx hs ht]
  ·rw [jnu (L:=jlU _ _ _ _) (λe he=>by have:=(jdL he).2.1;rintro ⟨k1,_⟩;exact hi (k1.symm.trans this)),h.one r' (h3 r' bE hi) t x hx hs]
theorem jqP {α:Type} (f:α->Nat) (l:List α) (x:α):qN f (l++[x])=qN f l+f x:=by simp [qN]
theorem RnsI.turn {now:Int} {rs:List Rn} {k:Nat} {r r2:Rn} (h:RnsI now rs) (hr:rs[k]?=some r) (hg:jpy r r2):RnsI now (rs.set k r2):=by
 refine ⟨by rw [aMU];exact h.eight,λr' bE=>?_,by rw [jmA hr hg.id];exact h.ids,λr' bE t x hx hs=>?_,λr' bE x hx hs=>?_⟩
 ·rcases jcP bE with rfl|⟨j,_,hj⟩
  ·exact hg.ok
  ·exact h.right r' (aMJ hj)
 ·rcases jcP bE with rfl|⟨j,_,hj⟩
  ·obtain ⟨z,hz⟩:=jd (show t<r.aLT.length by rw [<-hg.len];exact (aMI.1 hx).1)
   have:=(hg.aMA t z x hz hx).2.2.2.1 hs;subst this;rw [hg.aLW];exact h.til r (aMJ hr) t x hz hs
  ·exact h.til r' (aMJ hj) t x hx hs
 ·rcases jcP bE with rfl|⟨j,_,hj⟩
  ·obtain ⟨t,hx⟩:=aNV hx
   obtain ⟨z,hz⟩:=jd (show t<r.aLT.length by rw [<-hg.len];exact (aMI.1 hx).1)
   obtain ⟨h1,h2⟩:=(hg.aMA t z x hz hx).2.2.2.2 hs;rw [h2];exact h.tri r (aMJ hr) z (aMJ hz) h1
  ·exact h.tri r' (aMJ hj) x hx hs
theorem jz4 {rs:List Rn} {k:Nat} {r r2:Rn} {q:Int} {L:List En} (h:EnsI rs q L) (hr:rs[k]?=some r) (hg:jpy r r2):∀e∈L,∃r∈rs.set k r2,∃(t:Nat) (x:Tk),e.run=r.id/\e.aMA=t/\r.aLT[t]?=some x/\(x.aLV=2/\e.aMC=r.aLW.aMC\/x.aLV=6):=by
 intro e he;have hk:=(aMI.1 hr).1;obtain ⟨r',bE,t,x,h1,h2,h3,h4⟩:=h.own e he;obtain ⟨j,hj⟩:=aNV bE;by_cases ejk:k=j
 ·subst ejk
  rw [hr] at hj;obtain rfl:=aMW hj;obtain ⟨z,hz⟩:=jd (show t<r2.aLT.length by rw [hg.len];exact (aMI.1 h3).1)
  obtain ⟨g1,g2,_⟩:=hg.aMA t x z h3 hz;refine ⟨r2,aMJ (aML hk),t,z,by rw [hg.id];exact h1,h2,hz,?_⟩
  rcases h4 with ⟨h4,h5⟩|h4
  ·rcases g1 h4 with g|g
   ·exact .inl ⟨g,by rw [hg.aLW];exact h5⟩
   ·exact .inr g
  ·exact .inr (g2 h4)
 ·exact ⟨r',aMJ (i:=j) (by rw [aNJ ejk];exact hj),t,x,h1,h2,h3,h4⟩
theorem jAQ {rs:List Rn} {q:Int} {L:List En} (h:EnsI rs q L) (hid:(rs.map (·.id)).Nodup) {r:Rn} {t:Nat} {x:Tk} (hr:r∈rs) (hx:r.aLT[t]?=some x) (h2:x.aLV≠2) (h6:x.aLV≠6):jaj r.id t L=0:=by
 refine jnu λe he=>?_
 rintro ⟨k1,k2⟩;obtain ⟨r',bE,t',x',h1,h3,h4,h5⟩:=h.own e he;obtain rfl:=jjm hid hr bE (k1.symm.trans h1);obtain rfl:t=t':=by omega
 rw [hx] at h4;obtain rfl:=aMW h4;rcases h5 with h5|h5
 ·exact h2 h5.1
 ·exact h6 h5
theorem YdI.turn {y:Yd} {k:Nat} {r r2:Rn} (h:YdI y) (hr:y.aLX[k]?=some r) (hg:jpy r r2):YdI (kT y k r2):=by
 have hk:=(aMI.1 hr).1;obtain ⟨-,pV⟩:=jzw r2.id;obtain ⟨l,hl⟩:=jd (show shN r2.id<y.aLU.length by rw [h.four];exact pV)
 have hR:=h.rns.turn hr hg
 have e:kT y k r2=⟨y.now,y.seq+(zk r.aLT r2.aLT r2.aLT.length).length,y.aLU.set (shN r2.id) (zl r2.aLW.aMC r2.id (zk r.aLT r2.aLT r2.aLT.length) (l,y.seq)).1,y.aLX.set k r2⟩:=by
  rw [kT,jtc];simp only [hr,aMM,hl,zY]
 obtain ⟨rest,p1,p2⟩:=zN hl (zl r2.aLW.aMC r2.id (zk r.aLT r2.aLT r2.aLT.length) (l,y.seq)).1
 have hp:(jlU r2.aLW.aMC r2.id y.seq (zk r.aLT r2.aLT r2.aLT.length)++y.aLU.flatten).Perm (y.aLU.set (shN r2.id) (zl r2.aLW.aMC r2.id (zk r.aLT r2.aLT r2.aLT.length) (l,y.seq)).1).flatten:=by
  refine ((aPD _ p1).trans ?_).trans p2.symm;rw [<-aNA];exact ((jj2 _ _ _ _ _).symm).append_right _
 have hE:EnsI (y.aLX.set k r2) (y.seq+(zk r.aLT r2.aLT r2.aLT.length).length) (jlU r2.aLW.aMC r2.id y.seq (zk r.aLT r2.aLT r2.aLT.length)++y.aLU.flatten):=by
  refine jvo h.ens h.seq hR.ids (aMJ (aML hk)) (js6 _ _ _) (λt ht=>?_) (jz4 h.ens hr hg) (λr' bE hi=>?_) (λt x hx hs ht=>?_) (λt ht=>?_)
  ·obtain ⟨j,rfl,hj,hn⟩:=newL_mem.1 ht
   obtain ⟨z,hz⟩:=jd hj;simp only [jpA,kt hz,aMY,aOO] at hn;exact ⟨j,z,rfl,hz,hn.1⟩
  ·rcases jcP bE with rfl|⟨j,_,hj⟩
   ·exact absurd rfl hi
   ·exact aMJ hj
  ·have dZ:=(aMI.1 hx).1
   obtain ⟨z,hz⟩:=jd (show t<r.aLT.length by rw [<-hg.len];exact dZ)
   have yP:z.aLV=2:=aOL λaR=>ht (newL_mem.2 ⟨t,rfl,dZ,by rw [jrs hz hx,hs];simp [aR]⟩)
   rw [hg.id];exact h.ens.one r (aMJ hr) t z hz yP
  ·obtain ⟨j,rfl,hj,hn⟩:=newL_mem.1 ht
   obtain ⟨z,hz⟩:=jd hj;obtain ⟨x,hx⟩:=jd (show j<r.aLT.length by rw [<-hg.len];exact hj)
   rw [jrs hx hz] at hn;simp only [aMY,aOO,Bool.not_eq_true',beq_eq_false_iff_ne] at hn;rw [hg.id];exact jAQ h.ens h.rns.ids (aMJ hr) hx hn.2 ((hg.aMA j x z hx hz).2.2.1 hn.1)
 have aD:=hp.length_eq;rw [aMR,jm5] at aD;have bY:=h.room;have hg6:=hg.room;have t1:=qB (f:=kH) r2 hr;have t2:=qB (f:=λr=>cS 2 r.aLT) r2 hr
 rw [e];refine ⟨h.now,by have:=h.seq;dsimp only;omega,by rw [aMU];exact h.four,λm hm=>?_,hR,hE.perm hp,by simp only [zr] at bY⊢;omega⟩
 rcases List.mem_or_eq_of_mem_set hm with hm|rfl
 ·exact h.sorted m hm
 ·exact jm7 _ _ _ (h.sorted l (aMJ hl)) λx hx=>by
   have:=h.ens.range x (List.mem_flatten.2 ⟨l,aMJ hl,hx⟩);omega
def stD (z:Tk):Tk:=⟨if IntKind.i64.wrap (z.aME-1)=0 then 2 else z.aLV,IntKind.i64.wrap (z.aME-1),z.tri,z.til⟩
theorem juf {ts:List Tk} {b:Int} (hb:0<=b) (j:Nat):(ja4 ts b)[j]?=(ts[j]?).map λz=>if (j:Int)=b then stD z else z:=by
 unfold ja4;by_cases e:(j:Int)=b
 ·have ej:b.toNat=j:=by omega
  rw [ej];cases hz:ts[j]? with
  |none=>simp [hz]
  |some z=>
   have hj:=(aMI.1 hz).1;simp only [Option.map_some,if_pos e];rw [aML hj];rfl
 ·have ej:b.toNat≠j:=by omega
  cases hz:ts[b.toNat]? with
  |none=>simp [e]
  |some z=>simp only [if_neg e];rw [aNJ ej];simp
theorem joV:∀{l:List Int} {ts:List Tk},l.Nodup->(∀b∈l,0<=b)->∀j:Nat,(l.foldl ja4 ts)[j]?=(ts[j]?).map λz=>if (j:Int)∈l then stD z else z
 |[],ts,_,_,j=>by simp
 |b::l,ts,hn,h0,j=>by
  obtain ⟨h1,h2⟩:=aOP.1 hn;rw [aPC,joV h2 (λx hx=>h0 x (by simp [hx])) j,juf (h0 b (by simp)) j,Option.map_map]
  congr 1
  funext z
  simp only [Function.comp,aNB];by_cases e:(j:Int)=b
  ·have:¬(j:Int)∈l:=by rw [e];exact h1
   simp [e,h1]
  ·simp [e]
theorem jqv {l:List Int} {p:Int->Bool} {t:Int} (hn:l.Nodup) (ht:t∈l) (hp:p t=true):(l.filter p).length=(l.filter λb=>p b&&(b !=t)).length+1:=by
 induction l with
 |nil=>simp at ht
 |cons a l ih=>
  obtain ⟨h1,h2⟩:=aOP.1 hn;rcases aNB.1 ht with rfl|ht
  ·have e:l.filter (λb=>p b&&(b !=t))=l.filter p:=List.filter_congr λb hb=>by
    have:b≠t:=λe=>h1 (e▸hb)
    simp [this]
   rw [aOX,if_pos hp,aOX,if_neg (by simp),e];rfl
  ·have eD:a≠t:=λe=>h1 (e▸ht)
   have:=ih h2 ht;rw [aOX,aOX];cases hpa:p a<;>simp [eD,this]
theorem jqu {l:List Int} {p:Int->Bool} {t:Int} (ht:t∉l):(l.filter λb=>p b&&(b !=t))=l.filter p:=List.filter_congr λb hb=>by
 have:b≠t:=λe=>ht (e▸hb)
 simp [this]
theorem jqG {p:Pl} (h:jr p=0) {a b:Nat}:(a:Int)∈zQ p b↔(b:Int)∈jbW p a:=by
 obtain ⟨n,hn,_,_,_,bV,_⟩:=jcH h;have e1:p.aLT.toNat=n:=by omega
 rw [zQ,jbW,e1,(jbA (jkI bV b)).mem_iff,(jbA (jnB bV a)).mem_iff,jft,jfs];simp only [aOB,aOD,aOO];constructor
 ·rintro ⟨e,⟨h1,h2⟩,h3⟩;exact ⟨e,⟨h1,h3⟩,h2⟩
 ·rintro ⟨e,⟨h1,h2⟩,h3⟩;exact ⟨e,⟨h1,h3⟩,h2⟩
theorem jtC {p:Pl} (h:jr p=0) (t:Int):(jbW p t).Nodup:=by
 obtain ⟨n,hn,_,_,_,bV,hd,_⟩:=jcH h;rw [jbW,show p.aLT.toNat=n by omega]
 exact (jbA (jnB bV t)).nodup_iff.2 (jme hd t)
theorem jtE {p:Pl} (h:jr p=0) (t:Int):(zQ p t).Nodup:=by
 obtain ⟨n,hn,_,_,_,bV,hd,_⟩:=jcH h;rw [zQ,show p.aLT.toNat=n by omega]
 exact (jbA (jkI bV t)).nodup_iff.2 (jmf hd t)
theorem RunOkP.need_pos {r:Rn} (h:RunOkP r) {t j:Nat} {x z:Tk} (hx:r.aLT[t]?=some x) (hs:x.aLV=3) (hz:r.aLT[j]?=some z) (hj:(j:Int)∈jbW r.aLW t):z.aLV=1/\z.aME=ja8 r.aLW r.aLT j/\1<=ja8 r.aLW r.aLT j:=by
 obtain ⟨e1,e2,e3,e4⟩:=h.aLX hx hs;have hT:=taskB_iff.1 (h.aLT j z hz)
 have hp:1<=ja8 r.aLW r.aLT j:=by
  have hm:(t:Int)∈(zQ r.aLW j).filter λb=>stT r.aLT b !=4:=aOD.2 ⟨(jqG h.aLW).2 hj,by rw [kt hx,hs];rfl⟩
  have:=List.length_pos_of_mem hm;simp only [ja8];omega
 have h6:z.aLV≠6:=jr1 e3 hz;have hl:=hT.2.2.2.2;unfold vg at hl;refine ⟨?_,hT.2.1,hp⟩;refine aOL λh1=>?_
 rw [if_neg h1] at hl;split at hl
 ·simp only [aMY,aOO] at hl;omega
 ·simp only [if_neg h6,aMY,aOO] at hl;omega
section
variable {r:Rn} {t:Nat} {x:Tk}
theorem jx7 (h:RunOkP r) (j:Nat):(vS r.aLW r.aLT t x)[j]?=((r.aLT.set t ⟨4,x.aME,x.tri,0⟩)[j]?).map λz=>if (j:Int)∈jbW r.aLW t then stD z else z:=by
 obtain ⟨n,hn,_,_,_,bV,_⟩:=jcH h.aLW;exact joV (jtC h.aLW t) (λb hb=>(jqE hn hb).1) j
theorem jro (h:RunOkP r) (hx:r.aLT[t]?=some x) (hs:x.aLV=3):¬(t:Int)∈jbW r.aLW t:=λhm=>by
 have:=(h.need_pos hx hs hx hm).1;omega
theorem jdT (h:RunOkP r) (hx:r.aLT[t]?=some x) (hs:x.aLV=3) {j:Nat} {w:Tk} (hw:(vS r.aLW r.aLT t x)[j]?=some w):
 (j=t/\w=⟨4,x.aME,x.tri,0⟩)\/(j≠t/\∃z,r.aLT[j]?=some z/\((j:Int)∈jbW r.aLW t/\w=stD z\/¬(j:Int)∈jbW r.aLW t/\w=z)):=by
 have ht:=(aMI.1 hx).1;rw [jx7 h] at hw;by_cases e:j=t
 ·subst e
  rw [aML ht,Option.map_some,if_neg (jro h hx hs)] at hw;exact .inl ⟨rfl,(aMW hw).symm⟩
 ·rw [aNJ (λe'=>e e'.symm)] at hw
  obtain ⟨z,hz,rfl⟩:=Option.map_eq_some_iff.1 hw;refine .inr ⟨e,z,hz,?_⟩;by_cases hm:(j:Int)∈jbW r.aLW t
  ·exact .inl ⟨hm,by rw [if_pos hm]⟩
  ·exact .inr ⟨hm,by rw [if_neg hm]⟩
theorem jyC {z:Tk} (h:z.aLV=1):(stD z).aLV=1\/(stD z).aLV=2:=by
 simp only [stD];split
 ·exact .inr rfl
 ·exact .inl h
theorem jrQ (h:RunOkP r) (hx:r.aLT[t]?=some x) (hs:x.aLV=3) (j:Nat):(stT (vS r.aLW r.aLT t x) j !=4)=(stT r.aLT j !=4&&((j:Int) !=t)):=by
 have ht:=(aMI.1 hx).1;cases hw:(vS r.aLW r.aLT t x)[j]? with
 |none=>
  have hz:r.aLT[j]?=none:=by rw [aPB] at hw⊢;rw [jaW] at hw;exact hw
  have dA:¬j=t:=λe=>by subst e;rw [hx] at hz;cases hz
  have aZ:((j:Int) !=t)=true:=by simp only [bne_iff_ne];omega
  simp only [stT,aMQ,hw,hz,aZ,Bool.and_true]
 |some w=>
  rw [kt hw];rcases jdT h hx hs hw with ⟨rfl,rfl⟩|⟨aR,z,hz,⟨hm,rfl⟩|⟨hm,rfl⟩⟩
  ·simp
  ·have h1:=(h.need_pos hx hs hz hm).1
   have aZ:((j:Int) !=t)=true:=by simp only [bne_iff_ne];omega
   rw [kt hz,h1,aZ];rcases jyC h1 with h2|h2<;>rw [h2]<;>rfl
  ·have aZ:((j:Int) !=t)=true:=by simp only [bne_iff_ne];omega
   rw [kt hz,aZ,Bool.and_true]
theorem jtt (h:RunOkP r) (hx:r.aLT[t]?=some x) (hs:x.aLV=3) (j:Nat):ja8 r.aLW (vS r.aLW r.aLT t x) j=ja8 r.aLW r.aLT j-if (j:Int)∈jbW r.aLW t then 1 else 0:=by
 obtain ⟨n,hn,_,_,_,bV,_⟩:=jcH h.aLW
 have e:(zQ r.aLW j).filter (λb=>stT (vS r.aLW r.aLT t x) b !=4)=(zQ r.aLW j).filter λb=>(stT r.aLT b !=4)&&(b !=(t:Int)):=List.filter_congr λb hb=>by
  have sM:0<=b:=by
   rw [zQ] at hb;exact (jfD hb).1.1
  obtain ⟨m,rfl⟩:=Int.eq_ofNat_of_zero_le sM;exact jrQ h hx hs m
 simp only [ja8];rw [e];by_cases hm:(j:Int)∈jbW r.aLW t
 ·have:=jqv (p:=λb=>stT r.aLT b !=4) (jtE h.aLW j) ((jqG h.aLW).2 hm) (by rw [kt hx,hs];rfl)
  rw [if_pos hm];omega
 ·have:=jqu (p:=λb=>stT r.aLT b !=4) (λhc=>hm ((jqG h.aLW).1 hc))
  rw [if_neg hm,this];omega
theorem jvZ (h:RunOkP r) (hx:r.aLT[t]?=some x) (hs:x.aLV=3) (h0:∀z∈r.aLT,z.aLV=1->z.tri=0):jpy r (jhn r t x):=by
 obtain ⟨e1,e2,e3,e4⟩:=h.aLX hx hs;obtain ⟨n,hn,d8,cC,dS,bV,aX,lJ,gR,lB⟩:=jcH h.aLW;have bK:=taskB_iff.1 (h.aLT t x hx);have f8:=bK.2.2.2.2;simp only [vg,hs] at f8;have f8:x.aME=0/\1<=x.tri:=by simpa using f8
 have gX:∀j:Nat,ja8 r.aLW r.aLT j<=12:=λj=>by
  have h1:=aNH (λb=>stT r.aLT b !=4) (zQ r.aLW j)
  have h2:(zQ r.aLW j).length<=n:=by
   rw [zQ,show r.aLW.aLT.toNat=n by omega,jw1 (jkI bV j)]
   exact jr4 aX bV j
  simp only [ja8];omega
 have s8:=jl8 h hx hs;have aD:=jaW r.aLW r.aLT t x;refine ⟨rfl,rfl,⟨h.id,h.aLW,by show ((vS r.aLW r.aLT t x).length:Int)=_;rw [aD];exact h.len,λj w hw=>?_,s8.symm,?_⟩,aD,λj z w hz hw=>?_,?_⟩
 ·show jT r.aLW (vS r.aLW r.aLT t x) j w=true
  rw [taskB_iff,jtt h hx hs];rcases jdT h hx hs hw with ⟨rfl,rfl⟩|⟨aR,z,hz,⟨hm,rfl⟩|⟨hm,rfl⟩⟩
  ·rw [if_neg (jro h hx hs)]
   exact ⟨by simp,by rw [bK.2.1];omega,bK.2.2.1,rfl,by simp [vg,f8.1,f8.2]⟩
  ·obtain ⟨g1,g2,g3⟩:=h.need_pos hx hs hz hm
   have g4:=gX j;have g5:=h0 z (aMJ hz) g1;have eL:IntKind.i64.wrap (z.aME-1)=z.aME-1:=zy;have wE:=taskB_iff.1 (h.aLT j z hz)
   have pS:z.til=0:=by
    have:=wE.2.2.2.1;simpa [jbz,g1] using this
   rw [if_pos hm];simp only [stD,eL];by_cases fU:z.aME-1=0
   ·rw [if_pos fU]
    refine ⟨by simp,by omega,wE.2.2.1,by simp [jbz,pS],?_⟩
    have:z.tri<r.aLW.aMG:=by omega
    simp [vg,fU,this]
   ·rw [if_neg fU]
    refine ⟨by simp [g1],by omega,wE.2.2.1,by simp [jbz,g1,pS],?_⟩
    have:0<z.aME-1:=by omega
    simp only [vg,g1,if_true,aNC];exact this
  ·have wE:=taskB_iff.1 (h.aLT j _ hz)
   rw [if_neg hm,Int.sub_zero];exact wE
 ·show (if _ then (2:Int) else r.aLV)≠0
  split<;>omega
 ·have bS:(vS r.aLW r.aLT t x)[j]?=some w:=hw
  rcases jdT h hx hs bS with ⟨rfl,rfl⟩|⟨aR,z',cI,⟨hm,rfl⟩|⟨hm,rfl⟩⟩
  ·rw [hx] at hz
   obtain rfl:=aMW hz;simp [hs]
  ·rw [hz] at cI
   obtain rfl:=aMW cI;have g1:=(h.need_pos hx hs hz hm).1;have g3:(stD z).tri=z.tri:=rfl;rcases jyC g1 with g2|g2<;>rw [g2,g1,g3]<;>refine ⟨λg=>?_,λg=>?_,λg=>?_,λg=>?_,λg=>?_⟩<;>first|omega|(simp;done)|exact ⟨rfl,rfl⟩
  ·rw [hz] at cI
   obtain rfl:=aMW cI;refine ⟨λg=>.inl g,λg=>g,λg=>by omega,λ_=>rfl,λg=>⟨g,rfl⟩⟩
 ·have hk:=jn7 (was:=r.aLT) (ts:=vS r.aLW r.aLT t x) aD λj z w hz hw g=>by
   rcases jdT h hx hs hw with ⟨rfl,rfl⟩|⟨aR,z',cI,⟨hm,rfl⟩|⟨hm,rfl⟩⟩
   ·rw [hx] at hz
    obtain rfl:=aMW hz;omega
   ·rw [hz] at cI
    obtain rfl:=aMW cI;have:=(h.need_pos hx hs hz hm).1;omega
   ·rw [hz] at cI
    obtain rfl:=aMW cI;exact g
  have mN:kH (jhn r t x)<=kH r:=by
   unfold kH;rw [if_pos e1];split
   ·show (vS r.aLW r.aLT t x).length<=_;omega
   ·omega
  show kH (jhn r t x)+cS 2 r.aLT+(zk r.aLT (vS r.aLW r.aLT t x) (vS r.aLW r.aLT t x).length).length<=kH r+cS 2 (vS r.aLW r.aLT t x);omega
theorem jov {was ts:List Tk} (h:∀z∈ts,z.aLV≠2) (k:Nat) (hk:k<=ts.length):zk was ts k=[]:=by
 have:∀v,v∉zk was ts k:=λv hv=>by
  obtain ⟨j,rfl,hj,hn⟩:=newL_mem.1 hv;obtain ⟨z,hz⟩:=jd (show j<ts.length by omega)
  simp only [jpA,kt hz,aMY,aOO] at hn;exact h z (aMJ hz) hn.1
 exact List.eq_nil_iff_forall_not_mem.2 this
theorem jtr (h:RunOkP r) (hx:r.aLT[t]?=some x) (hs:x.aLV=3):jpy r (zC r t x):=by
 have aC:=jo0 h hx hs;obtain ⟨e1,e2,e3,e4⟩:=h.aLX hx hs;have ht:=(aMI.1 hx).1;by_cases hm:x.tri<r.aLW.aMG
 ·have e:zC r t x=⟨r.id,r.aLW,r.aLV,r.aLT.set t ⟨2,x.aME,x.tri,0⟩⟩:=by rw [zC,if_pos hm]
  rw [e] at aC⊢
  have key:∀(j:Nat) (z w:Tk),r.aLT[j]?=some z->(r.aLT.set t ⟨2,x.aME,x.tri,0⟩)[j]?=some w->(j=t/\z=x/\w=⟨2,x.aME,x.tri,0⟩)\/w=z:=λj z w hz hw=>by
   rw [aNY] at hw;by_cases e:t=j
   ·subst e
    rw [if_pos rfl,if_pos ht] at hw;rw [hx] at hz;exact .inl ⟨rfl,(aMW hz).symm,(aMW hw).symm⟩
   ·rw [if_neg e,hz] at hw
    exact .inr (aMW hw).symm
  refine ⟨rfl,rfl,aC,aMU ..,λj z w hz hw=>?_,?_⟩
  ·rcases key j z w hz hw with ⟨rfl,rfl,rfl⟩|rfl
   ·simp [hs]
   ·exact ⟨λg=>.inl g,λg=>g,λg=>by omega,λ_=>rfl,λg=>⟨g,rfl⟩⟩
  ·have hk:=jn7 (was:=r.aLT) (ts:=r.aLT.set t ⟨2,x.aME,x.tri,0⟩) (aMU ..) λj z w hz hw g=>by
    rcases key j z w hz hw with ⟨rfl,rfl,rfl⟩|rfl
    ·rfl
    ·exact g
   have mN:kH ⟨r.id,r.aLW,r.aLV,r.aLT.set t ⟨2,x.aME,x.tri,0⟩⟩=kH r:=by simp [kH]
   rw [mN];dsimp only;omega
 ·have e:zC r t x=⟨r.id,r.aLW,3,vn jA (r.aLT.set t ⟨5,x.aME,x.tri,0⟩) r.aLT.length⟩:=by rw [zC,if_neg hm]
  rw [e] at aC⊢;have hl:(vn jA (r.aLT.set t ⟨5,x.aME,x.tri,0⟩) r.aLT.length).length=r.aLT.length:=by rw [vX,aMU]
  have key:∀(j:Nat) (z w:Tk),r.aLT[j]?=some z->(vn jA (r.aLT.set t ⟨5,x.aME,x.tri,0⟩) r.aLT.length)[j]?=some w->(w.aLV=4/\z.aLV=4)\/(w.aLV=5/\z.aLV=3)\/(w.aLV=6/\z.aLV≠4):=λj z w hz hw=>by
   have el:r.aLT.length=(r.aLT.set t ⟨5,x.aME,x.tri,0⟩).length:=by rw [aMU]
   rw [el] at hw;obtain ⟨u,hu,rfl⟩:=jfQ hw;rw [aNY] at hu;by_cases e:t=j
   ·subst e
    rw [if_pos rfl,if_pos ht] at hu;obtain rfl:=aMW hu;rw [hx] at hz;obtain rfl:=aMW hz;exact .inr (.inl ⟨by simp [jA],hs⟩)
   ·rw [if_neg e,hz] at hu
    obtain rfl:=aMW hu;have h5:z.aLV≠5:=jr1 e2 hz;by_cases h4:z.aLV=4
    ·exact .inl ⟨by simp [jA,h4],h4⟩
    ·exact .inr (.inr ⟨by simp [jA,h4,h5],h4⟩)
  have no2:∀w∈vn jA (r.aLT.set t ⟨5,x.aME,x.tri,0⟩) r.aLT.length,w.aLV≠2:=λw hw=>by
   obtain ⟨j,hj⟩:=aNV hw;obtain ⟨z,hz⟩:=jd (show j<r.aLT.length by rw [<-hl];exact (aMI.1 hj).1)
   rcases key j z w hz hj with g|g|g<;>omega
  refine ⟨rfl,rfl,aC,hl,λj z w hz hw=>?_,?_⟩
  ·have h6:z.aLV≠6:=jr1 e3 hz
   rcases key j z w hz hw with ⟨g,g'⟩|⟨g,g'⟩|⟨g,g'⟩<;>rw [g]<;>refine ⟨λ_=>?_,λ_=>?_,λ_=>?_,λ_=>?_,λ_=>?_⟩<;>simp_all
  ·have:=zM h
   have e0:zk r.aLT (vn jA (r.aLT.set t ⟨5,x.aME,x.tri,0⟩) r.aLT.length) (vn jA (r.aLT.set t ⟨5,x.aME,x.tri,0⟩) r.aLT.length).length=[]:=jov no2 _ (aMV _);dsimp only;rw [e0];simp [kH] at this⊢;split at this<;>simp_all
   all_goals omega
end
theorem jfI {r:Rn} (h:RunOkP r) (t:Int) (hr:vL r t=true):jpy r (jz r t):=by
 obtain ⟨k,x,rfl,hx,hs,_⟩:=jbc hr;rw [qR hx hr];exact jtr h hx hs
theorem jn3 {r:Rn} (h:RunOkP r) (h0:∀z∈r.aLT,z.aLV=1->z.tri=0) (t:Int) (hr:vL r t=true):jpy r (kx r t):=by
 obtain ⟨k,x,rfl,hx,hs,_⟩:=jbc hr;rw [jb0 hx hr];exact jvZ h hx hs h0
theorem jzy {y:Yd} (h:YdI y) {k:Nat} {t:Int} {r:Rn} (hr:y.aLX[k]?=some r) (ht:0<=t) (hs:stT r.aLT t=3):vL r t=true:=by
 obtain ⟨n,rfl⟩:=Int.eq_ofNat_of_zero_le ht;cases hx:r.aLT[n]? with
 |none=>
  have:stT r.aLT (n:Int)=0:=by simp only [stT,aMQ,hx,Option.getD_none];rfl
  omega
 |some x=>
  rw [kt hx] at hs;exact je2 (h.rns.right r (aMJ hr)) hx hs
theorem YdI.failK {y:Yd} (h:YdI y) (k t:Nat):YdI (failK y k t):=by
 unfold Go.Proofs.YtcehjhiglmifjaaGreat.failK;split
 ·rename_i hs
  cases hk:y.aLX[k]? with
  |none=>
   rw [hk] at hs;simp [stT] at hs;cases hs
  |some r=>
   rw [hk,aMM] at hs;rw [aMM];exact h.turn hk (jfI (h.rns.right r (aMJ hk)) _ (jzy h hk (Int.natCast_nonneg _) (by simpa using hs)))
 ·exact h
theorem jsh {y:Yd} {id aMA:Int} {x:Tk} (h:jad y id aMA=some x):∃(k t:Nat) (r:Rn),runAt y id=k/\y.aLX[k]?=some r/\r.id=id/\aMA=t/\r.aLT[t]?=some x:=by
 unfold jad at h;split at h
 ·cases h
 ·rename_i aK
  obtain ⟨k,r,bT,hr,hid,_⟩:=kU aK;rw [bT,aMQ,hr] at h;dsimp only at h;split at h
  ·rename_i h0
   obtain ⟨t,rfl⟩:=Int.eq_ofNat_of_zero_le h0;exact ⟨k,t,r,bT,hr,hid,rfl,by simpa using h⟩
  ·cases h
theorem jqn {y:Yd} {id aMA tri:Int} (h:qw y id aMA tri=true):∃(k t:Nat) (r:Rn) (x:Tk),runAt y id=k/\y.aLX[k]?=some r/\r.id=id/\aMA=t/\r.aLT[t]?=some x/\x.aLV=3/\x.tri=tri:=by
 unfold qw at h;cases ht:jad y id aMA with
 |none=>rw [ht] at h;simp at h
 |some x=>
  rw [ht] at h;simp only [aMY,aOO] at h;obtain ⟨k,t,r,h1,h2,h3,h4,h5⟩:=jsh ht;exact ⟨k,t,r,x,h1,h2,h3,h4,h5,h.1,h.2⟩
theorem YdI.comp {y:Yd} (h:YdI y) (id aMA tri:Int):YdI (qz y id aMA tri):=by
 unfold qz;split
 ·rename_i hc
  obtain ⟨aC,aK⟩:=jlm hc
  have hh:qw y id aMA tri=true:=by
   obtain ⟨aC,aK⟩:=jlm hc;cases hq:qw y id aMA tri with
   |true=>rfl
   |false=>rw [zm,if_neg (by rw [qF aC];decide),if_neg aK,if_pos hq] at hc;cases hc
  obtain ⟨k,t,r,x,bT,hr,_,rfl,hx,hs,_⟩:=jqn hh;rw [bT,aMQ,hr,aMM];have hR:=h.rns.right r (aMJ hr);exact h.turn hr (jn3 hR (h.rns.tri r (aMJ hr)) _ (je2 hR hx hs))
 ·exact h
theorem YdI.fail {y:Yd} (h:YdI y) (id aMA tri:Int):YdI (vp y id aMA tri):=by
 unfold vp;split
 ·rename_i hc
  have hh:qw y id aMA tri=true:=by
   obtain ⟨aC,aK⟩:=jlm hc;cases hq:qw y id aMA tri with
   |true=>rfl
   |false=>rw [zm,if_neg (by rw [qF aC];decide),if_neg aK,if_pos hq] at hc;cases hc
  obtain ⟨k,t,r,x,bT,hr,_,rfl,hx,hs,_⟩:=jqn hh;rw [bT,aMQ,hr,aMM];have hR:=h.rns.right r (aMJ hr);exact h.turn hr (jfI hR _ (je2 hR hx hs))
 ·exact h
theorem YdI.restT {y:Yd} (h:YdI y) (k:Nat):∀t,YdI (restT y k t)
 |0=>h
 |t+1=>(YdI.restT h k t).failK k t
theorem YdI.restR {y:Yd} (h:YdI y):∀k,YdI (restR y k)
 |0=>h
 |k+1=>(YdI.restR h k).restT k _
theorem YdI.rest {y:Yd} (h:YdI y):YdI (jbG y):=by
 unfold jbG;split
 ·exact h.restR _
 ·exact h
def SubR (y z:Yd):Prop:=∀(k t:Nat) (r':Rn) (x:Tk),z.aLX[k]?=some r'->r'.aLT[t]?=some x->x.aLV=3->∃r,y.aLX[k]?=some r/\r.id=r'.id/\r.aLW=r'.aLW/\r.aLT[t]?=some x
theorem SubR.refl (y:Yd):SubR y y:=λk t r x hr hx _=>⟨r,hr,rfl,rfl,hx⟩
theorem SubR.trans {x y z:Yd} (h:SubR x y) (h':SubR y z):SubR x z:=λk t r u hr hu hs=>by
 obtain ⟨r1,h1,h2,h3,h4⟩:=h' k t r u hr hu hs;obtain ⟨r2,g1,g2,g3,g4⟩:=h k t r1 u h1 h4 hs;exact ⟨r2,g1,g2.trans h2,g3.trans h3,g4⟩
theorem SubR.failK (y:Yd) (k t:Nat):SubR y (failK y k t):=by
 unfold Go.Proofs.YtcehjhiglmifjaaGreat.failK;split
 ·intro j i r' x bE hx hs
  rw [jbw,aNY] at bE;by_cases e:k=j
  ·subst e
   rw [if_pos rfl] at bE;split at bE
   ·rename_i hk
    obtain ⟨r,hr⟩:=jd hk;rw [hr,aMM] at bE;obtain rfl:=aMW bE;have hi:=jaH r t;exact ⟨r,hr,hi.1.symm,hi.2.symm,jlG hx hs⟩
   ·simp at bE
  ·rw [if_neg e] at bE;exact ⟨r',bE,rfl,rfl,hx⟩
 ·exact .refl y
theorem jo1 {y:Yd} (h:YdI y) {k t:Nat} {r':Rn} {x:Tk} (hr:(failK y k t).aLX[k]?=some r') (hx:r'.aLT[t]?=some x):x.aLV≠3:=by
 intro hs;obtain ⟨r,h1,_,_,h4⟩:=SubR.failK y k t k t r' x hr hx hs;unfold Go.Proofs.YtcehjhiglmifjaaGreat.failK at hr;have aJ:stT r.aLT (t:Int)=3:=by rw [kt h4,hs]
 rw [h1,aMM,aJ,if_pos (by decide),jbw,aML (aMI.1 h1).1] at hr
 obtain rfl:=aMW hr;have hR:=h.rns.right r (aMJ h1);have fK:=je2 hR h4 hs;rw [qR h4 fK,zC] at hx;have ht:=(aMI.1 h4).1;split at hx
 ·dsimp only at hx
  rw [aML ht] at hx;have:=congrArg Tk.aLV (aMW hx);dsimp only at this;omega
 ·dsimp only at hx
  have e:r.aLT.length=(r.aLT.set t ⟨5,x.aME,x.tri,0⟩).length:=by rw [aMU]
  rw [e] at hx;obtain ⟨u,hu,he⟩:=jfQ hx;rw [aML ht] at hu;rw [<-aMW hu] at he;have:=congrArg Tk.aLV he;simp [jA] at this;omega
theorem jAg {y:Yd} {r:Rn} {t:Nat} {x:Tk} (hr:r∈y.aLX) (hx:r.aLT[t]?=some x) (hs:x.aLV=3) (hl:x.til<=y.now+1):[r.id,(t:Int),x.tri]∈kC y:=by
 have key:∀(ts:List Tk) (k j:Nat),ts[j]?=some x->[r.id,((k+j:Nat):Int),x.tri]∈jag y.now r k ts:=by
  intro ts
  induction ts with
  |nil=>intro k j h;simp at h
  |cons a ts ih=>
   intro k j h;rw [jag];cases j with
   |zero=>
    simp at h;subst h;refine aMN.2 (.inl ?_)
    have:jaz y.now r.id a k=some [r.id,(k:Int),a.tri]:=by
     rw [jaz,if_pos];simp only [hs,aOY,Bool.true_and,aNC];omega
    rw [this];simp
   |succ j=>
    refine aMN.2 (.inr ?_);have:=ih (k+1) j (by simpa using h)
    rwa [show k+1+j=k+(j+1) by omega] at this
 have:=key r.aLT 0 t hx;rw [aOK] at this;exact aPS.2 ⟨r,hr,this⟩
theorem jf8 (y:Yd) (k t:Nat):(failK y k t).aLX.map (·.id)=y.aLX.map (·.id):=by
 unfold Go.Proofs.YtcehjhiglmifjaaGreat.failK;split
 ·rw [jbw]
  cases hr:y.aLX[k]? with
  |none=>rw [List.set_eq_of_length_le (aPB.1 hr)]
  |some r=>rw [aMM,jmA hr (jaH _ _).1]
 ·rfl
theorem YdI.tickI {y:Yd} (h:YdI y):∀i,i<=(kC y).length->YdI (tickI y i)/\(tickI y i).aLX.map (·.id)=y.aLX.map (·.id)/\(tickI y i).now=y.now
 |0,_=>⟨h,rfl,rfl⟩
 |i+1,hi=>by
  obtain ⟨h1,h2,h3⟩:=YdI.tickI h i (by omega)
  obtain ⟨l,hl⟩:=jd (show i<(kC y).length by omega)
  rw [je0 hl,jmu];refine ⟨h1.failK _ _,?_,?_⟩
  ·rw [<-h2];exact jf8 _ _ _
  ·rw [<-h3]
   unfold Go.Proofs.YtcehjhiglmifjaaGreat.failK;split<;>rfl
theorem jqQ (y:Yd) (i:Nat):∀d:Nat,i+d<=(kC y).length->SubR (tickI y i) (tickI y (i+d)):=by
 intro d
 induction d with
 |zero=>intro _;exact .refl _
 |succ d ih=>
  intro h;obtain ⟨l,hl⟩:=jd (show i+d<(kC y).length by omega)
  have h1:=ih (by omega)
  have e:tickI y (i+(d+1))=failK (tickI y (i+d)) (runAt (tickI y (i+d)) (l.headD 0)).toNat (l.tail.headD 0).toNat:=by
   rw [<-aPT,je0 hl,jmu]
  rw [e];exact h1.trans (.failK _ _ _)
theorem jt5 {y:Yd} (h:YdI y):∀r'∈(tickI y (kC y).length).aLX,∀(t:Nat) (x:Tk),r'.aLT[t]?=some x->x.aLV=3->y.now+2<=x.til:=by
 intro r' bE t x hx hs;refine aOL λaB=>?_
 obtain ⟨k,hk⟩:=aNV bE;have s0:=jqQ y 0 (kC y).length (by omega)
 rw [aOK] at s0;obtain ⟨r,hr,hid,-,bQ⟩:=s0 k t r' x hk hx hs;have hr:y.aLX[k]?=some r:=hr;obtain ⟨i,hi⟩:=aNV (jAg (aMJ hr) bQ hs (by omega))
 have hil:=(aMI.1 hi).1;have s1:=jqQ y (i+1) ((kC y).length-(i+1)) (by omega)
 rw [show i+1+((kC y).length-(i+1))=(kC y).length by omega] at s1
 obtain ⟨r1,dE,aIQ,-,bK⟩:=s1 k t r' x hk hx hs;obtain ⟨hI,eT,-⟩:=h.tickI i (by omega)
 rw [je0 hi,jmu] at dE
 obtain ⟨r2,cL⟩:=jd (show k<(tickI y i).aLX.length by
  have:=congrArg List.length eT;simp only [aNT] at this;rw [this];exact (aMI.1 hr).1)
 have aCE:r2.id=r.id:=by
  have e1:((tickI y i).aLX.map (·.id))[k]?=some r2.id:=by rw [aPG,cL];rfl
  rw [eT,aPG,hr] at e1;exact (aMW e1).symm
 have eD:=jg1 hI.rns.eight hI.rns.ids cL;rw [aCE] at eD;have e1:([r.id,(t:Int),x.tri]:List Int).headD 0=r.id:=rfl;have e2:(([r.id,(t:Int),x.tri]:List Int).tail.headD 0).toNat=t:=by simp
 rw [e1,e2,eD,aMQ] at dE;exact jo1 hI dE bK hs
theorem YdI.tick {y:Yd} (h:YdI y):YdI (jaE y):=by
 unfold jaE;split
 ·rename_i hc
  have gW:y.now+1<=999999980:=by
   unfold ja3 at hc;split at hc
   ·cases hc
   ·split at hc
    ·cases hc
    ·omega
  obtain ⟨h1,h2,h3⟩:=h.tickI _ (aMV _);have key:=jt5 h;have hn:=h.now;generalize Go.Proofs.YtcehjhiglmifjaaGreat.tickI y (kC y).length=z at*
  exact ⟨⟨by dsimp only;omega,gW⟩,h1.seq,h1.four,h1.sorted,⟨h1.rns.eight,h1.rns.right,h1.rns.ids,λr hr t x hx hs=>by
   have k1:=key r hr t x hx hs;have k2:=h1.rns.til r hr t x hx hs;dsimp only;omega,h1.rns.tri⟩,h1.ens,h1.room⟩
 ·exact h
theorem jtX {y:Yd} {k:Nat} {r r2:Rn} (hr:y.aLX[k]?=some r) (hn:zk r.aLT r2.aLT r2.aLT.length=[]) (h4:y.aLU.length=4):kT y k r2=jcf y k r2:=by
 obtain ⟨-,pV⟩:=jzw r2.id;obtain ⟨l,hl⟩:=jd (show shN r2.id<y.aLU.length by rw [h4];exact pV)
 have e:y.aLU.set (shN r2.id) l=y.aLU:=by
  obtain ⟨h1,h2⟩:=aMI.1 hl;rw [<-h2];exact List.set_getElem_self h1
 rw [kT,jtc];simp only [hr,aMM,hn,hl,jfS,e,jcf]
theorem jvl {r:Rn} (h:RunOkP r) (hs:r.aLV=1):jpy r (vG r)/\zk r.aLT (vG r).aLT (vG r).aLT.length=[]:=by
 have e:vG r=⟨r.id,r.aLW,4,vn jA r.aLT r.aLT.length⟩:=by rw [vG,if_pos (by simp [runOk_iff.2 h,hs])]
 have aJ:=h.aLV;rw [hs] at aJ
 obtain ⟨c4,c5,c6⟩:cS 4 r.aLT≠r.aLT.length/\cS 5 r.aLT=0/\cS 6 r.aLT=0:=by
  unfold jg4 at aJ;split at aJ
  ·cases aJ
  ·rename_i g
   split at aJ
   ·cases aJ
   ·split at aJ
    ·cases aJ
    ·split at aJ
     ·rename_i g2;exact ⟨g,g2.1,g2.2⟩
     ·cases aJ
 have hl:(vn jA r.aLT r.aLT.length).length=r.aLT.length:=vX
 have key:∀(j:Nat) (w:Tk),(vn jA r.aLT r.aLT.length)[j]?=some w->∃z,r.aLT[j]?=some z/\((z.aLV=4/\w=z)\/(z.aLV≠4/\w=⟨6,z.aME,z.tri,0⟩)):=λj w hw=>by
  obtain ⟨z,hz,rfl⟩:=jfQ hw;have h5:z.aLV≠5:=jr1 c5 hz;refine ⟨z,hz,?_⟩;by_cases h4:z.aLV=4
  ·exact .inl ⟨h4,by simp [jA,h4]⟩
  ·exact .inr ⟨h4,by simp [jA,h4,h5]⟩
 have dC:∀w∈vn jA r.aLT r.aLT.length,w.aLV=4\/w.aLV=6:=λw hw=>by
  obtain ⟨j,hj⟩:=aNV hw;obtain ⟨z,_,⟨h1,rfl⟩|⟨_,rfl⟩⟩:=key j w hj
  ·exact .inl h1
  ·exact .inr rfl
 have lE:∀b:Int,(stT (vn jA r.aLT r.aLT.length) b !=4)=(stT r.aLT b !=4):=by
  intro b;simp only [stT,vn,List.getElem?_mapIdx];cases hb:r.aLT[b.toNat]? with
  |none=>rfl
  |some z=>simp only [Option.map_some,aMM,if_pos (aMI.1 hb).1,jrv]
 have hN:=λj=>jb6 (p:=r.aLW) lE j
 have d4:cS 4 (vn jA r.aLT r.aLT.length)=cS 4 r.aLT:=by
  simp only [cS,qQ,zh,aNT,hl]
  congr 1
  refine List.filter_congr λj _=>?_
  have:=lE (j:Int);cases h1:stT (vn jA r.aLT r.aLT.length) (j:Int)==4<;>cases h2:stT r.aLT (j:Int)==4<;>simp_all [bne]
 have d5:cS 5 (vn jA r.aLT r.aLT.length)=0:=jd6 λz hz=>by rcases dC z hz with g|g<;>omega
 have d1:cS 1 (vn jA r.aLT r.aLT.length)=0:=jd6 λz hz=>by rcases dC z hz with g|g<;>omega
 have d2:cS 2 (vn jA r.aLT r.aLT.length)=0:=jd6 λz hz=>by rcases dC z hz with g|g<;>omega
 have d3:cS 3 (vn jA r.aLT r.aLT.length)=0:=jd6 λz hz=>by rcases dC z hz with g|g<;>omega
 have eF:=jcJ (λz hz=>by rcases dC z hz with g|g<;>omega) _ (aMV (vn jA r.aLT r.aLT.length).length)
 change cS 1 _+cS 2 _+cS 3 _+cS 4 _+cS 5 _+cS 6 _=_ at eF;have cX:cS 4 r.aLT<=r.aLT.length:=by simp only [cS,qQ];exact vx _ _ _
 have gX:zk r.aLT (vn jA r.aLT r.aLT.length) (vn jA r.aLT r.aLT.length).length=[]:=jov (λz hz=>by rcases dC z hz with g|g<;>omega) _ (aMV _)
 rw [e];refine ⟨⟨rfl,rfl,⟨h.id,h.aLW,by dsimp only;rw [hl];exact h.len,λj w hw=>?_,?_,by simp⟩,hl,λj z w hz hw=>?_,?_⟩,gX⟩
 ·dsimp only at hw⊢
  rw [taskB_iff,hN];obtain ⟨z,hz,⟨g1,rfl⟩|⟨g1,rfl⟩⟩:=key j w hw
  ·exact taskB_iff.1 (h.aLT j _ hz)
  ·have h3:=taskB_iff.1 (h.aLT j _ hz)
   exact ⟨by simp,h3.2.1,h3.2.2.1,rfl,by simp [vg]⟩
 ·dsimp only
  rw [jg4,if_neg (by omega),if_neg (by omega),if_pos ⟨d5,by omega,by omega⟩]
 ·obtain ⟨z',cI,⟨g1,rfl⟩|⟨g1,rfl⟩⟩:=key j w hw
  ·rw [hz] at cI
   obtain rfl:=aMW cI;exact ⟨λg=>by omega,λg=>g,λg=>by omega,λ_=>rfl,λg=>⟨g,rfl⟩⟩
  ·rw [hz] at cI
   obtain rfl:=aMW cI;exact ⟨λ_=>.inr rfl,λ_=>rfl,λg=>by simp at g,λg=>by simp at g,λg=>by simp at g⟩
 ·have:=zM h
  dsimp only;rw [gX,d2];have mN:kH ⟨r.id,r.aLW,4,vn jA r.aLT r.aLT.length⟩=0:=by simp [kH]
  rw [mN,aOM];omega
theorem YdI.cancel {y:Yd} (h:YdI y) (id:Int):YdI (jX y id):=by
 unfold jX;split
 ·rename_i hc
  unfold kK at hc;split at hc
  ·cases hc
  split at hc
  ·cases hc
  split at hc
  ·rename_i aK aJ
   obtain ⟨k,r,bT,hr,-,-⟩:=kU aK;rw [bT,aMQ,hr,aMM] at aJ⊢;obtain ⟨g1,g2⟩:=jvl (h.rns.right r (aMJ hr)) aJ;rw [<-jtX hr g2 h.four];exact h.turn hr g1
  ·cases hc
 ·exact h
theorem YdI.forget {y:Yd} (h:YdI y) (id:Int):YdI (vH y id):=by
 unfold vH;split
 ·rename_i hc
  unfold zj at hc;split at hc
  ·cases hc
  split at hc
  ·cases hc
  split at hc
  ·cases hc
  rename_i aK aJ;obtain ⟨k,r,bT,hr,hid,-⟩:=kU aK;rw [bT,aMQ,hr,aMM] at aJ;rw [bT,aMQ];have hR:=h.rns.right r (aMJ hr);have fW:(y.aLU.map λl=>l.filter (jbs id)).flatten=y.aLU.flatten.filter (jbs id):=by rw [List.filter_flatten]
  have bB:∀x∈y.aLX.eraseIdx k,x∈y.aLX:=λx hx=>List.mem_of_mem_eraseIdx hx
  have aR:∀x∈y.aLX.eraseIdx k,x.id≠id:=λx hx he=>by
   obtain ⟨j,mP,hj⟩:=List.mem_eraseIdx_iff_getElem?.1 hx;exact mP (joQ h.rns.ids hj hr (he.trans hid.symm))
  have wO:∀x∈y.aLX,x.id≠id->x∈y.aLX.eraseIdx k:=λx hx he=>by
   obtain ⟨j,hj⟩:=aNV hx;refine List.mem_eraseIdx_iff_getElem?.2 ⟨j,λe=>?_,hj⟩
   subst e;rw [hr] at hj;obtain rfl:=aMW hj;exact he hid
  have lQ:kH r=0:=by rw [kH,if_neg aJ]
  have pO:cS 2 r.aLT=0:=by have:=zM hR;omega
  have hE:EnsI (y.aLX.eraseIdx k) y.seq (y.aLU.flatten.filter (jbs id)):=by
   refine ⟨λe he=>h.ens.range e (aOD.1 he).1,(h.ens.apart).sublist ((List.filter_sublist).map _),λe he=>?_,λr' bE t x hx hs=>?_⟩
   ·obtain ⟨mT,cB⟩:=aOD.1 he
    obtain ⟨r',bE,t,x,h1,h2,h3,h4⟩:=h.ens.own e mT;have:r'.id≠id:=by rw [<-h1];simpa [jbs] using cB
    exact ⟨r',wO r' bE this,t,x,h1,h2,h3,h4⟩
   ·have eZ:=h.ens.one r' (bB r' bE) t x hx hs
    rw [<-eZ];simp only [jaj,List.filter_filter]
    congr 1
    refine List.filter_congr λe _=>?_
    have:=aR r' bE;by_cases g:e.run=r'.id
    ·simp [jbs,g,this]
    ·simp [g]
  have aD:(y.aLU.flatten.filter (jbs id)).length<=y.aLU.flatten.length:=aNH _ _
  have t1:∀f:Rn->Nat,qN f (y.aLX.eraseIdx k)+f r=qN f y.aLX:=λf=>by
   obtain ⟨hk,e⟩:=aMI.1 hr;have h1:y.aLX=y.aLX.take k++r::y.aLX.drop (k+1):=by rw [<-e];simp
   have h2:y.aLX.eraseIdx k=y.aLX.take k++y.aLX.drop (k+1):=List.eraseIdx_eq_take_drop_succ _ _;rw [h2]
   conv=>rhs;rw [h1]
   simp only [qN,aOT,List.sum_append,aNQ,aOW];omega
  have t2:=t1 kH;have t3:=t1 λr=>cS 2 r.aLT
  have bY:=h.room;refine ⟨h.now,h.seq,by rw [aNT];exact h.four,λl hl=>?_,⟨?_,λr' bE=>h.rns.right r' (bB r' bE),?_,λr' bE=>h.rns.til r' (bB r' bE),λr' bE=>h.rns.tri r' (bB r' bE)⟩,by dsimp only;rw [fW];exact hE,?_⟩
  ·obtain ⟨m,hm,rfl⟩:=aOB.1 hl
   exact (h.sorted m hm).sublist List.filter_sublist
  ·have:=List.length_eraseIdx_le y.aLX k
   have:=h.rns.eight;dsimp only;omega
  ·exact (h.rns.ids).sublist ((List.eraseIdx_sublist _ _).map _)
  ·dsimp only
   rw [fW];simp only [zr] at bY⊢;omega
 ·exact h
theorem jm4 {p:Pl} {n t:Nat} {x:Tk} (h:(zi p n)[t]?=some x):t<n/\x=jk9 p t:=by
 have ht:=(aMI.1 h).1;simp only [zi,aNT,List.length_range] at ht;simp only [zi,aPG,List.getElem?_range ht,Option.map_some] at h;exact ⟨ht,(aMW h).symm⟩
theorem juE {id:Int} {p:Pl} (hid:1<=id/\id<=9999) (hp:jr p=0):RunOkP (jM id p):=by
 obtain ⟨n,hn,d8,cC,dS,bV,aX,lJ,gR,lB⟩:=jcH hp;have gG:p.aLT.toNat=n:=by omega
 have aD:(zi p n).length=n:=by simp [zi]
 have dC:∀z∈zi p n,z.aLV=1\/z.aLV=2:=λz hz=>by
  obtain ⟨j,hj⟩:=aNV hz;obtain ⟨_,rfl⟩:=jm4 hj;simp only [jk9];split
  ·exact .inl rfl
  ·exact .inr rfl
 have aJ:∀b:Int,(stT (zi p n) b !=4)=true:=λb=>by
  simp only [stT];cases hb:(zi p n)[b.toNat]? with
  |none=>rfl
  |some z=>
   rcases dC z (aMJ hb) with g|g<;>simp [g]
 have hN:∀j:Nat,ja8 p (zi p n) j=((zQ p j).length:Int):=λj=>by
  have:(zQ p j).filter (λb=>stT (zi p n) b !=4)=zQ p j:=List.filter_eq_self.2 λb _=>aJ b
  simp only [ja8,this]
 have c4:cS 4 (zi p n)=0:=jd6 λz hz=>by rcases dC z hz with g|g<;>omega
 have c5:cS 5 (zi p n)=0:=jd6 λz hz=>by rcases dC z hz with g|g<;>omega
 have c6:cS 6 (zi p n)=0:=jd6 λz hz=>by rcases dC z hz with g|g<;>omega
 have e:jM id p=⟨id,p,1,zi p n⟩:=by rw [jM,gG]
 rw [e];refine ⟨by simp [inB,hid],hp,by dsimp only;rw [aD];exact hn.symm,λj w hw=>?_,?_,by simp⟩
 ·dsimp only at hw⊢
  obtain ⟨hj,rfl⟩:=jm4 hw;rw [taskB_iff,hN];have eI:=gR.1;by_cases hz:0<(zQ p j).length
  ·have cI:(0:Int)<(zQ p j).length:=by omega
   refine ⟨by simp [jk9,hz],rfl,by simp only [jk9];omega,by simp [jbz,jk9,hz],?_⟩
   simp only [vg,jk9,if_pos hz,if_true,aNC];exact cI
  ·have fU:(zQ p j).length=0:=by omega
   have z7:(0:Int)<p.aMG:=by omega
   refine ⟨by simp [jk9,hz],rfl,by simp only [jk9];omega,by simp [jbz,jk9,hz],?_⟩
   simp [vg,jk9,hz,fU,z7]
 ·dsimp only
  rw [jg4,if_neg (by rw [c4,aD];omega),if_neg (by omega),if_neg (by omega),if_pos ⟨c5,c6⟩]
theorem YdI.sub {y:Yd} (h:YdI y) (id:Int) (p:Pl):YdI (jcL y id p):=by
 unfold jcL;split
 ·rename_i hc
  unfold jdA at hc;split at hc
  ·cases hc
  split at hc
  ·cases hc
  split at hc
  ·cases hc
  split at hc
  ·rename_i g1 g2 g3 g4;exact absurd hc g4
  split at hc
  ·cases hc
  rename_i g1 g2 g3 g4 g5;have hid:1<=id/\id<=9999:=aOL λg=>g2 g
  have hp:jr p=0:=aOL λg=>g4 g
  have bY:zJ y p=true:=by simpa using g5
  simp only [zJ,aMY,aNC] at bY;obtain ⟨r1,⟨r2,r2'⟩,r3,r4⟩:=bY;have aC:=yard_iff.1 (show jw y=true by simpa using g1)
  have hR:=juE hid hp;obtain ⟨n,hn,d8,cC,dS,bV,aX,lJ,gR,lB⟩:=jcH hp
  have cA:∀r∈y.aLX,r.id≠id:=λr hr he=>by
   obtain ⟨k,hk⟩:=aNV hr;have:=jg1 h.rns.eight h.rns.ids hk;rw [he] at this;omega
  have aD:(jM id p).aLT.length=n:=by simp only [jM,zi,aNT,List.length_range];omega
  have aJ:∀(t:Nat) (x:Tk),(jM id p).aLT[t]?=some x->(x.aLV=1\/x.aLV=2)/\x.tri=0:=λt x hx=>by
   obtain ⟨_,rfl⟩:=jm4 (p:=p) (n:=p.aLT.toNat) hx;refine ⟨?_,rfl⟩;simp only [jk9];split
   ·exact .inl rfl
   ·exact .inr rfl
  have d7:∀t,jaj id t y.aLU.flatten=0:=λt=>jnu λe he=>by
   rintro ⟨k1,_⟩;obtain ⟨r',bE,_,_,h1,_⟩:=h.ens.own e he;exact cA r' bE (h1.symm.trans k1)
  have eT:((y.aLX++[jM id p]).map (·.id)).Nodup:=by
   rw [aOT];refine aMS.2 ⟨h.rns.ids,by simp,λa ha b hb e=>?_⟩
   obtain ⟨r',bE,rfl⟩:=aOB.1 ha;simp only [aNQ,List.map_nil,aPF] at hb;exact cA r' bE (e.trans hb)
  have hRn:RnsI y.now (y.aLX++[jM id p]):=by
   refine ⟨by rw [aMR,List.length_singleton];omega,λr hr=>?_,eT,λr hr t x hx hs=>?_,λr hr x hx hs=>?_⟩
   ·rcases aMN.1 hr with hr|hr
    ·exact h.rns.right r hr
    ·rw [aPF] at hr;rw [hr];exact hR
   ·rcases aMN.1 hr with hr|hr
    ·exact h.rns.til r hr t x hx hs
    ·rw [aPF] at hr;subst hr
     rcases (aJ t x hx).1 with g|g<;>omega
   ·rcases aMN.1 hr with hr|hr
    ·exact h.rns.tri r hr x hx hs
    ·rw [aPF] at hr;subst hr
     obtain ⟨t,ht⟩:=aNV hx;exact (aJ t x ht).2
  obtain ⟨-,pV⟩:=jzw (jM id p).id;obtain ⟨l,hl⟩:=jd (show shN (jM id p).id<y.aLU.length by rw [h.four];exact pV)
  have e:jtc ⟨y.now,y.seq,y.aLU,y.aLX++[jM id p]⟩ (jM id p) (qQ 2 (jM id p).aLT)=⟨y.now,y.seq+(qQ 2 (jM id p).aLT).length,y.aLU.set (shN (jM id p).id) (zl (jM id p).aLW.aMC (jM id p).id (qQ 2 (jM id p).aLT) (l,y.seq)).1,y.aLX++[jM id p]⟩:=by
   rw [jtc];simp only [hl,aMM,zY]
  obtain ⟨rest,p1,p2⟩:=zN hl (zl (jM id p).aLW.aMC (jM id p).id (qQ 2 (jM id p).aLT) (l,y.seq)).1
  have hpm:(jlU (jM id p).aLW.aMC (jM id p).id y.seq (qQ 2 (jM id p).aLT)++y.aLU.flatten).Perm (y.aLU.set (shN (jM id p).id) (zl (jM id p).aLW.aMC (jM id p).id (qQ 2 (jM id p).aLT) (l,y.seq)).1).flatten:=by
   refine ((aPD _ p1).trans ?_).trans p2.symm;rw [<-aNA];exact ((jj2 _ _ _ _ _).symm).append_right _
  have hE:EnsI (y.aLX++[jM id p]) (y.seq+(qQ 2 (jM id p).aLT).length) (jlU (jM id p).aLW.aMC (jM id p).id y.seq (qQ 2 (jM id p).aLT)++y.aLU.flatten):=by
   refine jvo h.ens h.seq eT (by simp) (jlr _ _) (λt ht=>tinL_mem.1 ht) (λe he=>?_) (λr' bE hi=>?_) (λt x hx hs ht=>?_) (λt ht=>d7 t)
   ·obtain ⟨r',bE,t,x,k⟩:=h.ens.own e he
    exact ⟨r',by simp [bE],t,x,k⟩
   ·rcases aMN.1 bE with bE|bE
    ·exact bE
    ·rw [aPF] at bE;exact absurd (by rw [bE]) hi
   ·exact absurd (tinL_mem.2 ⟨t,x,rfl,hx,hs⟩) ht
  have hlen2:=hpm.length_eq;rw [aMR,jm5] at hlen2;have bY:=h.room
  have fP:qN kH y.aLX+y.aLU.flatten.length<=40+zr y.aLX-n:=by
   have hf:=jbL h.rns.eight h.rns.ids h.ens;have bZ:=jdF h.rns.right
   have aCS:qh y (zR y)+(y.aLU.flatten.filter (jP y)).length=y.aLU.flatten.length:=by
    simp only [qh,zR,aOQ];have:=List.length_eq_countP_add_countP (jP y) (l:=y.aLU.flatten);simp only [aOQ] at this;have e:y.aLU.flatten.filter (λe=>!jP y e)=y.aLU.flatten.filter (λa=>decide ¬jP y a=true):=List.filter_congr λa _=>by cases jP y a<;>rfl
    rw [e];omega
   simp only [kw] at r3;omega
  have mN:kH (jM id p)=n:=by
   have h1:(jM id p).aLV=1:=rfl;rw [kH,if_pos h1,aD]
  rw [e];refine ⟨h.now,by have:=h.seq;dsimp only;omega,by rw [aMU];exact h.four,λm hm=>?_,hRn,hE.perm hpm,?_⟩
  ·rcases List.mem_or_eq_of_mem_set hm with hm|rfl
   ·exact h.sorted m hm
   ·exact jm7 _ _ _ (h.sorted l (aMJ hl)) λx hx=>by
     have:=h.ens.range x (List.mem_flatten.2 ⟨l,aMJ hl,hx⟩);omega
  ·have q1:=jqP kH y.aLX (jM id p)
   have q2:=jqP (λr:Rn=>cS 2 r.aLT) y.aLX (jM id p)
   have q3:cS 2 (jM id p).aLT=(qQ 2 (jM id p).aLT).length:=rfl;simp only [zr] at fP⊢;omega
 ·exact h
theorem EnsI.sweep {y:Yd} {q:Int} {l rest:List En} (h8:y.aLX.length<=8) (hi:(y.aLX.map (·.id)).Nodup) (h:EnsI y.aLX q (l++rest)):EnsI y.aLX q (l.filter (jP y)++rest):=by
 have hs:(l.filter (jP y)++rest).Sublist (l++rest):=List.Sublist.append List.filter_sublist (List.Sublist.refl _);refine ⟨λe he=>h.range e (hs.subset he),h.apart.sublist (hs.map _),λe he=>h.own e (hs.subset he),λr hr t x hx aJ=>?_⟩
 rw [<-h.one r hr t x hx aJ,jhX,jhX]
 congr 1
 simp only [jaj,List.filter_filter]
 congr 1
 refine List.filter_congr λe _=>?_
 by_cases g:e.run=r.id/\e.aMA=t
 ·have:jP y e=true:=by rw [jjo h8 hi hr g.1 g.2 hx,aJ];rfl
  simp [g.1,g.2,this]
 ·have:(e.run==r.id&&e.aMA==(t:Int))=false:=by
   simp only [Bool.and_eq_false_iff,beq_eq_false_iff_ne,ne_eq];by_cases h3:e.run=r.id
   ·exact .inr λh4=>g ⟨h3,h4⟩
   ·exact .inl h3
  rw [this];rfl
theorem YdI.aLU {y:Yd} (h:YdI y) {sh:List (List En)} (h4:sh.length=4) (hs:∀l∈sh,SrtP l) (he:EnsI y.aLX y.seq sh.flatten) (hl:sh.flatten.length<=y.aLU.flatten.length):YdI ⟨y.now,y.seq,sh,y.aLX⟩:=
 ⟨h.now,h.seq,h4,hs,h.rns,he,by have:=h.room;dsimp only;omega⟩
theorem YdI.swept {y:Yd} (h:YdI y) (k:Int):YdI (vE y k):=by
 unfold vE;split
 ·rename_i hk
  obtain ⟨n,rfl⟩:=Int.eq_ofNat_of_zero_le hk.1;obtain ⟨l,hl⟩:=jd (show n<y.aLU.length by omega)
  rw [aMQ,hl,aMM];obtain ⟨rest,p1,p2⟩:=zN hl (l.filter (jP y));refine h.aLU (by rw [aMU];exact h.four) (λm hm=>?_) (((h.ens.perm p1).sweep h.rns.eight h.rns.ids).perm p2.symm) ?_
  ·rcases List.mem_or_eq_of_mem_set hm with hm|rfl
   ·exact h.sorted m hm
   ·exact (h.sorted l (aMJ hl)).sublist List.filter_sublist
  ·have a1:=p1.length_eq
   have a2:=p2.length_eq;rw [aMR] at a1 a2;have:=aNH (jP y) l;omega
 ·exact h
theorem YdI.flat_le {y:Yd} (h:YdI y):y.aLU.flatten.length<=40:=by
 have:=jdF h.rns.right;have:=h.room;omega
theorem jkb {sh:List (List En)} {l:List En} {k:Nat} (h:sh[k]?=some l):l.length<=sh.flatten.length:=(List.sublist_flatten_of_mem (aMJ h)).length_le
theorem YdI.pollV {z:Yd} {hm v:Nat} (h:YdI z) (hv:v<4) (hh:hm<4) (aR:v≠hm):YdI (pollV z hm v):=by
 obtain ⟨l,hl⟩:=jd (show v<z.aLU.length by rw [h.four];exact hv)
 obtain ⟨a,ha⟩:=jd (show hm<z.aLU.length by rw [h.four];exact hh)
 obtain ⟨e1,e2⟩:=jfL hl ha aR;have hS:=h.swept v;rw [e1] at hS;rw [e2];have bN:v<z.aLU.length:=(aMI.1 hl).1;have g1:(z.aLU.set v (l.filter (jP z)))[v]?=some (l.filter (jP z)):=aML bN;have g2:(z.aLU.set v (l.filter (jP z)))[hm]?=some a:=by rw [aNJ aR];exact ha
 generalize hL:l.filter (jP z)=L at*;obtain ⟨rest,p1,p2⟩:=zN g1 (jaS L);have g3:((z.aLU.set v L).set v (jaS L))[hm]?=some a:=by rw [aNJ aR];exact g2
 obtain ⟨rest2,p3,p4⟩:=zN g3 (qb a (vf L));rw [aNP] at p2 p3 p4;have fW:=hS.flat_le
 have hsm:a.length+(vf L).length<=80:=by
  have b1:a.length<=(z.aLU.set v L).flatten.length:=jkb g2;have b2:L.length<=(z.aLU.set v L).flatten.length:=jkb g1;have b3:(vf L).length<=L.length:=by simp only [vf,aMP];omega
  dsimp only at fW;omega
 have yW:qb a (vf L)=(vf L).foldl jch a:=by rw [qb,if_neg (by omega)]
 have hp:(z.aLU.set v L).flatten.Perm ((z.aLU.set v (jaS L)).set hm (qb a (vf L))).flatten:=by
  rw [yW];have hLs:(vf L++jaS L)=L:=by simp [vf,jaS]
  have q1:(z.aLU.set v L).flatten.Perm (vf L++(a++rest2)):=by
   refine p1.trans ?_
   conv=>lhs;rw [<-hLs]
   rw [aNA];exact aPD _ (p2.symm.trans p3)
  refine q1.trans ?_;rw [yW] at p4;refine List.Perm.trans ?_ p4.symm;rw [<-aNA];refine List.Perm.append_right _ ?_;exact (aPE).trans (jfK (vf L) a).symm
 have hE:=hS.ens.perm hp;refine h.aLU (by rw [aMU,aMU];exact h.four) (λm nC=>?_) hE ?_
 ·rcases List.mem_or_eq_of_mem_set nC with nC|rfl
  ·rcases List.mem_or_eq_of_mem_set nC with nC|rfl
   ·exact h.sorted m nC
   ·exact (hS.sorted L (aMJ g1)).sublist (List.drop_sublist _ _)
  ·rw [yW]
   refine jrh (hS.sorted a (aMJ g2)) ?_;have hap:=hE.apart;have hp4:=(p4.map (·.seq)).nodup_iff.1 hap
   rw [aOT] at hp4;have hp5:=(aMS.1 hp4).1;rw [yW] at hp5;exact ((jfK (vf L) a).map (·.seq)).nodup_iff.1 hp5
 ·rw [<-hp.length_eq]
  have:(z.aLU.set v L).flatten.length<=z.aLU.flatten.length:=by
   obtain ⟨r3,c1,c2⟩:=zN hl L;have c1:=c1.length_eq;have c2:=c2.length_eq;rw [aMR] at c1 c2;have:L.length<=l.length:=by rw [<-hL];exact aNH _ _
   omega
  exact this
theorem YdI.pollF {hm:Nat} (hh:hm<4):∀(vs:List Int) (z:Yd),(∀v∈vs,∃n:Nat,v=n/\n<4/\n≠hm)->YdI z->YdI (pollF hm vs z)
 |[],z,_,h=>h
 |v::vs,z,hv,h=>by
  unfold Go.Proofs.YtcehjhiglmifjaaGreat.pollF;split
  ·obtain ⟨n,rfl,h4,aR⟩:=hv v (by simp)
   exact YdI.pollF hh vs _ (λw hw=>hv w (by simp [hw])) (h.pollV h4 hh aR)
  ·exact h
theorem YdI.pollZ {y:Yd} (h:YdI y) {hm:Nat} (hh:hm<4) (aMB:Int):YdI (pollZ y hm aMB):=by
 obtain ⟨a,b,c,e,ha,hb,hc,na,nb,nc⟩:=jfw hh aMB;unfold Go.Proofs.YtcehjhiglmifjaaGreat.pollZ;rw [e];refine YdI.pollF hh _ _ (λv hv=>?_) (h.swept hm)
 simp only [aNB,List.not_mem_nil,or_false] at hv;rcases hv with rfl|rfl|rfl
 ·exact ⟨a,rfl,ha,na⟩
 ·exact ⟨b,rfl,hb,nb⟩
 ·exact ⟨c,rfl,hc,nc⟩
theorem jqW {r:Rn} {t:Nat} {x:Tk} {now:Int} (h:RunOkP r) (hx:r.aLT[t]?=some x) (hs:x.aLV=2) (hn:0<=now/\now<=999999980):RunOkP (kD r t x now)/\(kD r t x now).aLT=r.aLT.set t ⟨3,x.aME,x.tri+1,now+r.aLW.aMF⟩:=by
 obtain ⟨n,lK,d8,cC,dS,bV,aX,lJ,gR,lB⟩:=jcH h.aLW;have ht:=(aMI.1 hx).1;have bK:=taskB_iff.1 (h.aLT t x hx);have f8:=bK.2.2.2.2
 have f8:x.aME=0/\x.tri<r.aLW.aMG:=by
  simp only [vg,hs] at f8;simpa using f8
 have nQ:=bK.2.2.1;have w1:IntKind.i64.wrap (x.tri+1)=x.tri+1:=zy;have w2:IntKind.i64.wrap (now+r.aLW.aMF)=now+r.aLW.aMF:=zy;have e:kD r t x now=⟨r.id,r.aLW,r.aLV,r.aLT.set t ⟨3,x.aME,x.tri+1,now+r.aLW.aMF⟩⟩:=by rw [kD,jqX,w1,w2]
 have aJ:=h.aLV;have c2:=jr0 (s:=2) hx hs;have hl:=zM h
 have eH:r.aLV=1:=by
  unfold kH at hl;split at hl
  ·assumption
  ·omega
 rw [eH] at aJ
 obtain ⟨c4,c5,c6⟩:cS 4 r.aLT≠r.aLT.length/\cS 5 r.aLT=0/\cS 6 r.aLT=0:=by
  unfold jg4 at aJ;split at aJ
  ·cases aJ
  ·rename_i g
   split at aJ
   ·cases aJ
   ·split at aJ
    ·cases aJ
    ·split at aJ
     ·rename_i g2;exact ⟨g,g2.1,g2.2⟩
     ·cases aJ
 have hN:∀j:Int,ja8 r.aLW (r.aLT.set t ⟨3,x.aME,x.tri+1,now+r.aLW.aMF⟩) j=ja8 r.aLW r.aLT j:=jb6 (jpI hx (by simp [hs]))
 have d5:cS 5 (r.aLT.set t ⟨3,x.aME,x.tri+1,now+r.aLW.aMF⟩)=0:=jd6 (jh4 (q:=λs=>s≠5) (by simp) λy hy=>by obtain ⟨k,hk,rfl⟩:=aNO hy;exact jr1 c5 (aMK hk))
 have d6:cS 6 (r.aLT.set t ⟨3,x.aME,x.tri+1,now+r.aLW.aMF⟩)=0:=jd6 (jh4 (q:=λs=>s≠6) (by simp) λy hy=>by obtain ⟨k,hk,rfl⟩:=aNO hy;exact jr1 c6 (aMK hk))
 have d3:=jr0 (s:=3) (aML ht:(r.aLT.set t ⟨3,x.aME,x.tri+1,now+r.aLW.aMF⟩)[t]?=some _) rfl;have aBA:∀z∈r.aLT.set t ⟨3,x.aME,x.tri+1,now+r.aLW.aMF⟩,1<=z.aLV/\z.aLV<=6:=jh4 (q:=λs=>1<=s/\s<=6) (by simp) h.st
 have eF:=jcJ aBA _ (aMV _);change cS 1 _+cS 2 _+cS 3 _+cS 4 _+cS 5 _+cS 6 _=_ at eF;rw [e];refine ⟨⟨h.id,h.aLW,by dsimp only;rw [aMU];exact h.len,λj z hz=>?_,?_,by dsimp only;omega⟩,rfl⟩
 ·dsimp only at hz⊢
  rw [aNY] at hz;by_cases ej:t=j
  ·subst ej
   rw [if_pos rfl,if_pos ht] at hz;obtain rfl:=aMW hz;rw [taskB_iff,hN];refine ⟨by simp,bK.2.1,by dsimp only;omega,?_,?_⟩
   ·simp only [jbz,if_true,inB,aNC];omega
   ·have:1<=x.tri+1:=by omega
    simp [vg,f8.1,this]
  ·rw [if_neg ej] at hz
   have:=taskB_iff.1 (h.aLT j z hz);rw [taskB_iff,hN];exact this
 ·dsimp only
  rw [eH,jg4,if_neg (by omega),if_neg (by omega),if_neg (by omega),if_pos ⟨d5,d6⟩]
theorem YdI.hand {Z:Yd} {hm:Nat} {e:En} {l:List En} {k t:Nat} {r:Rn} {x:Tk} (h:YdI Z) (ha:Z.aLU[hm]?=some (e::l)) (bT:runAt Z e.run=k) (hr:Z.aLX[k]?=some r) (fY:e.aMA=t) (hx:r.aLT[t]?=some x) (hs:x.aLV=2):YdI (jdX Z hm e l):=by
 have hR:=h.rns.right r (aMJ hr);obtain ⟨aC,dO⟩:=jqW hR hx hs h.now;have hk:=(aMI.1 hr).1;have ht:=(aMI.1 hx).1
 have hH:jdX Z hm e l=⟨Z.now,Z.seq,Z.aLU.set hm l,Z.aLX.set k (kD r t x Z.now)⟩:=by
  simp only [jdX,bT,fY,aMQ,hr,hx,aMM]
 have lY:r.id=e.run:=by
  have aK:¬runAt Z e.run<0:=by rw [bT];omega
  obtain ⟨k',r',h1,h2,h3,_⟩:=kU aK;rw [bT] at h1;obtain rfl:k=k':=by omega
  rw [hr] at h2;obtain rfl:=aMW h2;exact h3
 obtain ⟨rest,p1,p2⟩:=zN ha l;have u9:=h.ens.perm p1;have eZ:=u9.one r (aMJ hr) t x hx hs
 have aCS:jaj r.id t (l++rest)=0:=by
  have:jaj r.id t ((e::l)++rest)=jaj r.id t (l++rest)+1:=by
   simp [jaj,lY,fY]
  omega
 have bB:(l++rest).Sublist ((e::l)++rest):=List.Sublist.append (List.sublist_cons_self _ _) (List.Sublist.refl _);have eT:=jmA (r2:=kD r t x Z.now) hr rfl
 have eB:∀(j:Nat) (z w:Tk),r.aLT[j]?=some z->(kD r t x Z.now).aLT[j]?=some w->(j=t/\w=⟨3,x.aME,x.tri+1,Z.now+r.aLW.aMF⟩)\/(j≠t/\w=z):=λj z w hz hw=>by
  rw [dO,aNY] at hw;by_cases ej:t=j
  ·subst ej
   rw [if_pos rfl,if_pos ht] at hw;exact .inl ⟨rfl,(aMW hw).symm⟩
  ·rw [if_neg ej,hz] at hw
   exact .inr ⟨λg=>ej g.symm,(aMW hw).symm⟩
 have oQ:(kD r t x Z.now).aLT.length=r.aLT.length:=by rw [dO,aMU]
 have hgs:∀(j:Nat) (w:Tk),(kD r t x Z.now).aLT[j]?=some w->∃z,r.aLT[j]?=some z/\((j=t/\w=⟨3,x.aME,x.tri+1,Z.now+r.aLW.aMF⟩)\/(j≠t/\w=z)):=λj w hw=>by
  obtain ⟨z,hz⟩:=jd (show j<r.aLT.length by rw [<-oQ];exact (aMI.1 hw).1)
  exact ⟨z,hz,eB j z w hz hw⟩
 obtain ⟨n,lK,d8,cC,dS,bV,aX,lJ,gR,lB⟩:=jcH hR.aLW
 have hRn:RnsI Z.now (Z.aLX.set k (kD r t x Z.now)):=by
  refine ⟨by rw [aMU];exact h.rns.eight,λr' bE=>?_,by rw [eT];exact h.rns.ids,λr' bE j w hw aJ=>?_,λr' bE w hw aJ=>?_⟩
  ·rcases jcP bE with rfl|⟨j,_,hj⟩
   ·exact aC
   ·exact h.rns.right r' (aMJ hj)
  ·rcases jcP bE with rfl|⟨i,_,hi⟩
   ·obtain ⟨z,hz,⟨rfl,rfl⟩|⟨_,rfl⟩⟩:=hgs j w hw
    ·show Z.now+1<=Z.now+r.aLW.aMF/\Z.now+r.aLW.aMF<=Z.now+r.aLW.aMF
     omega
    ·exact h.rns.til r (aMJ hr) j _ hz aJ
   ·exact h.rns.til r' (aMJ hi) j w hw aJ
  ·rcases jcP bE with rfl|⟨i,_,hi⟩
   ·obtain ⟨j,hj⟩:=aNV hw
    obtain ⟨z,hz,⟨rfl,rfl⟩|⟨_,rfl⟩⟩:=hgs j w hj
    ·simp at aJ
    ·exact h.rns.tri r (aMJ hr) _ (aMJ hz) aJ
   ·exact h.rns.tri r' (aMJ hi) w hw aJ
 have hE:EnsI (Z.aLX.set k (kD r t x Z.now)) Z.seq (l++rest):=by
  refine ⟨λf hf=>u9.range f (bB.subset hf),u9.apart.sublist (bB.map _),λf hf=>?_,λr' bE j w hw aJ=>?_⟩
  ·obtain ⟨r',bE,j,z,h1,h2,h3,h4⟩:=u9.own f (bB.subset hf)
   obtain ⟨i,hi⟩:=aNV bE;by_cases eik:k=i
   ·subst eik
    rw [hr] at hi;obtain rfl:=aMW hi
    have dA:j≠t:=λe=>by
     subst e;have:=jAP hf h1 h2;omega
    refine ⟨kD r t x Z.now,aMJ (aML hk),j,z,h1,h2,?_,h4⟩;rw [dO,aNJ (λe=>dA e.symm)];exact h3
   ·exact ⟨r',aMJ (i:=i) (by rw [aNJ eik];exact hi),j,z,h1,h2,h3,h4⟩
  ·have lM:∀(id u:Int),¬(e.run=id/\e.aMA=u)->jaj id u ((e::l)++rest)=jaj id u (l++rest):=λid u g=>by
    have:(e.run==id&&e.aMA==u)=false:=by
     simp only [Bool.and_eq_false_iff,beq_eq_false_iff_ne,ne_eq];by_cases h3:e.run=id
     ·exact .inr λh4=>g ⟨h3,h4⟩
     ·exact .inl h3
    simp [jaj,aOX,this]
   rcases jcP bE with rfl|⟨i,xL,hi⟩
   ·obtain ⟨z,hz,⟨rfl,rfl⟩|⟨dA,rfl⟩⟩:=hgs j w hw
    ·simp at aJ
    ·have:=u9.one r (aMJ hr) j _ hz aJ
     rw [lM _ _ (λg=>dA (by have:=g.2;omega))] at this
     exact this
   ·have:=u9.one r' (aMJ hi) j w hw aJ
    rw [lM _ _ (λg=>by
     have e1:r.id=r'.id:=lY.trans g.1;exact xL (joQ h.rns.ids hi hr e1.symm))] at this
    exact this
 have tI:cS 2 r.aLT<=cS 2 (kD r t x Z.now).aLT+1:=by
  simp only [cS,qQ,zh,aNT,oQ]
  have h1:∀n,((List.range n).filter λ(j:Nat)=>stT r.aLT (j:Int)==2).length<=((List.range n).filter λ(j:Nat)=>stT (kD r t x Z.now).aLT (j:Int)==2).length+if t<n then 1 else 0:=λn=>by
   induction n with
   |zero=>simp
   |succ n ih=>
    rw [List.range_succ,aOV,aOV,aMR,aMR];by_cases ent:n=t
    ·subst ent
     simp only [aOX,List.filter_nil];split<;>split<;>simp_all<;>omega
    ·have e3:stT (kD r t x Z.now).aLT (n:Int)=stT r.aLT (n:Int):=by
      simp only [stT,aMQ,dO,aNJ (λe=>ent e.symm)]
     simp only [aOX,List.filter_nil,e3];split<;>simp<;>split at ih<;>split<;>omega
  have:=h1 r.aLT.length;rw [if_pos ht] at this;exact this
 have t1:=qB (f:=kH) (kD r t x Z.now) hr;have t2:=qB (f:=λr:Rn=>cS 2 r.aLT) (kD r t x Z.now) hr
 have mN:kH (kD r t x Z.now)=kH r:=by
  have:(kD r t x Z.now).aLV=r.aLV:=rfl;simp only [kH,this,oQ]
 have a1:=p1.length_eq;have a2:=p2.length_eq;rw [aMR] at a1 a2;rw [aNG] at a1;have bY:=h.room;rw [hH];refine ⟨h.now,h.seq,by rw [aMU];exact h.four,λm nC=>?_,hRn,hE.perm p2.symm,?_⟩
 ·rcases List.mem_or_eq_of_mem_set nC with nC|rfl
  ·exact h.sorted m nC
  ·exact (h.sorted _ (aMJ ha)).sublist (List.sublist_cons_self _ _)
 ·simp only [zr] at bY⊢
  omega
theorem YdI.poll {y:Yd} (h:YdI y) (aLZ aMB:Int):YdI (qj y aLZ aMB):=by
 unfold qj;split
 ·exact h
 ·rename_i hc
  have aC:jw y=true:=by
   cases h:jw y with
   |true=>rfl
   |false=>exact absurd (.inl h) hc
  have hw:0<=aLZ/\aLZ<=99:=by
   refine aOL λh=>hc (.inr h)
  have eW:(aLZ.tmod 4).toNat<4:=by rw [aNU hw.1];omega
  have hI:=jjO (yard_iff.1 aC) eW aMB;have hZ:=h.pollZ eW aMB;split
  ·exact hZ
  ·rename_i e l he
   generalize (aLZ.tmod 4).toNat=hm at*
   have ha:(Go.Proofs.YtcehjhiglmifjaaGreat.pollZ y hm aMB).aLU[hm]?=some (e::l):=by
    rw [ja6] at he;cases hs:(Go.Proofs.YtcehjhiglmifjaaGreat.pollZ y hm aMB).aLU[hm]? with
    |none=>rw [hs] at he;simp at he
    |some x=>rw [hs,aMM] at he;rw [he]
   generalize Go.Proofs.YtcehjhiglmifjaaGreat.pollZ y hm aMB=Z at*;obtain ⟨k,t,r,x,bT,hr,fY,hx,gS⟩:=jf2 (hI.frs _ ha e (by simp))
   rw [<-hI.aLX] at hr;have gU:runAt Z e.run=(k:Int):=by rw [<-bT];unfold runAt;rw [hI.aLX]
   exact hZ.hand ha gU hr fY hx gS
theorem YdI.do {y:Yd} (h:YdI y) (d:Dd):YdI (doY y d):=by
 unfold doY
 repeat' split
 ·exact h
 ·exact h.sub _ _
 ·exact h.poll _ _
 ·exact h.comp _ _ _
 ·exact h.fail _ _ _
 ·exact h.tick
 ·exact h.cancel _
 ·exact h.forget _
 ·exact h.rest
abbrev Cu:=Nat×Int
def jsa (a b:Int):Int:=IntKind.i64.wrap ((BitVec.ofInt 64 a&&&BitVec.ofInt 64 b).toNat)
theorem jDf (a:Int) (m:Nat) (hm:m<2^62):0<=jsa a (m:Int)/\jsa a (m:Int)<=m:=by
 have h2:(BitVec.ofInt 64 a&&&BitVec.ofInt 64 (m:Int)).toNat<=m:=by
  rw [BitVec.toNat_and,BitVec.ofInt_natCast,BitVec.toNat_ofNat,Nat.mod_eq_of_lt (a:=m) (by omega)]
  exact Nat.and_le_right
 rw [jsa,qE (by omega) (by omega)]
 omega
theorem jnD (a:Int):0<=jsa a 255/\jsa a 255<=255:=jDf a 255 (by decide)
def jo5 (h:Int):Int:=IntKind.i64.wrap (IntKind.i64.wrap (h*6364136223846793005)+1442695040888963407)
def jy4 (h:Int):Int:=jsa (jse (h.fdiv (2^33)) (h.fdiv (2^45))) 255
def kW (c:List UInt8) (s:Cu):Int×Cu:=match c[s.1]? with
 |some u=>(jsa (jy4 (jo5 s.2)+(u.toNat:Int)) 255,(s.1+1,jo5 s.2))
 |none=>(jy4 (jo5 s.2),(s.1,jo5 s.2))
theorem jaA (c:List UInt8) (s:Cu):0<=(kW c s).1/\(kW c s).1<=255:=by
 unfold kW;split
 ·exact jnD _
 ·exact jnD _
theorem jbj {c:List UInt8} {s:Cu} (h:s.1<=c.length):(kW c s).2.1<=c.length:=by
 unfold kW;split
 ·rename_i u hu
  have:=(aMI.1 hu).1;dsimp only;omega
 ·exact h
def jo (c:List UInt8) (n:Int) (s:Cu):Int×Cu:=
 if n<=0 then (0,s) else if n<=256 then ((kW c s).1.tmod n,(kW c s).2)
 else (((kW c s).1*16777216+(kW c (kW c s).2).1*65536+(kW c (kW c (kW c s).2).2).1*256+(kW c (kW c (kW c (kW c s).2).2).2).1).tmod n,(kW c (kW c (kW c (kW c s).2).2).2).2)
theorem jN (c:List UInt8) {n:Int} (s:Cu) (hn:0<n):0<=(jo c n s).1/\(jo c n s).1<n:=by
 unfold jo;rw [if_neg (by omega)]
 split
 ·have:=jaA c s
  exact ⟨Int.tmod_nonneg _ this.1,Int.tmod_lt_of_pos _ hn⟩
 ·refine ⟨Int.tmod_nonneg _ ?_,Int.tmod_lt_of_pos _ hn⟩
  have h1:=jaA c s;have h2:=jaA c (kW c s).2;have h3:=jaA c (kW c (kW c s).2).2;have h4:=jaA c (kW c (kW c (kW c s).2).2).2;omega
theorem jq {c:List UInt8} {n:Int} {s:Cu} (h:s.1<=c.length):(jo c n s).2.1<=c.length:=by
 unfold jo;split
 ·exact h
 ·split
  ·exact jbj h
  ·exact jbj (jbj (jbj (jbj h)))
def jai (c:List UInt8) (n:Int):Nat->Nat->List Ed->Cu->List Ed×Cu
 |0,_,E,s=>(E,s)
 |f+1,i,E,s=>let m:=jo c 9 s
  if (i:Int)<m.1/\1<n then
   let a:=jo c (n-1) m.2;let b:=jo c (1+a.1) a.2
   jai c n f (i+1) (if (⟨b.1,1+a.1⟩:Ed)∈E then E else E++[⟨b.1,1+a.1⟩]) b.2
  else (E,m.2)
structure EdsI (n:Int) (E:List Ed):Prop where
 nd:E.Nodup
 up:∀e∈E,0<=e.src/\e.src<e.dst/\e.dst<n
theorem EdsI.add {n:Int} {E:List Ed} {e:Ed} (h:EdsI n E) (he:0<=e.src/\e.src<e.dst/\e.dst<n):EdsI n (if e∈E then E else E++[e]):=by
 split
 ·exact h
 ·rename_i hn
  refine ⟨aMS.2 ⟨h.nd,by simp,λx hx y hy e1=>?_⟩,λx hx=>?_⟩
  ·simp at hy;subst hy;subst e1;exact hn hx
  ·rcases aMN.1 hx with hx|hx
   ·exact h.up x hx
   ·simp at hx;subst hx;exact he
theorem jkh (c:List UInt8) (n:Int):∀(f i:Nat) (E:List Ed) (s:Cu),EdsI n E->EdsI n (jai c n f i E s).1/\(jai c n f i E s).1.length<=E.length+f
 |0,i,E,s,h=>⟨h,aMV _⟩
 |f+1,i,E,s,h=>by
  rw [jai];dsimp only;split
  ·rename_i hc
   have ha:=jN c (n:=n-1) (jo c 9 s).2 (by omega)
   have hb:=jN c (n:=1+(jo c (n-1) (jo c 9 s).2).1) (jo c (n-1) (jo c 9 s).2).2 (by omega)
   obtain ⟨h1,h2⟩:=jkh c n f (i+1) _ (jo c (1+(jo c (n-1) (jo c 9 s).2).1) (jo c (n-1) (jo c 9 s).2).2).2 (h.add (e:=⟨_,_⟩) ⟨hb.1,hb.2,by dsimp only;omega⟩)
   refine ⟨h1,aNX h2 ?_⟩;split
   ·omega
   ·simp;omega
  ·exact ⟨h,by dsimp only;omega⟩
theorem jo4 (c:List UInt8) (n:Int):∀(f i:Nat) (E:List Ed) (s:Cu),s.1<=c.length->(jai c n f i E s).2.1<=c.length
 |0,i,E,s,h=>h
 |f+1,i,E,s,h=>by
  rw [jai];dsimp only;split
  ·exact jo4 c n f _ _ _ (jq (jq (jq h)))
  ·exact jq h
def jcG (c:List UInt8) (s:Cu):Pl×Cu:=
 let a:=jo c 4 s;let b:=jo c 3 a.2;let w:=jo c 4 b.2;let t:=jo c 6 w.2;let o:=jo c 10 t.2
 let n:=if o.1=0 then 12 else 1+t.1
 let e:=jai c n 9 0 [] o.2
 (⟨a.1,1+b.1,1+w.1,n,e.1⟩,e.2)
theorem rc_up {n:Int} {E:List Ed} (h:EdsI n E) {a b:Int} (hr:Rc E a b):a<b:=by
 induction hr with
 |one he=>obtain ⟨e,h1,h2,h3⟩:=he;have:=h.up e h1;omega
 |step _ he ih=>obtain ⟨e,h1,h2,h3⟩:=he;have:=h.up e h1;omega
theorem jya (c:List UInt8) (s:Cu):jr (jcG c s).1=0:=by
 unfold jcG;dsimp only;have h1:=jN c (n:=4) s (by decide)
 generalize jo c 4 s=a at*;have h2:=jN c (n:=3) a.2 (by decide)
 generalize jo c 3 a.2=b at*;have h3:=jN c (n:=4) b.2 (by decide)
 generalize jo c 4 b.2=w at*;have h4:=jN c (n:=6) w.2 (by decide)
 generalize jo c 6 w.2=t at*;generalize jo c 10 t.2=o at*;obtain ⟨n,hn⟩:∃n:Int,(if o.1=0 then (12:Int) else 1+t.1)=n:=⟨_,rfl⟩
 rw [hn];have nB:1<=n/\n<=12:=by rw [<-hn];split<;>omega
 obtain ⟨hE,hl⟩:=jkh c n 9 0 [] o.2 ⟨by simp,by simp⟩
 generalize (jai c n 9 0 [] o.2).1=E at*;simp only [aOM] at hl;refine jz0 ?_ ?_ hE.nd λt _ hr=>by have:=rc_up hE hr;omega
 ·simp only [zb,inB,Bool.or_eq_false_iff,Bool.not_eq_false',aNC,aNK]
  omega
 ·refine List.any_eq_false.2 λe he=>?_
  have:=hE.up e he;simp only [jjq,inB,Bool.or_eq_true,Bool.not_eq_true',aNK,not_or,Classical.not_not];omega
theorem jyb {c:List UInt8} {s:Cu} (h:s.1<=c.length):(jcG c s).2.1<=c.length:=jo4 _ _ _ _ _ _ (jq (jq (jq (jq (jq h)))))
def jbO (c:List UInt8):List Rn->Cu->Option (Int×Int×Int)×Cu
 |[],s=>(none,s)
 |r::rs,s=>let l:=qQ 3 r.aLT
  if l=[] then jbO c rs s else
   let o:=jo c 5 s
   if o.1=0 then jbO c rs o.2 else
    let k:=jo c l.length o.2
    let t:=(l[k.1.toNat]?).getD 0
    let v:=((r.aLT[t.toNat]?).map (·.tri)).getD 0
    let e:=jo c 8 k.2
    if e.1=0 then let f:=jo c 2 e.2;(some (r.id,t,IntKind.i64.wrap (IntKind.i64.wrap (v-1)+2*f.1)),f.2) else (some (r.id,t,v),e.2)
def qD (c:List UInt8) (y:Yd) (s:Cu):(Int×Int×Int)×Cu:=match jbO c y.aLX s with
 |(some x,s)=>(x,s)
 |(none,s)=>let a:=jo c 5 s;let b:=jo c 6 a.2;let d:=jo c 4 b.2;((1+a.1,b.1-1,d.1),d.2)
theorem jkg {c:List UInt8}:∀(rs:List Rn) {s:Cu},s.1<=c.length->(jbO c rs s).2.1<=c.length
 |[],s,h=>h
 |r::rs,s,h=>by
  rw [jbO];dsimp only;split
  ·exact jkg rs h
  ·split
   ·exact jkg rs (jq h)
   ·split
    ·exact jq (jq (jq (jq h)))
    ·exact jq (jq (jq h))
theorem jrU {c:List UInt8} {y:Yd} {s:Cu} (h:s.1<=c.length):(qD c y s).2.1<=c.length:=by
 unfold qD;have:=jkg y.aLX h;split
 ·rename_i x s' e;rw [e] at this;exact this
 ·rename_i s' e;rw [e] at this;exact jq (jq (jq this))
theorem jkf {c:List UInt8}:∀(rs:List Rn) {s:Cu} {x:Int×Int×Int} {s':Cu},jbO c rs s=(some x,s')->∃r∈rs,x.1=r.id
 |[],s,x,s',h=>by simp [jbO] at h
 |r::rs,s,x,s',h=>by
  rw [jbO] at h;dsimp only at h;split at h
  ·obtain ⟨r',h1,h2⟩:=jkf rs h;exact ⟨r',by simp [h1],h2⟩
  ·split at h
   ·obtain ⟨r',h1,h2⟩:=jkf rs h;exact ⟨r',by simp [h1],h2⟩
   ·split at h
    ·simp only [Prod.mk.injEq,Option.some.injEq] at h;exact ⟨r,by simp,by rw [<-h.1]⟩
    ·simp only [Prod.mk.injEq,Option.some.injEq] at h;exact ⟨r,by simp,by rw [<-h.1]⟩
abbrev plZ:Pl:=⟨0,0,0,0,[]⟩
def qy (c:List UInt8) (y:Yd) (s:Cu):Dd×Cu:=
 let k:=jo c 20 s
 if k.1<6 then let w:=jo c 8 k.2;let d:=jo c 7 w.2;(⟨2,0,plZ,0,0,w.1,d.1⟩,d.2)
 else if k.1<10 then let r:=jo c 9 k.2;let p:=jcG c r.2;(⟨1,1+r.1,p.1,0,0,0,0⟩,p.2)
 else if k.1<15 then let h:=qD c y k.2;(⟨3,h.1.1,plZ,brI h.1.2.1 0 99,brI h.1.2.2 0 99,0,0⟩,h.2)
 else if k.1=15 then let h:=qD c y k.2;(⟨4,h.1.1,plZ,brI h.1.2.1 0 99,brI h.1.2.2 0 99,0,0⟩,h.2)
 else if k.1=16 then (⟨5,0,plZ,0,0,0,0⟩,k.2)
 else if k.1=17 then let r:=jo c 9 k.2;(⟨6,1+r.1,plZ,0,0,0,0⟩,r.2)
 else if k.1=18 then let r:=jo c 9 k.2;(⟨7,1+r.1,plZ,0,0,0,0⟩,r.2)
 else let o:=jo c 3 k.2;if o.1=0 then (⟨8,0,plZ,0,0,0,0⟩,o.2) else (⟨5,0,plZ,0,0,0,0⟩,o.2)
theorem jye {c:List UInt8} {y:Yd} {s:Cu} (h:s.1<=c.length):(qy c y s).2.1<=c.length:=by
 unfold qy;dsimp only;have h1:=jq (n:=20) h
 repeat' split
 ·exact jq (jq h1)
 ·exact jyb (jq h1)
 ·exact jrU h1
 ·exact jrU h1
 ·exact h1
 ·exact jq h1
 ·exact jq h1
 ·exact jq h1
 ·exact jq h1
noncomputable def vT (c:List UInt8):Nat->List Dd×Yd×Cu->List Dd×Yd×Cu
 |0,x=>x
 |n+1,x=>vT c n (x.1++[(qy c x.2.1 x.2.2).1],doY x.2.1 (qy c x.2.1 x.2.2).1,(qy c x.2.1 x.2.2).2)
noncomputable def jke (c:List UInt8) (s:Cu):Yd×Cu:=(vT c (jo c 26 s).1.toNat ([],newYd,(jo c 26 s).2)).2
def jDp (c:List UInt8):Int:=(c.take 4000).foldl (λh u=>jsa (IntKind.i64.wrap (IntKind.i64.wrap (IntKind.i64.wrap (h*131)+(u.toNat:Int))+7)) 1073741823) (94701+(c.length:Int))
def jlc (c:List UInt8):Cu:=(0,jDp c)
theorem jcR (y:Yd) (k:Nat) (r2:Rn):(kT y k r2).seq<=y.seq+r2.aLT.length:=by
 simp only [kT,jtc,zY];have:=jdK ((y.aLX[k]?).getD default).aLT r2.aLT r2.aLT.length;omega
theorem jlE {y:Yd} (h:YdI y) (k:Nat):((y.aLX[k]?).getD default).aLT.length<=12:=by
 cases hr:y.aLX[k]? with
 |none=>exact aNE _
 |some r=>exact (h.rns.right r (aMJ hr)).le12
theorem jn1 {y:Yd} (h:YdI y) (k t:Nat):(failK y k t).seq<=y.seq+12:=by
 unfold failK;split
 ·have h1:=jcR y k (jz ((y.aLX[k]?).getD default) t)
  have h2:=jlE h k;rw [kF] at h1;omega
 ·omega
theorem jnZ {z:Yd} (h:YdI z) (k:Nat):∀t,(restT z k t).seq<=z.seq+12*t
 |0=>by simp [restT]
 |t+1=>by
  have h1:=jnZ h k t;have h2:=jn1 (h.restT k t) k t;simp only [restT];omega
theorem jn0 {y:Yd} (h:YdI y):∀k,(restR y k).seq<=y.seq+144*k
 |0=>by simp [restR]
 |k+1=>by
  have h1:=jn0 h k;have h2:=jnZ (h.restR k) k ((y.aLX[k]?).getD default).aLT.length;have h3:=jlE h k;simp only [restR];omega
theorem jnY {y:Yd} (h:YdI y):∀i,i<=(kC y).length->(tickI y i).seq<=y.seq+12*i
 |0,_=>by simp [tickI]
 |i+1,hi=>by
  have h1:=jnY h i (by omega)
  have h2:=(h.tickI i (by omega)).1
  obtain ⟨l,hl⟩:=jd (show i<(kC y).length by omega)
  rw [je0 hl];unfold jmu;have:=jn1 h2 (runAt (tickI y i) (l.headD 0)).toNat (l.tail.headD 0).toNat;omega
theorem jyG {y:Yd} (h:YdI y) (d:Dd):(doY y d).seq<=y.seq+2000:=by
 unfold doY;split
 ·omega
 split
 ·unfold jcL
  split
  ·rename_i hc
   simp only [jtc,zY]
   have hp:jr d.aLW=0:=by
    refine aOL λhp=>?_
    unfold jdA at hc
    repeat' split at hc
    all_goals first|(cases hc;done)|exact hp hc|contradiction|omega
   obtain ⟨n,hn,_,cC,-⟩:=jcH hp;have h3:(jM d.run d.aLW).aLT.length<=12:=by rw [jM,jaO];omega
   have h4:(qQ 2 (jM d.run d.aLW).aLT).length<=(jM d.run d.aLW).aLT.length:=vx _ _ _;omega
  ·omega
 split
 ·unfold qj
  split
  ·omega
  ·rename_i hc
   have aC:jw y=true:=by
    cases h:jw y with
    |true=>rfl
    |false=>exact absurd (.inl h) hc
   have hw:0<=d.aLZ/\d.aLZ<=99:=by
    refine aOL λh=>hc (.inr h)
   have eW:(d.aLZ.tmod 4).toNat<4:=by rw [aNU hw.1];omega
   have hI:=(jjO (yard_iff.1 aC) eW d.aMB).seq;split
   ·omega
   ·simp only [jdX];omega
 split
 ·unfold qz
  split
  ·have h1:=jcR y (runAt y d.run).toNat (kx ((y.aLX[(runAt y d.run).toNat]?).getD default) d.aMA)
   have h2:=jlE h (runAt y d.run).toNat;rw [zI] at h1;omega
  ·omega
 split
 ·unfold vp
  split
  ·have h1:=jcR y (runAt y d.run).toNat (jz ((y.aLX[(runAt y d.run).toNat]?).getD default) d.aMA)
   have h2:=jlE h (runAt y d.run).toNat;rw [kF] at h1;omega
  ·omega
 split
 ·unfold jaE
  split
  ·rename_i hc
   have aC:jw y=true:=by
    unfold ja3 at hc;cases h:jw y with
    |true=>rfl
    |false=>rw [if_pos h] at hc;cases hc
   have h1:=jnY h _ (aMV _);have h2:=jm8 (yard_iff.1 aC);dsimp only;omega
  ·omega
 split
 ·unfold jX
  split
  ·simp only [jcf];omega
  ·omega
 split
 ·unfold vH
  split
  ·dsimp only;omega
  ·omega
 ·unfold jbG
  split
  ·have h1:=jn0 h y.aLX.length
   have h2:=h.rns.eight;omega
  ·omega
theorem YdI.new:YdI newYd:=by
 refine ⟨by decide,by decide,rfl,λl hl=>?_,⟨by simp [newYd],by simp [newYd],by simp [newYd],by simp [newYd],by simp [newYd]⟩,⟨by simp [newYd],by simp [newYd],by simp [newYd],by simp [newYd]⟩,by simp [newYd,qN]⟩
 have:l=[]:=by simp [newYd] at hl;exact hl
 subst this;exact List.Pairwise.nil
theorem jwk (n:Int) {a b:Int} (h:a<=b):a<=brI n a b/\brI n a b<=b:=by
 unfold brI;split
 ·omega
 ·split<;>omega
theorem jxv:jb5 plZ=true:=by decide
theorem jaf {n:Int} (h:0<=n/\n<=1000000000):zK n=true:=decide_eq_true h
theorem jxq {p:Pl} (h:jr p=0):jhe p=true:=by
 obtain ⟨n,h1,h2,h3,h4,h5,h6,h7,h8,h9⟩:=jcH h;simp only [jhe,aMY,aNC,List.all_eq_true];refine ⟨⟨⟨⟨⟨jaf (by omega),jaf (by omega)⟩,jaf (by omega)⟩,jaf (by omega)⟩,by omega⟩,λe he=>?_⟩
 have:=h5 e he;unfold okE at this;simp only [edB,aMY];exact ⟨jaf (by omega),jaf (by omega)⟩
theorem jyc (c:List UInt8) {y:Yd} (s:Cu) (hi:∀r∈y.aLX,1<=r.id/\r.id<=9999):0<=(qD c y s).1.1/\(qD c y s).1.1<=9999:=by
 unfold qD;split
 ·rename_i x s' e
  obtain ⟨r,h1,h2⟩:=jkf _ e;have:=hi r h1;dsimp only;omega
 ·rename_i s' e
  have:=jN c (n:=5) s' (by decide)
  dsimp only;omega
theorem jyd (c:List UInt8) {y:Yd} (s:Cu) (hi:∀r∈y.aLX,1<=r.id/\r.id<=9999):kb (qy c y s).1=true:=by
 unfold qy;dsimp only;generalize jo c 20 s=k at*;have hh:=jyc c k.2 hi;have b9:=jN c (n:=9) k.2 (by decide)
 have b8:=jN c (n:=8) k.2 (by decide)
 have b7:=jN c (n:=7) (jo c 8 k.2).2 (by decide)
 have hp:=jya c (jo c 9 k.2).2;have ht:=jwk (qD c y k.2).1.2.1 (a:=0) (b:=99) (by decide)
 have hv:=jwk (qD c y k.2).1.2.2 (a:=0) (b:=99) (by decide)
 have hz:=jxv
 repeat' split
 ·simp [kb,hz,jaf (n:=(jo c 8 k.2).1) (by omega),jaf (n:=(jo c 7 (jo c 8 k.2).2).1) (by omega)]
 ·simp [kb,jxq hp,jaf (n:=1+(jo c 9 k.2).1) (by omega)]
 ·simp [kb,hz,jaf (n:=(qD c y k.2).1.1) (by omega),jaf (n:=brI (qD c y k.2).1.2.1 0 99) (by omega),jaf (n:=brI (qD c y k.2).1.2.2 0 99) (by omega)]
 ·simp [kb,hz,jaf (n:=(qD c y k.2).1.1) (by omega),jaf (n:=brI (qD c y k.2).1.2.1 0 99) (by omega),jaf (n:=brI (qD c y k.2).1.2.2 0 99) (by omega)]
 ·simp [kb,hz]
 ·simp [kb,hz,jaf (n:=1+(jo c 9 k.2).1) (by omega)]
 ·simp [kb,hz,jaf (n:=1+(jo c 9 k.2).1) (by omega)]
 ·simp [kb,hz]
 ·simp [kb,hz]
theorem YdI.ids {y:Yd} (h:YdI y):∀r∈y.aLX,1<=r.id/\r.id<=9999:=λr hr=>aNS (h.rns.right r hr).id
structure DdsI (c:List UInt8) (n:Nat) (x:List Dd×Yd×Cu):Prop where
 yd:YdI x.2.1
 seq:x.2.1.seq<=1+2000*n
 len:x.1.length=n
 ok:∀d∈x.1,kb d=true
 at_:x.2.2.1<=c.length
 yis:x.2.1=x.1.foldl doY newYd
 aLY:∀d∈x.1,d.aLW.aLY.length<=9
theorem jki (c:List UInt8) (y:Yd) (s:Cu):(qy c y s).1.aLW.aLY.length<=9:=by
 unfold qy;dsimp only
 repeat' split
 all_goals first
  |exact aNE _
  |(have:=(jkh c (if (jo c 10 (jo c 6 (jo c 4 (jo c 3 (jo c 4 (jo c 9 (jo c 20 s).2).2).2).2).2).2).1=0 then 12 else 1+(jo c 6 (jo c 4 (jo c 3 (jo c 4 (jo c 9 (jo c 20 s).2).2).2).2).2).1) 9 0 [] (jo c 10 (jo c 6 (jo c 4 (jo c 3 (jo c 4 (jo c 9 (jo c 20 s).2).2).2).2).2).2).2 ⟨by simp,by simp⟩).2;simpa [jcG] using this)
theorem DdsI.start {c:List UInt8} {s:Cu} (h:s.1<=c.length):DdsI c 0 ([],newYd,s):=⟨.new,by simp [newYd],rfl,by simp,h,rfl,by simp⟩
theorem DdsI.next {c:List UInt8} {n:Nat} {x:List Dd×Yd×Cu} (h:DdsI c n x):DdsI c (n+1) (x.1++[(qy c x.2.1 x.2.2).1],doY x.2.1 (qy c x.2.1 x.2.2).1,(qy c x.2.1 x.2.2).2):=by
 have hd:=jyd c x.2.2 h.yd.ids;refine ⟨h.yd.do _,?_,by simp [h.len],λd hm=>?_,jye h.at_,?_,λd hm=>?_⟩
 ·have h1:=jyG h.yd (qy c x.2.1 x.2.2).1
  have h2:=h.seq;dsimp only;omega
 ·rcases aMN.1 hm with hm|hm
  ·exact h.ok d hm
  ·simp at hm;subst hm;exact hd
 ·rw [List.foldl_append,<-h.yis];rfl
 ·rcases aMN.1 hm with hm|hm
  ·exact h.aLY d hm
  ·simp at hm;subst hm;exact jki _ _ _
theorem jnp {c:List UInt8}:∀(n m:Nat) {x:List Dd×Yd×Cu},DdsI c m x->DdsI c (m+n) (vT c n x)
 |0,m,x,h=>h
 |n+1,m,x,h=>by
  rw [vT,show m+(n+1)=(m+1)+n by omega]
  exact jnp n (m+1) h.next
