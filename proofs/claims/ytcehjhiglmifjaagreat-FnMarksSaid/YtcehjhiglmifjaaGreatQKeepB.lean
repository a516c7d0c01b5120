/- Parts. -/
import Derived.Test.YtcehjhiglmifjaaGreatQLateOf
set_option linter.all false
set_option maxRecDepth 100000
namespace Go.Proofs.YtcehjhiglmifjaaGreat
open Go.RowKit Go.Sort
structure jrc (r r2:Rn):Prop where
 id:r2.id=r.id
 aNB:r2.aNB=r.aNB
 ok:RunOkP r2
 len:r2.aNA.length=r.aNA.length
 aNH:∀(t:Nat) (x z:Tk),r.aNA[t]?=some x->r2.aNA[t]?=some z->(x.aND=2->z.aND=2\/z.aND=6)/\(x.aND=6->z.aND=6)/\(z.aND=2->x.aND≠6)/\(z.aND=3->z=x)/\(z.aND=1->x.aND=1/\z.tri=x.tri)
 room:kQ r2+cS 2 r.aNA+(zj r.aNA r2.aNA r2.aNA.length).length<=kQ r+cS 2 r2.aNA
theorem newL_mem {was ts:List Tk} {k:Nat} {v:Int}:v∈zj was ts k↔∃j:Nat,v=j/\j<k/\jrf was ts j=true:=by
 simp only [zj,aPS,aPM,aQX];constructor
 ·rintro ⟨j,⟨h1,h2⟩,rfl⟩;exact ⟨j,rfl,h1,h2⟩
 ·rintro ⟨j,rfl,h1,h2⟩;exact ⟨j,⟨h1,h2⟩,rfl⟩
theorem jvf (was ts:List Tk) (k:Nat):(zj was ts k).Nodup:=jcx _ _
theorem jtw {was ts:List Tk} {j:Nat} {x z:Tk} (hx:was[j]?=some x) (hz:ts[j]?=some z):jrf was ts j=(z.aND==2&&!(x.aND==2)):=by
 have hj:=(aNP.1 hx).1;simp [jrf,kt hx,kt hz,hj]
theorem jpG {was ts:List Tk} (hl:ts.length=was.length) (h:∀(j:Nat) (x z:Tk),was[j]?=some x->ts[j]?=some z->x.aND=2->z.aND=2):cS 2 ts=cS 2 was+(zj was ts ts.length).length:=by
 have e1:(zj was ts ts.length).length=((List.range ts.length).filter λ(j:Nat)=>(stT ts (j:Int)==2)&&!(stT was (j:Int)==2)).length:=by
  simp only [zj,aPA]
  congr 1
  refine List.filter_congr λj hj=>?_
  have:j<was.length:=by rw [<-hl];exact aQX.1 hj
  simp [jrf,this]
 have e2:cS 2 was=((List.range ts.length).filter λ(j:Nat)=>(stT ts (j:Int)==2)&&(stT was (j:Int)==2)).length:=by
  simp only [cS,qV,zi,aPA,<-hl]
  congr 1
  refine List.filter_congr λj hj=>?_
  have nF:=aQX.1 hj;obtain ⟨z,hz⟩:=ja nF;obtain ⟨x,hx⟩:=ja (show j<was.length by omega)
  rw [kt hz,kt hx];cases h2:x.aND==2
  ·simp
  ·rw [h j x z hx hz (by simpa using h2)];rfl
 have e3:cS 2 ts=((List.range ts.length).filter λ(j:Nat)=>stT ts (j:Int)==2).length:=by simp only [cS,qV,zi,aPA]
 rw [e1,e2,e3];have:=List.length_eq_countP_add_countP (λ(j:Nat)=>stT was (j:Int)==2) (l:=(List.range ts.length).filter λ(j:Nat)=>stT ts (j:Int)==2)
 simp only [aQJ,List.filter_filter] at this;rw [this]
 congr 1
 ·congr 1
  refine List.filter_congr λj _=>?_
  exact Bool.and_comm _ _
 ·congr 1
  refine List.filter_congr λj _=>?_
  cases stT was (j:Int)==2<;>cases stT ts (j:Int)==2<;>rfl
theorem jdd {rs:List Rn} {k:Nat} {r2 r':Rn} (h:r'∈rs.set k r2):r'=r2\/∃j,j≠k/\rs[j]?=some r':=by
 obtain ⟨j,hj⟩:=aPJ h;rw [aPO] at hj;by_cases e:k=j
 ·subst e
  rw [if_pos rfl] at hj;split at hj
  ·exact .inl (aOH hj).symm
  ·simp at hj
 ·rw [if_neg e] at hj;exact .inr ⟨j,λh=>e h.symm,hj⟩
theorem jru {rs:List Rn} {k:Nat} {r r2:Rn} (hr:rs[k]?=some r) (h:r2.id=r.id):(rs.set k r2).map (·.id)=rs.map (·.id):=by
 apply aPY
 intro j;simp only [aQK,aPO];by_cases e:k=j
 ·subst e
  rw [if_pos rfl,if_pos (aNP.1 hr).1,hr];simp [h]
 ·rw [if_neg e]
theorem jxX {rs rs':List Rn} {q:Int} {L:List En} {r2:Rn} {ids:List Int} (h:EnsI rs q L) (hq:1<=q) (hid:(rs'.map (·.id)).Nodup) (cR:r2∈rs') (i7:ids.Nodup)
 (h1:∀t∈ids,∃(j:Nat) (x:Tk),t=j/\r2.aNA[j]?=some x/\x.aND=2)
 (h2:∀e∈L,∃r∈rs',∃(t:Nat) (x:Tk),e.run=r.id/\e.aNH=t/\r.aNA[t]?=some x/\(x.aND=2/\e.aNI=r.aNB.aNI\/x.aND=6))
 (h3:∀r'∈rs',r'.id≠r2.id->r'∈rs)
 (h4:∀(t:Nat) (x:Tk),r2.aNA[t]?=some x->x.aND=2->(t:Int)∉ids->jaj r2.id t L=1)
 (h5:∀t∈ids,jaj r2.id t L=0):EnsI rs' (q+ids.length) (jm3 r2.aNB.aNI r2.id q ids++L):=by
 refine ⟨λe he=>?_,?_,λe he=>?_,λr' bH t x hx hs=>?_⟩
 ·rcases aNT.1 he with he|he
  ·obtain ⟨_,_,_,k4,k5⟩:=jci he;omega
  ·have:=h.range e he;omega
 ·rw [aPZ]
  refine aNY.2 ⟨jm2 _ _ _ _,h.apart,λa ha b hb e=>?_⟩
  obtain ⟨e1,mU,rfl⟩:=aPS.1 ha;obtain ⟨e2,cC,rfl⟩:=aPS.1 hb;have:=(jci mU).2.2.2.1;have:=h.range e2 cC;omega
 ·rcases aNT.1 he with he|he
  ·obtain ⟨k1,k2,k3,_⟩:=jci he
   obtain ⟨j,x,hj,hx,hs⟩:=h1 _ k3;exact ⟨r2,cR,j,x,k2,hj,hx,.inl ⟨hs,k1⟩⟩
  ·exact h2 e he
 ·rw [jiV]
  by_cases hi:r'.id=r2.id
  ·obtain rfl:=joy hid bH cR hi
   rw [jtv];by_cases ht:(t:Int)∈ids
   ·rw [i7.count,if_pos ht,h5 _ ht]
   ·rw [List.count_eq_zero.2 ht,h4 t x hx hs ht]
  ·rw [joS (L:=jm3 _ _ _ _) (λe he=>by have:=(jci he).2.1;rintro ⟨k1,_⟩;exact hi (k1.symm.trans this)),h.one r' (h3 r' bH hi) t x hx hs]
theorem jsO {α:Type} (f:α->Nat) (l:List α) (x:α):qh f (l++[x])=qh f l+f x:=by simp [qh]
theorem RnsI.turn {now:Int} {rs:List Rn} {k:Nat} {r r2:Rn} (h:RnsI now rs) (hr:rs[k]?=some r) (hg:jrc r r2):RnsI now (rs.set k r2):=by
 refine ⟨by rw [aOE];exact h.eight,λr' bH=>?_,by rw [jru hr hg.id];exact h.ids,λr' bH t x hx hs=>?_,λr' bH x hx hs=>?_⟩
 ·rcases jdd bH with rfl|⟨j,_,hj⟩
  ·exact hg.ok
  ·exact h.right r' (aNQ hj)
 ·rcases jdd bH with rfl|⟨j,_,hj⟩
  ·obtain ⟨z,hz⟩:=ja (show t<r.aNA.length by rw [<-hg.len];exact (aNP.1 hx).1)
   have:=(hg.aNH t z x hz hx).2.2.2.1 hs;subst this;rw [hg.aNB];exact h.til r (aNQ hr) t x hz hs
  ·exact h.til r' (aNQ hj) t x hx hs
 ·rcases jdd bH with rfl|⟨j,_,hj⟩
  ·obtain ⟨t,hx⟩:=aPJ hx
   obtain ⟨z,hz⟩:=ja (show t<r.aNA.length by rw [<-hg.len];exact (aNP.1 hx).1)
   obtain ⟨h1,h2⟩:=(hg.aNH t z x hz hx).2.2.2.2 hs;rw [h2];exact h.tri r (aNQ hr) z (aNQ hz) h1
  ·exact h.tri r' (aNQ hj) x hx hs
theorem jDF {rs:List Rn} {k:Nat} {r r2:Rn} {q:Int} {L:List En} (h:EnsI rs q L) (hr:rs[k]?=some r) (hg:jrc r r2):∀e∈L,∃r∈rs.set k r2,∃(t:Nat) (x:Tk),e.run=r.id/\e.aNH=t/\r.aNA[t]?=some x/\(x.aND=2/\e.aNI=r.aNB.aNI\/x.aND=6):=by
 intro e he;have hk:=(aNP.1 hr).1;obtain ⟨r',bH,t,x,h1,h2,h3,h4⟩:=h.own e he;obtain ⟨j,hj⟩:=aPJ bH;by_cases ejk:k=j
 ·subst ejk
  rw [hr] at hj;obtain rfl:=aOH hj;obtain ⟨z,hz⟩:=ja (show t<r2.aNA.length by rw [hg.len];exact (aNP.1 h3).1)
  obtain ⟨g1,g2,_⟩:=hg.aNH t x z h3 hz;refine ⟨r2,aNQ (aNX hk),t,z,by rw [hg.id];exact h1,h2,hz,?_⟩
  rcases h4 with ⟨h4,h5⟩|h4
  ·rcases g1 h4 with g|g
   ·exact .inl ⟨g,by rw [hg.aNB];exact h5⟩
   ·exact .inr g
  ·exact .inr (g2 h4)
 ·exact ⟨r',aNQ (i:=j) (by rw [aOX ejk];exact hj),t,x,h1,h2,h3,h4⟩
theorem jEx {rs:List Rn} {q:Int} {L:List En} (h:EnsI rs q L) (hid:(rs.map (·.id)).Nodup) {r:Rn} {t:Nat} {x:Tk} (hr:r∈rs) (hx:r.aNA[t]?=some x) (h2:x.aND≠2) (h6:x.aND≠6):jaj r.id t L=0:=by
 refine joS λe he=>?_
 rintro ⟨k1,k2⟩;obtain ⟨r',bH,t',x',h1,h3,h4,h5⟩:=h.own e he;obtain rfl:=joy hid hr bH (k1.symm.trans h1);obtain rfl:t=t':=by omega
 rw [hx] at h4;obtain rfl:=aOH h4;rcases h5 with h5|h5
 ·exact h2 h5.1
 ·exact h6 h5
theorem YdI.turn {y:Yd} {k:Nat} {r r2:Rn} (h:YdI y) (hr:y.aNE[k]?=some r) (hg:jrc r r2):YdI (kN y k r2):=by
 have hk:=(aNP.1 hr).1;obtain ⟨-,rG⟩:=jC0 r2.id;obtain ⟨l,hl⟩:=ja (show shN r2.id<y.aNC.length by rw [h.four];exact rG)
 have hR:=h.rns.turn hr hg
 have e:kN y k r2=⟨y.now,y.seq+(zj r.aNA r2.aNA r2.aNA.length).length,y.aNC.set (shN r2.id) (zk r2.aNB.aNI r2.id (zj r.aNA r2.aNA r2.aNA.length) (l,y.seq)).1,y.aNE.set k r2⟩:=by
  rw [kN,jtA];simp only [hr,aNZ,hl,zZ]
 obtain ⟨rest,p1,p2⟩:=zN hl (zk r2.aNB.aNI r2.id (zj r.aNA r2.aNA r2.aNA.length) (l,y.seq)).1
 have hp:(jm3 r2.aNB.aNI r2.id y.seq (zj r.aNA r2.aNA r2.aNA.length)++y.aNC.flatten).Perm (y.aNC.set (shN r2.id) (zk r2.aNB.aNI r2.id (zj r.aNA r2.aNA r2.aNA.length) (l,y.seq)).1).flatten:=by
  refine ((aQG _ p1).trans ?_).trans p2.symm;rw [<-aOB];exact ((jgx _ _ _ _ _).symm).append_right _
 have hE:EnsI (y.aNE.set k r2) (y.seq+(zj r.aNA r2.aNA r2.aNA.length).length) (jm3 r2.aNB.aNI r2.id y.seq (zj r.aNA r2.aNA r2.aNA.length)++y.aNC.flatten):=by
  refine jxX h.ens h.seq hR.ids (aNQ (aNX hk)) (jvf _ _ _) (λt ht=>?_) (jDF h.ens hr hg) (λr' bH hi=>?_) (λt x hx hs ht=>?_) (λt ht=>?_)
  ·obtain ⟨j,rfl,hj,hn⟩:=newL_mem.1 ht
   obtain ⟨z,hz⟩:=ja hj;simp only [jrf,kt hz,aOF,aPV] at hn;exact ⟨j,z,rfl,hz,hn.1⟩
  ·rcases jdd bH with rfl|⟨j,_,hj⟩
   ·exact absurd rfl hi
   ·exact aNQ hj
  ·have dW:=(aNP.1 hx).1
   obtain ⟨z,hz⟩:=ja (show t<r.aNA.length by rw [<-hg.len];exact dW)
   have hz2:z.aND=2:=aPQ λaJ=>ht (newL_mem.2 ⟨t,rfl,dW,by rw [jtw hz hx,hs];simp [aJ]⟩)
   rw [hg.id];exact h.ens.one r (aNQ hr) t z hz hz2
  ·obtain ⟨j,rfl,hj,hn⟩:=newL_mem.1 ht
   obtain ⟨z,hz⟩:=ja hj;obtain ⟨x,hx⟩:=ja (show j<r.aNA.length by rw [<-hg.len];exact hj)
   rw [jtw hx hz] at hn;simp only [aOF,aPV,Bool.not_eq_true',beq_eq_false_iff_ne] at hn;rw [hg.id];exact jEx h.ens h.rns.ids (aNQ hr) hx hn.2 ((hg.aNH j x z hx hz).2.2.1 hn.1)
 have aD:=hp.length_eq;rw [aNR,jop] at aD;have bY:=h.room;have hg6:=hg.room;have t1:=qU (f:=kQ) r2 hr;have t2:=qU (f:=λr=>cS 2 r.aNA) r2 hr
 rw [e];refine ⟨h.now,by have:=h.seq;dsimp only;omega,by rw [aOE];exact h.four,λm hm=>?_,hR,hE.perm hp,by simp only [jcw] at bY⊢;omega⟩
 rcases List.mem_or_eq_of_mem_set hm with hm|rfl
 ·exact h.sorted m hm
 ·exact jor _ _ _ (h.sorted l (aNQ hl)) λx hx=>by
   have:=h.ens.range x (aQS.2 ⟨l,aNQ hl,hx⟩);omega
def stD (z:Tk):Tk:=⟨if IntKind.i64.wrap (z.aNL-1)=0 then 2 else z.aND,IntKind.i64.wrap (z.aNL-1),z.tri,z.til⟩
theorem jwE {ts:List Tk} {b:Int} (hb:0<=b) (j:Nat):(ja6 ts b)[j]?=(ts[j]?).map λz=>if (j:Int)=b then stD z else z:=by
 unfold ja6;by_cases e:(j:Int)=b
 ·have ej:b.toNat=j:=by omega
  rw [ej];cases hz:ts[j]? with
  |none=>simp [hz]
  |some z=>
   have hj:=(aNP.1 hz).1;simp only [Option.map_some,if_pos e];rw [aNX hj];rfl
 ·have ej:b.toNat≠j:=by omega
  cases hz:ts[b.toNat]? with
  |none=>simp [e]
  |some z=>simp only [if_neg e];rw [aOX ej];simp
theorem jqy:∀{l:List Int} {ts:List Tk},l.Nodup->(∀b∈l,0<=b)->∀j:Nat,(l.foldl ja6 ts)[j]?=(ts[j]?).map λz=>if (j:Int)∈l then stD z else z
 |[],ts,_,_,j=>by simp
 |b::l,ts,hn,h0,j=>by
  obtain ⟨h1,h2⟩:=aPX.1 hn;rw [aQI,jqy h2 (λx hx=>h0 x (by simp [hx])) j,jwE (h0 b (by simp)) j,Option.map_map]
  congr 1
  funext z
  simp only [Function.comp,aOK];by_cases e:(j:Int)=b
  ·have:¬(j:Int)∈l:=by rw [e];exact h1
   simp [e,h1]
  ·simp [e]
theorem jss {l:List Int} {p:Int->Bool} {t:Int} (hn:l.Nodup) (ht:t∈l) (hp:p t=true):(l.filter p).length=(l.filter λb=>p b&&(b !=t)).length+1:=by
 induction l with
 |nil=>simp at ht
 |cons a l ih=>
  obtain ⟨h1,h2⟩:=aPX.1 hn;rcases aOK.1 ht with rfl|ht
  ·have e:l.filter (λb=>p b&&(b !=t))=l.filter p:=List.filter_congr λb hb=>by
    have:b≠t:=λe=>h1 (e▸hb)
    simp [this]
   rw [aQV,if_pos hp,aQV,if_neg (by simp),e];rfl
  ·have fP:a≠t:=λe=>h1 (e▸ht)
   have:=ih h2 ht;rw [aQV,aQV];cases hpa:p a<;>simp [fP,this]
theorem jsr {l:List Int} {p:Int->Bool} {t:Int} (ht:t∉l):(l.filter λb=>p b&&(b !=t))=l.filter p:=List.filter_congr λb hb=>by
 have:b≠t:=λe=>ht (e▸hb)
 simp [this]
theorem jsE {p:Pl} (h:jo p=0) {a b:Nat}:(a:Int)∈zG p b↔(b:Int)∈jb5 p a:=by
 obtain ⟨n,hn,_,_,_,bU,_⟩:=jbJ h;have e1:p.aNA.toNat=n:=by omega
 rw [zG,jb5,e1,(jbA (jlW bU b)).mem_iff,(jbA (joZ bU a)).mem_iff,jf7,jf6];simp only [aPS,aPM,aPV];constructor
 ·rintro ⟨e,⟨h1,h2⟩,h3⟩;exact ⟨e,⟨h1,h3⟩,h2⟩
 ·rintro ⟨e,⟨h1,h2⟩,h3⟩;exact ⟨e,⟨h1,h3⟩,h2⟩
theorem jvN {p:Pl} (h:jo p=0) (t:Int):(jb5 p t).Nodup:=by
 obtain ⟨n,hn,_,_,_,bU,hd,_⟩:=jbJ h;rw [jb5,show p.aNA.toNat=n by omega]
 exact (jbA (joZ bU t)).nodup_iff.2 (jnp hd t)
theorem jvP {p:Pl} (h:jo p=0) (t:Int):(zG p t).Nodup:=by
 obtain ⟨n,hn,_,_,_,bU,hd,_⟩:=jbJ h;rw [zG,show p.aNA.toNat=n by omega]
 exact (jbA (jlW bU t)).nodup_iff.2 (jnq hd t)
theorem RunOkP.need_pos {r:Rn} (h:RunOkP r) {t j:Nat} {x z:Tk} (hx:r.aNA[t]?=some x) (hs:x.aND=3) (hz:r.aNA[j]?=some z) (hj:(j:Int)∈jb5 r.aNB t):z.aND=1/\z.aNL=jaT r.aNB r.aNA j/\1<=jaT r.aNB r.aNA j:=by
 obtain ⟨e1,e2,e3,e4⟩:=h.aNE hx hs;have hT:=taskB_iff.1 (h.aNA j z hz)
 have hp:1<=jaT r.aNB r.aNA j:=by
  have hm:(t:Int)∈(zG r.aNB j).filter λb=>stT r.aNA b !=4:=aPM.2 ⟨(jsE h.aNB).2 hj,by rw [kt hx,hs];rfl⟩
  have:=List.length_pos_of_mem hm;simp only [jaT];omega
 have h6:z.aND≠6:=jt7 e3 hz;have hl:=hT.2.2.2.2;unfold vn at hl;refine ⟨?_,hT.2.1,hp⟩;refine aPQ λh1=>?_
 rw [if_neg h1] at hl;split at hl
 ·simp only [aOF,aPV] at hl;omega
 ·simp only [aOF,aPV] at hl;omega
section
variable {r:Rn} {t:Nat} {x:Tk}
theorem jBh (h:RunOkP r) (j:Nat):(vX r.aNB r.aNA t x)[j]?=((r.aNA.set t ⟨4,x.aNL,x.tri,0⟩)[j]?).map λz=>if (j:Int)∈jb5 r.aNB t then stD z else z:=by
 obtain ⟨n,hn,_,_,_,bU,_⟩:=jbJ h.aNB;exact jqy (jvN h.aNB t) (λb hb=>(jsC hn hb).1) j
theorem jtt (h:RunOkP r) (hx:r.aNA[t]?=some x) (hs:x.aND=3):¬(t:Int)∈jb5 r.aNB t:=λhm=>by
 have:=(h.need_pos hx hs hx hm).1;omega
theorem jew (h:RunOkP r) (hx:r.aNA[t]?=some x) (hs:x.aND=3) {j:Nat} {w:Tk} (hw:(vX r.aNB r.aNA t x)[j]?=some w):
 (j=t/\w=⟨4,x.aNL,x.tri,0⟩)\/(j≠t/\∃z,r.aNA[j]?=some z/\((j:Int)∈jb5 r.aNB t/\w=stD z\/¬(j:Int)∈jb5 r.aNB t/\w=z)):=by
 have ht:=(aNP.1 hx).1;rw [jBh h] at hw;by_cases e:j=t
 ·subst e
  rw [aNX ht,Option.map_some,if_neg (jtt h hx hs)] at hw;exact .inl ⟨rfl,(aOH hw).symm⟩
 ·rw [aOX (λe'=>e e'.symm)] at hw
  obtain ⟨z,hz,rfl⟩:=Option.map_eq_some_iff.1 hw;refine .inr ⟨e,z,hz,?_⟩;by_cases hm:(j:Int)∈jb5 r.aNB t
  ·exact .inl ⟨hm,by rw [if_pos hm]⟩
  ·exact .inr ⟨hm,by rw [if_neg hm]⟩
theorem jBL {z:Tk} (h:z.aND=1):(stD z).aND=1\/(stD z).aND=2:=by
 simp only [stD];split
 ·exact .inr rfl
 ·exact .inl h
theorem jBg (h:RunOkP r) (hx:r.aNA[t]?=some x) (hs:x.aND=3) (j:Nat):(stT (vX r.aNB r.aNA t x) j !=4)=(stT r.aNA j !=4&&((j:Int) !=t)):=by
 have ht:=(aNP.1 hx).1;cases hw:(vX r.aNB r.aNA t x)[j]? with
 |none=>
  have hz:r.aNA[j]?=none:=by rw [aQO] at hw⊢;rw [jaX] at hw;exact hw
  have dU:¬j=t:=λe=>by subst e;rw [hx] at hz;cases hz
  have bB:((j:Int) !=t)=true:=by simp only [bne_iff_ne];omega
  simp only [stT,aNW,hw,hz,bB,Bool.and_true]
 |some w=>
  rw [kt hw];rcases jew h hx hs hw with ⟨rfl,rfl⟩|⟨aJ,z,hz,⟨hm,rfl⟩|⟨hm,rfl⟩⟩
  ·simp
  ·have h1:=(h.need_pos hx hs hz hm).1
   have bB:((j:Int) !=t)=true:=by simp only [bne_iff_ne];omega
   rw [kt hz,h1,bB];rcases jBL h1 with h2|h2<;>rw [h2]<;>rfl
  ·have bB:((j:Int) !=t)=true:=by simp only [bne_iff_ne];omega
   rw [kt hz,bB,Bool.and_true]
theorem jvD (h:RunOkP r) (hx:r.aNA[t]?=some x) (hs:x.aND=3) (j:Nat):jaT r.aNB (vX r.aNB r.aNA t x) j=jaT r.aNB r.aNA j-if (j:Int)∈jb5 r.aNB t then 1 else 0:=by
 obtain ⟨n,hn,_,_,_,bU,_⟩:=jbJ h.aNB
 have e:(zG r.aNB j).filter (λb=>stT (vX r.aNB r.aNA t x) b !=4)=(zG r.aNB j).filter λb=>(stT r.aNA b !=4)&&(b !=(t:Int)):=List.filter_congr λb hb=>by
  have n7:0<=b:=by
   rw [zG] at hb;exact (jgg hb).1.1
  obtain ⟨m,rfl⟩:=Int.eq_ofNat_of_zero_le n7;exact jBg h hx hs m
 simp only [jaT];rw [e];by_cases hm:(j:Int)∈jb5 r.aNB t
 ·have:=jss (p:=λb=>stT r.aNA b !=4) (jvP h.aNB j) ((jsE h.aNB).2 hm) (by rw [kt hx,hs];rfl)
  rw [if_pos hm];omega
 ·have:=jsr (p:=λb=>stT r.aNA b !=4) (λhc=>hm ((jsE h.aNB).1 hc))
  rw [if_neg hm,this];omega
theorem jyK (h:RunOkP r) (hx:r.aNA[t]?=some x) (hs:x.aND=3) (h0:∀z∈r.aNA,z.aND=1->z.tri=0):jrc r (jil r t x):=by
 obtain ⟨e1,e2,e3,e4⟩:=h.aNE hx hs;obtain ⟨n,hn,d9,cF,dH,bU,aW,mQ,lP,mJ⟩:=jbJ h.aNB;have bL:=taskB_iff.1 (h.aNA t x hx);have f8:=bL.2.2.2.2;simp only [vn,hs] at f8;have f8:x.aNL=0/\1<=x.tri:=by simpa using f8
 have fX:∀j:Nat,jaT r.aNB r.aNA j<=12:=λj=>by
  have h1:=aOT (λb=>stT r.aNA b !=4) (zG r.aNB j)
  have h2:(zG r.aNB j).length<=n:=by
   rw [zG,show r.aNB.aNA.toNat=n by omega,jzY (jlW bU j)]
   exact jua aW bU j
  simp only [jaT];omega
 have tU:=jnk h hx hs;have aD:=jaX r.aNB r.aNA t x;refine ⟨rfl,rfl,⟨h.id,h.aNB,by show ((vX r.aNB r.aNA t x).length:Int)=_;rw [aD];exact h.len,λj w hw=>?_,tU.symm,?_⟩,aD,λj z w hz hw=>?_,?_⟩
 ·show jS r.aNB (vX r.aNB r.aNA t x) j w=true
  rw [taskB_iff,jvD h hx hs];rcases jew h hx hs hw with ⟨rfl,rfl⟩|⟨aJ,z,hz,⟨hm,rfl⟩|⟨hm,rfl⟩⟩
  ·rw [if_neg (jtt h hx hs)]
   exact ⟨by simp,by rw [bL.2.1];omega,bL.2.2.1,rfl,by simp [vn,f8.1,f8.2]⟩
  ·obtain ⟨g1,g2,g3⟩:=h.need_pos hx hs hz hm
   have g4:=fX j;have g5:=h0 z (aNQ hz) g1;have e9:IntKind.i64.wrap (z.aNL-1)=z.aNL-1:=vF;have wQ:=taskB_iff.1 (h.aNA j z hz)
   have nA:z.til=0:=by
    have:=wQ.2.2.2.1;simpa [jbv,g1] using this
   rw [if_pos hm];simp only [stD,e9];by_cases fQ:z.aNL-1=0
   ·rw [if_pos fQ]
    refine ⟨by simp,by omega,wQ.2.2.1,by simp [jbv,nA],?_⟩
    have:z.tri<r.aNB.aNN:=by omega
    simp [vn,fQ,this]
   ·rw [if_neg fQ]
    refine ⟨by simp [g1],by omega,wQ.2.2.1,by simp [jbv,g1,nA],?_⟩
    have:0<z.aNL-1:=by omega
    simp only [vn,g1,if_true,aOJ];exact this
  ·have wQ:=taskB_iff.1 (h.aNA j _ hz)
   rw [if_neg hm,Int.sub_zero];exact wQ
 ·show (if _ then (2:Int) else r.aND)≠0
  split<;>omega
 ·have bV:(vX r.aNB r.aNA t x)[j]?=some w:=hw
  rcases jew h hx hs bV with ⟨rfl,rfl⟩|⟨aJ,z',cL,⟨hm,rfl⟩|⟨hm,rfl⟩⟩
  ·rw [hx] at hz
   obtain rfl:=aOH hz;simp [hs]
  ·rw [hz] at cL
   obtain rfl:=aOH cL;have g1:=(h.need_pos hx hs hz hm).1;have g3:(stD z).tri=z.tri:=rfl;rcases jBL g1 with g2|g2<;>rw [g2,g1,g3]<;>refine ⟨λg=>?_,λg=>?_,λg=>?_,λg=>?_,λg=>?_⟩<;>first|omega|(simp;done)|exact ⟨rfl,rfl⟩
  ·rw [hz] at cL
   obtain rfl:=aOH cL;refine ⟨λg=>.inl g,λg=>g,λg=>by omega,λ_=>rfl,λg=>⟨g,rfl⟩⟩
 ·have hk:=jpG (was:=r.aNA) (ts:=vX r.aNB r.aNA t x) aD λj z w hz hw g=>by
   rcases jew h hx hs hw with ⟨rfl,rfl⟩|⟨aJ,z',cL,⟨hm,rfl⟩|⟨hm,rfl⟩⟩
   ·rw [hx] at hz
    obtain rfl:=aOH hz;omega
   ·rw [hz] at cL
    obtain rfl:=aOH cL;have:=(h.need_pos hx hs hz hm).1;omega
   ·rw [hz] at cL
    obtain rfl:=aOH cL;exact g
  have mS:kQ (jil r t x)<=kQ r:=by
   unfold kQ;rw [if_pos e1];split
   ·show (vX r.aNB r.aNA t x).length<=_;omega
   ·omega
  show kQ (jil r t x)+cS 2 r.aNA+(zj r.aNA (vX r.aNB r.aNA t x) (vX r.aNB r.aNA t x).length).length<=kQ r+cS 2 (vX r.aNB r.aNA t x);omega
theorem jp7 {was ts:List Tk} (h:∀z∈ts,z.aND≠2) (k:Nat) (hk:k<=ts.length):zj was ts k=[]:=by
 have:∀v,v∉zj was ts k:=λv hv=>by
  obtain ⟨j,rfl,hj,hn⟩:=newL_mem.1 hv;obtain ⟨z,hz⟩:=ja (show j<ts.length by omega)
  simp only [jrf,kt hz,aOF,aPV] at hn;exact h z (aNQ hz) hn.1
 exact List.eq_nil_iff_forall_not_mem.2 this
theorem jvB (h:RunOkP r) (hx:r.aNA[t]?=some x) (hs:x.aND=3):jrc r (zD r t x):=by
 have aR:=jqE h hx hs;obtain ⟨e1,e2,e3,e4⟩:=h.aNE hx hs;have ht:=(aNP.1 hx).1;by_cases hm:x.tri<r.aNB.aNN
 ·have e:zD r t x=⟨r.id,r.aNB,r.aND,r.aNA.set t ⟨2,x.aNL,x.tri,0⟩⟩:=by rw [zD,if_pos hm]
  rw [e] at aR⊢
  have key:∀(j:Nat) (z w:Tk),r.aNA[j]?=some z->(r.aNA.set t ⟨2,x.aNL,x.tri,0⟩)[j]?=some w->(j=t/\z=x/\w=⟨2,x.aNL,x.tri,0⟩)\/w=z:=λj z w hz hw=>by
   rw [aPO] at hw;by_cases e:t=j
   ·subst e
    rw [if_pos rfl,if_pos ht] at hw;rw [hx] at hz;exact .inl ⟨rfl,(aOH hz).symm,(aOH hw).symm⟩
   ·rw [if_neg e,hz] at hw
    exact .inr (aOH hw).symm
  refine ⟨rfl,rfl,aR,aOE ..,λj z w hz hw=>?_,?_⟩
  ·rcases key j z w hz hw with ⟨rfl,rfl,rfl⟩|rfl
   ·simp [hs]
   ·exact ⟨λg=>.inl g,λg=>g,λg=>by omega,λ_=>rfl,λg=>⟨g,rfl⟩⟩
  ·have hk:=jpG (was:=r.aNA) (ts:=r.aNA.set t ⟨2,x.aNL,x.tri,0⟩) (aOE ..) λj z w hz hw g=>by
    rcases key j z w hz hw with ⟨rfl,rfl,rfl⟩|rfl
    ·rfl
    ·exact g
   have mS:kQ ⟨r.id,r.aNB,r.aND,r.aNA.set t ⟨2,x.aNL,x.tri,0⟩⟩=kQ r:=by simp [kQ]
   rw [mS];dsimp only;omega
 ·have e:zD r t x=⟨r.id,r.aNB,3,vq jA (r.aNA.set t ⟨5,x.aNL,x.tri,0⟩) r.aNA.length⟩:=by rw [zD,if_neg hm]
  rw [e] at aR⊢;have hl:(vq jA (r.aNA.set t ⟨5,x.aNL,x.tri,0⟩) r.aNA.length).length=r.aNA.length:=by rw [vT,aOE]
  have key:∀(j:Nat) (z w:Tk),r.aNA[j]?=some z->(vq jA (r.aNA.set t ⟨5,x.aNL,x.tri,0⟩) r.aNA.length)[j]?=some w->(w.aND=4/\z.aND=4)\/(w.aND=5/\z.aND=3)\/(w.aND=6/\z.aND≠4):=λj z w hz hw=>by
   have el:r.aNA.length=(r.aNA.set t ⟨5,x.aNL,x.tri,0⟩).length:=by rw [aOE]
   rw [el] at hw;obtain ⟨u,hu,rfl⟩:=jgu hw;rw [aPO] at hu;by_cases e:t=j
   ·subst e
    rw [if_pos rfl,if_pos ht] at hu;obtain rfl:=aOH hu;rw [hx] at hz;obtain rfl:=aOH hz;exact .inr (.inl ⟨by simp [jA],hs⟩)
   ·rw [if_neg e,hz] at hu
    obtain rfl:=aOH hu;have h5:z.aND≠5:=jt7 e2 hz;by_cases h4:z.aND=4
    ·exact .inl ⟨by simp [jA,h4],h4⟩
    ·exact .inr (.inr ⟨by simp [jA,h4,h5],h4⟩)
  have no2:∀w∈vq jA (r.aNA.set t ⟨5,x.aNL,x.tri,0⟩) r.aNA.length,w.aND≠2:=λw hw=>by
   obtain ⟨j,hj⟩:=aPJ hw;obtain ⟨z,hz⟩:=ja (show j<r.aNA.length by rw [<-hl];exact (aNP.1 hj).1)
   rcases key j z w hz hj with g|g|g<;>omega
  refine ⟨rfl,rfl,aR,hl,λj z w hz hw=>?_,?_⟩
  ·have h6:z.aND≠6:=jt7 e3 hz
   rcases key j z w hz hw with ⟨g,g'⟩|⟨g,g'⟩|⟨g,g'⟩<;>rw [g]<;>refine ⟨λ_=>?_,λ_=>?_,λ_=>?_,λ_=>?_,λ_=>?_⟩<;>simp_all
  ·have:=jbM h
   have e0:zj r.aNA (vq jA (r.aNA.set t ⟨5,x.aNL,x.tri,0⟩) r.aNA.length) (vq jA (r.aNA.set t ⟨5,x.aNL,x.tri,0⟩) r.aNA.length).length=[]:=jp7 no2 _ (aOC _);dsimp only;rw [e0];simp [kQ] at this⊢;split at this<;>simp_all
   all_goals omega
end
theorem jgl {r:Rn} (h:RunOkP r) (t:Int) (hr:vH r t=true):jrc r (jB r t):=by
 obtain ⟨k,x,rfl,hx,hs,_⟩:=jbc hr;rw [qN hx hr];exact jvB h hx hs
theorem jpz {r:Rn} (h:RunOkP r) (h0:∀z∈r.aNA,z.aND=1->z.tri=0) (t:Int) (hr:vH r t=true):jrc r (qa r t):=by
 obtain ⟨k,x,rfl,hx,hs,_⟩:=jbc hr;rw [jfF hx hr];exact jyK h hx hs h0
theorem jC3 {y:Yd} (h:YdI y) {k:Nat} {t:Int} {r:Rn} (hr:y.aNE[k]?=some r) (ht:0<=t) (hs:stT r.aNA t=3):vH r t=true:=by
 obtain ⟨n,rfl⟩:=Int.eq_ofNat_of_zero_le ht;cases hx:r.aNA[n]? with
 |none=>
  have:stT r.aNA (n:Int)=0:=by simp only [stT,aNW,hx,Option.getD_none];rfl
  omega
 |some x=>
  rw [kt hx] at hs;exact jhV (h.rns.right r (aNQ hr)) hx hs
theorem YdI.failK {y:Yd} (h:YdI y) (k t:Nat):YdI (failK y k t):=by
 unfold Go.Proofs.YtcehjhiglmifjaaGreat.failK;split
 ·rename_i hs
  cases hk:y.aNE[k]? with
  |none=>
   rw [hk] at hs;simp [stT] at hs;cases hs
  |some r=>
   rw [hk,aNZ] at hs;rw [aNZ];exact h.turn hk (jgl (h.rns.right r (aNQ hk)) _ (jC3 h hk (Int.natCast_nonneg _) (by simpa using hs)))
 ·exact h
theorem jup {y:Yd} {id aNH:Int} {x:Tk} (h:jaK y id aNH=some x):∃(k t:Nat) (r:Rn),runAt y id=k/\y.aNE[k]?=some r/\r.id=id/\aNH=t/\r.aNA[t]?=some x:=by
 unfold jaK at h;split at h
 ·cases h
 ·rename_i aK
  obtain ⟨k,r,bZ,hr,hid,_⟩:=kP aK;rw [bZ,aNW,hr] at h;dsimp only at h;split at h
  ·rename_i h0
   obtain ⟨t,rfl⟩:=Int.eq_ofNat_of_zero_le h0;exact ⟨k,t,r,bZ,hr,hid,rfl,by simpa using h⟩
  ·cases h
theorem jyg {y:Yd} {id aNH tri:Int} (h:vo y id aNH tri=true):∃(k t:Nat) (r:Rn) (x:Tk),runAt y id=k/\y.aNE[k]?=some r/\r.id=id/\aNH=t/\r.aNA[t]?=some x/\x.aND=3/\x.tri=tri:=by
 unfold vo at h;cases ht:jaK y id aNH with
 |none=>rw [ht] at h;simp at h
 |some x=>
  rw [ht] at h;simp only [aOF,aPV] at h;obtain ⟨k,t,r,h1,h2,h3,h4,h5⟩:=jup ht;exact ⟨k,t,r,x,h1,h2,h3,h4,h5,h.1,h.2⟩
theorem YdI.comp {y:Yd} (h:YdI y) (id aNH tri:Int):YdI (jbV y id aNH tri):=by
 unfold jbV;split
 ·rename_i hc
  obtain ⟨aR,aK⟩:=jka hc
  have hh:vo y id aNH tri=true:=by
   obtain ⟨aR,aK⟩:=jka hc;cases hq:vo y id aNH tri with
   |true=>rfl
   |false=>rw [ja2,if_neg (by rw [zS aR];decide),if_neg aK,if_pos hq] at hc;cases hc
  obtain ⟨k,t,r,x,bZ,hr,_,rfl,hx,hs,_⟩:=jyg hh;rw [bZ,aNW,hr,aNZ];have hR:=h.rns.right r (aNQ hr);exact h.turn hr (jpz hR (h.rns.tri r (aNQ hr)) _ (jhV hR hx hs))
 ·exact h
theorem YdI.fail {y:Yd} (h:YdI y) (id aNH tri:Int):YdI (jbR y id aNH tri):=by
 unfold jbR;split
 ·rename_i hc
  have hh:vo y id aNH tri=true:=by
   obtain ⟨aR,aK⟩:=jka hc;cases hq:vo y id aNH tri with
   |true=>rfl
   |false=>rw [ja2,if_neg (by rw [zS aR];decide),if_neg aK,if_pos hq] at hc;cases hc
  obtain ⟨k,t,r,x,bZ,hr,_,rfl,hx,hs,_⟩:=jyg hh;rw [bZ,aNW,hr,aNZ];have hR:=h.rns.right r (aNQ hr);exact h.turn hr (jgl hR _ (jhV hR hx hs))
 ·exact h
theorem YdI.restT {y:Yd} (h:YdI y) (k:Nat):∀t,YdI (restT y k t)
 |0=>h
 |t+1=>(YdI.restT h k t).failK k t
theorem YdI.restR {y:Yd} (h:YdI y):∀k,YdI (restR y k)
 |0=>h
 |k+1=>(YdI.restR h k).restT k _
theorem YdI.rest {y:Yd} (h:YdI y):YdI (jbG y):=by
 unfold jbG;split
 ·exact h.restR _
 ·exact h
def SubR (y z:Yd):Prop:=∀(k t:Nat) (r':Rn) (x:Tk),z.aNE[k]?=some r'->r'.aNA[t]?=some x->x.aND=3->∃r,y.aNE[k]?=some r/\r.id=r'.id/\r.aNB=r'.aNB/\r.aNA[t]?=some x
theorem SubR.refl (y:Yd):SubR y y:=λk t r x hr hx _=>⟨r,hr,rfl,rfl,hx⟩
theorem SubR.trans {x y z:Yd} (h:SubR x y) (h':SubR y z):SubR x z:=λk t r u hr hu hs=>by
 obtain ⟨r1,h1,h2,h3,h4⟩:=h' k t r u hr hu hs;obtain ⟨r2,g1,g2,g3,g4⟩:=h k t r1 u h1 h4 hs;exact ⟨r2,g1,g2.trans h2,g3.trans h3,g4⟩
theorem SubR.failK (y:Yd) (k t:Nat):SubR y (failK y k t):=by
 unfold Go.Proofs.YtcehjhiglmifjaaGreat.failK;split
 ·intro j i r' x bH hx hs
  rw [jc3,aPO] at bH;by_cases e:k=j
  ·subst e
   rw [if_pos rfl] at bH;split at bH
   ·rename_i hk
    obtain ⟨r,hr⟩:=ja hk;rw [hr,aNZ] at bH;obtain rfl:=aOH bH;have hi:=jaN r t;exact ⟨r,hr,hi.1.symm,hi.2.symm,jmT hx hs⟩
   ·simp at bH
  ·rw [if_neg e] at bH;exact ⟨r',bH,rfl,rfl,hx⟩
 ·exact .refl y
theorem jyu {y:Yd} (h:YdI y) {k t:Nat} {r':Rn} {x:Tk} (hr:(failK y k t).aNE[k]?=some r') (hx:r'.aNA[t]?=some x):x.aND≠3:=by
 intro hs;obtain ⟨r,h1,_,_,h4⟩:=SubR.failK y k t k t r' x hr hx hs;unfold Go.Proofs.YtcehjhiglmifjaaGreat.failK at hr;have aH:stT r.aNA (t:Int)=3:=by rw [kt h4,hs]
 rw [h1,aNZ,aH,if_pos (by decide),jc3,aNX (aNP.1 h1).1] at hr
 obtain rfl:=aOH hr;have hR:=h.rns.right r (aNQ h1);have fK:=jhV hR h4 hs;rw [qN h4 fK,zD] at hx;have ht:=(aNP.1 h4).1;split at hx
 ·dsimp only at hx
  rw [aNX ht] at hx;have:=congrArg Tk.aND (aOH hx);dsimp only at this;omega
 ·dsimp only at hx
  have e:r.aNA.length=(r.aNA.set t ⟨5,x.aNL,x.tri,0⟩).length:=by rw [aOE]
  rw [e] at hx;obtain ⟨u,hu,he⟩:=jgu hx;rw [aNX ht] at hu;rw [<-aOH hu] at he;have:=congrArg Tk.aND he;simp [jA] at this;omega
theorem jDQ {y:Yd} {r:Rn} {t:Nat} {x:Tk} (hr:r∈y.aNE) (hx:r.aNA[t]?=some x) (hs:x.aND=3) (hl:x.til<=y.now+1):[r.id,(t:Int),x.tri]∈kq y:=by
 have key:∀(ts:List Tk) (k j:Nat),ts[j]?=some x->[r.id,((k+j:Nat):Int),x.tri]∈jag y.now r k ts:=by
  intro ts
  induction ts with
  |nil=>intro k j h;simp at h
  |cons a ts ih=>
   intro k j h;rw [jag];cases j with
   |zero=>
    simp at h;subst h;refine aNT.2 (.inl ?_)
    have:jaC y.now r.id a k=some [r.id,(k:Int),a.tri]:=by
     rw [jaC,if_pos];simp only [hs,aQC,Bool.true_and,aOJ];omega
    rw [this];simp
   |succ j=>
    refine aNT.2 (.inr ?_);have:=ih (k+1) j (by simpa using h)
    rwa [show k+1+j=k+(j+1) by omega] at this
 have:=key r.aNA 0 t hx;rw [aPH] at this;exact aQQ.2 ⟨r,hr,this⟩
theorem jyv (y:Yd) (k t:Nat):(failK y k t).aNE.map (·.id)=y.aNE.map (·.id):=by
 unfold Go.Proofs.YtcehjhiglmifjaaGreat.failK;split
 ·rw [jc3]
  cases hr:y.aNE[k]? with
  |none=>rw [List.set_eq_of_length_le (aQO.1 hr)]
  |some r=>rw [aNZ,jru hr (jaN _ _).1]
 ·rfl
theorem YdI.tickI {y:Yd} (h:YdI y):∀i,i<=(kq y).length->YdI (tickI y i)/\(tickI y i).aNE.map (·.id)=y.aNE.map (·.id)/\(tickI y i).now=y.now
 |0,_=>⟨h,rfl,rfl⟩
 |i+1,hi=>by
  obtain ⟨h1,h2,h3⟩:=YdI.tickI h i (by omega)
  obtain ⟨l,hl⟩:=ja (show i<(kq y).length by omega)
  rw [jc7 hl,jnJ];refine ⟨h1.failK _ _,?_,?_⟩
  ·rw [<-h2];exact jyv _ _ _
  ·rw [<-h3]
   unfold Go.Proofs.YtcehjhiglmifjaaGreat.failK;split<;>rfl
theorem jsP (y:Yd) (i:Nat):∀d:Nat,i+d<=(kq y).length->SubR (tickI y i) (tickI y (i+d)):=by
 intro d
 induction d with
 |zero=>intro _;exact .refl _
 |succ d ih=>
  intro h;obtain ⟨l,hl⟩:=ja (show i+d<(kq y).length by omega)
  have h1:=ih (by omega)
  have e:tickI y (i+(d+1))=failK (tickI y (i+d)) (runAt (tickI y (i+d)) (l.headD 0)).toNat (l.tail.headD 0).toNat:=by
   rw [<-aRC,jc7 hl,jnJ]
  rw [e];exact h1.trans (.failK _ _ _)
theorem jwt {y:Yd} (h:YdI y):∀r'∈(tickI y (kq y).length).aNE,∀(t:Nat) (x:Tk),r'.aNA[t]?=some x->x.aND=3->y.now+2<=x.til:=by
 intro r' bH t x hx hs;refine aPQ λaB=>?_
 obtain ⟨k,hk⟩:=aPJ bH;have s0:=jsP y 0 (kq y).length (by omega)
 rw [aPH] at s0;obtain ⟨r,hr,hid,-,bT⟩:=s0 k t r' x hk hx hs;have hr:y.aNE[k]?=some r:=hr;obtain ⟨i,hi⟩:=aPJ (jDQ (aNQ hr) bT hs (by omega))
 have hil:=(aNP.1 hi).1;have s1:=jsP y (i+1) ((kq y).length-(i+1)) (by omega)
 rw [show i+1+((kq y).length-(i+1))=(kq y).length by omega] at s1
 obtain ⟨r1,dC,aJP,-,bL⟩:=s1 k t r' x hk hx hs;obtain ⟨hI,i7,-⟩:=h.tickI i (by omega)
 rw [jc7 hi,jnJ] at dC
 obtain ⟨r2,cR⟩:=ja (show k<(tickI y i).aNE.length by
  have:=congrArg List.length i7;simp only [aPA] at this;rw [this];exact (aNP.1 hr).1)
 have aCZ:r2.id=r.id:=by
  have e1:((tickI y i).aNE.map (·.id))[k]?=some r2.id:=by rw [aQK,cR];rfl
  rw [i7,aQK,hr] at e1;exact (aOH e1).symm
 have fP:=juf hI.rns.eight hI.rns.ids cR;rw [aCZ] at fP;have e1:([r.id,(t:Int),x.tri]:List Int).headD 0=r.id:=rfl;have e2:(([r.id,(t:Int),x.tri]:List Int).tail.headD 0).toNat=t:=by simp
 rw [e1,e2,fP,aNW] at dC;exact jyu hI dC bL hs
theorem YdI.tick {y:Yd} (h:YdI y):YdI (ja4 y):=by
 unfold ja4;split
 ·rename_i hc
  have gQ:y.now+1<=999999980:=by
   unfold ja5 at hc;split at hc
   ·cases hc
   ·split at hc
    ·cases hc
    ·omega
  obtain ⟨h1,h2,h3⟩:=h.tickI _ (aOC _);have key:=jwt h;have hn:=h.now;generalize Go.Proofs.YtcehjhiglmifjaaGreat.tickI y (kq y).length=z at*
  exact ⟨⟨by dsimp only;omega,gQ⟩,h1.seq,h1.four,h1.sorted,⟨h1.rns.eight,h1.rns.right,h1.rns.ids,λr hr t x hx hs=>by
   have k1:=key r hr t x hx hs;have k2:=h1.rns.til r hr t x hx hs;dsimp only;omega,h1.rns.tri⟩,h1.ens,h1.room⟩
 ·exact h
theorem jwk {y:Yd} {k:Nat} {r r2:Rn} (hr:y.aNE[k]?=some r) (hn:zj r.aNA r2.aNA r2.aNA.length=[]) (h4:y.aNC.length=4):kN y k r2=jeQ y k r2:=by
 obtain ⟨-,rG⟩:=jC0 r2.id;obtain ⟨l,hl⟩:=ja (show shN r2.id<y.aNC.length by rw [h4];exact rG)
 have e:y.aNC.set (shN r2.id) l=y.aNC:=by
  obtain ⟨h1,h2⟩:=aNP.1 hl;rw [<-h2];exact List.set_getElem_self h1
 rw [kN,jtA];simp only [hr,aNZ,hn,hl,jgy,e,jeQ]
theorem jxS {r:Rn} (h:RunOkP r) (hs:r.aND=1):jrc r (jaB r)/\zj r.aNA (jaB r).aNA (jaB r).aNA.length=[]:=by
 have e:jaB r=⟨r.id,r.aNB,4,vq jA r.aNA r.aNA.length⟩:=by rw [jaB,if_pos (by simp [runOk_iff.2 h,hs])]
 have aH:=h.aND;rw [hs] at aH
 obtain ⟨c4,c5,c6⟩:cS 4 r.aNA≠r.aNA.length/\cS 5 r.aNA=0/\cS 6 r.aNA=0:=by
  unfold jgf at aH;split at aH
  ·cases aH
  ·rename_i g
   split at aH
   ·cases aH
   ·split at aH
    ·cases aH
    ·split at aH
     ·rename_i g2;exact ⟨g,g2.1,g2.2⟩
     ·cases aH
 have hl:(vq jA r.aNA r.aNA.length).length=r.aNA.length:=vT
 have key:∀(j:Nat) (w:Tk),(vq jA r.aNA r.aNA.length)[j]?=some w->∃z,r.aNA[j]?=some z/\((z.aND=4/\w=z)\/(z.aND≠4/\w=⟨6,z.aNL,z.tri,0⟩)):=λj w hw=>by
  obtain ⟨z,hz,rfl⟩:=jgu hw;have h5:z.aND≠5:=jt7 c5 hz;refine ⟨z,hz,?_⟩;by_cases h4:z.aND=4
  ·exact .inl ⟨h4,by simp [jA,h4]⟩
  ·exact .inr ⟨h4,by simp [jA,h4,h5]⟩
 have bW:∀w∈vq jA r.aNA r.aNA.length,w.aND=4\/w.aND=6:=λw hw=>by
  obtain ⟨j,hj⟩:=aPJ hw;obtain ⟨z,_,⟨h1,rfl⟩|⟨_,rfl⟩⟩:=key j w hj
  ·exact .inl h1
  ·exact .inr rfl
 have lK:∀b:Int,(stT (vq jA r.aNA r.aNA.length) b !=4)=(stT r.aNA b !=4):=by
  intro b;simp only [stT,vq,List.getElem?_mapIdx];cases hb:r.aNA[b.toNat]? with
  |none=>rfl
  |some z=>simp only [Option.map_some,aNZ,if_pos (aNP.1 hb).1,jtz]
 have hN:=λj=>jcj (p:=r.aNB) lK j
 have d4:cS 4 (vq jA r.aNA r.aNA.length)=cS 4 r.aNA:=by
  simp only [cS,qV,zi,aPA,hl]
  congr 1
  refine List.filter_congr λj _=>?_
  have:=lK (j:Int);cases h1:stT (vq jA r.aNA r.aNA.length) (j:Int)==4<;>cases h2:stT r.aNA (j:Int)==4<;>simp_all [bne]
 have d5:cS 5 (vq jA r.aNA r.aNA.length)=0:=jeK λz hz=>by rcases bW z hz with g|g<;>omega
 have d1:cS 1 (vq jA r.aNA r.aNA.length)=0:=jeK λz hz=>by rcases bW z hz with g|g<;>omega
 have d2:cS 2 (vq jA r.aNA r.aNA.length)=0:=jeK λz hz=>by rcases bW z hz with g|g<;>omega
 have d3:cS 3 (vq jA r.aNA r.aNA.length)=0:=jeK λz hz=>by rcases bW z hz with g|g<;>omega
 have eC:=jc5 (λz hz=>by rcases bW z hz with g|g<;>omega) _ (aOC (vq jA r.aNA r.aNA.length).length)
 change cS 1 _+cS 2 _+cS 3 _+cS 4 _+cS 5 _+cS 6 _=_ at eC;have cE:cS 4 r.aNA<=r.aNA.length:=by simp only [cS,qV];exact vx _ _ _
 have fX:zj r.aNA (vq jA r.aNA r.aNA.length) (vq jA r.aNA r.aNA.length).length=[]:=jp7 (λz hz=>by rcases bW z hz with g|g<;>omega) _ (aOC _)
 rw [e];refine ⟨⟨rfl,rfl,⟨h.id,h.aNB,by dsimp only;rw [hl];exact h.len,λj w hw=>?_,?_,by simp⟩,hl,λj z w hz hw=>?_,?_⟩,fX⟩
 ·dsimp only at hw⊢
  rw [taskB_iff,hN];obtain ⟨z,hz,⟨g1,rfl⟩|⟨g1,rfl⟩⟩:=key j w hw
  ·exact taskB_iff.1 (h.aNA j _ hz)
  ·have h3:=taskB_iff.1 (h.aNA j _ hz)
   exact ⟨by simp,h3.2.1,h3.2.2.1,rfl,by simp [vn]⟩
 ·dsimp only
  rw [jgf,if_neg (by omega),if_neg (by omega),if_pos ⟨d5,by omega,by omega⟩]
 ·obtain ⟨z',cL,⟨g1,rfl⟩|⟨g1,rfl⟩⟩:=key j w hw
  ·rw [hz] at cL
   obtain rfl:=aOH cL;exact ⟨λg=>by omega,λg=>g,λg=>by omega,λ_=>rfl,λg=>⟨g,rfl⟩⟩
  ·rw [hz] at cL
   obtain rfl:=aOH cL;exact ⟨λ_=>.inr rfl,λ_=>rfl,λg=>by simp at g,λg=>by simp at g,λg=>by simp at g⟩
 ·have:=jbM h
  dsimp only;rw [fX,d2];have mS:kQ ⟨r.id,r.aNB,4,vq jA r.aNA r.aNA.length⟩=0:=by simp [kQ]
  rw [mS,aOR];omega
theorem YdI.cancel {y:Yd} (h:YdI y) (id:Int):YdI (kF y id):=by
 unfold kF;split
 ·rename_i hc
  unfold kW at hc;split at hc
  ·cases hc
  split at hc
  ·cases hc
  split at hc
  ·rename_i aK aH
   obtain ⟨k,r,bZ,hr,-,-⟩:=kP aK;rw [bZ,aNW,hr,aNZ] at aH⊢;obtain ⟨g1,g2⟩:=jxS (h.rns.right r (aNQ hr)) aH;rw [<-jwk hr g2 h.four];exact h.turn hr g1
  ·cases hc
 ·exact h
theorem YdI.forget {y:Yd} (h:YdI y) (id:Int):YdI (jah y id):=by
 unfold jah;split
 ·rename_i hc
  unfold jaE at hc;split at hc
  ·cases hc
  split at hc
  ·cases hc
  split at hc
  ·cases hc
  rename_i aK aH;obtain ⟨k,r,bZ,hr,hid,-⟩:=kP aK;rw [bZ,aNW,hr,aNZ] at aH;rw [bZ,aNW];have hR:=h.rns.right r (aNQ hr);have hU:(y.aNC.map λl=>l.filter (jcC id)).flatten=y.aNC.flatten.filter (jcC id):=by rw [List.filter_flatten]
  have bA:∀x∈y.aNE.eraseIdx k,x∈y.aNE:=λx hx=>List.mem_of_mem_eraseIdx hx
  have aJ:∀x∈y.aNE.eraseIdx k,x.id≠id:=λx hx he=>by
   obtain ⟨j,nZ,hj⟩:=List.mem_eraseIdx_iff_getElem?.1 hx;exact nZ (jtI h.rns.ids hj hr (he.trans hid.symm))
  have w7:∀x∈y.aNE,x.id≠id->x∈y.aNE.eraseIdx k:=λx hx he=>by
   obtain ⟨j,hj⟩:=aPJ hx;refine List.mem_eraseIdx_iff_getElem?.2 ⟨j,λe=>?_,hj⟩
   subst e;rw [hr] at hj;obtain rfl:=aOH hj;exact he hid
  have l4:kQ r=0:=by rw [kQ,if_neg aH]
  have hc0:cS 2 r.aNA=0:=by have:=jbM hR;omega
  have hE:EnsI (y.aNE.eraseIdx k) y.seq (y.aNC.flatten.filter (jcC id)):=by
   refine ⟨λe he=>h.ens.range e (aPM.1 he).1,(h.ens.apart).sublist ((List.filter_sublist).map _),λe he=>?_,λr' bH t x hx hs=>?_⟩
   ·obtain ⟨mU,cC⟩:=aPM.1 he
    obtain ⟨r',bH,t,x,h1,h2,h3,h4⟩:=h.ens.own e mU;have:r'.id≠id:=by rw [<-h1];simpa [jcC] using cC
    exact ⟨r',w7 r' bH this,t,x,h1,h2,h3,h4⟩
   ·have eX:=h.ens.one r' (bA r' bH) t x hx hs
    rw [<-eX];simp only [jaj,List.filter_filter]
    congr 1
    refine List.filter_congr λe _=>?_
    have:=aJ r' bH;by_cases g:e.run=r'.id
    ·simp [jcC,g,this]
    ·simp [g]
  have aD:(y.aNC.flatten.filter (jcC id)).length<=y.aNC.flatten.length:=aOT _ _
  have t1:∀f:Rn->Nat,qh f (y.aNE.eraseIdx k)+f r=qh f y.aNE:=λf=>by
   obtain ⟨hk,e⟩:=aNP.1 hr;have h1:y.aNE=y.aNE.take k++r::y.aNE.drop (k+1):=by rw [<-e];simp
   have h2:y.aNE.eraseIdx k=y.aNE.take k++y.aNE.drop (k+1):=List.eraseIdx_eq_take_drop_succ _ _;rw [h2]
   conv=>rhs;rw [h1]
   simp only [qh,aPZ,List.sum_append,aPB,aQD];omega
  have t2:=t1 kQ;have t3:=t1 λr=>cS 2 r.aNA
  have bY:=h.room;refine ⟨h.now,h.seq,by rw [aPA];exact h.four,λl hl=>?_,⟨?_,λr' bH=>h.rns.right r' (bA r' bH),?_,λr' bH=>h.rns.til r' (bA r' bH),λr' bH=>h.rns.tri r' (bA r' bH)⟩,by dsimp only;rw [hU];exact hE,?_⟩
  ·obtain ⟨m,hm,rfl⟩:=aPS.1 hl
   exact (h.sorted m hm).sublist List.filter_sublist
  ·have:=List.length_eraseIdx_le y.aNE k
   have:=h.rns.eight;dsimp only;omega
  ·exact (h.rns.ids).sublist ((List.eraseIdx_sublist _ _).map _)
  ·dsimp only
   rw [hU];simp only [jcw] at bY⊢;omega
 ·exact h
theorem joo {p:Pl} {n t:Nat} {x:Tk} (h:(zh p n)[t]?=some x):t<n/\x=jmn p t:=by
 have ht:=(aNP.1 h).1;simp only [zh,aPA,List.length_range] at ht;simp only [zh,aQK,List.getElem?_range ht,Option.map_some] at h;exact ⟨ht,(aOH h).symm⟩
theorem jw5 {id:Int} {p:Pl} (hid:1<=id/\id<=9999) (hp:jo p=0):RunOkP (jN id p):=by
 obtain ⟨n,hn,d9,cF,dH,bU,aW,mQ,lP,mJ⟩:=jbJ hp;have gP:p.aNA.toNat=n:=by omega
 have aD:(zh p n).length=n:=by simp [zh]
 have bW:∀z∈zh p n,z.aND=1\/z.aND=2:=λz hz=>by
  obtain ⟨j,hj⟩:=aPJ hz;obtain ⟨_,rfl⟩:=joo hj;simp only [jmn];split
  ·exact .inl rfl
  ·exact .inr rfl
 have aH:∀b:Int,(stT (zh p n) b !=4)=true:=λb=>by
  simp only [stT];cases hb:(zh p n)[b.toNat]? with
  |none=>rfl
  |some z=>
   rcases bW z (aNQ hb) with g|g<;>simp [g]
 have hN:∀j:Nat,jaT p (zh p n) j=((zG p j).length:Int):=λj=>by
  have:(zG p j).filter (λb=>stT (zh p n) b !=4)=zG p j:=List.filter_eq_self.2 λb _=>aH b
  simp only [jaT,this]
 have c4:cS 4 (zh p n)=0:=jeK λz hz=>by rcases bW z hz with g|g<;>omega
 have c5:cS 5 (zh p n)=0:=jeK λz hz=>by rcases bW z hz with g|g<;>omega
 have c6:cS 6 (zh p n)=0:=jeK λz hz=>by rcases bW z hz with g|g<;>omega
 have e:jN id p=⟨id,p,1,zh p n⟩:=by rw [jN,gP]
 rw [e];refine ⟨by simp [inB,hid],hp,by dsimp only;rw [aD];exact hn.symm,λj w hw=>?_,?_,by simp⟩
 ·dsimp only at hw⊢
  obtain ⟨hj,rfl⟩:=joo hw;rw [taskB_iff,hN];have dI:=lP.1;by_cases hz:0<(zG p j).length
  ·have cL:(0:Int)<(zG p j).length:=by omega
   refine ⟨by simp [jmn,hz],rfl,by simp only [jmn];omega,by simp [jbv,jmn,hz],?_⟩
   simp only [vn,jmn,if_pos hz,if_true,aOJ];exact cL
  ·have fQ:(zG p j).length=0:=by omega
   have h0m:(0:Int)<p.aNN:=by omega
   refine ⟨by simp [jmn,hz],rfl,by simp only [jmn];omega,by simp [jbv,jmn,hz],?_⟩
   simp [vn,jmn,fQ,h0m]
 ·dsimp only
  rw [jgf,if_neg (by rw [c4,aD];omega),if_neg (by omega),if_neg (by omega),if_pos ⟨c5,c6⟩]
theorem YdI.sub {y:Yd} (h:YdI y) (id:Int) (p:Pl):YdI (jee y id p):=by
 unfold jee;split
 ·rename_i hc
  unfold jc8 at hc;split at hc
  ·cases hc
  split at hc
  ·cases hc
  split at hc
  ·cases hc
  split at hc
  ·rename_i g1 g2 g3 g4;exact absurd hc g4
  split at hc
  ·cases hc
  rename_i g1 g2 g3 g4 g5;have hid:1<=id/\id<=9999:=aPQ λg=>g2 g
  have hp:jo p=0:=aPQ λg=>g4 g
  have bY:zJ y p=true:=by simpa using g5
  simp only [zJ,aOF,aOJ] at bY;obtain ⟨r1,⟨r2,r2'⟩,r3,r4⟩:=bY;have aR:=yard_iff.1 (show ju y=true by simpa using g1)
  have hR:=jw5 hid hp;obtain ⟨n,hn,d9,cF,dH,bU,aW,mQ,lP,mJ⟩:=jbJ hp
  have cD:∀r∈y.aNE,r.id≠id:=λr hr he=>by
   obtain ⟨k,hk⟩:=aPJ hr;have:=juf h.rns.eight h.rns.ids hk;rw [he] at this;omega
  have aD:(jN id p).aNA.length=n:=by simp only [jN,zh,aPA,List.length_range];omega
  have aH:∀(t:Nat) (x:Tk),(jN id p).aNA[t]?=some x->(x.aND=1\/x.aND=2)/\x.tri=0:=λt x hx=>by
   obtain ⟨_,rfl⟩:=joo (p:=p) (n:=p.aNA.toNat) hx;refine ⟨?_,rfl⟩;simp only [jmn];split
   ·exact .inl rfl
   ·exact .inr rfl
  have eK:∀t,jaj id t y.aNC.flatten=0:=λt=>joS λe he=>by
   rintro ⟨k1,_⟩;obtain ⟨r',bH,_,_,h1,_⟩:=h.ens.own e he;exact cD r' bH (h1.symm.trans k1)
  have i7:((y.aNE++[jN id p]).map (·.id)).Nodup:=by
   rw [aPZ];refine aNY.2 ⟨h.rns.ids,by simp,λa ha b hb e=>?_⟩
   obtain ⟨r',bH,rfl⟩:=aPS.1 ha;simp only [aPB,List.map_nil,aQL] at hb;exact cD r' bH (e.trans hb)
  have hRn:RnsI y.now (y.aNE++[jN id p]):=by
   refine ⟨by rw [aNR,List.length_singleton];omega,λr hr=>?_,i7,λr hr t x hx hs=>?_,λr hr x hx hs=>?_⟩
   ·rcases aNT.1 hr with hr|hr
    ·exact h.rns.right r hr
    ·rw [aQL] at hr;rw [hr];exact hR
   ·rcases aNT.1 hr with hr|hr
    ·exact h.rns.til r hr t x hx hs
    ·rw [aQL] at hr;subst hr
     rcases (aH t x hx).1 with g|g<;>omega
   ·rcases aNT.1 hr with hr|hr
    ·exact h.rns.tri r hr x hx hs
    ·rw [aQL] at hr;subst hr
     obtain ⟨t,ht⟩:=aPJ hx;exact (aH t x ht).2
  obtain ⟨-,rG⟩:=jC0 (jN id p).id;obtain ⟨l,hl⟩:=ja (show shN (jN id p).id<y.aNC.length by rw [h.four];exact rG)
  have e:jtA ⟨y.now,y.seq,y.aNC,y.aNE++[jN id p]⟩ (jN id p) (qV 2 (jN id p).aNA)=⟨y.now,y.seq+(qV 2 (jN id p).aNA).length,y.aNC.set (shN (jN id p).id) (zk (jN id p).aNB.aNI (jN id p).id (qV 2 (jN id p).aNA) (l,y.seq)).1,y.aNE++[jN id p]⟩:=by
   rw [jtA];simp only [hl,aNZ,zZ]
  obtain ⟨rest,p1,p2⟩:=zN hl (zk (jN id p).aNB.aNI (jN id p).id (qV 2 (jN id p).aNA) (l,y.seq)).1
  have hpm:(jm3 (jN id p).aNB.aNI (jN id p).id y.seq (qV 2 (jN id p).aNA)++y.aNC.flatten).Perm (y.aNC.set (shN (jN id p).id) (zk (jN id p).aNB.aNI (jN id p).id (qV 2 (jN id p).aNA) (l,y.seq)).1).flatten:=by
   refine ((aQG _ p1).trans ?_).trans p2.symm;rw [<-aOB];exact ((jgx _ _ _ _ _).symm).append_right _
  have hE:EnsI (y.aNE++[jN id p]) (y.seq+(qV 2 (jN id p).aNA).length) (jm3 (jN id p).aNB.aNI (jN id p).id y.seq (qV 2 (jN id p).aNA)++y.aNC.flatten):=by
   refine jxX h.ens h.seq i7 (by simp) (jmF _ _) (λt ht=>tinL_mem.1 ht) (λe he=>?_) (λr' bH hi=>?_) (λt x hx hs ht=>?_) (λt ht=>eK t)
   ·obtain ⟨r',bH,t,x,k⟩:=h.ens.own e he
    exact ⟨r',by simp [bH],t,x,k⟩
   ·rcases aNT.1 bH with bH|bH
    ·exact bH
    ·rw [aQL] at bH;exact absurd (by rw [bH]) hi
   ·exact absurd (tinL_mem.2 ⟨t,x,rfl,hx,hs⟩) ht
  have hlen2:=hpm.length_eq;rw [aNR,jop] at hlen2;have bY:=h.room
  have fJ:qh kQ y.aNE+y.aNC.flatten.length<=40+jcw y.aNE-n:=by
   have hf:=jqw h.rns.eight h.rns.ids h.ens;have bR:=jej h.rns.right
   have aDN:qE y (jaH y)+(y.aNC.flatten.filter (jU y)).length=y.aNC.flatten.length:=by
    simp only [qE,jaH,aQJ];have:=List.length_eq_countP_add_countP (jU y) (l:=y.aNC.flatten);simp only [aQJ] at this;have e:y.aNC.flatten.filter (λe=>!jU y e)=y.aNC.flatten.filter (λa=>decide ¬jU y a=true):=List.filter_congr λa _=>by cases jU y a<;>rfl
    rw [e];omega
   simp only [qj] at r3;omega
  have mS:kQ (jN id p)=n:=by
   have h1:(jN id p).aND=1:=rfl;rw [kQ,if_pos h1,aD]
  rw [e];refine ⟨h.now,by have:=h.seq;dsimp only;omega,by rw [aOE];exact h.four,λm hm=>?_,hRn,hE.perm hpm,?_⟩
  ·rcases List.mem_or_eq_of_mem_set hm with hm|rfl
   ·exact h.sorted m hm
   ·exact jor _ _ _ (h.sorted l (aNQ hl)) λx hx=>by
     have:=h.ens.range x (aQS.2 ⟨l,aNQ hl,hx⟩);omega
  ·have q1:=jsO kQ y.aNE (jN id p)
   have q2:=jsO (λr:Rn=>cS 2 r.aNA) y.aNE (jN id p)
   have q3:cS 2 (jN id p).aNA=(qV 2 (jN id p).aNA).length:=rfl;simp only [jcw] at fJ⊢;omega
 ·exact h
theorem EnsI.sweep {y:Yd} {q:Int} {l rest:List En} (h8:y.aNE.length<=8) (hi:(y.aNE.map (·.id)).Nodup) (h:EnsI y.aNE q (l++rest)):EnsI y.aNE q (l.filter (jU y)++rest):=by
 have hs:(l.filter (jU y)++rest).Sublist (l++rest):=List.Sublist.append List.filter_sublist (List.Sublist.refl _);refine ⟨λe he=>h.range e (hs.subset he),h.apart.sublist (hs.map _),λe he=>h.own e (hs.subset he),λr hr t x hx aH=>?_⟩
 rw [<-h.one r hr t x hx aH,jiV,jiV]
 congr 1
 simp only [jaj,List.filter_filter]
 congr 1
 refine List.filter_congr λe _=>?_
 by_cases g:e.run=r.id/\e.aNH=t
 ·have:jU y e=true:=by rw [jkr h8 hi hr g.1 g.2 hx,aH];rfl
  simp [g.1,g.2,this]
 ·have:(e.run==r.id&&e.aNH==(t:Int))=false:=by
   simp only [Bool.and_eq_false_iff,beq_eq_false_iff_ne,ne_eq];by_cases h3:e.run=r.id
   ·exact .inr λh4=>g ⟨h3,h4⟩
   ·exact .inl h3
  rw [this];rfl
theorem YdI.aNC {y:Yd} (h:YdI y) {sh:List (List En)} (h4:sh.length=4) (hs:∀l∈sh,SrtP l) (he:EnsI y.aNE y.seq sh.flatten) (hl:sh.flatten.length<=y.aNC.flatten.length):YdI ⟨y.now,y.seq,sh,y.aNE⟩:=
 ⟨h.now,h.seq,h4,hs,h.rns,he,by have:=h.room;dsimp only;omega⟩
theorem YdI.swept {y:Yd} (h:YdI y) (k:Int):YdI (za y k):=by
 unfold za;split
 ·rename_i hk
  obtain ⟨n,rfl⟩:=Int.eq_ofNat_of_zero_le hk.1;obtain ⟨l,hl⟩:=ja (show n<y.aNC.length by omega)
  rw [aNW,hl,aNZ];obtain ⟨rest,p1,p2⟩:=zN hl (l.filter (jU y));refine h.aNC (by rw [aOE];exact h.four) (λm hm=>?_) (((h.ens.perm p1).sweep h.rns.eight h.rns.ids).perm p2.symm) ?_
  ·rcases List.mem_or_eq_of_mem_set hm with hm|rfl
   ·exact h.sorted m hm
   ·exact (h.sorted l (aNQ hl)).sublist List.filter_sublist
  ·have a1:=p1.length_eq
   have a2:=p2.length_eq;rw [aNR] at a1 a2;have:=aOT (jU y) l;omega
 ·exact h
theorem YdI.flat_le {y:Yd} (h:YdI y):y.aNC.flatten.length<=40:=by
 have:=jej h.rns.right;have:=h.room;omega
theorem jqA {sh:List (List En)} {l:List En} {k:Nat} (h:sh[k]?=some l):l.length<=sh.flatten.length:=(List.sublist_flatten_of_mem (aNQ h)).length_le
theorem YdI.pollV {z:Yd} {hm v:Nat} (h:YdI z) (hv:v<4) (hh:hm<4) (aJ:v≠hm):YdI (pollV z hm v):=by
 obtain ⟨l,hl⟩:=ja (show v<z.aNC.length by rw [h.four];exact hv)
 obtain ⟨a,ha⟩:=ja (show hm<z.aNC.length by rw [h.four];exact hh)
 obtain ⟨e1,e2⟩:=jkm hl ha aJ;have hS:=h.swept v;rw [e1] at hS;rw [e2];have bQ:v<z.aNC.length:=(aNP.1 hl).1;have g1:(z.aNC.set v (l.filter (jU z)))[v]?=some (l.filter (jU z)):=aNX bQ;have g2:(z.aNC.set v (l.filter (jU z)))[hm]?=some a:=by rw [aOX aJ];exact ha
 generalize hL:l.filter (jU z)=L at*;obtain ⟨rest,p1,p2⟩:=zN g1 (ja8 L);have g3:((z.aNC.set v L).set v (ja8 L))[hm]?=some a:=by rw [aOX aJ];exact g2
 obtain ⟨rest2,p3,p4⟩:=zN g3 (qc a (vu L));rw [aPE] at p2 p3 p4;have hU:=hS.flat_le
 have hsm:a.length+(vu L).length<=80:=by
  have b1:a.length<=(z.aNC.set v L).flatten.length:=jqA g2;have b2:L.length<=(z.aNC.set v L).flatten.length:=jqA g1;have b3:(vu L).length<=L.length:=by simp only [vu,aNV];omega
  dsimp only at hU;omega
 have z6:qc a (vu L)=(vu L).foldl jcW a:=by rw [qc,if_neg (by omega)]
 have hp:(z.aNC.set v L).flatten.Perm ((z.aNC.set v (ja8 L)).set hm (qc a (vu L))).flatten:=by
  rw [z6];have hLs:(vu L++ja8 L)=L:=by simp [vu,ja8]
  have q1:(z.aNC.set v L).flatten.Perm (vu L++(a++rest2)):=by
   refine p1.trans ?_
   conv=>lhs;rw [<-hLs]
   rw [aOB];exact aQG _ (p2.symm.trans p3)
  refine q1.trans ?_;rw [z6] at p4;refine List.Perm.trans ?_ p4.symm;rw [<-aOB];refine List.Perm.append_right _ ?_;exact (aQH).trans (jkU (vu L) a).symm
 have hE:=hS.ens.perm hp;refine h.aNC (by rw [aOE,aOE];exact h.four) (λm fT=>?_) hE ?_
 ·rcases List.mem_or_eq_of_mem_set fT with fT|rfl
  ·rcases List.mem_or_eq_of_mem_set fT with fT|rfl
   ·exact h.sorted m fT
   ·exact (hS.sorted L (aNQ g1)).sublist (List.drop_sublist _ _)
  ·rw [z6]
   refine jtj (hS.sorted a (aNQ g2)) ?_;have hap:=hE.apart;have hp4:=(p4.map (·.seq)).nodup_iff.1 hap
   rw [aPZ] at hp4;have hp5:=(aNY.1 hp4).1;rw [z6] at hp5;exact ((jkU (vu L) a).map (·.seq)).nodup_iff.1 hp5
 ·rw [<-hp.length_eq]
  have:(z.aNC.set v L).flatten.length<=z.aNC.flatten.length:=by
   obtain ⟨r3,c1,c2⟩:=zN hl L;have c1:=c1.length_eq;have c2:=c2.length_eq;rw [aNR] at c1 c2;have:L.length<=l.length:=by rw [<-hL];exact aOT _ _
   omega
  exact this
theorem YdI.pollF {hm:Nat} (hh:hm<4):∀(vs:List Int) (z:Yd),(∀v∈vs,∃n:Nat,v=n/\n<4/\n≠hm)->YdI z->YdI (pollF hm vs z)
 |[],z,_,h=>h
 |v::vs,z,hv,h=>by
  unfold Go.Proofs.YtcehjhiglmifjaaGreat.pollF;split
  ·obtain ⟨n,rfl,h4,aJ⟩:=hv v (by simp)
   exact YdI.pollF hh vs _ (λw hw=>hv w (by simp [hw])) (h.pollV h4 hh aJ)
  ·exact h
theorem YdI.pollZ {y:Yd} (h:YdI y) {hm:Nat} (hh:hm<4) (aNJ:Int):YdI (pollZ y hm aNJ):=by
 obtain ⟨a,b,c,e,ha,hb,hc,na,nb,nc⟩:=jkc hh aNJ;unfold Go.Proofs.YtcehjhiglmifjaaGreat.pollZ;rw [e];refine YdI.pollF hh _ _ (λv hv=>?_) (h.swept hm)
 simp only [aOK,List.not_mem_nil,or_false] at hv;rcases hv with rfl|rfl|rfl
 ·exact ⟨a,rfl,ha,na⟩
 ·exact ⟨b,rfl,hb,nb⟩
 ·exact ⟨c,rfl,hc,nc⟩
theorem jzX {r:Rn} {t:Nat} {x:Tk} {now:Int} (h:RunOkP r) (hx:r.aNA[t]?=some x) (hs:x.aND=2) (hn:0<=now/\now<=999999980):RunOkP (kG r t x now)/\(kG r t x now).aNA=r.aNA.set t ⟨3,x.aNL,x.tri+1,now+r.aNB.aNM⟩:=by
 obtain ⟨n,l5,d9,cF,dH,bU,aW,mQ,lP,mJ⟩:=jbJ h.aNB;have ht:=(aNP.1 hx).1;have bL:=taskB_iff.1 (h.aNA t x hx);have f8:=bL.2.2.2.2
 have f8:x.aNL=0/\x.tri<r.aNB.aNN:=by
  simp only [vn,hs] at f8;simpa using f8
 have tR:=bL.2.2.1;have w1:IntKind.i64.wrap (x.tri+1)=x.tri+1:=vF;have w2:IntKind.i64.wrap (now+r.aNB.aNM)=now+r.aNB.aNM:=vF;have e:kG r t x now=⟨r.id,r.aNB,r.aND,r.aNA.set t ⟨3,x.aNL,x.tri+1,now+r.aNB.aNM⟩⟩:=by rw [kG,jsV,w1,w2]
 have aH:=h.aND;have c2:=jt6 (s:=2) hx hs;have hl:=jbM h
 have eO:r.aND=1:=by
  unfold kQ at hl;split at hl
  ·assumption
  ·omega
 rw [eO] at aH
 obtain ⟨c4,c5,c6⟩:cS 4 r.aNA≠r.aNA.length/\cS 5 r.aNA=0/\cS 6 r.aNA=0:=by
  unfold jgf at aH;split at aH
  ·cases aH
  ·rename_i g
   split at aH
   ·cases aH
   ·split at aH
    ·cases aH
    ·split at aH
     ·rename_i g2;exact ⟨g,g2.1,g2.2⟩
     ·cases aH
 have hN:∀j:Int,jaT r.aNB (r.aNA.set t ⟨3,x.aNL,x.tri+1,now+r.aNB.aNM⟩) j=jaT r.aNB r.aNA j:=jcj (jrr hx (by simp [hs]))
 have d5:cS 5 (r.aNA.set t ⟨3,x.aNL,x.tri+1,now+r.aNB.aNM⟩)=0:=jeK (ji2 (q:=λs=>s≠5) (by simp) λy hy=>by obtain ⟨k,hk,rfl⟩:=aOZ hy;exact jt7 c5 (aNS hk))
 have d6:cS 6 (r.aNA.set t ⟨3,x.aNL,x.tri+1,now+r.aNB.aNM⟩)=0:=jeK (ji2 (q:=λs=>s≠6) (by simp) λy hy=>by obtain ⟨k,hk,rfl⟩:=aOZ hy;exact jt7 c6 (aNS hk))
 have d3:=jt6 (s:=3) (aNX ht:(r.aNA.set t ⟨3,x.aNL,x.tri+1,now+r.aNB.aNM⟩)[t]?=some _) rfl;have aBU:∀z∈r.aNA.set t ⟨3,x.aNL,x.tri+1,now+r.aNB.aNM⟩,1<=z.aND/\z.aND<=6:=ji2 (q:=λs=>1<=s/\s<=6) (by simp) h.st
 have eC:=jc5 aBU _ (aOC _);change cS 1 _+cS 2 _+cS 3 _+cS 4 _+cS 5 _+cS 6 _=_ at eC;rw [e];refine ⟨⟨h.id,h.aNB,by dsimp only;rw [aOE];exact h.len,λj z hz=>?_,?_,by dsimp only;omega⟩,rfl⟩
 ·dsimp only at hz⊢
  rw [aPO] at hz;by_cases ej:t=j
  ·subst ej
   rw [if_pos rfl,if_pos ht] at hz;obtain rfl:=aOH hz;rw [taskB_iff,hN];refine ⟨by simp,bL.2.1,by dsimp only;omega,?_,?_⟩
   ·simp only [jbv,if_true,inB,aOJ];omega
   ·have:1<=x.tri+1:=by omega
    simp [vn,f8.1,this]
  ·rw [if_neg ej] at hz
   have:=taskB_iff.1 (h.aNA j z hz);rw [taskB_iff,hN];exact this
 ·dsimp only
  rw [eO,jgf,if_neg (by omega),if_neg (by omega),if_neg (by omega),if_pos ⟨d5,d6⟩]
theorem YdI.hand {Z:Yd} {hm:Nat} {e:En} {l:List En} {k t:Nat} {r:Rn} {x:Tk} (h:YdI Z) (ha:Z.aNC[hm]?=some (e::l)) (bZ:runAt Z e.run=k) (hr:Z.aNE[k]?=some r) (lE:e.aNH=t) (hx:r.aNA[t]?=some x) (hs:x.aND=2):YdI (jjB Z hm e l):=by
 have hR:=h.rns.right r (aNQ hr);obtain ⟨aR,dV⟩:=jzX hR hx hs h.now;have hk:=(aNP.1 hr).1;have ht:=(aNP.1 hx).1
 have hH:jjB Z hm e l=⟨Z.now,Z.seq,Z.aNC.set hm l,Z.aNE.set k (kG r t x Z.now)⟩:=by
  simp only [jjB,bZ,lE,aNW,hr,hx,aNZ]
 have xC:r.id=e.run:=by
  have aK:¬runAt Z e.run<0:=by rw [bZ];omega
  obtain ⟨k',r',h1,h2,h3,_⟩:=kP aK;rw [bZ] at h1;obtain rfl:k=k':=by omega
  rw [hr] at h2;obtain rfl:=aOH h2;exact h3
 obtain ⟨rest,p1,p2⟩:=zN ha l;have wH:=h.ens.perm p1;have eX:=wH.one r (aNQ hr) t x hx hs
 have aDN:jaj r.id t (l++rest)=0:=by
  have:jaj r.id t ((e::l)++rest)=jaj r.id t (l++rest)+1:=by
   simp [jaj,xC,lE]
  omega
 have bA:(l++rest).Sublist ((e::l)++rest):=List.Sublist.append (List.sublist_cons_self _ _) (List.Sublist.refl _);have i7:=jru (r2:=kG r t x Z.now) hr rfl
 have eF:∀(j:Nat) (z w:Tk),r.aNA[j]?=some z->(kG r t x Z.now).aNA[j]?=some w->(j=t/\w=⟨3,x.aNL,x.tri+1,Z.now+r.aNB.aNM⟩)\/(j≠t/\w=z):=λj z w hz hw=>by
  rw [dV,aPO] at hw;by_cases ej:t=j
  ·subst ej
   rw [if_pos rfl,if_pos ht] at hw;exact .inl ⟨rfl,(aOH hw).symm⟩
  ·rw [if_neg ej,hz] at hw
   exact .inr ⟨λg=>ej g.symm,(aOH hw).symm⟩
 have oQ:(kG r t x Z.now).aNA.length=r.aNA.length:=by rw [dV,aOE]
 have hgs:∀(j:Nat) (w:Tk),(kG r t x Z.now).aNA[j]?=some w->∃z,r.aNA[j]?=some z/\((j=t/\w=⟨3,x.aNL,x.tri+1,Z.now+r.aNB.aNM⟩)\/(j≠t/\w=z)):=λj w hw=>by
  obtain ⟨z,hz⟩:=ja (show j<r.aNA.length by rw [<-oQ];exact (aNP.1 hw).1)
  exact ⟨z,hz,eF j z w hz hw⟩
 obtain ⟨n,l5,d9,cF,dH,bU,aW,mQ,lP,mJ⟩:=jbJ hR.aNB
 have hRn:RnsI Z.now (Z.aNE.set k (kG r t x Z.now)):=by
  refine ⟨by rw [aOE];exact h.rns.eight,λr' bH=>?_,by rw [i7];exact h.rns.ids,λr' bH j w hw aH=>?_,λr' bH w hw aH=>?_⟩
  ·rcases jdd bH with rfl|⟨j,_,hj⟩
   ·exact aR
   ·exact h.rns.right r' (aNQ hj)
  ·rcases jdd bH with rfl|⟨i,_,hi⟩
   ·obtain ⟨z,hz,⟨rfl,rfl⟩|⟨_,rfl⟩⟩:=hgs j w hw
    ·show Z.now+1<=Z.now+r.aNB.aNM/\Z.now+r.aNB.aNM<=Z.now+r.aNB.aNM
     omega
    ·exact h.rns.til r (aNQ hr) j _ hz aH
   ·exact h.rns.til r' (aNQ hi) j w hw aH
  ·rcases jdd bH with rfl|⟨i,_,hi⟩
   ·obtain ⟨j,hj⟩:=aPJ hw
    obtain ⟨z,hz,⟨rfl,rfl⟩|⟨_,rfl⟩⟩:=hgs j w hj
    ·simp at aH
    ·exact h.rns.tri r (aNQ hr) _ (aNQ hz) aH
   ·exact h.rns.tri r' (aNQ hi) w hw aH
 have hE:EnsI (Z.aNE.set k (kG r t x Z.now)) Z.seq (l++rest):=by
  refine ⟨λf hf=>wH.range f (bA.subset hf),wH.apart.sublist (bA.map _),λf hf=>?_,λr' bH j w hw aH=>?_⟩
  ·obtain ⟨r',bH,j,z,h1,h2,h3,h4⟩:=wH.own f (bA.subset hf)
   obtain ⟨i,hi⟩:=aPJ bH;by_cases eik:k=i
   ·subst eik
    rw [hr] at hi;obtain rfl:=aOH hi
    have dU:j≠t:=λe=>by
     subst e;have:=jEw hf h1 h2;omega
    refine ⟨kG r t x Z.now,aNQ (aNX hk),j,z,h1,h2,?_,h4⟩;rw [dV,aOX (λe=>dU e.symm)];exact h3
   ·exact ⟨r',aNQ (i:=i) (by rw [aOX eik];exact hi),j,z,h1,h2,h3,h4⟩
  ·have lV:∀(id u:Int),¬(e.run=id/\e.aNH=u)->jaj id u ((e::l)++rest)=jaj id u (l++rest):=λid u g=>by
    have:(e.run==id&&e.aNH==u)=false:=by
     simp only [Bool.and_eq_false_iff,beq_eq_false_iff_ne,ne_eq];by_cases h3:e.run=id
     ·exact .inr λh4=>g ⟨h3,h4⟩
     ·exact .inl h3
    simp [jaj,this]
   rcases jdd bH with rfl|⟨i,x6,hi⟩
   ·obtain ⟨z,hz,⟨rfl,rfl⟩|⟨dU,rfl⟩⟩:=hgs j w hw
    ·simp at aH
    ·have:=wH.one r (aNQ hr) j _ hz aH
     rw [lV _ _ (λg=>dU (by have:=g.2;omega))] at this
     exact this
   ·have:=wH.one r' (aNQ hi) j w hw aH
    rw [lV _ _ (λg=>by
     have e1:r.id=r'.id:=xC.trans g.1;exact x6 (jtI h.rns.ids hi hr e1.symm))] at this
    exact this
 have aCA:cS 2 r.aNA<=cS 2 (kG r t x Z.now).aNA+1:=by
  simp only [cS,qV,zi,aPA,oQ]
  have h1:∀n,((List.range n).filter λ(j:Nat)=>stT r.aNA (j:Int)==2).length<=((List.range n).filter λ(j:Nat)=>stT (kG r t x Z.now).aNA (j:Int)==2).length+if t<n then 1 else 0:=λn=>by
   induction n with
   |zero=>simp
   |succ n ih=>
    rw [List.range_succ,aQA,aQA,aNR,aNR];by_cases ent:n=t
    ·subst ent
     simp only [aQV,List.filter_nil];split<;>split<;>simp_all<;>omega
    ·have e3:stT (kG r t x Z.now).aNA (n:Int)=stT r.aNA (n:Int):=by
      simp only [stT,aNW,dV,aOX (λe=>ent e.symm)]
     simp only [aQV,List.filter_nil,e3];split<;>simp<;>split at ih<;>split<;>omega
  have:=h1 r.aNA.length;rw [if_pos ht] at this;exact this
 have t1:=qU (f:=kQ) (kG r t x Z.now) hr;have t2:=qU (f:=λr:Rn=>cS 2 r.aNA) (kG r t x Z.now) hr
 have mS:kQ (kG r t x Z.now)=kQ r:=by
  have:(kG r t x Z.now).aND=r.aND:=rfl;simp only [kQ,this,oQ]
 have a1:=p1.length_eq;have a2:=p2.length_eq;rw [aNR] at a1 a2;rw [aOD] at a1;have bY:=h.room;rw [hH];refine ⟨h.now,h.seq,by rw [aOE];exact h.four,λm fT=>?_,hRn,hE.perm p2.symm,?_⟩
 ·rcases List.mem_or_eq_of_mem_set fT with fT|rfl
  ·exact h.sorted m fT
  ·exact (h.sorted _ (aNQ ha)).sublist (List.sublist_cons_self _ _)
 ·simp only [jcw] at bY⊢
  omega
theorem YdI.poll {y:Yd} (h:YdI y) (aNG aNJ:Int):YdI (zp y aNG aNJ):=by
 unfold zp;split
 ·exact h
 ·rename_i hc
  have aR:ju y=true:=by
   cases h:ju y with
   |true=>rfl
   |false=>exact absurd (.inl h) hc
  have hw:0<=aNG/\aNG<=99:=by
   refine aPQ λh=>hc (.inr h)
  have g9:(aNG.tmod 4).toNat<4:=by rw [aPT hw.1];omega
  have hI:=jrJ (yard_iff.1 aR) g9 aNJ;have hZ:=h.pollZ g9 aNJ;split
  ·exact hZ
  ·rename_i e l he
   generalize (aNG.tmod 4).toNat=hm at*
   have ha:(Go.Proofs.YtcehjhiglmifjaaGreat.pollZ y hm aNJ).aNC[hm]?=some (e::l):=by
    rw [jh4] at he;cases hs:(Go.Proofs.YtcehjhiglmifjaaGreat.pollZ y hm aNJ).aNC[hm]? with
    |none=>rw [hs] at he;simp at he
    |some x=>rw [hs,aNZ] at he;rw [he]
   generalize Go.Proofs.YtcehjhiglmifjaaGreat.pollZ y hm aNJ=Z at*;obtain ⟨k,t,r,x,bZ,hr,lE,hx,m8⟩:=jks (hI.frs _ ha e (by simp))
   rw [<-hI.aNE] at hr;have iW:runAt Z e.run=(k:Int):=by rw [<-bZ];unfold runAt;rw [hI.aNE]
   exact hZ.hand ha iW hr lE hx m8
theorem YdI.do {y:Yd} (h:YdI y) (d:Dd):YdI (doY y d):=by
 unfold doY
 repeat' split
 ·exact h
 ·exact h.sub _ _
 ·exact h.poll _ _
 ·exact h.comp _ _ _
 ·exact h.fail _ _ _
 ·exact h.tick
 ·exact h.cancel _
 ·exact h.forget _
 ·exact h.rest
abbrev Cu:=Nat×Int
def jui (a b:Int):Int:=IntKind.i64.wrap ((BitVec.ofInt 64 a&&&BitVec.ofInt 64 b).toNat)
theorem jHg (a:Int) (m:Nat) (hm:m<2^62):0<=jui a (m:Int)/\jui a (m:Int)<=m:=by
 have h2:(BitVec.ofInt 64 a&&&BitVec.ofInt 64 (m:Int)).toNat<=m:=by
  rw [BitVec.toNat_and,BitVec.ofInt_natCast,BitVec.toNat_ofNat,Nat.mod_eq_of_lt (a:=m) (by omega)]
  exact Nat.and_le_right
 rw [jui,kS (by omega) (by omega)]
 omega
theorem jo3 (a:Int):0<=jui a 255/\jui a 255<=255:=jHg a 255 (by decide)
def jqK (h:Int):Int:=IntKind.i64.wrap (IntKind.i64.wrap (h*6364136223846793005)+1442695040888963407)
def jCo (h:Int):Int:=jui (jvY (h.fdiv (2^33)) (h.fdiv (2^45))) 255
def kE (c:List UInt8) (s:Cu):Int×Cu:=match c[s.1]? with
 |some u=>(jui (jCo (jqK s.2)+(u.toNat:Int)) 255,(s.1+1,jqK s.2))
 |none=>(jCo (jqK s.2),(s.1,jqK s.2))
theorem jaF (c:List UInt8) (s:Cu):0<=(kE c s).1/\(kE c s).1<=255:=by
 unfold kE;split
 ·exact jo3 _
 ·exact jo3 _
theorem jaG {c:List UInt8} {s:Cu} (h:s.1<=c.length):(kE c s).2.1<=c.length:=by
 unfold kE;split
 ·rename_i u hu
  have:=(aNP.1 hu).1;dsimp only;omega
 ·exact h
def jh (c:List UInt8) (n:Int) (s:Cu):Int×Cu:=
 if n<=0 then (0,s) else if n<=256 then ((kE c s).1.tmod n,(kE c s).2)
 else (((kE c s).1*16777216+(kE c (kE c s).2).1*65536+(kE c (kE c (kE c s).2).2).1*256+(kE c (kE c (kE c (kE c s).2).2).2).1).tmod n,(kE c (kE c (kE c (kE c s).2).2).2).2)
theorem jO (c:List UInt8) {n:Int} (s:Cu) (hn:0<n):0<=(jh c n s).1/\(jh c n s).1<n:=by
 unfold jh;rw [if_neg (by omega)]
 split
 ·have:=jaF c s
  exact ⟨Int.tmod_nonneg _ this.1,Int.tmod_lt_of_pos _ hn⟩
 ·refine ⟨Int.tmod_nonneg _ ?_,Int.tmod_lt_of_pos _ hn⟩
  have h1:=jaF c s;have h2:=jaF c (kE c s).2;have h3:=jaF c (kE c (kE c s).2).2;have h4:=jaF c (kE c (kE c (kE c s).2).2).2;omega
theorem jj {c:List UInt8} {n:Int} {s:Cu} (h:s.1<=c.length):(jh c n s).2.1<=c.length:=by
 unfold jh;split
 ·exact h
 ·split
  ·exact jaG h
  ·exact jaG (jaG (jaG (jaG h)))
def jai (c:List UInt8) (n:Int):Nat->Nat->List Ed->Cu->List Ed×Cu
 |0,_,E,s=>(E,s)
 |f+1,i,E,s=>let m:=jh c 9 s
  if (i:Int)<m.1/\1<n then
   let a:=jh c (n-1) m.2;let b:=jh c (1+a.1) a.2
   jai c n f (i+1) (if (⟨b.1,1+a.1⟩:Ed)∈E then E else E++[⟨b.1,1+a.1⟩]) b.2
  else (E,m.2)
structure EdsI (n:Int) (E:List Ed):Prop where
 nd:E.Nodup
 up:∀e∈E,0<=e.src/\e.src<e.dst/\e.dst<n
theorem EdsI.add {n:Int} {E:List Ed} {e:Ed} (h:EdsI n E) (he:0<=e.src/\e.src<e.dst/\e.dst<n):EdsI n (if e∈E then E else E++[e]):=by
 split
 ·exact h
 ·rename_i hn
  refine ⟨aNY.2 ⟨h.nd,by simp,λx hx y hy e1=>?_⟩,λx hx=>?_⟩
  ·simp at hy;subst hy;subst e1;exact hn hx
  ·rcases aNT.1 hx with hx|hx
   ·exact h.up x hx
   ·simp at hx;subst hx;exact he
theorem jlr (c:List UInt8) (n:Int):∀(f i:Nat) (E:List Ed) (s:Cu),EdsI n E->EdsI n (jai c n f i E s).1/\(jai c n f i E s).1.length<=E.length+f
 |0,i,E,s,h=>⟨h,aOC _⟩
 |f+1,i,E,s,h=>by
  rw [jai];dsimp only;split
  ·rename_i hc
   have ha:=jO c (n:=n-1) (jh c 9 s).2 (by omega)
   have hb:=jO c (n:=1+(jh c (n-1) (jh c 9 s).2).1) (jh c (n-1) (jh c 9 s).2).2 (by omega)
   obtain ⟨h1,h2⟩:=jlr c n f (i+1) _ (jh c (1+(jh c (n-1) (jh c 9 s).2).1) (jh c (n-1) (jh c 9 s).2).2).2 (h.add (e:=⟨_,_⟩) ⟨hb.1,hb.2,by dsimp only;omega⟩)
   refine ⟨h1,aPC h2 ?_⟩;split
   ·omega
   ·simp;omega
  ·exact ⟨h,by dsimp only;omega⟩
theorem jqI (c:List UInt8) (n:Int):∀(f i:Nat) (E:List Ed) (s:Cu),s.1<=c.length->(jai c n f i E s).2.1<=c.length
 |0,i,E,s,h=>h
 |f+1,i,E,s,h=>by
  rw [jai];dsimp only;split
  ·exact jqI c n f _ _ _ (jj (jj (jj h)))
  ·exact jj h
def jcZ (c:List UInt8) (s:Cu):Pl×Cu:=
 let a:=jh c 4 s;let b:=jh c 3 a.2;let w:=jh c 4 b.2;let t:=jh c 6 w.2;let o:=jh c 10 t.2
 let n:=if o.1=0 then 12 else 1+t.1
 let e:=jai c n 9 0 [] o.2
 (⟨a.1,1+b.1,1+w.1,n,e.1⟩,e.2)
theorem rc_up {n:Int} {E:List Ed} (h:EdsI n E) {a b:Int} (hr:Rc E a b):a<b:=by
 induction hr with
 |one he=>obtain ⟨e,h1,h2,h3⟩:=he;have:=h.up e h1;omega
 |step _ he ih=>obtain ⟨e,h1,h2,h3⟩:=he;have:=h.up e h1;omega
theorem jBj (c:List UInt8) (s:Cu):jo (jcZ c s).1=0:=by
 unfold jcZ;dsimp only;have h1:=jO c (n:=4) s (by decide)
 generalize jh c 4 s=a at*;have h2:=jO c (n:=3) a.2 (by decide)
 generalize jh c 3 a.2=b at*;have h3:=jO c (n:=4) b.2 (by decide)
 generalize jh c 4 b.2=w at*;have h4:=jO c (n:=6) w.2 (by decide)
 generalize jh c 6 w.2=t at*;generalize jh c 10 t.2=o at*;obtain ⟨n,hn⟩:∃n:Int,(if o.1=0 then (12:Int) else 1+t.1)=n:=⟨_,rfl⟩
 rw [hn];have nB:1<=n/\n<=12:=by rw [<-hn];split<;>omega
 obtain ⟨hE,hl⟩:=jlr c n 9 0 [] o.2 ⟨by simp,by simp⟩
 generalize (jai c n 9 0 [] o.2).1=E at*;simp only [aOR] at hl;refine jDA ?_ ?_ hE.nd λt _ hr=>by have:=rc_up hE hr;omega
 ·simp only [vW,inB,Bool.or_eq_false_iff,Bool.not_eq_false',aOJ,aOV]
  omega
 ·refine List.any_eq_false.2 λe he=>?_
  have:=hE.up e he;simp only [jku,inB,Bool.or_eq_true,Bool.not_eq_true',aOV,not_or,Classical.not_not];omega
theorem jBk {c:List UInt8} {s:Cu} (h:s.1<=c.length):(jcZ c s).2.1<=c.length:=jqI _ _ _ _ _ _ (jj (jj (jj (jj (jj h)))))
def jbU (c:List UInt8):List Rn->Cu->Option (Int×Int×Int)×Cu
 |[],s=>(none,s)
 |r::rs,s=>let l:=qV 3 r.aNA
  if l=[] then jbU c rs s else
   let o:=jh c 5 s
   if o.1=0 then jbU c rs o.2 else
    let k:=jh c l.length o.2
    let t:=(l[k.1.toNat]?).getD 0
    let v:=((r.aNA[t.toNat]?).map (·.tri)).getD 0
    let e:=jh c 8 k.2
    if e.1=0 then let f:=jh c 2 e.2;(some (r.id,t,IntKind.i64.wrap (IntKind.i64.wrap (v-1)+2*f.1)),f.2) else (some (r.id,t,v),e.2)
def qD (c:List UInt8) (y:Yd) (s:Cu):(Int×Int×Int)×Cu:=match jbU c y.aNE s with
 |(some x,s)=>(x,s)
 |(none,s)=>let a:=jh c 5 s;let b:=jh c 6 a.2;let d:=jh c 4 b.2;((1+a.1,b.1-1,d.1),d.2)
theorem jlq {c:List UInt8}:∀(rs:List Rn) {s:Cu},s.1<=c.length->(jbU c rs s).2.1<=c.length
 |[],s,h=>h
 |r::rs,s,h=>by
  rw [jbU];dsimp only;split
  ·exact jlq rs h
  ·split
   ·exact jlq rs (jj h)
   ·split
    ·exact jj (jj (jj (jj h)))
    ·exact jj (jj (jj h))
theorem jt0 {c:List UInt8} {y:Yd} {s:Cu} (h:s.1<=c.length):(qD c y s).2.1<=c.length:=by
 unfold qD;have:=jlq y.aNE h;split
 ·rename_i x s' e;rw [e] at this;exact this
 ·rename_i s' e;rw [e] at this;exact jj (jj (jj this))
theorem jlp {c:List UInt8}:∀(rs:List Rn) {s:Cu} {x:Int×Int×Int} {s':Cu},jbU c rs s=(some x,s')->∃r∈rs,x.1=r.id
 |[],s,x,s',h=>by simp [jbU] at h
 |r::rs,s,x,s',h=>by
  rw [jbU] at h;dsimp only at h;split at h
  ·obtain ⟨r',h1,h2⟩:=jlp rs h;exact ⟨r',by simp [h1],h2⟩
  ·split at h
   ·obtain ⟨r',h1,h2⟩:=jlp rs h;exact ⟨r',by simp [h1],h2⟩
   ·split at h
    ·simp only [Prod.mk.injEq,Option.some.injEq] at h;exact ⟨r,by simp,by rw [<-h.1]⟩
    ·simp only [Prod.mk.injEq,Option.some.injEq] at h;exact ⟨r,by simp,by rw [<-h.1]⟩
abbrev plZ:Pl:=⟨0,0,0,0,[]⟩
def qK (c:List UInt8) (y:Yd) (s:Cu):Dd×Cu:=
 let k:=jh c 20 s
 if k.1<6 then let w:=jh c 8 k.2;let d:=jh c 7 w.2;(⟨2,0,plZ,0,0,w.1,d.1⟩,d.2)
 else if k.1<10 then let r:=jh c 9 k.2;let p:=jcZ c r.2;(⟨1,1+r.1,p.1,0,0,0,0⟩,p.2)
 else if k.1<15 then let h:=qD c y k.2;(⟨3,h.1.1,plZ,brI h.1.2.1 0 99,brI h.1.2.2 0 99,0,0⟩,h.2)
 else if k.1=15 then let h:=qD c y k.2;(⟨4,h.1.1,plZ,brI h.1.2.1 0 99,brI h.1.2.2 0 99,0,0⟩,h.2)
 else if k.1=16 then (⟨5,0,plZ,0,0,0,0⟩,k.2)
 else if k.1=17 then let r:=jh c 9 k.2;(⟨6,1+r.1,plZ,0,0,0,0⟩,r.2)
 else if k.1=18 then let r:=jh c 9 k.2;(⟨7,1+r.1,plZ,0,0,0,0⟩,r.2)
 else let o:=jh c 3 k.2;if o.1=0 then (⟨8,0,plZ,0,0,0,0⟩,o.2) else (⟨5,0,plZ,0,0,0,0⟩,o.2)
theorem jBn {c:List UInt8} {y:Yd} {s:Cu} (h:s.1<=c.length):(qK c y s).2.1<=c.length:=by
 unfold qK;dsimp only;have h1:=jj (n:=20) h
 repeat' split
 ·exact jj (jj h1)
 ·exact jBk (jj h1)
 ·exact jt0 h1
 ·exact jt0 h1
 ·exact h1
 ·exact jj h1
 ·exact jj h1
 ·exact jj h1
 ·exact jj h1
noncomputable def vP (c:List UInt8):Nat->List Dd×Yd×Cu->List Dd×Yd×Cu
 |0,x=>x
 |n+1,x=>vP c n (x.1++[(qK c x.2.1 x.2.2).1],doY x.2.1 (qK c x.2.1 x.2.2).1,(qK c x.2.1 x.2.2).2)
noncomputable def jlo (c:List UInt8) (s:Cu):Yd×Cu:=(vP c (jh c 26 s).1.toNat ([],newYd,(jh c 26 s).2)).2
def jHo (c:List UInt8):Int:=(c.take 4000).foldl (λh u=>jui (IntKind.i64.wrap (IntKind.i64.wrap (IntKind.i64.wrap (h*131)+(u.toNat:Int))+7)) 1073741823) (94701+(c.length:Int))
def jhP (c:List UInt8):Cu:=(0,jHo c)
theorem jkM (y:Yd) (k:Nat) (r2:Rn):(kN y k r2).seq<=y.seq+r2.aNA.length:=by
 simp only [kN,jtA,zZ];have:=jen ((y.aNE[k]?).getD default).aNA r2.aNA r2.aNA.length;omega
theorem js4 {y:Yd} (h:YdI y) (k:Nat):((y.aNE[k]?).getD default).aNA.length<=12:=by
 cases hr:y.aNE[k]? with
 |none=>exact aOL _
 |some r=>exact (h.rns.right r (aNQ hr)).le12
theorem jpw {y:Yd} (h:YdI y) (k t:Nat):(failK y k t).seq<=y.seq+12:=by
 unfold failK;split
 ·have h1:=jkM y k (jB ((y.aNE[k]?).getD default) t)
  have h2:=js4 h k;rw [kO] at h1;omega
 ·omega
theorem jpu {z:Yd} (h:YdI z) (k:Nat):∀t,(restT z k t).seq<=z.seq+12*t
 |0=>by simp [restT]
 |t+1=>by
  have h1:=jpu h k t;have h2:=jpw (h.restT k t) k t;simp only [restT];omega
theorem jpv {y:Yd} (h:YdI y):∀k,(restR y k).seq<=y.seq+144*k
 |0=>by simp [restR]
 |k+1=>by
  have h1:=jpv h k;have h2:=jpu (h.restR k) k ((y.aNE[k]?).getD default).aNA.length;have h3:=js4 h k;simp only [restR];omega
theorem jpt {y:Yd} (h:YdI y):∀i,i<=(kq y).length->(tickI y i).seq<=y.seq+12*i
 |0,_=>by simp [tickI]
 |i+1,hi=>by
  have h1:=jpt h i (by omega)
  have h2:=(h.tickI i (by omega)).1
  obtain ⟨l,hl⟩:=ja (show i<(kq y).length by omega)
  rw [jc7 hl];unfold jnJ;have:=jpw h2 (runAt (tickI y i) (l.headD 0)).toNat (l.tail.headD 0).toNat;omega
theorem jBS {y:Yd} (h:YdI y) (d:Dd):(doY y d).seq<=y.seq+2000:=by
 unfold doY;split
 ·omega
 split
 ·unfold jee
  split
  ·rename_i hc
   simp only [jtA,zZ]
   have hp:jo d.aNB=0:=by
    refine aPQ λhp=>?_
    unfold jc8 at hc
    repeat' split at hc
    all_goals first|(cases hc;done)|exact hp hc|contradiction|omega
   obtain ⟨n,hn,_,cF,-⟩:=jbJ hp;have h3:(jN d.run d.aNB).aNA.length<=12:=by rw [jN,jaS];omega
   have h4:(qV 2 (jN d.run d.aNB).aNA).length<=(jN d.run d.aNB).aNA.length:=vx _ _ _;omega
  ·omega
 split
 ·unfold zp
  split
  ·omega
  ·rename_i hc
   have aR:ju y=true:=by
    cases h:ju y with
    |true=>rfl
    |false=>exact absurd (.inl h) hc
   have hw:0<=d.aNG/\d.aNG<=99:=by
    refine aPQ λh=>hc (.inr h)
   have g9:(d.aNG.tmod 4).toNat<4:=by rw [aPT hw.1];omega
   have hI:=(jrJ (yard_iff.1 aR) g9 d.aNJ).seq;split
   ·omega
   ·simp only [jjB];omega
 split
 ·unfold jbV
  split
  ·have h1:=jkM y (runAt y d.run).toNat (qa ((y.aNE[(runAt y d.run).toNat]?).getD default) d.aNH)
   have h2:=js4 h (runAt y d.run).toNat;rw [jca] at h1;omega
  ·omega
 split
 ·unfold jbR
  split
  ·have h1:=jkM y (runAt y d.run).toNat (jB ((y.aNE[(runAt y d.run).toNat]?).getD default) d.aNH)
   have h2:=js4 h (runAt y d.run).toNat;rw [kO] at h1;omega
  ·omega
 split
 ·unfold ja4
  split
  ·rename_i hc
   have aR:ju y=true:=by
    unfold ja5 at hc;cases h:ju y with
    |true=>rfl
    |false=>rw [if_pos h] at hc;cases hc
   have h1:=jpt h _ (aOC _);have h2:=jos (yard_iff.1 aR);dsimp only;omega
  ·omega
 split
 ·unfold kF
  split
  ·simp only [jeQ];omega
  ·omega
 split
 ·unfold jah
  split
  ·dsimp only;omega
  ·omega
 ·unfold jbG
  split
  ·have h1:=jpv h y.aNE.length
   have h2:=h.rns.eight;omega
  ·omega
theorem YdI.new:YdI newYd:=by
 refine ⟨by decide,by decide,rfl,λl hl=>?_,⟨by simp [newYd],by simp [newYd],by simp [newYd],by simp [newYd],by simp [newYd]⟩,⟨by simp [newYd],by simp [newYd],by simp [newYd],by simp [newYd]⟩,by simp [newYd,qh]⟩
 have:l=[]:=by simp [newYd] at hl;exact hl
 subst this;exact List.Pairwise.nil
theorem jy7 (n:Int) {a b:Int} (h:a<=b):a<=brI n a b/\brI n a b<=b:=by
 unfold brI;split
 ·omega
 ·split<;>omega
theorem jAB:jch plZ=true:=by decide
theorem jae {n:Int} (h:0<=n/\n<=1000000000):zM n=true:=decide_eq_true h
theorem jAt {p:Pl} (h:jo p=0):jh5 p=true:=by
 obtain ⟨n,h1,h2,h3,h4,h5,h6,h7,h8,h9⟩:=jbJ h;simp only [jh5,aOF,aOJ,List.all_eq_true];refine ⟨⟨⟨⟨⟨jae (by omega),jae (by omega)⟩,jae (by omega)⟩,jae (by omega)⟩,by omega⟩,λe he=>?_⟩
 have:=h5 e he;unfold okE at this;simp only [edB,aOF];exact ⟨jae (by omega),jae (by omega)⟩
theorem jBl (c:List UInt8) {y:Yd} (s:Cu) (hi:∀r∈y.aNE,1<=r.id/\r.id<=9999):0<=(qD c y s).1.1/\(qD c y s).1.1<=9999:=by
 unfold qD;split
 ·rename_i x s' e
  obtain ⟨r,h1,h2⟩:=jlp _ e;have:=hi r h1;dsimp only;omega
 ·rename_i s' e
  have:=jO c (n:=5) s' (by decide)
  dsimp only;omega
theorem jBm (c:List UInt8) {y:Yd} (s:Cu) (hi:∀r∈y.aNE,1<=r.id/\r.id<=9999):kf (qK c y s).1=true:=by
 unfold qK;dsimp only;generalize jh c 20 s=k at*;have hh:=jBl c k.2 hi;have b9:=jO c (n:=9) k.2 (by decide)
 have b8:=jO c (n:=8) k.2 (by decide)
 have b7:=jO c (n:=7) (jh c 8 k.2).2 (by decide)
 have hp:=jBj c (jh c 9 k.2).2;have ht:=jy7 (qD c y k.2).1.2.1 (a:=0) (b:=99) (by decide)
 have hv:=jy7 (qD c y k.2).1.2.2 (a:=0) (b:=99) (by decide)
 have hz:=jAB
 repeat' split
 ·simp [kf,hz,jae (n:=(jh c 8 k.2).1) (by omega),jae (n:=(jh c 7 (jh c 8 k.2).2).1) (by omega)]
 ·simp [kf,jAt hp,jae (n:=1+(jh c 9 k.2).1) (by omega)]
 ·simp [kf,hz,jae (n:=(qD c y k.2).1.1) (by omega),jae (n:=brI (qD c y k.2).1.2.1 0 99) (by omega),jae (n:=brI (qD c y k.2).1.2.2 0 99) (by omega)]
 ·simp [kf,hz,jae (n:=(qD c y k.2).1.1) (by omega),jae (n:=brI (qD c y k.2).1.2.1 0 99) (by omega),jae (n:=brI (qD c y k.2).1.2.2 0 99) (by omega)]
 ·simp [kf,hz]
 ·simp [kf,hz,jae (n:=1+(jh c 9 k.2).1) (by omega)]
 ·simp [kf,hz,jae (n:=1+(jh c 9 k.2).1) (by omega)]
 ·simp [kf,hz]
 ·simp [kf,hz]
theorem YdI.ids {y:Yd} (h:YdI y):∀r∈y.aNE,1<=r.id/\r.id<=9999:=λr hr=>aOY (h.rns.right r hr).id
structure DdsI (c:List UInt8) (n:Nat) (x:List Dd×Yd×Cu):Prop where
 yd:YdI x.2.1
 seq:x.2.1.seq<=1+2000*n
 len:x.1.length=n
 ok:∀d∈x.1,kf d=true
 at_:x.2.2.1<=c.length
 yis:x.2.1=x.1.foldl doY newYd
 aNF:∀d∈x.1,d.aNB.aNF.length<=9
theorem jlt (c:List UInt8) (y:Yd) (s:Cu):(qK c y s).1.aNB.aNF.length<=9:=by
 unfold qK;dsimp only
 repeat' split
 all_goals first
  |exact aOL _
  |(have:=(jlr c (if (jh c 10 (jh c 6 (jh c 4 (jh c 3 (jh c 4 (jh c 9 (jh c 20 s).2).2).2).2).2).2).1=0 then 12 else 1+(jh c 6 (jh c 4 (jh c 3 (jh c 4 (jh c 9 (jh c 20 s).2).2).2).2).2).1) 9 0 [] (jh c 10 (jh c 6 (jh c 4 (jh c 3 (jh c 4 (jh c 9 (jh c 20 s).2).2).2).2).2).2).2 ⟨by simp,by simp⟩).2;simpa [jcZ] using this)
theorem DdsI.start {c:List UInt8} {s:Cu} (h:s.1<=c.length):DdsI c 0 ([],newYd,s):=⟨.new,by simp [newYd],rfl,by simp,h,rfl,by simp⟩
theorem DdsI.next {c:List UInt8} {n:Nat} {x:List Dd×Yd×Cu} (h:DdsI c n x):DdsI c (n+1) (x.1++[(qK c x.2.1 x.2.2).1],doY x.2.1 (qK c x.2.1 x.2.2).1,(qK c x.2.1 x.2.2).2):=by
 have hd:=jBm c x.2.2 h.yd.ids;refine ⟨h.yd.do _,?_,by simp [h.len],λd hm=>?_,jBn h.at_,?_,λd hm=>?_⟩
 ·have h1:=jBS h.yd (qK c x.2.1 x.2.2).1
  have h2:=h.seq;dsimp only;omega
 ·rcases aNT.1 hm with hm|hm
  ·exact h.ok d hm
  ·simp at hm;subst hm;exact hd
 ·rw [List.foldl_append,<-h.yis];rfl
 ·rcases aNT.1 hm with hm|hm
  ·exact h.aNF d hm
  ·simp at hm;subst hm;exact jlt _ _ _
theorem joN {c:List UInt8}:∀(n m:Nat) {x:List Dd×Yd×Cu},DdsI c m x->DdsI c (m+n) (vP c n x)
 |0,m,x,h=>h
 |n+1,m,x,h=>by
  rw [vP,show m+(n+1)=(m+1)+n by omega]
  exact joN n (m+1) h.next
