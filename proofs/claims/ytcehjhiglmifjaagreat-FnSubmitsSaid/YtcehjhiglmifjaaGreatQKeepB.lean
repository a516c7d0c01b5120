/- Parts. -/
import Derived.Test.YtcehjhiglmifjaaGreatQForg
set_option linter.all false
set_option maxRecDepth 100000
namespace Go.Proofs.YtcehjhiglmifjaaGreat
open Go.RowKit Go.Sort
structure jqU (r r2:Rn):Prop where
 id:r2.id=r.id
 aOF:r2.aOF=r.aOF
 ok:RunOkP r2
 len:r2.aOD.length=r.aOD.length
 aOK:∀(t:Nat) (x z:Tk),r.aOD[t]?=some x->r2.aOD[t]?=some z->(x.aOG=2->z.aOG=2\/z.aOG=6)/\(x.aOG=6->z.aOG=6)/\(z.aOG=2->x.aOG≠6)/\(z.aOG=3->z=x)/\(z.aOG=1->x.aOG=1/\z.tri=x.tri)
 room:kL r2+cS 2 r.aOD+(zn r.aOD r2.aOD r2.aOD.length).length<=kL r+cS 2 r2.aOD
theorem newL_mem {was ts:List Tk} {k:Nat} {v:Int}:v∈zn was ts k↔∃j:Nat,v=j/\j<k/\jqW was ts j=true:=by
 simp only [zn,aQS,aQP,aRZ];constructor
 ·rintro ⟨j,⟨h1,h2⟩,rfl⟩;exact ⟨j,rfl,h1,h2⟩
 ·rintro ⟨j,rfl,h1,h2⟩;exact ⟨j,⟨h1,h2⟩,rfl⟩
theorem juH (was ts:List Tk) (k:Nat):(zn was ts k).Nodup:=jcx _ _
theorem js4 {was ts:List Tk} {j:Nat} {x z:Tk} (hx:was[j]?=some x) (hz:ts[j]?=some z):jqW was ts j=(z.aOG==2&&!(x.aOG==2)):=by
 have hj:=(aOS.1 hx).1;simp [jqW,kr hx,kr hz,hj]
theorem jpw {was ts:List Tk} (hl:ts.length=was.length) (h:∀(j:Nat) (x z:Tk),was[j]?=some x->ts[j]?=some z->x.aOG=2->z.aOG=2):cS 2 ts=cS 2 was+(zn was ts ts.length).length:=by
 have e1:(zn was ts ts.length).length=((List.range ts.length).filter λ(j:Nat)=>(stT ts (j:Int)==2)&&!(stT was (j:Int)==2)).length:=by
  simp only [zn,aQI]
  congr 1
  refine List.filter_congr λj hj=>?_
  have:j<was.length:=by rw [<-hl];exact aRZ.1 hj
  simp [jqW,this]
 have e2:cS 2 was=((List.range ts.length).filter λ(j:Nat)=>(stT ts (j:Int)==2)&&(stT was (j:Int)==2)).length:=by
  simp only [cS,qG,zk,aQI,<-hl]
  congr 1
  refine List.filter_congr λj hj=>?_
  have nS:=aRZ.1 hj;obtain ⟨z,hz⟩:=ja nS;obtain ⟨x,hx⟩:=ja (show j<was.length by omega)
  rw [kr hz,kr hx];cases h2:x.aOG==2
  ·simp
  ·rw [h j x z hx hz (by simpa using h2)];rfl
 have e3:cS 2 ts=((List.range ts.length).filter λ(j:Nat)=>stT ts (j:Int)==2).length:=by simp only [cS,qG,zk,aQI]
 rw [e1,e2,e3];have:=List.length_eq_countP_add_countP (λ(j:Nat)=>stT was (j:Int)==2) (l:=(List.range ts.length).filter λ(j:Nat)=>stT ts (j:Int)==2)
 simp only [aRA,List.filter_filter] at this;rw [this]
 congr 1
 ·congr 1
  refine List.filter_congr λj _=>?_
  exact Bool.and_comm _ _
 ·congr 1
  refine List.filter_congr λj _=>?_
  cases stT was (j:Int)==2<;>cases stT ts (j:Int)==2<;>rfl
theorem jdb {rs:List Rn} {k:Nat} {r2 r':Rn} (h:r'∈rs.set k r2):r'=r2\/∃j,j≠k/\rs[j]?=some r':=by
 obtain ⟨j,hj⟩:=aQC h;rw [aQK] at hj;by_cases e:k=j
 ·subst e
  rw [if_pos rfl] at hj;split at hj
  ·exact .inl (aPJ hj).symm
  ·simp at hj
 ·rw [if_neg e] at hj;exact .inr ⟨j,λh=>e h.symm,hj⟩
theorem jnJ {rs:List Rn} {k:Nat} {r r2:Rn} (hr:rs[k]?=some r) (h:r2.id=r.id):(rs.set k r2).map (·.id)=rs.map (·.id):=by
 apply aRB
 intro j;simp only [aRQ,aQK];by_cases e:k=j
 ·subst e
  rw [if_pos rfl,if_pos (aOS.1 hr).1,hr];simp [h]
 ·rw [if_neg e]
theorem jw5 {rs rs':List Rn} {q:Int} {L:List En} {r2:Rn} {ids:List Int} (h:EnsI rs q L) (hq:1<=q) (hid:(rs'.map (·.id)).Nodup) (bZ:r2∈rs') (fF:ids.Nodup)
 (h1:∀t∈ids,∃(j:Nat) (x:Tk),t=j/\r2.aOD[j]?=some x/\x.aOG=2)
 (h2:∀e∈L,∃r∈rs',∃(t:Nat) (x:Tk),e.run=r.id/\e.aOK=t/\r.aOD[t]?=some x/\(x.aOG=2/\e.aOL=r.aOF.aOL\/x.aOG=6))
 (h3:∀r'∈rs',r'.id≠r2.id->r'∈rs)
 (h4:∀(t:Nat) (x:Tk),r2.aOD[t]?=some x->x.aOG=2->(t:Int)∉ids->jaq r2.id t L=1)
 (h5:∀t∈ids,jaq r2.id t L=0):EnsI rs' (q+ids.length) (jm3 r2.aOF.aOL r2.id q ids++L):=by
 refine ⟨λe he=>?_,?_,λe he=>?_,λr' bN t x hx hs=>?_⟩
 ·rcases aOX.1 he with he|he
  ·obtain ⟨_,_,_,k4,k5⟩:=jcl he;omega
  ·have:=h.range e he;omega
 ·rw [aRF]
  refine aPC.2 ⟨jm2 _ _ _ _,h.apart,λa ha b hb e=>?_⟩
  obtain ⟨e1,nF,rfl⟩:=aQS.1 ha;obtain ⟨e2,cA,rfl⟩:=aQS.1 hb;have:=(jcl nF).2.2.2.1;have:=h.range e2 cA;omega
 ·rcases aOX.1 he with he|he
  ·obtain ⟨k1,k2,k3,_⟩:=jcl he
   obtain ⟨j,x,hj,hx,hs⟩:=h1 _ k3;exact ⟨r2,bZ,j,x,k2,hj,hx,.inl ⟨hs,k1⟩⟩
  ·exact h2 e he
 ·rw [jiY]
  by_cases hi:r'.id=r2.id
  ·obtain rfl:=jor hid bN bZ hi
   rw [js3];by_cases ht:(t:Int)∈ids
   ·rw [fF.count,if_pos ht,h5 _ ht]
   ·rw [List.count_eq_zero.2 ht,h4 t x hx hs ht]
  ·rw [joJ (L:=jm3 _ _ _ _) (λe he=>by have:=(jcl he).2.1;rintro ⟨k1,_⟩;exact hi (k1.symm.trans this)),h.one r' (h3 r' bN hi) t x hx hs]
theorem jsn {α:Type} (f:α->Nat) (l:List α) (x:α):vh f (l++[x])=vh f l+f x:=by simp [vh]
theorem RnsI.turn {now:Int} {rs:List Rn} {k:Nat} {r r2:Rn} (h:RnsI now rs) (hr:rs[k]?=some r) (hg:jqU r r2):RnsI now (rs.set k r2):=by
 refine ⟨by rw [aPF];exact h.eight,λr' bN=>?_,by rw [jnJ hr hg.id];exact h.ids,λr' bN t x hx hs=>?_,λr' bN x hx hs=>?_⟩
 ·rcases jdb bN with rfl|⟨j,_,hj⟩
  ·exact hg.ok
  ·exact h.right r' (aOT hj)
 ·rcases jdb bN with rfl|⟨j,_,hj⟩
  ·obtain ⟨z,hz⟩:=ja (show t<r.aOD.length by rw [<-hg.len];exact (aOS.1 hx).1)
   have:=(hg.aOK t z x hz hx).2.2.2.1 hs;subst this;rw [hg.aOF];exact h.til r (aOT hr) t x hz hs
  ·exact h.til r' (aOT hj) t x hx hs
 ·rcases jdb bN with rfl|⟨j,_,hj⟩
  ·obtain ⟨t,hx⟩:=aQC hx
   obtain ⟨z,hz⟩:=ja (show t<r.aOD.length by rw [<-hg.len];exact (aOS.1 hx).1)
   obtain ⟨h1,h2⟩:=(hg.aOK t z x hz hx).2.2.2.2 hs;rw [h2];exact h.tri r (aOT hr) z (aOT hz) h1
  ·exact h.tri r' (aOT hj) x hx hs
theorem jCB {rs:List Rn} {k:Nat} {r r2:Rn} {q:Int} {L:List En} (h:EnsI rs q L) (hr:rs[k]?=some r) (hg:jqU r r2):∀e∈L,∃r∈rs.set k r2,∃(t:Nat) (x:Tk),e.run=r.id/\e.aOK=t/\r.aOD[t]?=some x/\(x.aOG=2/\e.aOL=r.aOF.aOL\/x.aOG=6):=by
 intro e he;have hk:=(aOS.1 hr).1;obtain ⟨r',bN,t,x,h1,h2,h3,h4⟩:=h.own e he;obtain ⟨j,hj⟩:=aQC bN;by_cases ejk:k=j
 ·subst ejk
  rw [hr] at hj;obtain rfl:=aPJ hj;obtain ⟨z,hz⟩:=ja (show t<r2.aOD.length by rw [hg.len];exact (aOS.1 h3).1)
  obtain ⟨g1,g2,_⟩:=hg.aOK t x z h3 hz;refine ⟨r2,aOT (aOY hk),t,z,by rw [hg.id];exact h1,h2,hz,?_⟩
  rcases h4 with ⟨h4,h5⟩|h4
  ·rcases g1 h4 with g|g
   ·exact .inl ⟨g,by rw [hg.aOF];exact h5⟩
   ·exact .inr g
  ·exact .inr (g2 h4)
 ·exact ⟨r',aOT (i:=j) (by rw [aPW ejk];exact hj),t,x,h1,h2,h3,h4⟩
theorem jDp {rs:List Rn} {q:Int} {L:List En} (h:EnsI rs q L) (hid:(rs.map (·.id)).Nodup) {r:Rn} {t:Nat} {x:Tk} (hr:r∈rs) (hx:r.aOD[t]?=some x) (h2:x.aOG≠2) (h6:x.aOG≠6):jaq r.id t L=0:=by
 refine joJ λe he=>?_
 rintro ⟨k1,k2⟩;obtain ⟨r',bN,t',x',h1,h3,h4,h5⟩:=h.own e he;obtain rfl:=jor hid hr bN (k1.symm.trans h1);obtain rfl:t=t':=by omega
 rw [hx] at h4;obtain rfl:=aPJ h4;rcases h5 with h5|h5
 ·exact h2 h5.1
 ·exact h6 h5
theorem YdI.turn {y:Yd} {k:Nat} {r r2:Rn} (h:YdI y) (hr:y.aOH[k]?=some r) (hg:jqU r r2):YdI (kP y k r2):=by
 have hk:=(aOS.1 hr).1;obtain ⟨-,rP⟩:=jBY r2.id;obtain ⟨l,hl⟩:=ja (show shN r2.id<y.aOE.length by rw [h.four];exact rP)
 have hR:=h.rns.turn hr hg
 have e:kP y k r2=⟨y.now,y.seq+(zn r.aOD r2.aOD r2.aOD.length).length,y.aOE.set (shN r2.id) (zo r2.aOF.aOL r2.id (zn r.aOD r2.aOD r2.aOD.length) (l,y.seq)).1,y.aOH.set k r2⟩:=by
  rw [kP,jrI];simp only [hr,aPA,hl,zx]
 obtain ⟨rest,p1,p2⟩:=zV hl (zo r2.aOF.aOL r2.id (zn r.aOD r2.aOD r2.aOD.length) (l,y.seq)).1
 have hp:(jm3 r2.aOF.aOL r2.id y.seq (zn r.aOD r2.aOD r2.aOD.length)++y.aOE.flatten).Perm (y.aOE.set (shN r2.id) (zo r2.aOF.aOL r2.id (zn r.aOD r2.aOD r2.aOD.length) (l,y.seq)).1).flatten:=by
  refine ((aRN _ p1).trans ?_).trans p2.symm;rw [<-aPH];exact ((jgy _ _ _ _ _).symm).append_right _
 have hE:EnsI (y.aOH.set k r2) (y.seq+(zn r.aOD r2.aOD r2.aOD.length).length) (jm3 r2.aOF.aOL r2.id y.seq (zn r.aOD r2.aOD r2.aOD.length)++y.aOE.flatten):=by
  refine jw5 h.ens h.seq hR.ids (aOT (aOY hk)) (juH _ _ _) (λt ht=>?_) (jCB h.ens hr hg) (λr' bN hi=>?_) (λt x hx hs ht=>?_) (λt ht=>?_)
  ·obtain ⟨j,rfl,hj,hn⟩:=newL_mem.1 ht
   obtain ⟨z,hz⟩:=ja hj;simp only [jqW,kr hz,aPG,aQW] at hn;exact ⟨j,z,rfl,hz,hn.1⟩
  ·rcases jdb bN with rfl|⟨j,_,hj⟩
   ·exact absurd rfl hi
   ·exact aOT hj
  ·have eN:=(aOS.1 hx).1
   obtain ⟨z,hz⟩:=ja (show t<r.aOD.length by rw [<-hg.len];exact eN)
   have hz2:z.aOG=2:=aQM λaK=>ht (newL_mem.2 ⟨t,rfl,eN,by rw [js4 hz hx,hs];simp [aK]⟩)
   rw [hg.id];exact h.ens.one r (aOT hr) t z hz hz2
  ·obtain ⟨j,rfl,hj,hn⟩:=newL_mem.1 ht
   obtain ⟨z,hz⟩:=ja hj;obtain ⟨x,hx⟩:=ja (show j<r.aOD.length by rw [<-hg.len];exact hj)
   rw [js4 hx hz] at hn;simp only [aPG,aQW,Bool.not_eq_true',beq_eq_false_iff_ne] at hn;rw [hg.id];exact jDp h.ens h.rns.ids (aOT hr) hx hn.2 ((hg.aOK j x z hx hz).2.2.1 hn.1)
 have aC:=hp.length_eq;rw [aOU,joj] at aC;have bE:=h.room;have hg6:=hg.room;have t1:=qZ (f:=kL) r2 hr;have t2:=qZ (f:=λr=>cS 2 r.aOD) r2 hr
 rw [e];refine ⟨h.now,by have:=h.seq;dsimp only;omega,by rw [aPF];exact h.four,λm hm=>?_,hR,hE.perm hp,by simp only [zd] at bE⊢;omega⟩
 rcases List.mem_or_eq_of_mem_set hm with hm|rfl
 ·exact h.sorted m hm
 ·exact jol _ _ _ (h.sorted l (aOT hl)) λx hx=>by
   have:=h.ens.range x (aRS.2 ⟨l,aOT hl,hx⟩);omega
def stD (z:Tk):Tk:=⟨if IntKind.i64.wrap (z.aOO-1)=0 then 2 else z.aOG,IntKind.i64.wrap (z.aOO-1),z.tri,z.til⟩
theorem jvP {ts:List Tk} {b:Int} (hb:0<=b) (j:Nat):(jba ts b)[j]?=(ts[j]?).map λz=>if (j:Int)=b then stD z else z:=by
 unfold jba;by_cases e:(j:Int)=b
 ·have ej:b.toNat=j:=by omega
  rw [ej];cases hz:ts[j]? with
  |none=>simp [hz]
  |some z=>
   have hj:=(aOS.1 hz).1;simp only [Option.map_some,if_pos e];rw [aOY hj];rfl
 ·have ej:b.toNat≠j:=by omega
  cases hz:ts[b.toNat]? with
  |none=>simp [e]
  |some z=>simp only [if_neg e];rw [aPW ej];simp
theorem jql:∀{l:List Int} {ts:List Tk},l.Nodup->(∀b∈l,0<=b)->∀j:Nat,(l.foldl jba ts)[j]?=(ts[j]?).map λz=>if (j:Int)∈l then stD z else z
 |[],ts,_,_,j=>by simp
 |b::l,ts,hn,h0,j=>by
  obtain ⟨h1,h2⟩:=aQZ.1 hn;rw [aRL,jql h2 (λx hx=>h0 x (by simp [hx])) j,jvP (h0 b (by simp)) j,Option.map_map]
  congr 1
  funext z
  simp only [Function.comp,aPL];by_cases e:(j:Int)=b
  ·have:¬(j:Int)∈l:=by rw [e];exact h1
   simp [e,h1]
  ·simp [e]
theorem jr1 {l:List Int} {p:Int->Bool} {t:Int} (hn:l.Nodup) (ht:t∈l) (hp:p t=true):(l.filter p).length=(l.filter λb=>p b&&(b !=t)).length+1:=by
 induction l with
 |nil=>simp at ht
 |cons a l ih=>
  obtain ⟨h1,h2⟩:=aQZ.1 hn;rcases aPL.1 ht with rfl|ht
  ·have e:l.filter (λb=>p b&&(b !=t))=l.filter p:=List.filter_congr λb hb=>by
    have:b≠t:=λe=>h1 (e▸hb)
    simp [this]
   rw [aRX,if_pos hp,aRX,if_neg (by simp),e];rfl
  ·have fB:a≠t:=λe=>h1 (e▸ht)
   have:=ih h2 ht;rw [aRX,aRX];cases hpa:p a<;>simp [fB,this]
theorem jr0 {l:List Int} {p:Int->Bool} {t:Int} (ht:t∉l):(l.filter λb=>p b&&(b !=t))=l.filter p:=List.filter_congr λb hb=>by
 have:b≠t:=λe=>ht (e▸hb)
 simp [this]
theorem jsc {p:Pl} (h:jm p=0) {a b:Nat}:(a:Int)∈zK p b↔(b:Int)∈jca p a:=by
 obtain ⟨n,hn,_,_,_,bU,_⟩:=ja8 h;have e1:p.aOD.toNat=n:=by omega
 rw [zK,jca,e1,(jbJ (jlU bU b)).mem_iff,(jbJ (joQ bU a)).mem_iff,jf6,jf5];simp only [aQS,aQP,aQW];constructor
 ·rintro ⟨e,⟨h1,h2⟩,h3⟩;exact ⟨e,⟨h1,h3⟩,h2⟩
 ·rintro ⟨e,⟨h1,h2⟩,h3⟩;exact ⟨e,⟨h1,h3⟩,h2⟩
theorem jve {p:Pl} (h:jm p=0) (t:Int):(jca p t).Nodup:=by
 obtain ⟨n,hn,_,_,_,bU,hd,_⟩:=ja8 h;rw [jca,show p.aOD.toNat=n by omega]
 exact (jbJ (joQ bU t)).nodup_iff.2 (jno hd t)
theorem jvg {p:Pl} (h:jm p=0) (t:Int):(zK p t).Nodup:=by
 obtain ⟨n,hn,_,_,_,bU,hd,_⟩:=ja8 h;rw [zK,show p.aOD.toNat=n by omega]
 exact (jbJ (jlU bU t)).nodup_iff.2 (jnp hd t)
theorem RunOkP.need_pos {r:Rn} (h:RunOkP r) {t j:Nat} {x z:Tk} (hx:r.aOD[t]?=some x) (hs:x.aOG=3) (hz:r.aOD[j]?=some z) (hj:(j:Int)∈jca r.aOF t):z.aOG=1/\z.aOO=jaZ r.aOF r.aOD j/\1<=jaZ r.aOF r.aOD j:=by
 obtain ⟨e1,e2,e3,e4⟩:=h.aOH hx hs;have hT:=taskB_iff.1 (h.aOD j z hz)
 have hp:1<=jaZ r.aOF r.aOD j:=by
  have hm:(t:Int)∈(zK r.aOF j).filter λb=>stT r.aOD b !=4:=aQP.2 ⟨(jsc h.aOF).2 hj,by rw [kr hx,hs];rfl⟩
  have:=List.length_pos_of_mem hm;simp only [jaZ];omega
 have h6:z.aOG≠6:=jtF e3 hz;have hl:=hT.2.2.2.2;unfold vn at hl;refine ⟨?_,hT.2.1,hp⟩;refine aQM λh1=>?_
 rw [if_neg h1] at hl;split at hl
 ·simp only [aPG,aQW] at hl;omega
 ·simp only [aPG,aQW] at hl;omega
section
variable {r:Rn} {t:Nat} {x:Tk}
theorem jAd (h:RunOkP r) (j:Nat):(vZ r.aOF r.aOD t x)[j]?=((r.aOD.set t ⟨4,x.aOO,x.tri,0⟩)[j]?).map λz=>if (j:Int)∈jca r.aOF t then stD z else z:=by
 obtain ⟨n,hn,_,_,_,bU,_⟩:=ja8 h.aOF;exact jql (jve h.aOF t) (λb hb=>(jsa hn hb).1) j
theorem js0 (h:RunOkP r) (hx:r.aOD[t]?=some x) (hs:x.aOG=3):¬(t:Int)∈jca r.aOF t:=λhm=>by
 have:=(h.need_pos hx hs hx hm).1;omega
theorem jer (h:RunOkP r) (hx:r.aOD[t]?=some x) (hs:x.aOG=3) {j:Nat} {w:Tk} (hw:(vZ r.aOF r.aOD t x)[j]?=some w):
 (j=t/\w=⟨4,x.aOO,x.tri,0⟩)\/(j≠t/\∃z,r.aOD[j]?=some z/\((j:Int)∈jca r.aOF t/\w=stD z\/¬(j:Int)∈jca r.aOF t/\w=z)):=by
 have ht:=(aOS.1 hx).1;rw [jAd h] at hw;by_cases e:j=t
 ·subst e
  rw [aOY ht,Option.map_some,if_neg (js0 h hx hs)] at hw;exact .inl ⟨rfl,(aPJ hw).symm⟩
 ·rw [aPW (λe'=>e e'.symm)] at hw
  obtain ⟨z,hz,rfl⟩:=Option.map_eq_some_iff.1 hw;refine .inr ⟨e,z,hz,?_⟩;by_cases hm:(j:Int)∈jca r.aOF t
  ·exact .inl ⟨hm,by rw [if_pos hm]⟩
  ·exact .inr ⟨hm,by rw [if_neg hm]⟩
theorem jAG {z:Tk} (h:z.aOG=1):(stD z).aOG=1\/(stD z).aOG=2:=by
 simp only [stD];split
 ·exact .inr rfl
 ·exact .inl h
theorem jAc (h:RunOkP r) (hx:r.aOD[t]?=some x) (hs:x.aOG=3) (j:Nat):(stT (vZ r.aOF r.aOD t x) j !=4)=(stT r.aOD j !=4&&((j:Int) !=t)):=by
 have ht:=(aOS.1 hx).1;cases hw:(vZ r.aOF r.aOD t x)[j]? with
 |none=>
  have hz:r.aOD[j]?=none:=by rw [aRJ] at hw⊢;rw [jbX] at hw;exact hw
  have d7:¬j=t:=λe=>by subst e;rw [hx] at hz;cases hz
  have bB:((j:Int) !=t)=true:=by simp only [bne_iff_ne];omega
  simp only [stT,aPB,hw,hz,bB,Bool.and_true]
 |some w=>
  rw [kr hw];rcases jer h hx hs hw with ⟨rfl,rfl⟩|⟨aK,z,hz,⟨hm,rfl⟩|⟨hm,rfl⟩⟩
  ·simp
  ·have h1:=(h.need_pos hx hs hz hm).1
   have bB:((j:Int) !=t)=true:=by simp only [bne_iff_ne];omega
   rw [kr hz,h1,bB];rcases jAG h1 with h2|h2<;>rw [h2]<;>rfl
  ·have bB:((j:Int) !=t)=true:=by simp only [bne_iff_ne];omega
   rw [kr hz,bB,Bool.and_true]
theorem ju6 (h:RunOkP r) (hx:r.aOD[t]?=some x) (hs:x.aOG=3) (j:Nat):jaZ r.aOF (vZ r.aOF r.aOD t x) j=jaZ r.aOF r.aOD j-if (j:Int)∈jca r.aOF t then 1 else 0:=by
 obtain ⟨n,hn,_,_,_,bU,_⟩:=ja8 h.aOF
 have e:(zK r.aOF j).filter (λb=>stT (vZ r.aOF r.aOD t x) b !=4)=(zK r.aOF j).filter λb=>(stT r.aOD b !=4)&&(b !=(t:Int)):=List.filter_congr λb hb=>by
  have tR:0<=b:=by
   rw [zK] at hb;exact (jge hb).1.1
  obtain ⟨m,rfl⟩:=Int.eq_ofNat_of_zero_le tR;exact jAc h hx hs m
 simp only [jaZ];rw [e];by_cases hm:(j:Int)∈jca r.aOF t
 ·have:=jr1 (p:=λb=>stT r.aOD b !=4) (jvg h.aOF j) ((jsc h.aOF).2 hm) (by rw [kr hx,hs];rfl)
  rw [if_pos hm];omega
 ·have:=jr0 (p:=λb=>stT r.aOD b !=4) (λhc=>hm ((jsc h.aOF).1 hc))
  rw [if_neg hm,this];omega
theorem jxI (h:RunOkP r) (hx:r.aOD[t]?=some x) (hs:x.aOG=3) (h0:∀z∈r.aOD,z.aOG=1->z.tri=0):jqU r (jjz r t x):=by
 obtain ⟨e1,e2,e3,e4⟩:=h.aOH hx hs;obtain ⟨n,hn,eB,cC,dI,bU,aY,lV,iW,lO⟩:=ja8 h.aOF;have bA:=taskB_iff.1 (h.aOD t x hx);have gH:=bA.2.2.2.2;simp only [vn,hs] at gH;have gH:x.aOO=0/\1<=x.tri:=by simpa using gH
 have iV:∀j:Nat,jaZ r.aOF r.aOD j<=12:=λj=>by
  have h1:=aPT (λb=>stT r.aOD b !=4) (zK r.aOF j)
  have h2:(zK r.aOF j).length<=n:=by
   rw [zK,show r.aOF.aOD.toNat=n by omega,jyU (jlU bU j)]
   exact jtI aY bU j
  simp only [jaZ];omega
 have uB:=jnh h hx hs;have aC:=jbX r.aOF r.aOD t x;refine ⟨rfl,rfl,⟨h.id,h.aOF,by show ((vZ r.aOF r.aOD t x).length:Int)=_;rw [aC];exact h.len,λj w hw=>?_,uB.symm,?_⟩,aC,λj z w hz hw=>?_,?_⟩
 ·show jT r.aOF (vZ r.aOF r.aOD t x) j w=true
  rw [taskB_iff,ju6 h hx hs];rcases jer h hx hs hw with ⟨rfl,rfl⟩|⟨aK,z,hz,⟨hm,rfl⟩|⟨hm,rfl⟩⟩
  ·rw [if_neg (js0 h hx hs)]
   exact ⟨by simp,by rw [bA.2.1];omega,bA.2.2.1,rfl,by simp [vn,gH.1,gH.2]⟩
  ·obtain ⟨g1,g2,g3⟩:=h.need_pos hx hs hz hm
   have g4:=iV j;have g5:=h0 z (aOT hz) g1;have fK:IntKind.i64.wrap (z.aOO-1)=z.aOO-1:=zm;have w9:=taskB_iff.1 (h.aOD j z hz)
   have nP:z.til=0:=by
    have:=w9.2.2.2.1;simpa [jbB,g1] using this
   rw [if_pos hm];simp only [stD,fK];by_cases fX:z.aOO-1=0
   ·rw [if_pos fX]
    refine ⟨by simp,by omega,w9.2.2.1,by simp [jbB,nP],?_⟩
    have:z.tri<r.aOF.aOQ:=by omega
    simp [vn,fX,this]
   ·rw [if_neg fX]
    refine ⟨by simp [g1],by omega,w9.2.2.1,by simp [jbB,g1,nP],?_⟩
    have:0<z.aOO-1:=by omega
    simp only [vn,g1,if_true,aPM];exact this
  ·have w9:=taskB_iff.1 (h.aOD j _ hz)
   rw [if_neg hm,Int.sub_zero];exact w9
 ·show (if _ then (2:Int) else r.aOG)≠0
  split<;>omega
 ·have bX:(vZ r.aOF r.aOD t x)[j]?=some w:=hw
  rcases jer h hx hs bX with ⟨rfl,rfl⟩|⟨aK,z',cQ,⟨hm,rfl⟩|⟨hm,rfl⟩⟩
  ·rw [hx] at hz
   obtain rfl:=aPJ hz;simp [hs]
  ·rw [hz] at cQ
   obtain rfl:=aPJ cQ;have g1:=(h.need_pos hx hs hz hm).1;have g3:(stD z).tri=z.tri:=rfl;rcases jAG g1 with g2|g2<;>rw [g2,g1,g3]<;>refine ⟨λg=>?_,λg=>?_,λg=>?_,λg=>?_,λg=>?_⟩<;>first|omega|(simp;done)|exact ⟨rfl,rfl⟩
  ·rw [hz] at cQ
   obtain rfl:=aPJ cQ;refine ⟨λg=>.inl g,λg=>g,λg=>by omega,λ_=>rfl,λg=>⟨g,rfl⟩⟩
 ·have hk:=jpw (was:=r.aOD) (ts:=vZ r.aOF r.aOD t x) aC λj z w hz hw g=>by
   rcases jer h hx hs hw with ⟨rfl,rfl⟩|⟨aK,z',cQ,⟨hm,rfl⟩|⟨hm,rfl⟩⟩
   ·rw [hx] at hz
    obtain rfl:=aPJ hz;omega
   ·rw [hz] at cQ
    obtain rfl:=aPJ cQ;have:=(h.need_pos hx hs hz hm).1;omega
   ·rw [hz] at cQ
    obtain rfl:=aPJ cQ;exact g
  have nD:kL (jjz r t x)<=kL r:=by
   unfold kL;rw [if_pos e1];split
   ·show (vZ r.aOF r.aOD t x).length<=_;omega
   ·omega
  show kL (jjz r t x)+cS 2 r.aOD+(zn r.aOD (vZ r.aOF r.aOD t x) (vZ r.aOF r.aOD t x).length).length<=kL r+cS 2 (vZ r.aOF r.aOD t x);omega
theorem jpT {was ts:List Tk} (h:∀z∈ts,z.aOG≠2) (k:Nat) (hk:k<=ts.length):zn was ts k=[]:=by
 have:∀v,v∉zn was ts k:=λv hv=>by
  obtain ⟨j,rfl,hj,hn⟩:=newL_mem.1 hv;obtain ⟨z,hz⟩:=ja (show j<ts.length by omega)
  simp only [jqW,kr hz,aPG,aQW] at hn;exact h z (aOT hz) hn.1
 exact List.eq_nil_iff_forall_not_mem.2 this
theorem ju4 (h:RunOkP r) (hx:r.aOD[t]?=some x) (hs:x.aOG=3):jqU r (zH r t x):=by
 have aR:=jqq h hx hs;obtain ⟨e1,e2,e3,e4⟩:=h.aOH hx hs;have ht:=(aOS.1 hx).1;by_cases hm:x.tri<r.aOF.aOQ
 ·have e:zH r t x=⟨r.id,r.aOF,r.aOG,r.aOD.set t ⟨2,x.aOO,x.tri,0⟩⟩:=by rw [zH,if_pos hm]
  rw [e] at aR⊢
  have key:∀(j:Nat) (z w:Tk),r.aOD[j]?=some z->(r.aOD.set t ⟨2,x.aOO,x.tri,0⟩)[j]?=some w->(j=t/\z=x/\w=⟨2,x.aOO,x.tri,0⟩)\/w=z:=λj z w hz hw=>by
   rw [aQK] at hw;by_cases e:t=j
   ·subst e
    rw [if_pos rfl,if_pos ht] at hw;rw [hx] at hz;exact .inl ⟨rfl,(aPJ hz).symm,(aPJ hw).symm⟩
   ·rw [if_neg e,hz] at hw
    exact .inr (aPJ hw).symm
  refine ⟨rfl,rfl,aR,aPF ..,λj z w hz hw=>?_,?_⟩
  ·rcases key j z w hz hw with ⟨rfl,rfl,rfl⟩|rfl
   ·simp [hs]
   ·exact ⟨λg=>.inl g,λg=>g,λg=>by omega,λ_=>rfl,λg=>⟨g,rfl⟩⟩
  ·have hk:=jpw (was:=r.aOD) (ts:=r.aOD.set t ⟨2,x.aOO,x.tri,0⟩) (aPF ..) λj z w hz hw g=>by
    rcases key j z w hz hw with ⟨rfl,rfl,rfl⟩|rfl
    ·rfl
    ·exact g
   have nD:kL ⟨r.id,r.aOF,r.aOG,r.aOD.set t ⟨2,x.aOO,x.tri,0⟩⟩=kL r:=by simp [kL]
   rw [nD];dsimp only;omega
 ·have e:zH r t x=⟨r.id,r.aOF,3,vv jy (r.aOD.set t ⟨5,x.aOO,x.tri,0⟩) r.aOD.length⟩:=by rw [zH,if_neg hm]
  rw [e] at aR⊢;have hl:(vv jy (r.aOD.set t ⟨5,x.aOO,x.tri,0⟩) r.aOD.length).length=r.aOD.length:=by rw [zw,aPF]
  have key:∀(j:Nat) (z w:Tk),r.aOD[j]?=some z->(vv jy (r.aOD.set t ⟨5,x.aOO,x.tri,0⟩) r.aOD.length)[j]?=some w->(w.aOG=4/\z.aOG=4)\/(w.aOG=5/\z.aOG=3)\/(w.aOG=6/\z.aOG≠4):=λj z w hz hw=>by
   have el:r.aOD.length=(r.aOD.set t ⟨5,x.aOO,x.tri,0⟩).length:=by rw [aPF]
   rw [el] at hw;obtain ⟨u,hu,rfl⟩:=jgv hw;rw [aQK] at hu;by_cases e:t=j
   ·subst e
    rw [if_pos rfl,if_pos ht] at hu;obtain rfl:=aPJ hu;rw [hx] at hz;obtain rfl:=aPJ hz;exact .inr (.inl ⟨by simp [jy],hs⟩)
   ·rw [if_neg e,hz] at hu
    obtain rfl:=aPJ hu;have h5:z.aOG≠5:=jtF e2 hz;by_cases h4:z.aOG=4
    ·exact .inl ⟨by simp [jy,h4],h4⟩
    ·exact .inr (.inr ⟨by simp [jy,h4,h5],h4⟩)
  have no2:∀w∈vv jy (r.aOD.set t ⟨5,x.aOO,x.tri,0⟩) r.aOD.length,w.aOG≠2:=λw hw=>by
   obtain ⟨j,hj⟩:=aQC hw;obtain ⟨z,hz⟩:=ja (show j<r.aOD.length by rw [<-hl];exact (aOS.1 hj).1)
   rcases key j z w hz hj with g|g|g<;>omega
  refine ⟨rfl,rfl,aR,hl,λj z w hz hw=>?_,?_⟩
  ·have h6:z.aOG≠6:=jtF e3 hz
   rcases key j z w hz hw with ⟨g,g'⟩|⟨g,g'⟩|⟨g,g'⟩<;>rw [g]<;>refine ⟨λ_=>?_,λ_=>?_,λ_=>?_,λ_=>?_,λ_=>?_⟩<;>simp_all
  ·have:=jbS h
   have e0:zn r.aOD (vv jy (r.aOD.set t ⟨5,x.aOO,x.tri,0⟩) r.aOD.length) (vv jy (r.aOD.set t ⟨5,x.aOO,x.tri,0⟩) r.aOD.length).length=[]:=jpT no2 _ (aPD _);dsimp only;rw [e0];simp [kL] at this⊢;split at this<;>simp_all
   all_goals omega
end
theorem jgj {r:Rn} (h:RunOkP r) (t:Int) (hr:vK r t=true):jqU r (jC r t):=by
 obtain ⟨k,x,rfl,hx,hs,_⟩:=jbh hr;rw [qR hx hr];exact ju4 h hx hs
theorem jpp {r:Rn} (h:RunOkP r) (h0:∀z∈r.aOD,z.aOG=1->z.tri=0) (t:Int) (hr:vK r t=true):jqU r (kZ r t):=by
 obtain ⟨k,x,rfl,hx,hs,_⟩:=jbh hr;rw [jfE hx hr];exact jxI h hx hs h0
theorem jB0 {y:Yd} (h:YdI y) {k:Nat} {t:Int} {r:Rn} (hr:y.aOH[k]?=some r) (ht:0<=t) (hs:stT r.aOD t=3):vK r t=true:=by
 obtain ⟨n,rfl⟩:=Int.eq_ofNat_of_zero_le ht;cases hx:r.aOD[n]? with
 |none=>
  have:stT r.aOD (n:Int)=0:=by simp only [stT,aPB,hx,Option.getD_none];rfl
  omega
 |some x=>
  rw [kr hx] at hs;exact jh0 (h.rns.right r (aOT hr)) hx hs
theorem YdI.failK {y:Yd} (h:YdI y) (k t:Nat):YdI (failK y k t):=by
 unfold Go.Proofs.YtcehjhiglmifjaaGreat.failK;split
 ·rename_i hs
  cases hk:y.aOH[k]? with
  |none=>
   rw [hk] at hs;simp [stT] at hs;cases hs
  |some r=>
   rw [hk,aPA] at hs;rw [aPA];exact h.turn hk (jgj (h.rns.right r (aOT hk)) _ (jB0 h hk (Int.natCast_nonneg _) (by simpa using hs)))
 ·exact h
theorem jtV {y:Yd} {id aOK:Int} {x:Tk} (h:jaR y id aOK=some x):∃(k t:Nat) (r:Rn),runAt y id=k/\y.aOH[k]?=some r/\r.id=id/\aOK=t/\r.aOD[t]?=some x:=by
 unfold jaR at h;split at h
 ·cases h
 ·rename_i aV
  obtain ⟨k,r,cD,hr,hid,_⟩:=qk aV;rw [cD,aPB,hr] at h;dsimp only at h;split at h
  ·rename_i h0
   obtain ⟨t,rfl⟩:=Int.eq_ofNat_of_zero_le h0;exact ⟨k,t,r,cD,hr,hid,rfl,by simpa using h⟩
  ·cases h
theorem jxm {y:Yd} {id aOK tri:Int} (h:vu y id aOK tri=true):∃(k t:Nat) (r:Rn) (x:Tk),runAt y id=k/\y.aOH[k]?=some r/\r.id=id/\aOK=t/\r.aOD[t]?=some x/\x.aOG=3/\x.tri=tri:=by
 unfold vu at h;cases ht:jaR y id aOK with
 |none=>rw [ht] at h;simp at h
 |some x=>
  rw [ht] at h;simp only [aPG,aQW] at h;obtain ⟨k,t,r,h1,h2,h3,h4,h5⟩:=jtV ht;exact ⟨k,t,r,x,h1,h2,h3,h4,h5,h.1,h.2⟩
theorem YdI.comp {y:Yd} (h:YdI y) (id aOK tri:Int):YdI (jc0 y id aOK tri):=by
 unfold jc0;split
 ·rename_i hc
  obtain ⟨aR,aV⟩:=jmx hc
  have hh:vu y id aOK tri=true:=by
   obtain ⟨aR,aV⟩:=jmx hc;cases hq:vu y id aOK tri with
   |true=>rfl
   |false=>rw [jbt,if_neg (by rw [qX aR];decide),if_neg aV,if_pos hq] at hc;cases hc
  obtain ⟨k,t,r,x,cD,hr,_,rfl,hx,hs,_⟩:=jxm hh;rw [cD,aPB,hr,aPA];have hR:=h.rns.right r (aOT hr);exact h.turn hr (jpp hR (h.rns.tri r (aOT hr)) _ (jh0 hR hx hs))
 ·exact h
theorem YdI.fail {y:Yd} (h:YdI y) (id aOK tri:Int):YdI (jcZ y id aOK tri):=by
 unfold jcZ;split
 ·rename_i hc
  have hh:vu y id aOK tri=true:=by
   obtain ⟨aR,aV⟩:=jmx hc;cases hq:vu y id aOK tri with
   |true=>rfl
   |false=>rw [jbt,if_neg (by rw [qX aR];decide),if_neg aV,if_pos hq] at hc;cases hc
  obtain ⟨k,t,r,x,cD,hr,_,rfl,hx,hs,_⟩:=jxm hh;rw [cD,aPB,hr,aPA];have hR:=h.rns.right r (aOT hr);exact h.turn hr (jgj hR _ (jh0 hR hx hs))
 ·exact h
theorem YdI.restT {y:Yd} (h:YdI y) (k:Nat):∀t,YdI (restT y k t)
 |0=>h
 |t+1=>(YdI.restT h k t).failK k t
theorem YdI.restR {y:Yd} (h:YdI y):∀k,YdI (restR y k)
 |0=>h
 |k+1=>(YdI.restR h k).restT k _
theorem YdI.rest {y:Yd} (h:YdI y):YdI (jcX y):=by
 unfold jcX;split
 ·exact h.restR _
 ·exact h
def SubR (y z:Yd):Prop:=∀(k t:Nat) (r':Rn) (x:Tk),z.aOH[k]?=some r'->r'.aOD[t]?=some x->x.aOG=3->∃r,y.aOH[k]?=some r/\r.id=r'.id/\r.aOF=r'.aOF/\r.aOD[t]?=some x
theorem SubR.refl (y:Yd):SubR y y:=λk t r x hr hx _=>⟨r,hr,rfl,rfl,hx⟩
theorem SubR.trans {x y z:Yd} (h:SubR x y) (h':SubR y z):SubR x z:=λk t r u hr hu hs=>by
 obtain ⟨r1,h1,h2,h3,h4⟩:=h' k t r u hr hu hs;obtain ⟨r2,g1,g2,g3,g4⟩:=h k t r1 u h1 h4 hs;exact ⟨r2,g1,g2.trans h2,g3.trans h3,g4⟩
theorem SubR.failK (y:Yd) (k t:Nat):SubR y (failK y k t):=by
 unfold Go.Proofs.YtcehjhiglmifjaaGreat.failK;split
 ·intro j i r' x bN hx hs
  rw [jc4,aQK] at bN;by_cases e:k=j
  ·subst e
   rw [if_pos rfl] at bN;split at bN
   ·rename_i hk
    obtain ⟨r,hr⟩:=ja hk;rw [hr,aPA] at bN;obtain rfl:=aPJ bN;have hi:=zQ r t;exact ⟨r,hr,hi.1.symm,hi.2.symm,jmP hx hs⟩
   ·simp at bN
  ·rw [if_neg e] at bN;exact ⟨r',bN,rfl,rfl,hx⟩
 ·exact .refl y
theorem jxx {y:Yd} (h:YdI y) {k t:Nat} {r':Rn} {x:Tk} (hr:(failK y k t).aOH[k]?=some r') (hx:r'.aOD[t]?=some x):x.aOG≠3:=by
 intro hs;obtain ⟨r,h1,_,_,h4⟩:=SubR.failK y k t k t r' x hr hx hs;unfold Go.Proofs.YtcehjhiglmifjaaGreat.failK at hr;have aJ:stT r.aOD (t:Int)=3:=by rw [kr h4,hs]
 rw [h1,aPA,aJ,if_pos (by decide),jc4,aOY (aOS.1 h1).1] at hr
 obtain rfl:=aPJ hr;have hR:=h.rns.right r (aOT h1);have fQ:=jh0 hR h4 hs;rw [qR h4 fQ,zH] at hx;have ht:=(aOS.1 h4).1;split at hx
 ·dsimp only at hx
  rw [aOY ht] at hx;have:=congrArg Tk.aOG (aPJ hx);dsimp only at this;omega
 ·dsimp only at hx
  have e:r.aOD.length=(r.aOD.set t ⟨5,x.aOO,x.tri,0⟩).length:=by rw [aPF]
  rw [e] at hx;obtain ⟨u,hu,he⟩:=jgv hx;rw [aOY ht] at hu;rw [<-aPJ hu] at he;have:=congrArg Tk.aOG he;simp [jy] at this;omega
theorem jCM {y:Yd} {r:Rn} {t:Nat} {x:Tk} (hr:r∈y.aOH) (hx:r.aOD[t]?=some x) (hs:x.aOG=3) (hl:x.til<=y.now+1):[r.id,(t:Int),x.tri]∈kx y:=by
 have key:∀(ts:List Tk) (k j:Nat),ts[j]?=some x->[r.id,((k+j:Nat):Int),x.tri]∈jal y.now r k ts:=by
  intro ts
  induction ts with
  |nil=>intro k j h;simp at h
  |cons a ts ih=>
   intro k j h;rw [jal];cases j with
   |zero=>
    simp at h;subst h;refine aOX.2 (.inl ?_)
    have:jaJ y.now r.id a k=some [r.id,(k:Int),a.tri]:=by
     rw [jaJ,if_pos];simp only [hs,aQD,Bool.true_and,aPM];omega
    rw [this];simp
   |succ j=>
    refine aOX.2 (.inr ?_);have:=ih (k+1) j (by simpa using h)
    rwa [show k+1+j=k+(j+1) by omega] at this
 have:=key r.aOD 0 t hx;rw [aQN] at this;exact aRR.2 ⟨r,hr,this⟩
theorem jlo (y:Yd) (k t:Nat):(failK y k t).aOH.map (·.id)=y.aOH.map (·.id):=by
 unfold Go.Proofs.YtcehjhiglmifjaaGreat.failK;split
 ·rw [jc4]
  cases hr:y.aOH[k]? with
  |none=>rw [List.set_eq_of_length_le (aRJ.1 hr)]
  |some r=>rw [aPA,jnJ hr (zQ _ _).1]
 ·rfl
theorem YdI.tickI {y:Yd} (h:YdI y):∀i,i<=(kx y).length->YdI (tickI y i)/\(tickI y i).aOH.map (·.id)=y.aOH.map (·.id)/\(tickI y i).now=y.now
 |0,_=>⟨h,rfl,rfl⟩
 |i+1,hi=>by
  obtain ⟨h1,h2,h3⟩:=YdI.tickI h i (by omega)
  obtain ⟨l,hl⟩:=ja (show i<(kx y).length by omega)
  rw [jc7 hl,jl4];refine ⟨h1.failK _ _,?_,?_⟩
  ·rw [<-h2];exact jlo _ _ _
  ·rw [<-h3]
   unfold Go.Proofs.YtcehjhiglmifjaaGreat.failK;split<;>rfl
theorem jso (y:Yd) (i:Nat):∀d:Nat,i+d<=(kx y).length->SubR (tickI y i) (tickI y (i+d)):=by
 intro d
 induction d with
 |zero=>intro _;exact .refl _
 |succ d ih=>
  intro h;obtain ⟨l,hl⟩:=ja (show i+d<(kx y).length by omega)
  have h1:=ih (by omega)
  have e:tickI y (i+(d+1))=failK (tickI y (i+d)) (runAt (tickI y (i+d)) (l.headD 0)).toNat (l.tail.headD 0).toNat:=by
   rw [<-aSF,jc7 hl,jl4]
  rw [e];exact h1.trans (.failK _ _ _)
theorem jvH {y:Yd} (h:YdI y):∀r'∈(tickI y (kx y).length).aOH,∀(t:Nat) (x:Tk),r'.aOD[t]?=some x->x.aOG=3->y.now+2<=x.til:=by
 intro r' bN t x hx hs;refine aQM λaB=>?_
 obtain ⟨k,hk⟩:=aQC bN;have s0:=jso y 0 (kx y).length (by omega)
 rw [aQN] at s0;obtain ⟨r,hr,hid,-,bV⟩:=s0 k t r' x hk hx hs;have hr:y.aOH[k]?=some r:=hr;obtain ⟨i,hi⟩:=aQC (jCM (aOT hr) bV hs (by omega))
 have hil:=(aOS.1 hi).1;have s1:=jso y (i+1) ((kx y).length-(i+1)) (by omega)
 rw [show i+1+((kx y).length-(i+1))=(kx y).length by omega] at s1
 obtain ⟨r1,cK,aKL,-,bA⟩:=s1 k t r' x hk hx hs;obtain ⟨hI,fF,-⟩:=h.tickI i (by omega)
 rw [jc7 hi,jl4] at cK
 obtain ⟨r2,bZ⟩:=ja (show k<(tickI y i).aOH.length by
  have:=congrArg List.length fF;simp only [aQI] at this;rw [this];exact (aOS.1 hr).1)
 have aDN:r2.id=r.id:=by
  have e1:((tickI y i).aOH.map (·.id))[k]?=some r2.id:=by rw [aRQ,bZ];rfl
  rw [fF,aRQ,hr] at e1;exact (aPJ e1).symm
 have fB:=jnr hI.rns.eight hI.rns.ids bZ;rw [aDN] at fB;have e1:([r.id,(t:Int),x.tri]:List Int).headD 0=r.id:=rfl;have e2:(([r.id,(t:Int),x.tri]:List Int).tail.headD 0).toNat=t:=by simp
 rw [e1,e2,fB,aPB] at cK;exact jxx hI cK bA hs
theorem YdI.tick {y:Yd} (h:YdI y):YdI (jbH y):=by
 unfold jbH;split
 ·rename_i hc
  have gU:y.now+1<=999999980:=by
   unfold jbI at hc;split at hc
   ·cases hc
   ·split at hc
    ·cases hc
    ·omega
  obtain ⟨h1,h2,h3⟩:=h.tickI _ (aPD _);have key:=jvH h;have hn:=h.now;generalize Go.Proofs.YtcehjhiglmifjaaGreat.tickI y (kx y).length=z at*
  exact ⟨⟨by dsimp only;omega,gU⟩,h1.seq,h1.four,h1.sorted,⟨h1.rns.eight,h1.rns.right,h1.rns.ids,λr hr t x hx hs=>by
   have k1:=key r hr t x hx hs;have k2:=h1.rns.til r hr t x hx hs;dsimp only;omega,h1.rns.tri⟩,h1.ens,h1.room⟩
 ·exact h
theorem jvF {y:Yd} {k:Nat} {r r2:Rn} (hr:y.aOH[k]?=some r) (hn:zn r.aOD r2.aOD r2.aOD.length=[]) (h4:y.aOE.length=4):kP y k r2=ji5 y k r2:=by
 obtain ⟨-,rP⟩:=jBY r2.id;obtain ⟨l,hl⟩:=ja (show shN r2.id<y.aOE.length by rw [h4];exact rP)
 have e:y.aOE.set (shN r2.id) l=y.aOE:=by
  obtain ⟨h1,h2⟩:=aOS.1 hl;rw [<-h2];exact List.set_getElem_self h1
 rw [kP,jrI];simp only [hr,aPA,hn,hl,jgz,e,ji5]
theorem jw0 {r:Rn} (h:RunOkP r) (hs:r.aOG=1):jqU r (jaw r)/\zn r.aOD (jaw r).aOD (jaw r).aOD.length=[]:=by
 have e:jaw r=⟨r.id,r.aOF,4,vv jy r.aOD r.aOD.length⟩:=by rw [jaw,if_pos (by simp [runOk_iff.2 h,hs])]
 have aJ:=h.aOG;rw [hs] at aJ
 obtain ⟨c4,c5,c6⟩:cS 4 r.aOD≠r.aOD.length/\cS 5 r.aOD=0/\cS 6 r.aOD=0:=by
  unfold jgd at aJ;split at aJ
  ·cases aJ
  ·rename_i g
   split at aJ
   ·cases aJ
   ·split at aJ
    ·cases aJ
    ·split at aJ
     ·rename_i g2;exact ⟨g,g2.1,g2.2⟩
     ·cases aJ
 have hl:(vv jy r.aOD r.aOD.length).length=r.aOD.length:=zw
 have key:∀(j:Nat) (w:Tk),(vv jy r.aOD r.aOD.length)[j]?=some w->∃z,r.aOD[j]?=some z/\((z.aOG=4/\w=z)\/(z.aOG≠4/\w=⟨6,z.aOO,z.tri,0⟩)):=λj w hw=>by
  obtain ⟨z,hz,rfl⟩:=jgv hw;have h5:z.aOG≠5:=jtF c5 hz;refine ⟨z,hz,?_⟩;by_cases h4:z.aOG=4
  ·exact .inl ⟨h4,by simp [jy,h4]⟩
  ·exact .inr ⟨h4,by simp [jy,h4,h5]⟩
 have cJ:∀w∈vv jy r.aOD r.aOD.length,w.aOG=4\/w.aOG=6:=λw hw=>by
  obtain ⟨j,hj⟩:=aQC hw;obtain ⟨z,_,⟨h1,rfl⟩|⟨_,rfl⟩⟩:=key j w hj
  ·exact .inl h1
  ·exact .inr rfl
 have lS:∀b:Int,(stT (vv jy r.aOD r.aOD.length) b !=4)=(stT r.aOD b !=4):=by
  intro b;simp only [stT,vv,List.getElem?_mapIdx];cases hb:r.aOD[b.toNat]? with
  |none=>rfl
  |some z=>simp only [Option.map_some,aPA,if_pos (aOS.1 hb).1,js7]
 have hN:=λj=>jcm (p:=r.aOF) lS j
 have d4:cS 4 (vv jy r.aOD r.aOD.length)=cS 4 r.aOD:=by
  simp only [cS,qG,zk,aQI,hl]
  congr 1
  refine List.filter_congr λj _=>?_
  have:=lS (j:Int);cases h1:stT (vv jy r.aOD r.aOD.length) (j:Int)==4<;>cases h2:stT r.aOD (j:Int)==4<;>simp_all [bne]
 have d5:cS 5 (vv jy r.aOD r.aOD.length)=0:=jeG λz hz=>by rcases cJ z hz with g|g<;>omega
 have d1:cS 1 (vv jy r.aOD r.aOD.length)=0:=jeG λz hz=>by rcases cJ z hz with g|g<;>omega
 have d2:cS 2 (vv jy r.aOD r.aOD.length)=0:=jeG λz hz=>by rcases cJ z hz with g|g<;>omega
 have d3:cS 3 (vv jy r.aOD r.aOD.length)=0:=jeG λz hz=>by rcases cJ z hz with g|g<;>omega
 have eI:=jc5 (λz hz=>by rcases cJ z hz with g|g<;>omega) _ (aPD (vv jy r.aOD r.aOD.length).length)
 change cS 1 _+cS 2 _+cS 3 _+cS 4 _+cS 5 _+cS 6 _=_ at eI;have cR:cS 4 r.aOD<=r.aOD.length:=by simp only [cS,qG];exact va _ _ _
 have iV:zn r.aOD (vv jy r.aOD r.aOD.length) (vv jy r.aOD r.aOD.length).length=[]:=jpT (λz hz=>by rcases cJ z hz with g|g<;>omega) _ (aPD _)
 rw [e];refine ⟨⟨rfl,rfl,⟨h.id,h.aOF,by dsimp only;rw [hl];exact h.len,λj w hw=>?_,?_,by simp⟩,hl,λj z w hz hw=>?_,?_⟩,iV⟩
 ·dsimp only at hw⊢
  rw [taskB_iff,hN];obtain ⟨z,hz,⟨g1,rfl⟩|⟨g1,rfl⟩⟩:=key j w hw
  ·exact taskB_iff.1 (h.aOD j _ hz)
  ·have h3:=taskB_iff.1 (h.aOD j _ hz)
   exact ⟨by simp,h3.2.1,h3.2.2.1,rfl,by simp [vn]⟩
 ·dsimp only
  rw [jgd,if_neg (by omega),if_neg (by omega),if_pos ⟨d5,by omega,by omega⟩]
 ·obtain ⟨z',cQ,⟨g1,rfl⟩|⟨g1,rfl⟩⟩:=key j w hw
  ·rw [hz] at cQ
   obtain rfl:=aPJ cQ;exact ⟨λg=>by omega,λg=>g,λg=>by omega,λ_=>rfl,λg=>⟨g,rfl⟩⟩
  ·rw [hz] at cQ
   obtain rfl:=aPJ cQ;exact ⟨λ_=>.inr rfl,λ_=>rfl,λg=>by simp at g,λg=>by simp at g,λg=>by simp at g⟩
 ·have:=jbS h
  dsimp only;rw [iV,d2];have nD:kL ⟨r.id,r.aOF,4,vv jy r.aOD r.aOD.length⟩=0:=by simp [kL]
  rw [nD,aPU];omega
theorem YdI.cancel {y:Yd} (h:YdI y) (id:Int):YdI (kT y id):=by
 unfold kT;split
 ·rename_i hc
  unfold qp at hc;split at hc
  ·cases hc
  split at hc
  ·cases hc
  split at hc
  ·rename_i aV aJ
   obtain ⟨k,r,cD,hr,-,-⟩:=qk aV;rw [cD,aPB,hr,aPA] at aJ⊢;obtain ⟨g1,g2⟩:=jw0 (h.rns.right r (aOT hr)) aJ;rw [<-jvF hr g2 h.four];exact h.turn hr g1
  ·cases hc
 ·exact h
theorem YdI.forget {y:Yd} (h:YdI y) (id:Int):YdI (jaL y id):=by
 unfold jaL;split
 ·rename_i hc
  unfold ja3 at hc;split at hc
  ·cases hc
  split at hc
  ·cases hc
  split at hc
  ·cases hc
  rename_i aV aJ;obtain ⟨k,r,cD,hr,hid,-⟩:=qk aV;rw [cD,aPB,hr,aPA] at aJ;rw [cD,aPB];have hR:=h.rns.right r (aOT hr);have f8:(y.aOE.map λl=>l.filter (jc1 id)).flatten=y.aOE.flatten.filter (jc1 id):=by rw [List.filter_flatten]
  have bC:∀x∈y.aOH.eraseIdx k,x∈y.aOH:=λx hx=>List.mem_of_mem_eraseIdx hx
  have aK:∀x∈y.aOH.eraseIdx k,x.id≠id:=λx hx he=>by
   obtain ⟨j,oE,hj⟩:=List.mem_eraseIdx_iff_getElem?.1 hx;exact oE (jtf h.rns.ids hj hr (he.trans hid.symm))
  have xH:∀x∈y.aOH,x.id≠id->x∈y.aOH.eraseIdx k:=λx hx he=>by
   obtain ⟨j,hj⟩:=aQC hx;refine List.mem_eraseIdx_iff_getElem?.2 ⟨j,λe=>?_,hj⟩
   subst e;rw [hr] at hj;obtain rfl:=aPJ hj;exact he hid
  have mB:kL r=0:=by rw [kL,if_neg aJ]
  have hc0:cS 2 r.aOD=0:=by have:=jbS hR;omega
  have hE:EnsI (y.aOH.eraseIdx k) y.seq (y.aOE.flatten.filter (jc1 id)):=by
   refine ⟨λe he=>h.ens.range e (aQP.1 he).1,(h.ens.apart).sublist ((List.filter_sublist).map _),λe he=>?_,λr' bN t x hx hs=>?_⟩
   ·obtain ⟨nF,cA⟩:=aQP.1 he
    obtain ⟨r',bN,t,x,h1,h2,h3,h4⟩:=h.ens.own e nF;have:r'.id≠id:=by rw [<-h1];simpa [jc1] using cA
    exact ⟨r',xH r' bN this,t,x,h1,h2,h3,h4⟩
   ·have eK:=h.ens.one r' (bC r' bN) t x hx hs
    rw [<-eK];simp only [jaq,List.filter_filter]
    congr 1
    refine List.filter_congr λe _=>?_
    have:=aK r' bN;by_cases g:e.run=r'.id
    ·simp [jc1,g,this]
    ·simp [g]
  have aC:(y.aOE.flatten.filter (jc1 id)).length<=y.aOE.flatten.length:=aPT _ _
  have t1:∀f:Rn->Nat,vh f (y.aOH.eraseIdx k)+f r=vh f y.aOH:=λf=>by
   obtain ⟨hk,e⟩:=aOS.1 hr;have h1:y.aOH=y.aOH.take k++r::y.aOH.drop (k+1):=by rw [<-e];simp
   have h2:y.aOH.eraseIdx k=y.aOH.take k++y.aOH.drop (k+1):=List.eraseIdx_eq_take_drop_succ _ _;rw [h2]
   conv=>rhs;rw [h1]
   simp only [vh,aRF,List.sum_append,aQX,aRV];omega
  have t2:=t1 kL;have t3:=t1 λr=>cS 2 r.aOD
  have bE:=h.room;refine ⟨h.now,h.seq,by rw [aQI];exact h.four,λl hl=>?_,⟨?_,λr' bN=>h.rns.right r' (bC r' bN),?_,λr' bN=>h.rns.til r' (bC r' bN),λr' bN=>h.rns.tri r' (bC r' bN)⟩,by dsimp only;rw [f8];exact hE,?_⟩
  ·obtain ⟨m,hm,rfl⟩:=aQS.1 hl
   exact (h.sorted m hm).sublist List.filter_sublist
  ·have:=List.length_eraseIdx_le y.aOH k
   have:=h.rns.eight;dsimp only;omega
  ·exact (h.rns.ids).sublist ((List.eraseIdx_sublist _ _).map _)
  ·dsimp only
   rw [f8];simp only [zd] at bE⊢;omega
 ·exact h
theorem joi {p:Pl} {n t:Nat} {x:Tk} (h:(zl p n)[t]?=some x):t<n/\x=jml p t:=by
 have ht:=(aOS.1 h).1;simp only [zl,aQI,List.length_range] at ht;simp only [zl,aRQ,List.getElem?_range ht,Option.map_some] at h;exact ⟨ht,(aPJ h).symm⟩
theorem jwd {id:Int} {p:Pl} (hid:1<=id/\id<=9999) (hp:jm p=0):RunOkP (jO id p):=by
 obtain ⟨n,hn,eB,cC,dI,bU,aY,lV,iW,lO⟩:=ja8 hp;have gT:p.aOD.toNat=n:=by omega
 have aC:(zl p n).length=n:=by simp [zl]
 have cJ:∀z∈zl p n,z.aOG=1\/z.aOG=2:=λz hz=>by
  obtain ⟨j,hj⟩:=aQC hz;obtain ⟨_,rfl⟩:=joi hj;simp only [jml];split
  ·exact .inl rfl
  ·exact .inr rfl
 have aJ:∀b:Int,(stT (zl p n) b !=4)=true:=λb=>by
  simp only [stT];cases hb:(zl p n)[b.toNat]? with
  |none=>rfl
  |some z=>
   rcases cJ z (aOT hb) with g|g<;>simp [g]
 have hN:∀j:Nat,jaZ p (zl p n) j=((zK p j).length:Int):=λj=>by
  have:(zK p j).filter (λb=>stT (zl p n) b !=4)=zK p j:=List.filter_eq_self.2 λb _=>aJ b
  simp only [jaZ,this]
 have c4:cS 4 (zl p n)=0:=jeG λz hz=>by rcases cJ z hz with g|g<;>omega
 have c5:cS 5 (zl p n)=0:=jeG λz hz=>by rcases cJ z hz with g|g<;>omega
 have c6:cS 6 (zl p n)=0:=jeG λz hz=>by rcases cJ z hz with g|g<;>omega
 have e:jO id p=⟨id,p,1,zl p n⟩:=by rw [jO,gT]
 rw [e];refine ⟨by simp [inB,hid],hp,by dsimp only;rw [aC];exact hn.symm,λj w hw=>?_,?_,by simp⟩
 ·dsimp only at hw⊢
  obtain ⟨hj,rfl⟩:=joi hw;rw [taskB_iff,hN];have dU:=iW.1;by_cases hz:0<(zK p j).length
  ·have cQ:(0:Int)<(zK p j).length:=by omega
   refine ⟨by simp [jml,hz],rfl,by simp only [jml];omega,by simp [jbB,jml,hz],?_⟩
   simp only [vn,jml,if_pos hz,if_true,aPM];exact cQ
  ·have fX:(zK p j).length=0:=by omega
   have wU:(0:Int)<p.aOQ:=by omega
   refine ⟨by simp [jml,hz],rfl,by simp only [jml];omega,by simp [jbB,jml,hz],?_⟩
   simp [vn,jml,fX,wU]
 ·dsimp only
  rw [jgd,if_neg (by rw [c4,aC];omega),if_neg (by omega),if_neg (by omega),if_pos ⟨c5,c6⟩]
theorem YdI.sub {y:Yd} (h:YdI y) (id:Int) (p:Pl):YdI (jaS y id p):=by
 unfold jaS;split
 ·rename_i hc
  unfold jbu at hc;split at hc
  ·cases hc
  split at hc
  ·cases hc
  split at hc
  ·cases hc
  split at hc
  ·rename_i g1 g2 g3 g4;exact absurd hc g4
  split at hc
  ·cases hc
  rename_i g1 g2 g3 g4 g5;have hid:1<=id/\id<=9999:=aQM λg=>g2 g
  have hp:jm p=0:=aQM λg=>g4 g
  have bE:kX y p=true:=by simpa using g5
  simp only [kX,aPG,aPM] at bE;obtain ⟨r1,⟨r2,r2'⟩,r3,r4⟩:=bE;have aR:=yard_iff.1 (show jt y=true by simpa using g1)
  have hR:=jwd hid hp;obtain ⟨n,hn,eB,cC,dI,bU,aY,lV,iW,lO⟩:=ja8 hp
  have cB:∀r∈y.aOH,r.id≠id:=λr hr he=>by
   obtain ⟨k,hk⟩:=aQC hr;have:=jnr h.rns.eight h.rns.ids hk;rw [he] at this;omega
  have aC:(jO id p).aOD.length=n:=by simp only [jO,zl,aQI,List.length_range];omega
  have aJ:∀(t:Nat) (x:Tk),(jO id p).aOD[t]?=some x->(x.aOG=1\/x.aOG=2)/\x.tri=0:=λt x hx=>by
   obtain ⟨_,rfl⟩:=joi (p:=p) (n:=p.aOD.toNat) hx;refine ⟨?_,rfl⟩;simp only [jml];split
   ·exact .inl rfl
   ·exact .inr rfl
  have eA:∀t,jaq id t y.aOE.flatten=0:=λt=>joJ λe he=>by
   rintro ⟨k1,_⟩;obtain ⟨r',bN,_,_,h1,_⟩:=h.ens.own e he;exact cB r' bN (h1.symm.trans k1)
  have fF:((y.aOH++[jO id p]).map (·.id)).Nodup:=by
   rw [aRF];refine aPC.2 ⟨h.rns.ids,by simp,λa ha b hb e=>?_⟩
   obtain ⟨r',bN,rfl⟩:=aQS.1 ha;simp only [aQX,List.map_nil,aRK] at hb;exact cB r' bN (e.trans hb)
  have hRn:RnsI y.now (y.aOH++[jO id p]):=by
   refine ⟨by rw [aOU,List.length_singleton];omega,λr hr=>?_,fF,λr hr t x hx hs=>?_,λr hr x hx hs=>?_⟩
   ·rcases aOX.1 hr with hr|hr
    ·exact h.rns.right r hr
    ·rw [aRK] at hr;rw [hr];exact hR
   ·rcases aOX.1 hr with hr|hr
    ·exact h.rns.til r hr t x hx hs
    ·rw [aRK] at hr;subst hr
     rcases (aJ t x hx).1 with g|g<;>omega
   ·rcases aOX.1 hr with hr|hr
    ·exact h.rns.tri r hr x hx hs
    ·rw [aRK] at hr;subst hr
     obtain ⟨t,ht⟩:=aQC hx;exact (aJ t x ht).2
  obtain ⟨-,rP⟩:=jBY (jO id p).id;obtain ⟨l,hl⟩:=ja (show shN (jO id p).id<y.aOE.length by rw [h.four];exact rP)
  have e:jrI ⟨y.now,y.seq,y.aOE,y.aOH++[jO id p]⟩ (jO id p) (qG 2 (jO id p).aOD)=⟨y.now,y.seq+(qG 2 (jO id p).aOD).length,y.aOE.set (shN (jO id p).id) (zo (jO id p).aOF.aOL (jO id p).id (qG 2 (jO id p).aOD) (l,y.seq)).1,y.aOH++[jO id p]⟩:=by
   rw [jrI];simp only [hl,aPA,zx]
  obtain ⟨rest,p1,p2⟩:=zV hl (zo (jO id p).aOF.aOL (jO id p).id (qG 2 (jO id p).aOD) (l,y.seq)).1
  have hpm:(jm3 (jO id p).aOF.aOL (jO id p).id y.seq (qG 2 (jO id p).aOD)++y.aOE.flatten).Perm (y.aOE.set (shN (jO id p).id) (zo (jO id p).aOF.aOL (jO id p).id (qG 2 (jO id p).aOD) (l,y.seq)).1).flatten:=by
   refine ((aRN _ p1).trans ?_).trans p2.symm;rw [<-aPH];exact ((jgy _ _ _ _ _).symm).append_right _
  have hE:EnsI (y.aOH++[jO id p]) (y.seq+(qG 2 (jO id p).aOD).length) (jm3 (jO id p).aOF.aOL (jO id p).id y.seq (qG 2 (jO id p).aOD)++y.aOE.flatten):=by
   refine jw5 h.ens h.seq fF (by simp) (jmD _ _) (λt ht=>tinL_mem.1 ht) (λe he=>?_) (λr' bN hi=>?_) (λt x hx hs ht=>?_) (λt ht=>eA t)
   ·obtain ⟨r',bN,t,x,k⟩:=h.ens.own e he
    exact ⟨r',by simp [bN],t,x,k⟩
   ·rcases aOX.1 bN with bN|bN
    ·exact bN
    ·rw [aRK] at bN;exact absurd (by rw [bN]) hi
   ·exact absurd (tinL_mem.2 ⟨t,x,rfl,hx,hs⟩) ht
  have hlen2:=hpm.length_eq;rw [aOU,joj] at hlen2;have bE:=h.room
  have fH:vh kL y.aOH+y.aOE.flatten.length<=40+zd y.aOH-n:=by
   have hf:=zA h.rns.eight h.rns.ids h.ens;have cH:=jef h.rns.right
   have aEB:qi y (zY y)+(y.aOE.flatten.filter (jJ y)).length=y.aOE.flatten.length:=by
    simp only [qi,zY,aRA];have:=List.length_eq_countP_add_countP (jJ y) (l:=y.aOE.flatten);simp only [aRA] at this;have e:y.aOE.flatten.filter (λe=>!jJ y e)=y.aOE.flatten.filter (λa=>decide ¬jJ y a=true):=List.filter_congr λa _=>by cases jJ y a<;>rfl
    rw [e];omega
   simp only [kG] at r3;omega
  have nD:kL (jO id p)=n:=by
   have h1:(jO id p).aOG=1:=rfl;rw [kL,if_pos h1,aC]
  rw [e];refine ⟨h.now,by have:=h.seq;dsimp only;omega,by rw [aPF];exact h.four,λm hm=>?_,hRn,hE.perm hpm,?_⟩
  ·rcases List.mem_or_eq_of_mem_set hm with hm|rfl
   ·exact h.sorted m hm
   ·exact jol _ _ _ (h.sorted l (aOT hl)) λx hx=>by
     have:=h.ens.range x (aRS.2 ⟨l,aOT hl,hx⟩);omega
  ·have q1:=jsn kL y.aOH (jO id p)
   have q2:=jsn (λr:Rn=>cS 2 r.aOD) y.aOH (jO id p)
   have q3:cS 2 (jO id p).aOD=(qG 2 (jO id p).aOD).length:=rfl;simp only [zd] at fH⊢;omega
 ·exact h
theorem EnsI.sweep {y:Yd} {q:Int} {l rest:List En} (h8:y.aOH.length<=8) (hi:(y.aOH.map (·.id)).Nodup) (h:EnsI y.aOH q (l++rest)):EnsI y.aOH q (l.filter (jJ y)++rest):=by
 have hs:(l.filter (jJ y)++rest).Sublist (l++rest):=List.Sublist.append List.filter_sublist (List.Sublist.refl _);refine ⟨λe he=>h.range e (hs.subset he),h.apart.sublist (hs.map _),λe he=>h.own e (hs.subset he),λr hr t x hx aJ=>?_⟩
 rw [<-h.one r hr t x hx aJ,jiY,jiY]
 congr 1
 simp only [jaq,List.filter_filter]
 congr 1
 refine List.filter_congr λe _=>?_
 by_cases g:e.run=r.id/\e.aOK=t
 ·have:jJ y e=true:=by rw [jki h8 hi hr g.1 g.2 hx,aJ];rfl
  simp [g.1,g.2,this]
 ·have:(e.run==r.id&&e.aOK==(t:Int))=false:=by
   simp only [Bool.and_eq_false_iff,beq_eq_false_iff_ne,ne_eq];by_cases h3:e.run=r.id
   ·exact .inr λh4=>g ⟨h3,h4⟩
   ·exact .inl h3
  rw [this];rfl
theorem YdI.aOE {y:Yd} (h:YdI y) {sh:List (List En)} (h4:sh.length=4) (hs:∀l∈sh,SrtP l) (he:EnsI y.aOH y.seq sh.flatten) (hl:sh.flatten.length<=y.aOE.flatten.length):YdI ⟨y.now,y.seq,sh,y.aOH⟩:=
 ⟨h.now,h.seq,h4,hs,h.rns,he,by have:=h.room;dsimp only;omega⟩
theorem YdI.swept {y:Yd} (h:YdI y) (k:Int):YdI (qr y k):=by
 unfold qr;split
 ·rename_i hk
  obtain ⟨n,rfl⟩:=Int.eq_ofNat_of_zero_le hk.1;obtain ⟨l,hl⟩:=ja (show n<y.aOE.length by omega)
  rw [aPB,hl,aPA];obtain ⟨rest,p1,p2⟩:=zV hl (l.filter (jJ y));refine h.aOE (by rw [aPF];exact h.four) (λm hm=>?_) (((h.ens.perm p1).sweep h.rns.eight h.rns.ids).perm p2.symm) ?_
  ·rcases List.mem_or_eq_of_mem_set hm with hm|rfl
   ·exact h.sorted m hm
   ·exact (h.sorted l (aOT hl)).sublist List.filter_sublist
  ·have a1:=p1.length_eq
   have a2:=p2.length_eq;rw [aOU] at a1 a2;have:=aPT (jJ y) l;omega
 ·exact h
theorem YdI.flat_le {y:Yd} (h:YdI y):y.aOE.flatten.length<=40:=by
 have:=jef h.rns.right;have:=h.room;omega
theorem jll {sh:List (List En)} {l:List En} {k:Nat} (h:sh[k]?=some l):l.length<=sh.flatten.length:=(List.sublist_flatten_of_mem (aOT h)).length_le
theorem YdI.pollV {z:Yd} {hm v:Nat} (h:YdI z) (hv:v<4) (hh:hm<4) (aK:v≠hm):YdI (pollV z hm v):=by
 obtain ⟨l,hl⟩:=ja (show v<z.aOE.length by rw [h.four];exact hv)
 obtain ⟨a,ha⟩:=ja (show hm<z.aOE.length by rw [h.four];exact hh)
 obtain ⟨e1,e2⟩:=jgp hl ha aK;have hS:=h.swept v;rw [e1] at hS;rw [e2];have bO:v<z.aOE.length:=(aOS.1 hl).1;have g1:(z.aOE.set v (l.filter (jJ z)))[v]?=some (l.filter (jJ z)):=aOY bO;have g2:(z.aOE.set v (l.filter (jJ z)))[hm]?=some a:=by rw [aPW aK];exact ha
 generalize hL:l.filter (jJ z)=L at*;obtain ⟨rest,p1,p2⟩:=zV g1 (ja2 L);have g3:((z.aOE.set v L).set v (ja2 L))[hm]?=some a:=by rw [aPW aK];exact g2
 obtain ⟨rest2,p3,p4⟩:=zV g3 (kS a (vf L));rw [aQB] at p2 p3 p4;have f8:=hS.flat_le
 have hsm:a.length+(vf L).length<=80:=by
  have b1:a.length<=(z.aOE.set v L).flatten.length:=jll g2;have b2:L.length<=(z.aOE.set v L).flatten.length:=jll g1;have b3:(vf L).length<=L.length:=by simp only [vf,aOZ];omega
  dsimp only at f8;omega
 have hmg:kS a (vf L)=(vf L).foldl jcy a:=by rw [kS,if_neg (by omega)]
 have hp:(z.aOE.set v L).flatten.Perm ((z.aOE.set v (ja2 L)).set hm (kS a (vf L))).flatten:=by
  rw [hmg];have hLs:(vf L++ja2 L)=L:=by simp [vf,ja2]
  have q1:(z.aOE.set v L).flatten.Perm (vf L++(a++rest2)):=by
   refine p1.trans ?_
   conv=>lhs;rw [<-hLs]
   rw [aPH];exact aRN _ (p2.symm.trans p3)
  refine q1.trans ?_;rw [hmg] at p4;refine List.Perm.trans ?_ p4.symm;rw [<-aPH];refine List.Perm.append_right _ ?_;exact (aRO).trans (jgo (vf L) a).symm
 have hE:=hS.ens.perm hp;refine h.aOE (by rw [aPF,aPF];exact h.four) (λm fY=>?_) hE ?_
 ·rcases List.mem_or_eq_of_mem_set fY with fY|rfl
  ·rcases List.mem_or_eq_of_mem_set fY with fY|rfl
   ·exact h.sorted m fY
   ·exact (hS.sorted L (aOT g1)).sublist (List.drop_sublist _ _)
  ·rw [hmg]
   refine jsU (hS.sorted a (aOT g2)) ?_;have hap:=hE.apart;have hp4:=(p4.map (·.seq)).nodup_iff.1 hap
   rw [aRF] at hp4;have hp5:=(aPC.1 hp4).1;rw [hmg] at hp5;exact ((jgo (vf L) a).map (·.seq)).nodup_iff.1 hp5
 ·rw [<-hp.length_eq]
  have:(z.aOE.set v L).flatten.length<=z.aOE.flatten.length:=by
   obtain ⟨r3,c1,c2⟩:=zV hl L;have c1:=c1.length_eq;have c2:=c2.length_eq;rw [aOU] at c1 c2;have:L.length<=l.length:=by rw [<-hL];exact aPT _ _
   omega
  exact this
theorem YdI.pollF {hm:Nat} (hh:hm<4):∀(vs:List Int) (z:Yd),(∀v∈vs,∃n:Nat,v=n/\n<4/\n≠hm)->YdI z->YdI (pollF hm vs z)
 |[],z,_,h=>h
 |v::vs,z,hv,h=>by
  unfold Go.Proofs.YtcehjhiglmifjaaGreat.pollF;split
  ·obtain ⟨n,rfl,h4,aK⟩:=hv v (by simp)
   exact YdI.pollF hh vs _ (λw hw=>hv w (by simp [hw])) (h.pollV h4 hh aK)
  ·exact h
theorem YdI.pollZ {y:Yd} (h:YdI y) {hm:Nat} (hh:hm<4) (aOM:Int):YdI (pollZ y hm aOM):=by
 obtain ⟨a,b,c,e,ha,hb,hc,na,nb,nc⟩:=jd6 hh aOM;unfold Go.Proofs.YtcehjhiglmifjaaGreat.pollZ;rw [e];refine YdI.pollF hh _ _ (λv hv=>?_) (h.swept hm)
 simp only [aPL,List.not_mem_nil,or_false] at hv;rcases hv with rfl|rfl|rfl
 ·exact ⟨a,rfl,ha,na⟩
 ·exact ⟨b,rfl,hb,nb⟩
 ·exact ⟨c,rfl,hc,nc⟩
theorem jsv {r:Rn} {t:Nat} {x:Tk} {now:Int} (h:RunOkP r) (hx:r.aOD[t]?=some x) (hs:x.aOG=2) (hn:0<=now/\now<=999999980):RunOkP (kD r t x now)/\(kD r t x now).aOD=r.aOD.set t ⟨3,x.aOO,x.tri+1,now+r.aOF.aOP⟩:=by
 obtain ⟨n,lW,eB,cC,dI,bU,aY,lV,iW,lO⟩:=ja8 h.aOF;have ht:=(aOS.1 hx).1;have bA:=taskB_iff.1 (h.aOD t x hx);have gH:=bA.2.2.2.2
 have gH:x.aOO=0/\x.tri<r.aOF.aOQ:=by
  simp only [vn,hs] at gH;simpa using gH
 have sO:=bA.2.2.1;have w1:IntKind.i64.wrap (x.tri+1)=x.tri+1:=zm;have w2:IntKind.i64.wrap (now+r.aOF.aOP)=now+r.aOF.aOP:=zm;have e:kD r t x now=⟨r.id,r.aOF,r.aOG,r.aOD.set t ⟨3,x.aOO,x.tri+1,now+r.aOF.aOP⟩⟩:=by rw [kD,jvS,w1,w2]
 have aJ:=h.aOG;have c2:=jtE (s:=2) hx hs;have hl:=jbS h
 have fN:r.aOG=1:=by
  unfold kL at hl;split at hl
  ·assumption
  ·omega
 rw [fN] at aJ
 obtain ⟨c4,c5,c6⟩:cS 4 r.aOD≠r.aOD.length/\cS 5 r.aOD=0/\cS 6 r.aOD=0:=by
  unfold jgd at aJ;split at aJ
  ·cases aJ
  ·rename_i g
   split at aJ
   ·cases aJ
   ·split at aJ
    ·cases aJ
    ·split at aJ
     ·rename_i g2;exact ⟨g,g2.1,g2.2⟩
     ·cases aJ
 have hN:∀j:Int,jaZ r.aOF (r.aOD.set t ⟨3,x.aOO,x.tri+1,now+r.aOF.aOP⟩) j=jaZ r.aOF r.aOD j:=jcm (jq7 hx (by simp [hs]))
 have d5:cS 5 (r.aOD.set t ⟨3,x.aOO,x.tri+1,now+r.aOF.aOP⟩)=0:=jeG (ji4 (q:=λs=>s≠5) (by simp) λy hy=>by obtain ⟨k,hk,rfl⟩:=aPY hy;exact jtF c5 (aOV hk))
 have d6:cS 6 (r.aOD.set t ⟨3,x.aOO,x.tri+1,now+r.aOF.aOP⟩)=0:=jeG (ji4 (q:=λs=>s≠6) (by simp) λy hy=>by obtain ⟨k,hk,rfl⟩:=aPY hy;exact jtF c6 (aOV hk))
 have d3:=jtE (s:=3) (aOY ht:(r.aOD.set t ⟨3,x.aOO,x.tri+1,now+r.aOF.aOP⟩)[t]?=some _) rfl;have aCJ:∀z∈r.aOD.set t ⟨3,x.aOO,x.tri+1,now+r.aOF.aOP⟩,1<=z.aOG/\z.aOG<=6:=ji4 (q:=λs=>1<=s/\s<=6) (by simp) h.st
 have eI:=jc5 aCJ _ (aPD _);change cS 1 _+cS 2 _+cS 3 _+cS 4 _+cS 5 _+cS 6 _=_ at eI;rw [e];refine ⟨⟨h.id,h.aOF,by dsimp only;rw [aPF];exact h.len,λj z hz=>?_,?_,by dsimp only;omega⟩,rfl⟩
 ·dsimp only at hz⊢
  rw [aQK] at hz;by_cases ej:t=j
  ·subst ej
   rw [if_pos rfl,if_pos ht] at hz;obtain rfl:=aPJ hz;rw [taskB_iff,hN];refine ⟨by simp,bA.2.1,by dsimp only;omega,?_,?_⟩
   ·simp only [jbB,if_true,inB,aPM];omega
   ·have:1<=x.tri+1:=by omega
    simp [vn,gH.1,this]
  ·rw [if_neg ej] at hz
   have:=taskB_iff.1 (h.aOD j z hz);rw [taskB_iff,hN];exact this
 ·dsimp only
  rw [fN,jgd,if_neg (by omega),if_neg (by omega),if_neg (by omega),if_pos ⟨d5,d6⟩]
theorem YdI.hand {Z:Yd} {hm:Nat} {e:En} {l:List En} {k t:Nat} {r:Rn} {x:Tk} (h:YdI Z) (ha:Z.aOE[hm]?=some (e::l)) (cD:runAt Z e.run=k) (hr:Z.aOH[k]?=some r) (iX:e.aOK=t) (hx:r.aOD[t]?=some x) (hs:x.aOG=2):YdI (jgI Z hm e l):=by
 have hR:=h.rns.right r (aOT hr);obtain ⟨aR,dV⟩:=jsv hR hx hs h.now;have hk:=(aOS.1 hr).1;have ht:=(aOS.1 hx).1
 have hH:jgI Z hm e l=⟨Z.now,Z.seq,Z.aOE.set hm l,Z.aOH.set k (kD r t x Z.now)⟩:=by
  simp only [jgI,cD,iX,aPB,hr,hx,aPA]
 have rR:r.id=e.run:=by
  have aV:¬runAt Z e.run<0:=by rw [cD];omega
  obtain ⟨k',r',h1,h2,h3,_⟩:=qk aV;rw [cD] at h1;obtain rfl:k=k':=by omega
  rw [hr] at h2;obtain rfl:=aPJ h2;exact h3
 obtain ⟨rest,p1,p2⟩:=zV ha l;have wT:=h.ens.perm p1;have eK:=wT.one r (aOT hr) t x hx hs
 have aEB:jaq r.id t (l++rest)=0:=by
  have:jaq r.id t ((e::l)++rest)=jaq r.id t (l++rest)+1:=by
   simp [jaq,rR,iX]
  omega
 have bC:(l++rest).Sublist ((e::l)++rest):=List.Sublist.append (List.sublist_cons_self _ _) (List.Sublist.refl _);have fF:=jnJ (r2:=kD r t x Z.now) hr rfl
 have eF:∀(j:Nat) (z w:Tk),r.aOD[j]?=some z->(kD r t x Z.now).aOD[j]?=some w->(j=t/\w=⟨3,x.aOO,x.tri+1,Z.now+r.aOF.aOP⟩)\/(j≠t/\w=z):=λj z w hz hw=>by
  rw [dV,aQK] at hw;by_cases ej:t=j
  ·subst ej
   rw [if_pos rfl,if_pos ht] at hw;exact .inl ⟨rfl,(aPJ hw).symm⟩
  ·rw [if_neg ej,hz] at hw
   exact .inr ⟨λg=>ej g.symm,(aPJ hw).symm⟩
 have o5:(kD r t x Z.now).aOD.length=r.aOD.length:=by rw [dV,aPF]
 have hgs:∀(j:Nat) (w:Tk),(kD r t x Z.now).aOD[j]?=some w->∃z,r.aOD[j]?=some z/\((j=t/\w=⟨3,x.aOO,x.tri+1,Z.now+r.aOF.aOP⟩)\/(j≠t/\w=z)):=λj w hw=>by
  obtain ⟨z,hz⟩:=ja (show j<r.aOD.length by rw [<-o5];exact (aOS.1 hw).1)
  exact ⟨z,hz,eF j z w hz hw⟩
 obtain ⟨n,lW,eB,cC,dI,bU,aY,lV,iW,lO⟩:=ja8 hR.aOF
 have hRn:RnsI Z.now (Z.aOH.set k (kD r t x Z.now)):=by
  refine ⟨by rw [aPF];exact h.rns.eight,λr' bN=>?_,by rw [fF];exact h.rns.ids,λr' bN j w hw aJ=>?_,λr' bN w hw aJ=>?_⟩
  ·rcases jdb bN with rfl|⟨j,_,hj⟩
   ·exact aR
   ·exact h.rns.right r' (aOT hj)
  ·rcases jdb bN with rfl|⟨i,_,hi⟩
   ·obtain ⟨z,hz,⟨rfl,rfl⟩|⟨_,rfl⟩⟩:=hgs j w hw
    ·show Z.now+1<=Z.now+r.aOF.aOP/\Z.now+r.aOF.aOP<=Z.now+r.aOF.aOP
     omega
    ·exact h.rns.til r (aOT hr) j _ hz aJ
   ·exact h.rns.til r' (aOT hi) j w hw aJ
  ·rcases jdb bN with rfl|⟨i,_,hi⟩
   ·obtain ⟨j,hj⟩:=aQC hw
    obtain ⟨z,hz,⟨rfl,rfl⟩|⟨_,rfl⟩⟩:=hgs j w hj
    ·simp at aJ
    ·exact h.rns.tri r (aOT hr) _ (aOT hz) aJ
   ·exact h.rns.tri r' (aOT hi) w hw aJ
 have hE:EnsI (Z.aOH.set k (kD r t x Z.now)) Z.seq (l++rest):=by
  refine ⟨λf hf=>wT.range f (bC.subset hf),wT.apart.sublist (bC.map _),λf hf=>?_,λr' bN j w hw aJ=>?_⟩
  ·obtain ⟨r',bN,j,z,h1,h2,h3,h4⟩:=wT.own f (bC.subset hf)
   obtain ⟨i,hi⟩:=aQC bN;by_cases eik:k=i
   ·subst eik
    rw [hr] at hi;obtain rfl:=aPJ hi
    have d7:j≠t:=λe=>by
     subst e;have:=jDo hf h1 h2;omega
    refine ⟨kD r t x Z.now,aOT (aOY hk),j,z,h1,h2,?_,h4⟩;rw [dV,aPW (λe=>d7 e.symm)];exact h3
   ·exact ⟨r',aOT (i:=i) (by rw [aPW eik];exact hi),j,z,h1,h2,h3,h4⟩
  ·have l6:∀(id u:Int),¬(e.run=id/\e.aOK=u)->jaq id u ((e::l)++rest)=jaq id u (l++rest):=λid u g=>by
    have:(e.run==id&&e.aOK==u)=false:=by
     simp only [Bool.and_eq_false_iff,beq_eq_false_iff_ne,ne_eq];by_cases h3:e.run=id
     ·exact .inr λh4=>g ⟨h3,h4⟩
     ·exact .inl h3
    simp [jaq,this]
   rcases jdb bN with rfl|⟨i,yI,hi⟩
   ·obtain ⟨z,hz,⟨rfl,rfl⟩|⟨d7,rfl⟩⟩:=hgs j w hw
    ·simp at aJ
    ·have:=wT.one r (aOT hr) j _ hz aJ
     rw [l6 _ _ (λg=>d7 (by have:=g.2;omega))] at this
     exact this
   ·have:=wT.one r' (aOT hi) j w hw aJ
    rw [l6 _ _ (λg=>by
     have e1:r.id=r'.id:=rR.trans g.1;exact yI (jtf h.rns.ids hi hr e1.symm))] at this
    exact this
 have mJ:cS 2 r.aOD<=cS 2 (kD r t x Z.now).aOD+1:=by
  simp only [cS,qG,zk,aQI,o5]
  have h1:∀n,((List.range n).filter λ(j:Nat)=>stT r.aOD (j:Int)==2).length<=((List.range n).filter λ(j:Nat)=>stT (kD r t x Z.now).aOD (j:Int)==2).length+if t<n then 1 else 0:=λn=>by
   induction n with
   |zero=>simp
   |succ n ih=>
    rw [List.range_succ,aRD,aRD,aOU,aOU];by_cases ent:n=t
    ·subst ent
     simp only [aRX,List.filter_nil];split<;>split<;>simp_all<;>omega
    ·have e3:stT (kD r t x Z.now).aOD (n:Int)=stT r.aOD (n:Int):=by
      simp only [stT,aPB,dV,aPW (λe=>ent e.symm)]
     simp only [aRX,List.filter_nil,e3];split<;>simp<;>split at ih<;>split<;>omega
  have:=h1 r.aOD.length;rw [if_pos ht] at this;exact this
 have t1:=qZ (f:=kL) (kD r t x Z.now) hr;have t2:=qZ (f:=λr:Rn=>cS 2 r.aOD) (kD r t x Z.now) hr
 have nD:kL (kD r t x Z.now)=kL r:=by
  have:(kD r t x Z.now).aOG=r.aOG:=rfl;simp only [kL,this,o5]
 have a1:=p1.length_eq;have a2:=p2.length_eq;rw [aOU] at a1 a2;rw [aPI] at a1;have bE:=h.room;rw [hH];refine ⟨h.now,h.seq,by rw [aPF];exact h.four,λm fY=>?_,hRn,hE.perm p2.symm,?_⟩
 ·rcases List.mem_or_eq_of_mem_set fY with fY|rfl
  ·exact h.sorted m fY
  ·exact (h.sorted _ (aOT ha)).sublist (List.sublist_cons_self _ _)
 ·simp only [zd] at bE⊢
  omega
theorem YdI.poll {y:Yd} (h:YdI y) (aOJ aOM:Int):YdI (qu y aOJ aOM):=by
 unfold qu;split
 ·exact h
 ·rename_i hc
  have aR:jt y=true:=by
   cases h:jt y with
   |true=>rfl
   |false=>exact absurd (.inl h) hc
  have hw:0<=aOJ/\aOJ<=99:=by
   refine aQM λh=>hc (.inr h)
  have eZ:(aOJ.tmod 4).toNat<4:=by rw [aQA hw.1];omega
  have hI:=jnV (yard_iff.1 aR) eZ aOM;have hZ:=h.pollZ eZ aOM;split
  ·exact hZ
  ·rename_i e l he
   generalize (aOJ.tmod 4).toNat=hm at*
   have ha:(Go.Proofs.YtcehjhiglmifjaaGreat.pollZ y hm aOM).aOE[hm]?=some (e::l):=by
    rw [jbc] at he;cases hs:(Go.Proofs.YtcehjhiglmifjaaGreat.pollZ y hm aOM).aOE[hm]? with
    |none=>rw [hs] at he;simp at he
    |some x=>rw [hs,aPA] at he;rw [he]
   generalize Go.Proofs.YtcehjhiglmifjaaGreat.pollZ y hm aOM=Z at*;obtain ⟨k,t,r,x,cD,hr,iX,hx,lN⟩:=jkj (hI.frs _ ha e (by simp))
   rw [<-hI.aOH] at hr;have mI:runAt Z e.run=(k:Int):=by rw [<-cD];unfold runAt;rw [hI.aOH]
   exact hZ.hand ha mI hr iX hx lN
theorem YdI.do {y:Yd} (h:YdI y) (d:Dd):YdI (doY y d):=by
 unfold doY
 repeat' split
 ·exact h
 ·exact h.sub _ _
 ·exact h.poll _ _
 ·exact h.comp _ _ _
 ·exact h.fail _ _ _
 ·exact h.tick
 ·exact h.cancel _
 ·exact h.forget _
 ·exact h.rest
abbrev Cu:=Nat×Int
def jtO (a b:Int):Int:=IntKind.i64.wrap ((BitVec.ofInt 64 a&&&BitVec.ofInt 64 b).toNat)
theorem jF7 (a:Int) (m:Nat) (hm:m<2^62):0<=jtO a (m:Int)/\jtO a (m:Int)<=m:=by
 have h2:(BitVec.ofInt 64 a&&&BitVec.ofInt 64 (m:Int)).toNat<=m:=by
  rw [BitVec.toNat_and,BitVec.ofInt_natCast,BitVec.toNat_ofNat,Nat.mod_eq_of_lt (a:=m) (by omega)]
  exact Nat.and_le_right
 rw [jtO,kU (by omega) (by omega)]
 omega
theorem joT (a:Int):0<=jtO a 255/\jtO a 255<=255:=jF7 a 255 (by decide)
def jqu (h:Int):Int:=IntKind.i64.wrap (IntKind.i64.wrap (h*6364136223846793005)+1442695040888963407)
def jBm (h:Int):Int:=jtO (jvo (h.fdiv (2^33)) (h.fdiv (2^45))) 255
def kH (c:List UInt8) (s:Cu):Int×Cu:=match c[s.1]? with
 |some u=>(jtO (jBm (jqu s.2)+(u.toNat:Int)) 255,(s.1+1,jqu s.2))
 |none=>(jBm (jqu s.2),(s.1,jqu s.2))
theorem jaM (c:List UInt8) (s:Cu):0<=(kH c s).1/\(kH c s).1<=255:=by
 unfold kH;split
 ·exact joT _
 ·exact joT _
theorem jaN {c:List UInt8} {s:Cu} (h:s.1<=c.length):(kH c s).2.1<=c.length:=by
 unfold kH;split
 ·rename_i u hu
  have:=(aOS.1 hu).1;dsimp only;omega
 ·exact h
def jh (c:List UInt8) (n:Int) (s:Cu):Int×Cu:=
 if n<=0 then (0,s) else if n<=256 then ((kH c s).1.tmod n,(kH c s).2)
 else (((kH c s).1*16777216+(kH c (kH c s).2).1*65536+(kH c (kH c (kH c s).2).2).1*256+(kH c (kH c (kH c (kH c s).2).2).2).1).tmod n,(kH c (kH c (kH c (kH c s).2).2).2).2)
theorem jP (c:List UInt8) {n:Int} (s:Cu) (hn:0<n):0<=(jh c n s).1/\(jh c n s).1<n:=by
 unfold jh;rw [if_neg (by omega)]
 split
 ·have:=jaM c s
  exact ⟨Int.tmod_nonneg _ this.1,Int.tmod_lt_of_pos _ hn⟩
 ·refine ⟨Int.tmod_nonneg _ ?_,Int.tmod_lt_of_pos _ hn⟩
  have h1:=jaM c s;have h2:=jaM c (kH c s).2;have h3:=jaM c (kH c (kH c s).2).2;have h4:=jaM c (kH c (kH c (kH c s).2).2).2;omega
theorem jo {c:List UInt8} {n:Int} {s:Cu} (h:s.1<=c.length):(jh c n s).2.1<=c.length:=by
 unfold jh;split
 ·exact h
 ·split
  ·exact jaN h
  ·exact jaN (jaN (jaN (jaN h)))
def jap (c:List UInt8) (n:Int):Nat->Nat->List Ed->Cu->List Ed×Cu
 |0,_,E,s=>(E,s)
 |f+1,i,E,s=>let m:=jh c 9 s
  if (i:Int)<m.1/\1<n then
   let a:=jh c (n-1) m.2;let b:=jh c (1+a.1) a.2
   jap c n f (i+1) (if (⟨b.1,1+a.1⟩:Ed)∈E then E else E++[⟨b.1,1+a.1⟩]) b.2
  else (E,m.2)
structure EdsI (n:Int) (E:List Ed):Prop where
 nd:E.Nodup
 up:∀e∈E,0<=e.src/\e.src<e.dst/\e.dst<n
theorem EdsI.add {n:Int} {E:List Ed} {e:Ed} (h:EdsI n E) (he:0<=e.src/\e.src<e.dst/\e.dst<n):EdsI n (if e∈E then E else E++[e]):=by
 split
 ·exact h
 ·rename_i hn
  refine ⟨aPC.2 ⟨h.nd,by simp,λx hx y hy e1=>?_⟩,λx hx=>?_⟩
  ·simp at hy;subst hy;subst e1;exact hn hx
  ·rcases aOX.1 hx with hx|hx
   ·exact h.up x hx
   ·simp at hx;subst hx;exact he
theorem jls (c:List UInt8) (n:Int):∀(f i:Nat) (E:List Ed) (s:Cu),EdsI n E->EdsI n (jap c n f i E s).1/\(jap c n f i E s).1.length<=E.length+f
 |0,i,E,s,h=>⟨h,aPD _⟩
 |f+1,i,E,s,h=>by
  rw [jap];dsimp only;split
  ·rename_i hc
   have ha:=jP c (n:=n-1) (jh c 9 s).2 (by omega)
   have hb:=jP c (n:=1+(jh c (n-1) (jh c 9 s).2).1) (jh c (n-1) (jh c 9 s).2).2 (by omega)
   obtain ⟨h1,h2⟩:=jls c n f (i+1) _ (jh c (1+(jh c (n-1) (jh c 9 s).2).1) (jh c (n-1) (jh c 9 s).2).2).2 (h.add (e:=⟨_,_⟩) ⟨hb.1,hb.2,by dsimp only;omega⟩)
   refine ⟨h1,aQJ h2 ?_⟩;split
   ·omega
   ·simp;omega
  ·exact ⟨h,by dsimp only;omega⟩
theorem jqt (c:List UInt8) (n:Int):∀(f i:Nat) (E:List Ed) (s:Cu),s.1<=c.length->(jap c n f i E s).2.1<=c.length
 |0,i,E,s,h=>h
 |f+1,i,E,s,h=>by
  rw [jap];dsimp only;split
  ·exact jqt c n f _ _ _ (jo (jo (jo h)))
  ·exact jo h
def jbZ (c:List UInt8) (s:Cu):Pl×Cu:=
 let a:=jh c 4 s;let b:=jh c 3 a.2;let w:=jh c 4 b.2;let t:=jh c 6 w.2;let o:=jh c 10 t.2
 let n:=if o.1=0 then 12 else 1+t.1
 let e:=jap c n 9 0 [] o.2
 (⟨a.1,1+b.1,1+w.1,n,e.1⟩,e.2)
theorem rc_up {n:Int} {E:List Ed} (h:EdsI n E) {a b:Int} (hr:Rc E a b):a<b:=by
 induction hr with
 |one he=>obtain ⟨e,h1,h2,h3⟩:=he;have:=h.up e h1;omega
 |step _ he ih=>obtain ⟨e,h1,h2,h3⟩:=he;have:=h.up e h1;omega
theorem jtw (c:List UInt8) (s:Cu):jm (jbZ c s).1=0:=by
 unfold jbZ;dsimp only;have h1:=jP c (n:=4) s (by decide)
 generalize jh c 4 s=a at*;have h2:=jP c (n:=3) a.2 (by decide)
 generalize jh c 3 a.2=b at*;have h3:=jP c (n:=4) b.2 (by decide)
 generalize jh c 4 b.2=w at*;have h4:=jP c (n:=6) w.2 (by decide)
 generalize jh c 6 w.2=t at*;generalize jh c 10 t.2=o at*;obtain ⟨n,hn⟩:∃n:Int,(if o.1=0 then (12:Int) else 1+t.1)=n:=⟨_,rfl⟩
 rw [hn];have nQ:1<=n/\n<=12:=by rw [<-hn];split<;>omega
 obtain ⟨hE,hl⟩:=jls c n 9 0 [] o.2 ⟨by simp,by simp⟩
 generalize (jap c n 9 0 [] o.2).1=E at*;simp only [aPU] at hl;refine jCw ?_ ?_ hE.nd λt _ hr=>by have:=rc_up hE hr;omega
 ·simp only [vY,inB,Bool.or_eq_false_iff,Bool.not_eq_false',aPM,aPX]
  omega
 ·refine List.any_eq_false.2 λe he=>?_
  have:=hE.up e he;simp only [jkk,inB,Bool.or_eq_true,Bool.not_eq_true',aPX,not_or,Classical.not_not];omega
theorem jAf {c:List UInt8} {s:Cu} (h:s.1<=c.length):(jbZ c s).2.1<=c.length:=jqt _ _ _ _ _ _ (jo (jo (jo (jo (jo h)))))
def jb0 (c:List UInt8):List Rn->Cu->Option (Int×Int×Int)×Cu
 |[],s=>(none,s)
 |r::rs,s=>let l:=qG 3 r.aOD
  if l=[] then jb0 c rs s else
   let o:=jh c 5 s
   if o.1=0 then jb0 c rs o.2 else
    let k:=jh c l.length o.2
    let t:=(l[k.1.toNat]?).getD 0
    let v:=((r.aOD[t.toNat]?).map (·.tri)).getD 0
    let e:=jh c 8 k.2
    if e.1=0 then let f:=jh c 2 e.2;(some (r.id,t,IntKind.i64.wrap (IntKind.i64.wrap (v-1)+2*f.1)),f.2) else (some (r.id,t,v),e.2)
def qF (c:List UInt8) (y:Yd) (s:Cu):(Int×Int×Int)×Cu:=match jb0 c y.aOH s with
 |(some x,s)=>(x,s)
 |(none,s)=>let a:=jh c 5 s;let b:=jh c 6 a.2;let d:=jh c 4 b.2;((1+a.1,b.1-1,d.1),d.2)
theorem jlr {c:List UInt8}:∀(rs:List Rn) {s:Cu},s.1<=c.length->(jb0 c rs s).2.1<=c.length
 |[],s,h=>h
 |r::rs,s,h=>by
  rw [jb0];dsimp only;split
  ·exact jlr rs h
  ·split
   ·exact jlr rs (jo h)
   ·split
    ·exact jo (jo (jo (jo h)))
    ·exact jo (jo (jo h))
theorem jtx {c:List UInt8} {y:Yd} {s:Cu} (h:s.1<=c.length):(qF c y s).2.1<=c.length:=by
 unfold qF;have:=jlr y.aOH h;split
 ·rename_i x s' e;rw [e] at this;exact this
 ·rename_i s' e;rw [e] at this;exact jo (jo (jo this))
theorem jlq {c:List UInt8}:∀(rs:List Rn) {s:Cu} {x:Int×Int×Int} {s':Cu},jb0 c rs s=(some x,s')->∃r∈rs,x.1=r.id
 |[],s,x,s',h=>by simp [jb0] at h
 |r::rs,s,x,s',h=>by
  rw [jb0] at h;dsimp only at h;split at h
  ·obtain ⟨r',h1,h2⟩:=jlq rs h;exact ⟨r',by simp [h1],h2⟩
  ·split at h
   ·obtain ⟨r',h1,h2⟩:=jlq rs h;exact ⟨r',by simp [h1],h2⟩
   ·split at h
    ·simp only [Prod.mk.injEq,Option.some.injEq] at h;exact ⟨r,by simp,by rw [<-h.1]⟩
    ·simp only [Prod.mk.injEq,Option.some.injEq] at h;exact ⟨r,by simp,by rw [<-h.1]⟩
abbrev plZ:Pl:=⟨0,0,0,0,[]⟩
def qB (c:List UInt8) (y:Yd) (s:Cu):Dd×Cu:=
 let k:=jh c 20 s
 if k.1<6 then let w:=jh c 8 k.2;let d:=jh c 7 w.2;(⟨2,0,plZ,0,0,w.1,d.1⟩,d.2)
 else if k.1<10 then let r:=jh c 9 k.2;let p:=jbZ c r.2;(⟨1,1+r.1,p.1,0,0,0,0⟩,p.2)
 else if k.1<15 then let h:=qF c y k.2;(⟨3,h.1.1,plZ,brI h.1.2.1 0 99,brI h.1.2.2 0 99,0,0⟩,h.2)
 else if k.1=15 then let h:=qF c y k.2;(⟨4,h.1.1,plZ,brI h.1.2.1 0 99,brI h.1.2.2 0 99,0,0⟩,h.2)
 else if k.1=16 then (⟨5,0,plZ,0,0,0,0⟩,k.2)
 else if k.1=17 then let r:=jh c 9 k.2;(⟨6,1+r.1,plZ,0,0,0,0⟩,r.2)
 else if k.1=18 then let r:=jh c 9 k.2;(⟨7,1+r.1,plZ,0,0,0,0⟩,r.2)
 else let o:=jh c 3 k.2;if o.1=0 then (⟨8,0,plZ,0,0,0,0⟩,o.2) else (⟨5,0,plZ,0,0,0,0⟩,o.2)
theorem jAi {c:List UInt8} {y:Yd} {s:Cu} (h:s.1<=c.length):(qB c y s).2.1<=c.length:=by
 unfold qB;dsimp only;have h1:=jo (n:=20) h
 repeat' split
 ·exact jo (jo h1)
 ·exact jAf (jo h1)
 ·exact jtx h1
 ·exact jtx h1
 ·exact h1
 ·exact jo h1
 ·exact jo h1
 ·exact jo h1
 ·exact jo h1
noncomputable def zg (c:List UInt8):Nat->List Dd×Yd×Cu->List Dd×Yd×Cu
 |0,x=>x
 |n+1,x=>zg c n (x.1++[(qB c x.2.1 x.2.2).1],doY x.2.1 (qB c x.2.1 x.2.2).1,(qB c x.2.1 x.2.2).2)
noncomputable def jlp (c:List UInt8) (s:Cu):Yd×Cu:=(zg c (jh c 26 s).1.toNat ([],newYd,(jh c 26 s).2)).2
def jGf (c:List UInt8):Int:=(c.take 4000).foldl (λh u=>jtO (IntKind.i64.wrap (IntKind.i64.wrap (IntKind.i64.wrap (h*131)+(u.toNat:Int))+7)) 1073741823) (94701+(c.length:Int))
def jni (c:List UInt8):Cu:=(0,jGf c)
theorem jkJ (y:Yd) (k:Nat) (r2:Rn):(kP y k r2).seq<=y.seq+r2.aOD.length:=by
 simp only [kP,jrI,zx];have:=jej ((y.aOH[k]?).getD default).aOD r2.aOD r2.aOD.length;omega
theorem jsF {y:Yd} (h:YdI y) (k:Nat):((y.aOH[k]?).getD default).aOD.length<=12:=by
 cases hr:y.aOH[k]? with
 |none=>exact aPP _
 |some r=>exact (h.rns.right r (aOT hr)).le12
theorem jpl {y:Yd} (h:YdI y) (k t:Nat):(failK y k t).seq<=y.seq+12:=by
 unfold failK;split
 ·have h1:=jkJ y k (jC ((y.aOH[k]?).getD default) t)
  have h2:=jsF h k;rw [qe] at h1;omega
 ·omega
theorem jpj {z:Yd} (h:YdI z) (k:Nat):∀t,(restT z k t).seq<=z.seq+12*t
 |0=>by simp [restT]
 |t+1=>by
  have h1:=jpj h k t;have h2:=jpl (h.restT k t) k t;simp only [restT];omega
theorem jpk {y:Yd} (h:YdI y):∀k,(restR y k).seq<=y.seq+144*k
 |0=>by simp [restR]
 |k+1=>by
  have h1:=jpk h k;have h2:=jpj (h.restR k) k ((y.aOH[k]?).getD default).aOD.length;have h3:=jsF h k;simp only [restR];omega
theorem jpi {y:Yd} (h:YdI y):∀i,i<=(kx y).length->(tickI y i).seq<=y.seq+12*i
 |0,_=>by simp [tickI]
 |i+1,hi=>by
  have h1:=jpi h i (by omega)
  have h2:=(h.tickI i (by omega)).1
  obtain ⟨l,hl⟩:=ja (show i<(kx y).length by omega)
  rw [jc7 hl];unfold jl4;have:=jpl h2 (runAt (tickI y i) (l.headD 0)).toNat (l.tail.headD 0).toNat;omega
theorem jEi {y:Yd} (h:YdI y) (d:Dd):(doY y d).seq<=y.seq+2000:=by
 unfold doY;split
 ·omega
 split
 ·unfold jaS
  split
  ·rename_i hc
   simp only [jrI,zx]
   have hp:jm d.aOF=0:=by
    refine aQM λhp=>?_
    unfold jbu at hc
    repeat' split at hc
    all_goals first|(cases hc;done)|exact hp hc|contradiction|omega
   obtain ⟨n,hn,_,cC,-⟩:=ja8 hp;have h3:(jO d.run d.aOF).aOD.length<=12:=by rw [jO,jbR];omega
   have h4:(qG 2 (jO d.run d.aOF).aOD).length<=(jO d.run d.aOF).aOD.length:=va _ _ _;omega
  ·omega
 split
 ·unfold qu
  split
  ·omega
  ·rename_i hc
   have aR:jt y=true:=by
    cases h:jt y with
    |true=>rfl
    |false=>exact absurd (.inl h) hc
   have hw:0<=d.aOJ/\d.aOJ<=99:=by
    refine aQM λh=>hc (.inr h)
   have eZ:(d.aOJ.tmod 4).toNat<4:=by rw [aQA hw.1];omega
   have hI:=(jnV (yard_iff.1 aR) eZ d.aOM).seq;split
   ·omega
   ·simp only [jgI];omega
 split
 ·unfold jc0
  split
  ·have h1:=jkJ y (runAt y d.run).toNat (kZ ((y.aOH[(runAt y d.run).toNat]?).getD default) d.aOK)
   have h2:=jsF h (runAt y d.run).toNat;rw [jfF] at h1;omega
  ·omega
 split
 ·unfold jcZ
  split
  ·have h1:=jkJ y (runAt y d.run).toNat (jC ((y.aOH[(runAt y d.run).toNat]?).getD default) d.aOK)
   have h2:=jsF h (runAt y d.run).toNat;rw [qe] at h1;omega
  ·omega
 split
 ·unfold jbH
  split
  ·rename_i hc
   have aR:jt y=true:=by
    unfold jbI at hc;cases h:jt y with
    |true=>rfl
    |false=>rw [if_pos h] at hc;cases hc
   have h1:=jpi h _ (aPD _);have h2:=jrJ (yard_iff.1 aR);dsimp only;omega
  ·omega
 split
 ·unfold kT
  split
  ·simp only [ji5];omega
  ·omega
 split
 ·unfold jaL
  split
  ·dsimp only;omega
  ·omega
 ·unfold jcX
  split
  ·have h1:=jpk h y.aOH.length
   have h2:=h.rns.eight;omega
  ·omega
theorem YdI.new:YdI newYd:=by
 refine ⟨by decide,by decide,rfl,λl hl=>?_,⟨by simp [newYd],by simp [newYd],by simp [newYd],by simp [newYd],by simp [newYd]⟩,⟨by simp [newYd],by simp [newYd],by simp [newYd],by simp [newYd]⟩,by simp [newYd,vh]⟩
 have:l=[]:=by simp [newYd] at hl;exact hl
 subst this;exact List.Pairwise.nil
theorem jx4 (n:Int) {a b:Int} (h:a<=b):a<=brI n a b/\brI n a b<=b:=by
 unfold brI;split
 ·omega
 ·split<;>omega
theorem jzy:jck plZ=true:=by decide
theorem jaj {n:Int} (h:0<=n/\n<=1000000000):zT n=true:=decide_eq_true h
theorem jzq {p:Pl} (h:jm p=0):jh9 p=true:=by
 obtain ⟨n,h1,h2,h3,h4,h5,h6,h7,h8,h9⟩:=ja8 h;simp only [jh9,aPG,aPM,List.all_eq_true];refine ⟨⟨⟨⟨⟨jaj (by omega),jaj (by omega)⟩,jaj (by omega)⟩,jaj (by omega)⟩,by omega⟩,λe he=>?_⟩
 have:=h5 e he;unfold okE at this;simp only [edB,aPG];exact ⟨jaj (by omega),jaj (by omega)⟩
theorem jAg (c:List UInt8) {y:Yd} (s:Cu) (hi:∀r∈y.aOH,1<=r.id/\r.id<=9999):0<=(qF c y s).1.1/\(qF c y s).1.1<=9999:=by
 unfold qF;split
 ·rename_i x s' e
  obtain ⟨r,h1,h2⟩:=jlq _ e;have:=hi r h1;dsimp only;omega
 ·rename_i s' e
  have:=jP c (n:=5) s' (by decide)
  dsimp only;omega
theorem jAh (c:List UInt8) {y:Yd} (s:Cu) (hi:∀r∈y.aOH,1<=r.id/\r.id<=9999):kg (qB c y s).1=true:=by
 unfold qB;dsimp only;generalize jh c 20 s=k at*;have hh:=jAg c k.2 hi;have b9:=jP c (n:=9) k.2 (by decide)
 have b8:=jP c (n:=8) k.2 (by decide)
 have b7:=jP c (n:=7) (jh c 8 k.2).2 (by decide)
 have hp:=jtw c (jh c 9 k.2).2;have ht:=jx4 (qF c y k.2).1.2.1 (a:=0) (b:=99) (by decide)
 have hv:=jx4 (qF c y k.2).1.2.2 (a:=0) (b:=99) (by decide)
 have hz:=jzy
 repeat' split
 ·simp [kg,hz,jaj (n:=(jh c 8 k.2).1) (by omega),jaj (n:=(jh c 7 (jh c 8 k.2).2).1) (by omega)]
 ·simp [kg,jzq hp,jaj (n:=1+(jh c 9 k.2).1) (by omega)]
 ·simp [kg,hz,jaj (n:=(qF c y k.2).1.1) (by omega),jaj (n:=brI (qF c y k.2).1.2.1 0 99) (by omega),jaj (n:=brI (qF c y k.2).1.2.2 0 99) (by omega)]
 ·simp [kg,hz,jaj (n:=(qF c y k.2).1.1) (by omega),jaj (n:=brI (qF c y k.2).1.2.1 0 99) (by omega),jaj (n:=brI (qF c y k.2).1.2.2 0 99) (by omega)]
 ·simp [kg,hz]
 ·simp [kg,hz,jaj (n:=1+(jh c 9 k.2).1) (by omega)]
 ·simp [kg,hz,jaj (n:=1+(jh c 9 k.2).1) (by omega)]
 ·simp [kg,hz]
 ·simp [kg,hz]
theorem YdI.ids {y:Yd} (h:YdI y):∀r∈y.aOH,1<=r.id/\r.id<=9999:=λr hr=>aPV (h.rns.right r hr).id
structure DdsI (c:List UInt8) (n:Nat) (x:List Dd×Yd×Cu):Prop where
 yd:YdI x.2.1
 seq:x.2.1.seq<=1+2000*n
 len:x.1.length=n
 ok:∀d∈x.1,kg d=true
 at_:x.2.2.1<=c.length
 yis:x.2.1=x.1.foldl doY newYd
 aOI:∀d∈x.1,d.aOF.aOI.length<=9
theorem jlu (c:List UInt8) (y:Yd) (s:Cu):(qB c y s).1.aOF.aOI.length<=9:=by
 unfold qB;dsimp only
 repeat' split
 all_goals first
  |exact aPP _
  |(have:=(jls c (if (jh c 10 (jh c 6 (jh c 4 (jh c 3 (jh c 4 (jh c 9 (jh c 20 s).2).2).2).2).2).2).1=0 then 12 else 1+(jh c 6 (jh c 4 (jh c 3 (jh c 4 (jh c 9 (jh c 20 s).2).2).2).2).2).1) 9 0 [] (jh c 10 (jh c 6 (jh c 4 (jh c 3 (jh c 4 (jh c 9 (jh c 20 s).2).2).2).2).2).2).2 ⟨by simp,by simp⟩).2;simpa [jbZ] using this)
theorem DdsI.start {c:List UInt8} {s:Cu} (h:s.1<=c.length):DdsI c 0 ([],newYd,s):=⟨.new,by simp [newYd],rfl,by simp,h,rfl,by simp⟩
theorem DdsI.next {c:List UInt8} {n:Nat} {x:List Dd×Yd×Cu} (h:DdsI c n x):DdsI c (n+1) (x.1++[(qB c x.2.1 x.2.2).1],doY x.2.1 (qB c x.2.1 x.2.2).1,(qB c x.2.1 x.2.2).2):=by
 have hd:=jAh c x.2.2 h.yd.ids;refine ⟨h.yd.do _,?_,by simp [h.len],λd hm=>?_,jAi h.at_,?_,λd hm=>?_⟩
 ·have h1:=jEi h.yd (qB c x.2.1 x.2.2).1
  have h2:=h.seq;dsimp only;omega
 ·rcases aOX.1 hm with hm|hm
  ·exact h.ok d hm
  ·simp at hm;subst hm;exact hd
 ·rw [List.foldl_append,<-h.yis];rfl
 ·rcases aOX.1 hm with hm|hm
  ·exact h.aOI d hm
  ·simp at hm;subst hm;exact jlu _ _ _
theorem jty {c:List UInt8}:∀(n m:Nat) {x:List Dd×Yd×Cu},DdsI c m x->DdsI c (m+n) (zg c n x)
 |0,m,x,h=>h
 |n+1,m,x,h=>by
  rw [zg,show m+(n+1)=(m+1)+n by omega]
  exact jty n (m+1) h.next
