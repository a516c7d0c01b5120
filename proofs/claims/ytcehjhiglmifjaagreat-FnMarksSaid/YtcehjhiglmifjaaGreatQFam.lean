/- Parts. -/
import Derived.Test.YtcehjhiglmifjaaGreatQSub
import Derived.Lib.SliceRun
import Derived.Deep.RegionLaw
set_option linter.all false
set_option maxHeartbeats 16000000
set_option maxRecDepth 100000
namespace Go.Proofs.YtcehjhiglmifjaaGreat
open Go.RowKit Go.Sort
def CutR:List Rn->List D->(Nat->Ob)->Prop
 |[],rows,fam=>rows=[]/\∀j,fam j=.none
 |r::l,rows,fam=>∃(bP bF:jf) (rows':List D),rows=rnV r (bP []) (bF [])++rows'/\(bP []).oneCell'=true/\(bF []).oneCell'=true/\fam 0=.loose (js r.aNB.aNF) bP/\fam 1=.loose (jx r.aNA) bF/\CutR l rows' (λj=>fam (j+2))
theorem CutR.len:∀{l:List Rn} {rows:List D} {fam:Nat->Ob},CutR l rows fam->rows.length=l.length*8
 |[],_,_,⟨h,_⟩=>by rw [h];rfl
 |r::l,_,_,⟨_,_,rows',h,_,_,_,_,h2⟩=>by
  have:=CutR.len h2;rw [h,aNR,aOD,this];simp only [aOD,aOR];omega
theorem CutR.flat:∀{l:List Rn} {rows:List D} {fam:Nat->Ob},CutR l rows fam->ka rows=true
 |[],_,_,⟨h,_⟩=>by rw [h];rfl
 |r::l,_,_,⟨bP,bF,rows',h,h5,h7,_,_,h2⟩=>by
  have:=CutR.flat h2;rw [h,vO,this];simp [ka,h5,h7];exact ⟨rfl,rfl,rfl,rfl,rfl,rfl⟩
theorem CutR.erase:∀{l:List Rn} {rows:List D} {fam:Nat->Ob} {k:Nat},CutR l rows fam->k<l.length->CutR (l.eraseIdx k) (rows.take (k*8)++rows.drop ((k+1)*8)) (λj=>fam (if j<2*k then j else j+2))
 |[],_,_,_,_,h=>by simp at h
 |r::l,_,fam,0,⟨bP,bF,rows',h,_,_,_,_,h2⟩,_=>by
  have e1:(rnV r (bP []) (bF [])++rows').drop ((0+1)*8)=rows':=List.drop_left' rfl;rw [h,e1,Nat.zero_mul,aOW,aOQ];simpa using h2
 |r::l,_,fam,k+1,⟨bP,bF,rows',h,h5,h7,f0,f1,h2⟩,hk=>by
  have ih:=CutR.erase (k:=k) h2 (by simpa using hk)
  have e1:(rnV r (bP []) (bF [])++rows').take ((k+1)*8)=rnV r (bP []) (bF [])++rows'.take (k*8):=by
   rw [show (k+1)*8=(rnV r (bP []) (bF [])).length+k*8 by rw [show (rnV r (bP []) (bF [])).length=8 from rfl];omega];exact List.take_length_add_append _
  have e2:(rnV r (bP []) (bF [])++rows').drop ((k+1+1)*8)=rows'.drop ((k+1)*8):=by
   rw [show (k+1+1)*8=(rnV r (bP []) (bF [])).length+(k+1)*8 by rw [show (rnV r (bP []) (bF [])).length=8 from rfl];omega];exact List.drop_length_add_append _
  rw [h,e1,e2,List.eraseIdx_cons_succ];refine ⟨bP,bF,_,by rw [aOB],h5,h7,?_,?_,?_⟩
  ·dsimp only;rw [if_pos (by omega)];exact f0
  ·dsimp only;rw [if_pos (by omega)];exact f1
  ·have:(λj=>fam (if j+2<2*(k+1) then j+2 else j+2+2))=(λj=>fam ((if j<2*k then j else j+2)+2)):=by
    funext j
    by_cases c:j<2*k
    ·rw [if_pos c,if_pos (by omega)]
    ·rw [if_neg c,if_neg (by omega)]
   rw [this];exact ih
theorem jtm {ob:Ob} {c:Nat} {d d':D} {η aC:jf} (h:ob.own c=some (d,η)):(ob.putOwn c d' aC).own c=some (d',aC):=by
 cases ob with
 |none=>simp [Ob.own] at h
 |loose e ε=>cases c with
  |zero=>rfl
  |succ c=>simp [Ob.own] at h
 |box b ty cs=>
  simp only [Ob.own] at h;split at h
  ·rename_i d0 fB hc
   have:=(aNP.1 hc).1;simp [Ob.own,Ob.putOwn,aNX this]
  ·simp at h
theorem jxp {ob:Ob} {c:Nat} {d:D} {η:jf} (h:ob.own c=some (d,η)):ob.putOwn c d η=ob:=by
 cases ob with
 |none=>rfl
 |loose e ε=>cases c with
  |zero=>simp [Ob.own] at h;obtain ⟨rfl,rfl⟩:=h;rfl
  |succ c=>simp [Ob.own] at h
 |box b ty cs=>
  simp only [Ob.own] at h;split at h
  ·rename_i d0 fB hc
   simp at h;obtain ⟨rfl,rfl⟩:=h;simp only [Ob.putOwn];rw [jax hc]
  ·simp at h
theorem jte {ob:Ob} {c:Nat} {d d':D} {η aC:jf}:(ob.putOwn c d η).putOwn c d' aC=ob.putOwn c d' aC:=by
 cases ob with
 |none=>rfl
 |loose e ε=>rfl
 |box b ty cs=>simp [Ob.putOwn,aPE]
theorem jfD {α:Type} {A B:List α} (k:Nat) (hk:k<B.length) (x:α):(A++B).set (A.length+k) x=A++B.set k x:=by
 rw [aRA _ _ (by omega),aPI]
theorem jcl {α:Type} {A B:List α} (k:Nat):(A++B)[A.length+k]?=B[k]?:=by
 rw [aPL (by omega),aPI]
theorem jkz {K:St->Prop} (g c:Nat):∀(l:List Rn) (pre:List D) (b:Nat) (s:St) (η:jf),(s.o g).own c=some (.sl 8 tRn (pre++l.flatMap je),η)->g<b->(∀j,b<=j->s.o j=.none)->
 (∀(rows:List D) (fam:Nat->Ob) (aC:jf),CutR l rows fam->aC []=η []->WkK ⟨s.t,λj=>if b<=j then fam (j-b) else if j=g then (s.o g).putOwn c (.sl 8 tRn (pre++rows)) aC else s.o j⟩ K)->WkK s K
 |[],pre,b,s,η,ho,hg,hn,hK=>by
  have:=hK [] (λ_=>.none) η ⟨rfl,λ_=>rfl⟩ rfl
  have e:(⟨s.t,λj=>if b<=j then Ob.none else if j=g then (s.o g).putOwn c (.sl 8 tRn (pre++[])) η else s.o j⟩:St)=s:=by
   have:(λj=>if b<=j then Ob.none else if j=g then (s.o g).putOwn c (.sl 8 tRn (pre++[])) η else s.o j)=s.o:=by
    funext j
    by_cases h1:b<=j
    ·rw [if_pos h1,hn j h1]
    ·rw [if_neg h1]
     by_cases h2:j=g
     ·subst h2;rw [if_pos rfl];exact jxp ho
     ·rw [if_neg h2]
   rw [this]
  rwa [e] at this
 |r::l,pre,b,s,η,ho,hg,hn,hK=>by
  rw [aOM] at ho;have h8:(je r).length=8:=rfl;refine jc1 g c (pre.length+5) b (η:=η) (sz:=8) (tyo:=tRn) (cs:=r.aNB.aNF.flatMap jK) ho (by rw [jcl];rfl) (hn b (aOC b)) (by omega) λbC dA pC iH lY=>?_
  rw [jfD 5 (by rw [aNR,h8];omega),aQN _ _ (by rw [h8];omega)]
  have hbg:b≠g:=by omega
  have pT:∀(x y:Ob),(((s.setO g x).setO b y).o g)=x:=λx y=>by
   show (if g=b then y else if g=g then x else s.o g)=x
   rw [if_neg (by omega),if_pos rfl]
  have sQ:((((s.setO g ((s.o g).putOwn c (.sl 8 tRn (pre++((je r).set 5 (.val (η [pre.length+5]))++l.flatMap je))) dA)).setO b (.loose (.sl 2 tEd (r.aNB.aNF.flatMap jK)) bC)).o g)).own c=some (.sl 8 tRn (pre++((je r).set 5 (.val (η [pre.length+5]))++l.flatMap je)),dA):=by
   rw [pT];exact jtm ho
  refine jc1 g c (pre.length+7) (b+1) (η:=dA) (sz:=8) (tyo:=tRn) (cs:=r.aNA.flatMap jH) sQ (by rw [jcl];rfl) (by
   show (if b+1=b then _ else if b+1=g then _ else s.o (b+1))=_
   rw [if_neg (by omega),if_neg (by omega)];exact hn _ (by omega)) (by omega) λcO gJ sA dO mF=>?_
  rw [pT,jte,jfD 7 (by rw [aNR,aOE,h8];omega),aQN _ _ (by rw [aOE,h8];omega)]
  rw [<-iH] at lY⊢;rw [<-dO] at mF⊢;have hV:((je r).set 5 (.val (bC []))).set 7 (.val (cO []))=rnV r (bC []) (cO []):=rfl;rw [hV];obtain ⟨s2,cZ⟩:∃s2,(((s.setO g ((s.o g).putOwn c (.sl 8 tRn (pre++((je r).set 5 (.val (bC []))++l.flatMap je))) dA)).setO b (.loose (.sl 2 tEd (r.aNB.aNF.flatMap jK)) bC)).setO g ((s.o g).putOwn c (.sl 8 tRn (pre++(rnV r (bC []) (cO [])++l.flatMap je))) gJ)).setO (b+1) (.loose (.sl 4 tTk (r.aNA.flatMap jH)) cO)=s2:=⟨_,rfl⟩;rw [cZ]
  have q0:s2.o g=(s.o g).putOwn c (.sl 8 tRn (pre++(rnV r (bC []) (cO [])++l.flatMap je))) gJ:=by
   rw [<-cZ];show (if g=b+1 then _ else if g=g then _ else _)=_
   rw [if_neg (by omega),if_pos rfl]
  have q1:s2.o b=.loose (js r.aNB.aNF) bC:=by
   rw [<-cZ];show (if b=b+1 then _ else if b=g then _ else if b=b then _ else _)=_
   rw [if_neg (by omega),if_neg (by omega),if_pos rfl];rfl
  have q2:s2.o (b+1)=.loose (jx r.aNA) cO:=by
   rw [<-cZ];show (if b+1=b+1 then _ else _)=_
   rw [if_pos rfl];rfl
  have q3:∀j,j≠g->j≠b->j≠b+1->s2.o j=s.o j:=λj n1 n2 n3=>by
   rw [<-cZ];show (if j=b+1 then _ else if j=g then _ else if j=b then _ else if j=g then _ else s.o j)=_
   rw [if_neg n3,if_neg n1,if_neg n2,if_neg n1]
  have qt:s2.t=s.t:=by rw [<-cZ];rfl
  refine jkz g c l (pre++rnV r (bC []) (cO [])) (b+2) s2 gJ (by rw [q0,aOB];exact jtm ho) (by omega) (λj hj=>by rw [q3 j (by omega) (by omega) (by omega)];exact hn j (by omega)) λrows fam aC eT hη=>?_
  have:=hK (rnV r (bC []) (cO [])++rows) (λj=>if j=0 then .loose (js r.aNB.aNF) bC else if j=1 then .loose (jx r.aNA) cO else fam (j-2)) aC ⟨bC,cO,rows,rfl,lY,mF,rfl,rfl,eT⟩ (by rw [hη,sA,pC])
  have e:(λj=>if b+2<=j then fam (j-(b+2)) else if j=g then (s2.o g).putOwn c (.sl 8 tRn (pre++rnV r (bC []) (cO [])++rows)) aC else s2.o j)=(λj=>if b<=j then (if j-b=0 then Ob.loose (js r.aNB.aNF) bC else if j-b=1 then .loose (jx r.aNA) cO else fam (j-b-2)) else if j=g then (s.o g).putOwn c (.sl 8 tRn (pre++(rnV r (bC []) (cO [])++rows))) aC else s.o j):=by
   funext j
   by_cases c1:b+2<=j
   ·rw [if_pos c1,if_pos (by omega),if_neg (by omega),if_neg (by omega),show j-(b+2)=j-b-2 by omega]
   ·rw [if_neg c1]
    by_cases c2:j=b
    ·subst c2;rw [if_neg (by omega),if_pos (aOC _),if_pos (by omega),q1]
    ·by_cases c3:j=b+1
     ·subst c3;rw [if_neg (by omega),if_pos (by omega),if_neg (by omega),if_pos (by omega),q2]
     ·by_cases c4:j=g
      ·subst c4;rw [if_pos rfl,if_neg (by omega),if_pos rfl,q0,jte,aOB]
      ·rw [if_neg c4,if_neg (by omega),if_neg c4,q3 j c4 c2 c3]
  rw [qt,e];exact this
theorem jfB {K:St->Prop} (g c:Nat):∀(l:List Rn) (pre:List D) (b:Nat) (s:St) (η:jf) (rows:List D) (fam:Nat->Ob),CutR l rows fam->(s.o g).own c=some (.sl 8 tRn (pre++rows),η)->g<b->(∀j,b<=j->s.o j=fam (j-b))->
 (∀aC:jf,aC []=η []->WkK ⟨s.t,λj=>if b<=j then .none else if j=g then (s.o g).putOwn c (.sl 8 tRn (pre++l.flatMap je)) aC else s.o j⟩ K)->WkK s K
 |[],pre,b,s,η,_,fam,⟨rfl,hf⟩,ho,hg,hn,hK=>by
  have:=hK η rfl
  have e:(⟨s.t,λj=>if b<=j then Ob.none else if j=g then (s.o g).putOwn c (.sl 8 tRn (pre++List.flatMap je [])) η else s.o j⟩:St)=s:=by
   have:(λj=>if b<=j then Ob.none else if j=g then (s.o g).putOwn c (.sl 8 tRn (pre++List.flatMap je [])) η else s.o j)=s.o:=by
    funext j
    by_cases h1:b<=j
    ·rw [if_pos h1,hn j h1,hf]
    ·rw [if_neg h1]
     by_cases h2:j=g
     ·subst h2;rw [if_pos rfl];exact jxp ho
     ·rw [if_neg h2]
   rw [this]
  rwa [e] at this
 |r::l,pre,b,s,η,_,fam,⟨bP,bF,rows,rfl,h5,h7,f0,f1,eT⟩,ho,hg,hn,hK=>by
  have h8:(rnV r (bP []) (bF [])).length=8:=rfl;have n7:s.o b=.loose (.sl 2 tEd (r.aNB.aNF.flatMap jK)) bP:=by rw [hn b (aOC b),aRD,f0];rfl
  have aY:s.o (b+1)=.loose (.sl 4 tTk (r.aNA.flatMap jH)) bF:=by rw [hn (b+1) (by omega),aPI,f1];rfl
  refine qi g c (pre.length+5) b (η:=η) (aS:=bP) (sz:=8) (tyo:=tRn) (cs:=r.aNB.aNF.flatMap jK) ho (by rw [jcl];rfl) (.inl rfl) n7 (by omega) λdA hA=>?_
  rw [jfD 5 (by rw [aNR,h8];omega),aQN _ _ (by rw [h8];omega)]
  have pT:∀(x:Ob),(((s.setO b .none).setO g x).o g)=x:=λx=>by
   show (if g=g then x else _)=x
   rw [if_pos rfl]
  refine qi g c (pre.length+7) (b+1) (η:=dA) (aS:=bF) (sz:=8) (tyo:=tRn) (cs:=r.aNA.flatMap jH) (by rw [pT];exact jtm ho) (by rw [jcl];rfl) (.inl rfl) (by
   show (if b+1=g then _ else if b+1=b then _ else s.o (b+1))=_
   rw [if_neg (by omega),if_neg (by omega)];exact aY) (by omega) λgJ hB=>?_
  rw [pT,jte,jfD 7 (by rw [aNR,aOE,h8];omega),aQN _ _ (by rw [aOE,h8];omega)]
  have hV:(((rnV r (bP []) (bF [])).set 5 (.sl 2 tEd (r.aNB.aNF.flatMap jK))).set 7 (.sl 4 tTk (r.aNA.flatMap jH)))=je r:=rfl;rw [hV];obtain ⟨s2,cZ⟩:∃s2,(((s.setO b .none).setO g ((s.o g).putOwn c (.sl 8 tRn (pre++((rnV r (bP []) (bF [])).set 5 (.sl 2 tEd (r.aNB.aNF.flatMap jK))++rows))) dA)).setO (b+1) .none).setO g ((s.o g).putOwn c (.sl 8 tRn (pre++(je r++rows))) gJ)=s2:=⟨_,rfl⟩;rw [cZ]
  have q0:s2.o g=(s.o g).putOwn c (.sl 8 tRn (pre++(je r++rows))) gJ:=by
   rw [<-cZ];show (if g=g then _ else _)=_
   rw [if_pos rfl]
  have q3:∀j,j≠g->j≠b->j≠b+1->s2.o j=s.o j:=λj n1 n2 n3=>by
   rw [<-cZ];show (if j=g then _ else if j=b+1 then _ else if j=g then _ else if j=b then _ else s.o j)=_
   rw [if_neg n1,if_neg n3,if_neg n1,if_neg n2]
  have q1:s2.o b=.none:=by
   rw [<-cZ];show (if b=g then _ else if b=b+1 then _ else if b=g then _ else if b=b then _ else s.o b)=_
   rw [if_neg (by omega),if_neg (by omega),if_neg (by omega),if_pos rfl]
  have q2:s2.o (b+1)=.none:=by
   rw [<-cZ];show (if b+1=g then _ else if b+1=b+1 then _ else _)=_
   rw [if_neg (by omega),if_pos rfl]
  have qt:s2.t=s.t:=by rw [<-cZ];rfl
  refine jfB g c l (pre++je r) (b+2) s2 gJ rows _ eT (by rw [q0,aOB];exact jtm ho) (by omega) (λj hj=>by rw [q3 j (by omega) (by omega) (by omega),hn j (by omega),show j-b=j-(b+2)+2 by omega]) λaC hη=>?_
  have:=hK aC (by rw [hη,hB,hA])
  have e:(λj=>if b+2<=j then Ob.none else if j=g then (s2.o g).putOwn c (.sl 8 tRn (pre++je r++l.flatMap je)) aC else s2.o j)=(λj=>if b<=j then Ob.none else if j=g then (s.o g).putOwn c (.sl 8 tRn (pre++(r::l).flatMap je)) aC else s.o j):=by
   funext j
   by_cases c1:b+2<=j
   ·rw [if_pos c1,if_pos (by omega)]
   ·rw [if_neg c1]
    by_cases c2:j=b
    ·subst c2;rw [if_neg (by omega),if_pos (aOC _),q1]
    ·by_cases c3:j=b+1
     ·subst c3;rw [if_neg (by omega),if_pos (by omega),q2]
     ·by_cases c4:j=g
      ·subst c4;rw [if_pos rfl,if_neg (by omega),if_pos rfl,q0,jte,aOB,aOM]
      ·rw [if_neg c4,if_neg (by omega),if_neg c4,q3 j c4 c2 c3]
  rw [qt,e];exact this
def St.ofF (T:List (Nat×AV)) (O:List (Nat×Ob)) (b:Nat) (fam:Nat->Ob):St:=⟨lkT T,λj=>if b<=j then fam (j-b) else lkO O j⟩
theorem ofF_t (T:List (Nat×AV)) (O:List (Nat×Ob)) (b:Nat) (fam:Nat->Ob) (n:Nat):(St.ofF T O b fam).t n=lkT T n:=(rfl)
theorem ofF_o (T:List (Nat×AV)) (O:List (Nat×Ob)) (b:Nat) (fam:Nat->Ob) (n:Nat):(St.ofF T O b fam).o n=if b<=n then fam (n-b) else lkO O n:=(rfl)
attribute [go_sem] ofF_t ofF_o
theorem jc0 {s:St} {T:List (Nat×AV)} {O:List (Nat×Ob)} {b:Nat} {fam:Nat->Ob} (ks:List (Option Nat)) (h:jA5 s T/\jsp s ks O) (hf:∀j,b<=j->s.o j=fam (j-b)) (hk:∀k∈jsX ks,k<b) (hn:jjs (jsX ks)=true:=by decide):Wk s (St.ofF T O b fam):=λB N w0 w a F hr=>by
 have bS:=jyj hr.ob h.2;have n4:=jA0 (ks:=ks) (O:=O) hr.dj (jcu hn);refine ⟨λj=>if b<=j then F j else fp F ks O j,⟨hr.below,hr.hB,hr.df,hr.sz,jA3 hr.sl h.1,λg=>?_,λg=>?_,λg g' aJ x hx bT=>?_⟩,λg x hx=>?_⟩
 ·by_cases c:b<=g
  ·simp only [St.ofF,if_pos c];rw [<-hf g c];exact hr.ob g
  ·simp only [St.ofF,if_neg c];exact bS g
 ·by_cases c:b<=g
  ·simp only [if_pos c];exact hr.fr g
  ·simp only [if_neg c];exact jAZ hr.fr ks O g
 ·by_cases c:b<=g
  ·simp only [if_pos c] at hx
   by_cases c':b<=g'
   ·simp only [if_pos c'] at bT;exact hr.dj g g' aJ x hx bT
   ·simp only [if_neg c'] at bT
    obtain ⟨k,h1,h2⟩:=jgE bT;exact hr.dj g k (by have:=hk k h1;omega) x hx h2
  ·simp only [if_neg c] at hx
   by_cases c':b<=g'
   ·simp only [if_pos c'] at bT
    obtain ⟨k,h1,h2⟩:=jgE hx;exact hr.dj k g' (by have:=hk k h1;omega) x h2 bT
   ·simp only [if_neg c'] at bT;exact n4 g g' aJ x hx bT
 ·by_cases c:b<=g
  ·simp only [if_pos c] at hx;exact ⟨g,hx⟩
  ·simp only [if_neg c] at hx
   obtain ⟨k,_,h2⟩:=jgE hx;exact ⟨k,h2⟩
theorem jo8 {s:St} {b:Nat} {fam:Nat->Ob} (ρ:Nat->Nat) (hρ:∀i j,ρ i=ρ j->i=j) (hf:∀j,b<=j->s.o j=fam (j-b)):Wk s ⟨s.t,λj=>if b<=j then fam (ρ (j-b)) else s.o j⟩:=λB N w0 w a F hr=>by
 refine ⟨λj=>if b<=j then F (b+ρ (j-b)) else F j,⟨hr.below,hr.hB,hr.df,hr.sz,hr.sl,λg=>?_,λg=>?_,λg g' aJ x hx bT=>?_⟩,λg x hx=>?_⟩
 ·by_cases c:b<=g
  ·simp only [if_pos c]
   have:=hr.ob (b+ρ (g-b))
   rwa [hf _ (aQR _ _),aPI] at this
  ·simp only [if_neg c];exact hr.ob g
 ·by_cases c:b<=g
  ·simp only [if_pos c];exact hr.fr _
  ·simp only [if_neg c];exact hr.fr g
 ·by_cases c:b<=g
  ·simp only [if_pos c] at hx
   by_cases c':b<=g'
   ·simp only [if_pos c'] at bT
    exact hr.dj _ _ (λe=>aJ (by have:=hρ _ _ (Nat.add_left_cancel e);omega)) x hx bT
   ·simp only [if_neg c'] at bT;exact hr.dj _ _ (by omega) x hx bT
  ·simp only [if_neg c] at hx
   by_cases c':b<=g'
   ·simp only [if_pos c'] at bT;exact hr.dj _ _ (by omega) x hx bT
   ·simp only [if_neg c'] at bT;exact hr.dj _ _ aJ x hx bT
 ·by_cases c:b<=g
  ·simp only [if_pos c] at hx;exact ⟨_,hx⟩
  ·simp only [if_neg c] at hx;exact ⟨g,hx⟩
open Go.RowKit Go.Sort Go.Lib
abbrev fDel:FuncId:=144
theorem jnP {P:Program} (w:World) (t e ty:TypeId) (z:Value) (ht:P.underlying t=some (.slice e)) (hv:∀w,(zeroValue e).run P w=.ok z w) (h1:∀v∈z.cells.toList,v.oneCell'=true) (hs:z.cells.size=8) (b o c:Nat)
 (hc:∀j,j<8->(w.cell? ⟨b,o+j,none⟩).isSome=true) (hf:∀j,j<8->w.frozen? ⟨b,o+j,none⟩=false):
 (Builtin.clear_ #[t] ty #[.slice (some ⟨b,o,none⟩) 1 c]).run P w=.ok (.tuple #[]) (w.setCells b o z.cells.toList):=by
 have oA:(Builtin.zeroCells z.cells 1).toList=z.cells.toList:=by
  simp only [Builtin.zeroCells,Nat.one_mul]
  apply List.ext_getElem
  ·simp
  ·intro i h1 h2
   have:i<z.cells.size:=by simpa using h2
   simp [Nat.mod_eq_of_lt this];exact getElem!_pos z.cells i this
 have aH:=run_storeCells_cells (P:=P) b o z.cells.toList 0 w (by simpa [hs] using hc) (by simpa [hs] using hf) h1
 simp only [aOO] at aH;simp [Builtin.clear_,run_underlying ht,hv,oA,aH]
abbrev zRnL:List Value:=[.int .i64 0,.int .i64 0,.int .i64 0,.int .i64 0,.int .i64 0,.slice none 0 0,.int .i64 0,.slice none 0 0]
theorem jEp (b n c k:Nat) (cs:List Value) (w:World) (hk:k<n) (mR:n<=c) (yL:c<=9223372036854775807) (cV:cs.length=n*8)
 (fE:∀j v,cs[j]?=some v->w.cell? ⟨b,j,none⟩=some v) (s8:∀j,w.frozen? ⟨b,j,none⟩=false) (yY:∀v∈cs,v.oneCell'=true):
 Calls Tryz.prog fDel #[.slice (some ⟨b,0,none⟩) n c,.int .i64 k,.int .i64 ((k:Int)+1)] w λe w'=>
  e=.returned (.slice (some ⟨b,0,none⟩) (n-1) c)/\w'=(w.drew.setCells b (k*8) (cs.drop ((k+1)*8))).setCells b ((n-1)*8) zRnL:=by
 have mixed:Tryz.prog.follows .mixedOrders=true:=by kernel_rfl
 have t22:=Tryz.underlying25;have a22:=Tryz.isAgg25;have z22:=Tryz.sizeOf25;have u3:=Tryz.underlying3;have a3:=Tryz.isAgg3;have z3:=Tryz.sizeOf3;have u4:=Tryz.underlying4;have z23:=Tryz.sizeOf52;have hu:Tryz.prog.underlying jEZ=some (.slice tRn):=slRn.1;obtain ⟨i0,zv,sZ,fQ,oA,nS,wP⟩:=slRn.info;obtain ⟨news,dQ⟩:∃news,news=cs.drop ((k+1)*8):=⟨_,rfl⟩;have aD:news.length=(n-(k+1))*8:=by rw [dQ,aOI,cV];omega
 have eF:∀t u,news[t]?=some u->w.cell? ⟨b,(k+1)*8+t,none⟩=some u:=λt u hu=>by
  rw [dQ,aPR] at hu;exact fE _ u hu
 obtain ⟨A,hA,lL⟩:∃A:Addr,(if c=k+1 then some (⟨b,0,none⟩:Addr) else some ⟨b,(k+1)*8,none⟩)=some A/\Hid (∀t u,news[t]?=some u->w.drew.cell? (A.add t)=some u):=by
  by_cases h:c=k+1
  ·refine ⟨⟨b,0,none⟩,by simp [h],λt u hu=>?_⟩
   have h0:news.length=0:=by rw [aD];omega
   rw [List.length_eq_zero_iff.1 h0] at hu;simp at hu
  ·refine ⟨⟨b,(k+1)*8,none⟩,by simp [h],λt u hu=>?_⟩
   rw [Addr.add_lit];exact eF t u hu
 have s1:Hid (news.length=(n-(k+1))*8):=aD;have s2:Hid (∀u∈news,u.oneCell'=true):=λu hu=>by rw [dQ] at hu;exact yY u (aQT hu)
 have mL:∀j,j<n*8->(w.cell? ⟨b,j,none⟩).isSome=true:=λj hj=>by rw [fE j _ (aNS (by omega))];rfl
 have s3:Hid (∀t,t<news.length->(w.drew.cell? ⟨b,0+k*8+t,none⟩).isSome=true/\w.drew.frozen? ⟨b,0+k*8+t,none⟩=false):=λt ht=>by
  rw [aD] at ht;exact ⟨mL _ (by omega),s8 _⟩
 obtain ⟨W1,lW⟩:∃W1,W1=w.drew.setCells b (0+k*8) news:=⟨_,rfl⟩
 have oH:∀j,j<n*8->(W1.cell? ⟨b,j,none⟩).isSome=true:=λj hj=>by
  rw [lW];exact isSome_setCells b news (0+k*8) w.drew (λt ht=>mL _ (by omega)) j (mL j hj)
 have hz:∀w,(zeroValue tRn).run Tryz.prog w=.ok zv w:=λw=>by simp [zeroValue,typeInfo,sZ,fQ]
 have n9:zv.cells.toList=zRnL:=by rw [oA]
 have aJW:∀ty q,(Builtin.clear_ #[jEZ] ty #[.slice (some ⟨b,(k+(n-(k+1)))*8,none⟩) 1 q]).run Tryz.prog W1=.ok (.tuple #[]) (W1.setCells b ((k+(n-(k+1)))*8) zRnL):=λty q=>by
  rw [<-n9];exact jnP W1 jEZ tRn ty zv hu hz (by rw [n9];decide) (by rw [oA];rfl) b _ q (λj hj=>oH _ (by omega)) (λj hj=>by rw [lW,World.frozen?_setCells];exact s8 _)
 have hW:Hid (W1=w.drew.setCells b (0+k*8) news):=lW;have hkc:k<=c:=by omega
 have hjc:k+1<=c:=by omega
 have aJ:¬((k:Int)=(k:Int)+1):=by omega
 have aY:(0:Int)<=(k:Int)+1:=by omega
 have bM:(k:Int)<=(n:Int):=by omega
 have hb3:(k:Int)+1<=(n:Int):=by omega
 have hb4:(k:Int)<=(k:Int)+1:=by omega
 have wY:((k:Int)+1).toNat=k+1:=by omega
 have z8:k<=n:=by omega
 have hjn:k+1<=n:=hk;have h1n:n-(k+(n-(k+1)))=1:=by omega
 clear lW oH eF aD mL fE
 go_enter Tryz.func144,Tryz.ntmps144
 go_wp2_with fail
 go_region_law_o (refine step_append_room rfl (.tmp 22) (.tmp 25) jEZ rfl tRn i0 8 hu sZ nS b 0 k c (by simp [Act.eval,Act.put]) A (n-(k+1)) (c-(k+1)) news (by simp [Act.eval,Act.put]) s1.out lL.out s2.out (by omega) s3.out ?_;rw [<-hW.out])
 go_wp2
 go_ret
 have e1:k+(n-(k+1))=n-1:=by omega
 refine ⟨by rw [e1];rfl,?_⟩
 rw [hW.out,dQ,e1,aPH]
def jpd:D->Value
 |.val u=>u
 |.sl _ _ _=>undef
theorem jCn:∀{ds:List D} {w:World} {own:Bool} {vs:List Value} {S:List Nat},ka ds=true->RepL w own ds vs S->vs=ds.map jpd/\S=[]
 |[],_,_,_,_,_,⟨h1,h2⟩=>⟨h1,h2⟩
 |.sl _ _ _::_,_,_,_,_,h,_=>by cases h
 |.val u::ds,w,own,_,_,h,⟨v,vs',S1,S2,rfl,rfl,⟨h1,h2⟩,h3⟩=>by
  simp only [ka,aOF] at h;obtain ⟨k1,k2⟩:=jCn h.2 h3;subst h1 h2 k1 k2;exact ⟨rfl,rfl⟩
theorem d_mk (w:World) (own:Bool):∀{ds:List D},ka ds=true->RepL w own ds (ds.map jpd) []
 |[],_=>⟨rfl,rfl⟩
 |.sl _ _ _::_,h=>by cases h
 |.val u::ds,h=>by
  simp only [ka,aOF] at h;exact ⟨u,ds.map jpd,[],[],rfl,rfl,⟨rfl,rfl⟩,d_mk w own h.2⟩
theorem jG3:∀{ds:List D},ka ds=true->∀v∈ds.map jpd,v.oneCell'=true
 |[],_,_,hv=>by simp at hv
 |.sl _ _ _::_,h,_,_=>by cases h
 |.val u::ds,h,v,hv=>by
  simp only [ka,aOF] at h;rcases aOK.1 hv with rfl|hv
  ·exact h.1
  ·exact jG3 h.2 v hv
theorem jzS (rows:List D) (n k:Nat) (hf:ka rows=true) (nK:ka (rows.take (k*8)++rows.drop ((k+1)*8))=true) (hl:rows.length=n*8) (hk:k<n) {o:Nat->Ob} {g:Nat} {η:jf} (ho:o g=.loose (.sl 8 tRn rows) η):
 Turns Tryz.prog fDel [.c (.v (η [])),.c (.v (.int .i64 k)),.c (.v (.int .i64 ((k:Int)+1)))] o (λrt o'=>rt=.c (.sl 8 tRn (rows.take (k*8)++rows.drop ((k+1)*8)))/\o'=λj=>if j=g then .none else o j):=
 ⟨⟨_,Tryz.func144,by kernel_rfl,by kernel_rfl⟩,λB w F xs hR m8=>by
   obtain ⟨x,xs1,rfl,rfl,_,xs2,rfl,rfl,x2,xs3,rfl,rfl,rfl⟩:=m8;have h1:=hR.ob g;simp only at h1;rw [ho] at h1;obtain ⟨_,u,r1,e1⟩:=h1;have q1:η []=u:=e1 [];rw [q1];have hB:B<=w.heap.size:=aPC hR.hB hR.below.size;have lF:=hR.fr g;have aB:∀k,∀b∈F k,b<w.heap.size:=λk b hb=>(hR.ob k).lt b hb
   obtain ⟨vs,T,S',bG,bR,hS⟩:=r1;obtain ⟨rfl,rfl⟩:=jCn hf bR;have gM:=jG3 hf;have bQ:(rows.map jpd).length=n*8:=by rw [aPA,hl]
   generalize mK:rows.map jpd=vs at*;obtain ⟨m,bG,rfl⟩:=bG;rcases bG.2 with ⟨_,h0⟩|⟨b,c,cu,rfl,_,rU,c9,dL,hc3,gG⟩
   ·have:=bG.1;omega
   have z5:m=n:=by have:=bG.1;omega
   subst z5;have hFg:F g=[b]:=by rw [hS];simp [blk]
   have hbB:B<=b:=lF.2 b (by rw [hFg];simp)
   have fE:∀j v,vs[j]?=some v->w.cell? ⟨b,j,none⟩=some v:=λj v hj=>by
    rw [joX rU,<-Array.getElem?_toList];exact jnH gG hj
   obtain ⟨_,sb2⟩:=jnN rU;have uL:cu.toList.length=c*8:=by simpa using hc3
   refine (jEp b m c k vs w hk c9 (by unfold maxLen at dL;omega) bQ fE sb2 gM).mono ?_
   rintro en w' ⟨rfl,rfl⟩;have hcu:w.drew.heap[b]?=some (.cells cu.toList.toArray tRn (0,0)):=by rw [Array.toArray_toList];exact rU
   have fN:(vs.drop ((k+1)*8)).length=(m-(k+1))*8:=by rw [aOI,bQ];omega
   obtain ⟨w1,w2⟩:=qx (vs.drop ((k+1)*8)) w.drew b (k*8) cu.toList tRn hcu;obtain ⟨w3,w4⟩:=qx zRnL _ b ((m-1)*8) _ tRn w1;have s1:=kJ (vs.drop ((k+1)*8)) w.drew b (k*8);have s2:=kJ zRnL (w.drew.setCells b (k*8) (vs.drop ((k+1)*8))) b ((m-1)*8);have hmc:m*8<=c*8:=by omega
   have hA:ky cu.toList (k*8) (vs.drop ((k+1)*8))=cu.toList.take (k*8)++vs.drop ((k+1)*8)++cu.toList.drop (k*8+(vs.drop ((k+1)*8)).length):=kY _ _ _ (by rw [fN,uL];omega)
   have hAl:(ky cu.toList (k*8) (vs.drop ((k+1)*8))).length=c*8:=by
    rw [hA];simp only [aNR,aNV,aOI,uL,bQ];omega
   have hz8:zRnL.length=8:=rfl;have hBz:ky (ky cu.toList (k*8) (vs.drop ((k+1)*8))) ((m-1)*8) zRnL=(ky cu.toList (k*8) (vs.drop ((k+1)*8))).take ((m-1)*8)++zRnL++(ky cu.toList (k*8) (vs.drop ((k+1)*8))).drop ((m-1)*8+zRnL.length):=kY _ _ _ (by rw [hz8,hAl];omega)
   have hct:cu.toList.take (k*8)=vs.take (k*8):=by rw [<-gG,List.take_take,aPD (by omega)]
   have lI:(rows.take (k*8)++rows.drop ((k+1)*8)).map jpd=vs.take (k*8)++vs.drop ((k+1)*8):=by rw [aPZ,List.map_take,List.map_drop,mK]
   have fX:(vs.take (k*8)++vs.drop ((k+1)*8)).length=(m-1)*8:=by rw [aNR,aNV,fN,bQ];omega
   have dV:(ky (ky cu.toList (k*8) (vs.drop ((k+1)*8))) ((m-1)*8) zRnL).take ((m-1)*8)=vs.take (k*8)++vs.drop ((k+1)*8):=by
    rw [hBz,aOB,List.take_append_of_le_length (by rw [aNV,hAl];omega),List.take_take,Nat.min_self,hA,hct]
    exact List.take_left' fX
   have hU:(ky (ky cu.toList (k*8) (vs.drop ((k+1)*8))) ((m-1)*8) zRnL).length=c*8:=by
    rw [hBz];simp only [aNR,aNV,aOI,hAl,hz8];omega
   generalize ky (ky cu.toList (k*8) (vs.drop ((k+1)*8))) ((m-1)*8) zRnL=us at*
   have hon:Only [b] w ((w.drew.setCells b (k*8) (vs.drop ((k+1)*8))).setCells b ((m-1)*8) zRnL):=⟨by rw [s2.1,s1.1];rfl,by rw [s2.2.1,s1.2.1];rfl,by rw [s2.2.2.1,s1.2.2.1];rfl,by rw [s2.2.2.2,s1.2.2.2];exact aOC _,λq hq hqn=>by
    have hqb:q≠b:=by simpa using hqn
    rw [w4 q hqb,w2 q hqb];rfl⟩
   have t1:=hR.setO (g:=g) (ob:=.none) (S:=[]) rfl (Fresh.nil _) (by simp)
   have t2:=t1.world' (hon.below (λs hs=>by simp at hs;omega) hB) λq x hx=>by
    split at hx
    ·simp at hx
    ·rename_i hq
     exact hon.block x (aB q x hx) λh=>hR.dj q g hq x hx (by rw [hFg];exact h)
   refine ⟨_,.c (.sl 8 tRn (rows.take (k*8)++rows.drop ((k+1)*8))),_,[b],_,rfl,t2,?_,Fresh.one _ _ hbB,λq x hx=>?_,rfl,rfl⟩
   ·refine ⟨(rows.take (k*8)++rows.drop ((k+1)*8)).map jpd,[b],[],⟨m-1,⟨?_,.inr ⟨b,c,us.toArray,rfl,aOL _,w3,by omega,dL,by simpa using hU,?_⟩⟩,rfl⟩,d_mk _ _ nK,by simp⟩
    ·rw [lI,fX]
    ·rw [lI];simpa [fX] using dV
   ·split
    ·simp
    ·rename_i hq
     intro bT;simp at hx;subst hx;exact hR.dj q g hq x bT (by rw [hFg];simp)⟩
def jcC (id:Int) (e:En):Bool:=e.run !=id
noncomputable def jaE (y:Yd) (id:Int):Int:=if ju y=false then 8 else if runAt y id<0 then 10 else if ((y.aNE[(runAt y id).toNat]?).getD default).aND=1 then 13 else 0
noncomputable def jah (y:Yd) (id:Int):Yd:=if jaE y id=0 then ⟨y.now,y.seq,y.aNC.map (λl=>l.filter (jcC id)),y.aNE.eraseIdx (runAt y id).toNat⟩ else y
def jey {α:Type} (f:α->α) (l:List α) (i:Nat):List α:=(l.take i).map f++l.drop i
section
variable {α:Type} {f:α->α} {l:List α} {i:Nat} {x:α}
theorem jxP:jey f l 0=l:=rfl
theorem jp9:(jey f l i).length=l.length:=by
 simp only [jey,aNR,aPA,aNV,aOI];omega
theorem jqb:jey f l l.length=l.map f:=by simp [jey]
theorem jqa (h:l[i]?=some x):(jey f l i)[i]?=some x:=by
 have hi:=(aNP.1 h).1;have hl:((l.take i).map f).length=i:=by rw [aPA,aNV];omega
 rw [jey,aPL (by omega),hl,aRD,aPR,aOO,h]
theorem jp8 (h:l[i]?=some x):(jey f l i).set i (f x)=jey f l (i+1):=by
 have hi:=(aNP.1 h).1;have hl:((l.take i).map f).length=i:=by rw [aPA,aNV];omega
 have hx:l[i]=x:=by rw [aNS hi] at h;exact aOH h
 rw [jey,aRA _ _ (by omega),hl,aRD,aPG hi,List.set_cons_zero,jey,aOA,h]
 simp
end
theorem jys {l:List En} {k:Nat} {e:En} (p:En->Bool) (h:l[k]?=some e):(l.take (k+1)).filter p=(l.take k).filter p++(if p e then [e] else []):=by
 rw [aOA,h,aQA];cases hp:p e<;>simp [hp]
section
variable {l:List En} {k:Nat} {x:En}
theorem jCw (hx:l[k]?=some x):((l.flatMap jk).drop (k*4+2)).take 1=[.val (.int .i64 x.run)]:=qH (enc:=jk) (size:=4) (λ_=>rfl) hx (j:=2) (n:=1) (by decide)
theorem jCc (hx:l[k]?=some x):k*4+2+1<=(l.flatMap jk).length:=qZ (enc:=jk) (size:=4) (λ_=>rfl) hx (j:=2) (n:=1) (by decide)
end
section
variable {sh:List (List En)} {n:Nat} {l:List En}
theorem jtH (h:n<sh.length):n+1<=(sh.flatMap λes=>[jg es]).length:=by have:=jaD h;rwa [aOG] at this
theorem jue (h:sh[n]?=some l):((sh.flatMap λes=>[jg es]).drop n).take 1=[jg l]:=by have:=jbo h;rwa [aOG] at this
end
theorem jlk {rows:List D} (h:ka rows=true) (n m:Nat):ka (rows.take n)=true/\ka (rows.drop m)=true:=by
 have e1:ka (rows.take n++rows.drop n)=true:=by rw [aPF];exact h
 have e2:ka (rows.take m++rows.drop m)=true:=by rw [aPF];exact h
 rw [vO,aOF] at e1 e2;exact ⟨e1.1,e2.2⟩
def jhp:C:=iS [iA 2 (.box 27 4 (.t 0)),iA 4 wAM,aN 5 0] (iS [aT 11 4 2,iA 12 (iK 67 [11]),iA 6 wAM,wAA 6 12] (iS [aT 13 4 2,aM 14 1,iA 15 (iK 26 [13,14]),aM 7 15] (.seq (.blk 0 (iS [aT 17 4 2,iA 18 (iK 66 [17]),aU 19 18,aM 16 19] (iD 16 (iS [aT 20 4 6,wAA 4 20,aN 5 8] .ret) (iS [aM 22 7,aQ 23 .lss 3 22 0,aM 21 23] (iD 21 (iS [aT 24 4 6,wAA 4 24,aN 5 10] .ret) (iS [aF 26 3 2,aL 27 26,aM 28 7,aI 29 8 27 28,aF 30 6 29,aL 31 30,aQ 32 .eql 3 31 1,aM 25 32] (iD 25 (iS [aT 33 4 6,wAA 4 33,aN 5 13] .ret) .skip))))))) (.seq (.dreg (tA 1 35 (iF 3 6) (tA 2 36 (iL 35) (tA 3 37 (iM 7) (tA 4 38 (.sl 8 (.t 36) none (some (.t 37))) (tA 6 40 (iF 3 6) (tA 7 41 (iL 40) (tA 8 42 (iM 7) (tA 9 43 (iQ .add 3 42 1) (tA 10 44 (.sl 8 (.t 41) (some (.t 43)) none) (tC 34 (.bsl 52 8 0 [] []) [10,9,8,7,6,4,3,2,1] (tC 39 (wBC 34 38) [10,9,8,7,6] (tC 45 (wBC 39 44) [] (tA 12 46 (iF 3 6) (.alt (wAI 46 45) [] .done .stop)) .stop) .stop) .stop))))))))))) (.seq (iS [aN 8 0] (.blk 1 (.loop (.seq (iS [aM 47 8,aF 48 2 6,aL 49 48,aG 50 49,aP 51 .lss 3 47 50] (iD 51 .skip (.exit 1))) (.seq (.blk 2 (iS [iA 54 (wA2 []),aM 9 54] (.seq (iS [aN 10 0] (.blk 3 (.loop (.seq (iS [aM 55 10,aF 56 2 6,aL 57 56,aM 58 8,aI 59 1 57 58,aL 60 59,aG 61 60,aP 62 .lss 3 55 61] (iD 62 .skip (.exit 3))) (.seq (.blk 4 (iS [aF 65 2 6,aL 66 65,aM 67 8,aI 68 1 66 67,aL 69 68,aM 70 10,aI 71 4 69 70,aF 72 2 71,aL 73 72,aM 74 1,aP 75 .neq 3 73 74] (iD 75 (.reg [aM 76 9,aF 77 2 6,aL 78 77,aM 79 8,aI 80 1 78 79,aL 81 80,aM 82 10,aI 83 4 81 82,aT 84 4 83,iA 85 (wA4 [(0,4,.t 84)]),iA 86 (wBB 76 85),aM 9 86]) .skip))) (.reg [aM 63 10,aQ 64 .add 3 63 1,aM 10 64])))))) (.reg [aF 87 2 6,aL 88 87,aM 89 8,aM 90 9,aI 91 1 88 89,wAF 91 90])))) (.reg [aM 52 8,aQ 53 .add 3 52 1,aM 8 53])))))) (iS [aT 92 4 6,wAA 4 92,aN 5 0] .ret))))))
theorem jjP:fnC Tryz.prog Tryz.f151=some (jhp,[.cell 4 true 4,.t 5],93):=by kernel_rfl
def jhG:C:=iS [iA 2 (.box 27 4 (.t 0)),iA 3 (.box 3 1 (.t 1)),iA 4 wAM,aN 5 0] (iS [aT 9 4 2,iA 10 (iK 61 [9]),iA 6 wAM,wAA 6 10] (iS [aT 11 4 2,aL 12 3,iA 13 (iK 25 [11,12]),aM 7 13] (.seq (.blk 0 (iS [aT 15 4 2,iA 16 (iK 18 [15]),aU 17 16,aM 14 17] (iD 14 (iS [aT 18 4 6,wAA 4 18,aN 5 8] .ret) (iS [aM 20 7,aQ 21 .lss 3 20 0,aM 19 21] (iD 19 (iS [aT 22 4 6,wAA 4 22,aN 5 10] .ret) (iS [aF 24 3 2,aL 25 24,aM 26 7,aI 27 8 25 26,aF 28 6 27,aL 29 28,aQ 30 .eql 3 29 1,aM 23 30] (iD 23 (iS [aT 31 4 6,wAA 4 31,aN 5 13] .ret) .skip))))))) (iS [aF 32 3 6,aL 33 32,aM 34 7,aM 35 7,aQ 36 .add 3 35 1,iA 37 (iK 144 [33,34,36]),aF 38 3 6,wAI 38 37] (.seq (iS [aF 39 2 6,aL 40 39,aG 41 40,aN 42 0] (.blk 1 (.loop (iS [aP 43 .lss 3 42 41] (.seq (iD 43 .skip (.exit 1)) (.seq (.blk 2 (iS [aM 44 42,aM 8 44] (.dreg (tA 0 45 (iF 2 6) (tA 1 46 (iL 45) (tA 2 47 (iM 8) (tA 3 48 (iF 2 6) (tA 4 49 (iL 48) (tA 5 50 (iM 8) (tA 6 51 (iI 1 49 50) (tA 7 52 (iL 51) (tA 8 53 (.mkf 145 [.t 3]) (tC 54 (iK 85 [52,53]) [2,1,0] (tA 10 55 (iI 1 46 47) (.alt (wAF 55 54) [] .done .stop)) .stop))))))))))))) (.reg [aQ 56 .add 3 42 1,aM 42 56]))))))) (iS [aT 57 4 6,wAA 4 57,aN 5 0] .ret))))))
theorem jj6:fnC Tryz.prog Tryz.f91=some (jhG,[.cell 4 true 4,.t 5],58):=by kernel_rfl
def jd5:C:=iS [iA 2 (.box 44 4 (.t 0)),aO 3 false] (iS [aF 4 2 2,aL 5 4,aL 6 1,aP 7 .eql 3 5 6,aM 3 7] .ret)
theorem jg9:fnC Tryz.prog Tryz.f145=some (jd5,[.t 3],8):=by kernel_rfl
theorem jn7 (y:Yd) (id:Int) (ht:jn y<=2000000):jW Tryz.prog 151 [.agg (jc y),.c (.val (.int .i64 id))] (.tup [(true,jc (jah y id)),(false,[.val (.int .i64 (jaE y id))])]):=by
 refine vr [[1,1,1,1,0],[1,1,1,1,1,0,0]] Tryz.func151 jjP (by simp) ?_
 unfold jhp;simp only [C.ghs,C.ghAt,List.foldr];simp only [go_sem,jc];intro b2 b4;refine jm (km y ht) λbD=>?_
 simp only [go_sem,jc];intro b6;refine jm (qs y id) λη=>?_
 simp only [go_sem];refine jm (qr y ht) λη=>?_
 simp only [go_sem];cases aR:ju y
 ·have hc:jaE y id=8:=by simp [jaE,aR]
  have hy:jah y id=y:=by rw [jah,if_neg (by rw [hc];decide)]
  simp only [go_sem,hc,hy]
  apply kV
  simp only [go_sem]
 have hP:=yard_iff.1 aR;by_cases aK:runAt y id<0
 ·have hc:jaE y id=10:=by rw [jaE,if_neg (by rw [aR];decide),if_pos aK]
  have hy:jah y id=y:=by rw [jah,if_neg (by rw [hc];decide)]
  simp only [go_sem,aK,hc,hy]
  apply kV
  simp only [go_sem]
 obtain ⟨k,r,bZ,hr,hid,h8⟩:=kP aK;have hk:=(aNP.1 hr).1;have bJ:=qX k;have cB:¬(k:Int)<0:=by omega
 have eF:((y.aNE[(runAt y id).toNat]?).getD default)=r:=by rw [bZ,aNW,hr,aNZ]
 cases aH:r.aND==1;rotate_left
 ·have eO:r.aND=1:=by simpa using aH
  have hc:jaE y id=13:=by rw [jaE,if_neg (by rw [aR];decide),if_neg aK,eF,if_pos eO]
  have hy:jah y id=y:=by rw [jah,if_neg (by rw [hc];decide)]
  simp only [go_sem,bZ,cB,bJ,hk,jT hr,je,jd,aH,hc,hy]
  apply kV
  simp only [go_sem]
 have eO:¬r.aND=1:=by simpa using aH
 have hc:jaE y id=0:=by rw [jaE,if_neg (by rw [aR];decide),if_neg aK,eF,if_neg eO]
 rw [hc,jah,if_pos hc,bZ,aNW];simp only [go_sem,cB,bJ,hk,jT hr,je,jd,aH];refine kv ?_;generalize bD 2=aS at*;generalize bD 3=cI at*;refine WkK.wk (s':=St.of [(1,Ni id),(4,Bx 92 b4),(6,Bx 90 b6),(7,Ni k)] [(92,ZYd b4 tYd),(90,kb b6 tYd y.now y.seq y.aNC aS y.aNE cI)]) (jt [400,600]) ?_
 refine jkz 90 3 y.aNE [] 1000000000000 _ cI rfl (by decide) (λj hj=>by
  show (if j=92 then _ else if j=90 then _ else Ob.none)=Ob.none
  rw [if_neg (by omega),if_neg (by omega)]) λrows fam aC eT hη=>?_
 refine WkK.wk (jc0 [some 92,some 90] (T:=[(1,Ni id),(4,Bx 92 b4),(6,Bx 90 b6),(7,Ni k)]) (O:=[(92,ZYd b4 tYd),(90,vv b6 tYd y.now y.seq y.aNC aS (.sl 8 tRn rows) aC)]) (b:=1000000000000) (fam:=fam) (by simp only [go_sem]<;>trivial) (λj hj=>by
  show (if 1000000000000<=j then _ else _)=_
  rw [if_pos hj]) (by decide)) ?_
 refine WkK.of ?_;have bR:=eT.len;have hU:=eT.flat;obtain ⟨gT,nK⟩:=jlk hU (k*8) ((k+1)*8)
 have fN:(D.sl 8 tRn rows).len=y.aNE.length:=by
  simp only [D.len,D.cells,D.size,bR];exact aOS _ (by decide)
 have e9:=kx k;have lS:k+1<=y.aNE.length:=hk;have oU:k<=y.aNE.length:=by omega
 have yZ:((k+1:Nat):Int)>=0:=by omega
 have oD:List.take ((k+1+(y.aNE.length-(k+1))-(k+1))*8) (List.drop ((k+1)*8) rows)=List.drop ((k+1)*8) rows:=aNU (by rw [aOI,bR];omega)
 have sR:k+1+(y.aNE.length-(k+1))<=y.aNE.length:=by omega
 have o3:(List.take (k*8) rows).length/8=k:=by rw [aNV,bR,aPD (by omega)];exact aOS _ (by decide)
 have gF:(List.drop ((k+1)*8) rows).length/8=y.aNE.length-(k+1):=by
  rw [aOI,bR,show y.aNE.length*8-(k+1)*8=(y.aNE.length-(k+1))*8 by omega];exact aOS _ (by decide)
 have m1:k<=maxLen:=zy;have m2:k*96<=140737488355328:=by omega
 have m3:k+(y.aNE.length-(k+1))<=maxLen:=zy;have m4:(k+(y.aNE.length-(k+1)))*96<=140737488355328:=by omega
 simp only [go_sem,fN,e9,lS,oU,bJ,yZ,gT,nK,aOC,oD,sR,o3,gF,m1,m2,m3,m4];intro aHD aHC wM;refine kv ?_
 refine WkK.wk (jc0 [some 92,some 90] (T:=[(1,Ni id),(4,Bx 92 b4),(6,Bx 90 b6)]) (O:=[(92,ZYd b4 tYd),(90,vv b6 tYd y.now y.seq y.aNC aS (.sl 8 tRn (rows.take (k*8)++rows.drop ((k+1)*8))) wM)]) (b:=1000000000000) (fam:=fam) (by simp only [go_sem]<;>trivial) (λj hj=>by
  simp only [go_sem]
  repeat rw [if_neg (by omega)]
  rw [if_pos hj]) (by decide)) ?_
 refine WkK.wk (jo8 (b:=1000000000000) (fam:=fam) (λj=>if j<2*k then j else j+2) (λi j h=>by
  split at h<;>split at h<;>omega) (λj hj=>by
  show (if 1000000000000<=j then _ else _)=_
  rw [if_pos hj])) ?_
 refine jfB 90 3 (y.aNE.eraseIdx k) [] 1000000000000 _ wM (rows.take (k*8)++rows.drop ((k+1)*8)) _ (eT.erase hk) rfl (by decide) (λj hj=>by
  show (if 1000000000000<=j then _ else _)=_
  rw [if_pos hj]) λtL _=>?_
 generalize y.aNE.eraseIdx k=R at*;refine WkK.wk (s':=St.of [(1,Ni id),(4,Bx 92 b4),(6,Bx 90 b6)] [(92,ZYd b4 tYd),(90,kb b6 tYd y.now y.seq y.aNC aS R tL)]) (jt [92,90]) ?_;refine WkK.of ?_;have fJ:y.aNC.length=4:=hP.four;simp only [go_sem];refine qY (λi:Nat×jf=>St.of [(1,Ni id),(4,Bx 92 b4),(6,Bx 90 b6),(8,Ni i.1)] [(92,ZYd b4 tYd),(90,kb b6 tYd y.now y.seq (jey (λl=>l.filter (jcC id)) y.aNC i.1) i.2 R tL)]) (λi=>i.1<=y.aNC.length) (λi=>y.aNC.length-i.1) (0,aS) (jt [92,90] (by simp only [go_sem,jxP]<;>trivial)) ?_
 rintro ⟨n,η⟩ hn;dsimp only at hn;have eA:=jp9 (f:=λl=>List.filter (jcC id) l) (l:=y.aNC) (i:=n)
 by_cases aB:n<y.aNC.length
 ·obtain ⟨l,hl⟩:=ja aB
  have o7:=jqa (f:=λl=>List.filter (jcC id) l) hl
  have yR:=jp8 (f:=λl=>List.filter (jcC id) l) hl
  have eQ:=zo ht (aNQ hl);have gA:=kx n;have f6:=qX n;generalize hS:jey (λl=>List.filter (jcC id) l) y.aNC n=S at*
  have wB:n<S.length:=by omega
  have aA:(n:Int)<S.length:=by omega
  simp only [go_sem,aA];intro lH;refine qY (λi:Nat×jf=>St.of [(1,Ni id),(4,Bx 92 b4),(6,Bx 90 b6),(8,Ni n),(9,Hd 9 i.2),(10,Ni i.1)] [(92,ZYd b4 tYd),(90,kb b6 tYd y.now y.seq S η R tL),(9,.loose (jg ((l.take i.1).filter (jcC id))) i.2)]) (λi=>i.1<=l.length) (λi=>l.length-i.1) (0,lH) (jt [92,90,5400] (by simp only [go_sem,aOW,List.filter_nil,jif]<;>trivial)) ?_
  rintro ⟨j,l6⟩ hj;dsimp only at hj;by_cases dU:j<l.length
  ·have bB:(j:Int)<l.length:=by omega
   have dX:=qX j;obtain ⟨e,he⟩:=ja dU;have dF:=kx j;have fC:=jys (jcC id) he;have hFl:((l.take j).filter (jcC id)).length<=l.length:=aPC (aOT _ _) (by rw [aNV];omega)
   generalize (l.take j).filter (jcC id)=F at*;have n1:F.length+1<=maxLen:=zy;have n2:(F.length+1)*32<=140737488355328:=by omega
   cases dL:e.run !=id
   ·have hp:jcC id e=false:=dL
    rw [hp,if_neg (by decide),aOP] at fC
    simp only [go_sem,wB,f6,aOG,jue o7,jtH wB,qy o7,bB,dU,dX,jCw he,jCc he,dL,dF];exact qf (j+1,l6) (jt [92,90,9] (by simp only [go_sem,fC]<;>trivial))
   ·have hp:jcC id e=true:=dL
    rw [hp,if_pos rfl] at fC;simp only [go_sem,wB,f6,aOG,jue o7,jtH wB,qy o7,bB,dU,dX,jCw he,jCc he,dL,dF,jvS he,jvs he,jk,n1,n2,jyy,kC];intro ηx y0;exact qf (j+1,y0) (jt [92,90,8600] (by simp only [go_sem,fC]<;>trivial))
  ·have bB:¬(j:Int)<l.length:=by omega
   obtain rfl:j=l.length:=by omega
   rw [aPP];simp only [go_sem,wB,f6,aOG,jue o7,jtH wB,qy o7,bB,jbs,yR,gA];refine λg' cU=>?_
   exact qf (n+1,g') (jt [92,90])
 ·have aA:¬(n:Int)<(jey (λl=>List.filter (jcC id) l) y.aNC n).length:=by omega
  obtain rfl:n=y.aNC.length:=by omega
  simp only [go_sem,aA];rw [jqb]
  apply kV
  simp only [go_sem]
theorem jxA (id:Int) (e:En):jW Tryz.prog 145 [.agg (jk e),.ptr [iv id]] (.c (.val (.bool (!jcC id e)))):=by
 refine pf_ jg9 ?_;unfold jd5;have hb:(!jcC id e)=(e.run==id):=by simp [jcC,bne]
 simp only [go_sem,jk,hb]
theorem joj (y:Yd) (id:Int) (ht:jn y<=2000000):jW Tryz.prog 91 [.agg (jc y),.c (.val (.int .i64 id))] (.tup [(true,jc (jah y id)),(false,[.val (.int .i64 (jaE y id))])]):=by
 refine vr [[1,1,1,1,0],[1,1,1,1,1,0,0]] Tryz.func91 jj6 (by simp) ?_
 unfold jhG;simp only [C.ghs,C.ghAt,List.foldr];simp only [go_sem,jc];intro b2 b3 b4;refine jm (jY y ht) λbD=>?_
 simp only [go_sem,jc];intro b6;refine jm (qv y id) λη=>?_
 simp only [go_sem];refine jm (kK y ht) λη=>?_
 simp only [go_sem];cases aR:ju y
 ·have hc:jaE y id=8:=by simp [jaE,aR]
  have hy:jah y id=y:=by rw [jah,if_neg (by rw [hc];decide)]
  simp only [go_sem,hc,hy]
  apply kV
  simp only [go_sem]
 have hP:=yard_iff.1 aR;by_cases aK:runAt y id<0
 ·have hc:jaE y id=10:=by rw [jaE,if_neg (by rw [aR];decide),if_pos aK]
  have hy:jah y id=y:=by rw [jah,if_neg (by rw [hc];decide)]
  simp only [go_sem,aK,hc,hy]
  apply kV
  simp only [go_sem]
 obtain ⟨k,r,bZ,hr,hid,h8⟩:=kP aK;have hk:=(aNP.1 hr).1;have bJ:=qX k;have cB:¬(k:Int)<0:=by omega
 have eF:((y.aNE[(runAt y id).toNat]?).getD default)=r:=by rw [bZ,aNW,hr,aNZ]
 cases aH:r.aND==1;rotate_left
 ·have eO:r.aND=1:=by simpa using aH
  have hc:jaE y id=13:=by rw [jaE,if_neg (by rw [aR];decide),if_neg aK,eF,if_pos eO]
  have hy:jah y id=y:=by rw [jah,if_neg (by rw [hc];decide)]
  simp only [go_sem,bZ,cB,bJ,hk,jT hr,je,jd,aH,hc,hy]
  apply kV
  simp only [go_sem]
 have eO:¬r.aND=1:=by simpa using aH
 have hc:jaE y id=0:=by rw [jaE,if_neg (by rw [aR];decide),if_neg aK,eF,if_neg eO]
 rw [hc,jah,if_pos hc,bZ,aNW];simp only [go_sem,cB,bJ,hk,jT hr,je,jd,aH];refine kv ?_;generalize bD 2=aS at*;generalize bD 3=cI at*;refine WkK.wk (s':=St.of [(3,Bx 91 b3),(4,Bx 92 b4),(6,Bx 90 b6),(7,Ni k)] [(91,.box b3 jeP [.a (.v (.int .i64 id))]),(92,ZYd b4 tYd),(90,kb b6 tYd y.now y.seq y.aNC aS y.aNE cI)]) (jt [300,400,600]) ?_
 refine jkz 90 3 y.aNE [] 1000000000000 _ cI rfl (by decide) (λj hj=>by
  show (if j=91 then _ else if j=92 then _ else if j=90 then _ else Ob.none)=Ob.none
  rw [if_neg (by omega),if_neg (by omega),if_neg (by omega)]) λrows fam aC eT hη=>?_
 refine WkK.wk (jc0 [some 91,some 92,some 90] (T:=[(3,Bx 91 b3),(4,Bx 92 b4),(6,Bx 90 b6),(7,Ni k)]) (O:=[(91,.box b3 jeP [.a (.v (.int .i64 id))]),(92,ZYd b4 tYd),(90,vv b6 tYd y.now y.seq y.aNC aS (.sl 8 tRn rows) aC)]) (b:=1000000000000) (fam:=fam) (by simp only [go_sem]<;>trivial) (λj hj=>by
  show (if 1000000000000<=j then _ else _)=_
  rw [if_pos hj]) (by decide)) ?_
 refine qA 90 3 95 (d:=.sl 8 tRn rows) (η:=aC) rfl rfl (by decide) λeX=>?_
 refine WkK.wk (jc0 [some 91,some 92,some 90,some 95] (T:=[(3,Bx 91 b3),(4,Bx 92 b4),(6,Bx 90 b6),(7,Ni k)]) (O:=[(91,.box b3 jeP [.a (.v (.int .i64 id))]),(92,ZYd b4 tYd),(90,.box b6 tYd [.a (.v (.int .i64 y.now)),.a (.v (.int .i64 y.seq)),.own (ki y.aNC) aS,.a (.v (aC []))]),(95,.loose (.sl 8 tRn rows) aC)]) (b:=1000000000000) (fam:=fam) (by simp only [go_sem]<;>trivial) (λj hj=>by
  simp only [go_sem]
  repeat rw [if_neg (by omega)]
  rw [if_pos hj]) (by decide)) ?_
 refine WkK.of ?_;have bR:=eT.len;have hU:=eT.flat;obtain ⟨gT,nK⟩:=jlk hU (k*8) ((k+1)*8)
 have fN:(D.sl 8 tRn rows).len=y.aNE.length:=by
  simp only [D.len,D.cells,D.size,bR];exact aOS _ (by decide)
 have e9:IntKind.i64.wrap ((k:Int)+1)=(k:Int)+1:=vF;have lS:k+1<=y.aNE.length:=hk;have oU:k<=y.aNE.length:=by omega
 have yZ:((k+1:Nat):Int)>=0:=by omega
 have oD:List.take ((k+1+(y.aNE.length-(k+1))-(k+1))*8) (List.drop ((k+1)*8) rows)=List.drop ((k+1)*8) rows:=aNU (by rw [aOI,bR];omega)
 have sR:k+1+(y.aNE.length-(k+1))<=y.aNE.length:=by omega
 have o3:(List.take (k*8) rows).length/8=k:=by rw [aNV,bR,aPD (by omega)];exact aOS _ (by decide)
 have gF:(List.drop ((k+1)*8) rows).length/8=y.aNE.length-(k+1):=by
  rw [aOI,bR,show y.aNE.length*8-(k+1)*8=(y.aNE.length-(k+1))*8 by omega];exact aOS _ (by decide)
 have m1:k<=maxLen:=zy;have m2:k*96<=140737488355328:=by omega
 have m3:k+(y.aNE.length-(k+1))<=maxLen:=zy;have m4:(k+(y.aNE.length-(k+1)))*96<=140737488355328:=by omega
 have hf3:ka (rows.take (k*8)++rows.drop ((k+1)*8))=true:=by rw [vO,gT,nK];rfl
 simp only [go_sem,e9]
 refine jgi (R:=λrt o'=>rt=.c (.sl 8 tRn (rows.take (k*8)++rows.drop ((k+1)*8)))/\o' 90=.box b6 tYd [.a (.v (.int .i64 y.now)),.a (.v (.int .i64 y.seq)),.own (ki y.aNC) aS,.a (.v (aC []))]/\o' 91=.box b3 jeP [.a (.v (.int .i64 id))]/\o' 92=ZYd b4 tYd/\∀j,1000000000000<=j->o' j=fam (j-1000000000000)) (by
  simp only [go_sem];refine (jzS rows y.aNE.length k hU hf3 bR hk (g:=95) (η:=aC) (by simp only [go_sem])).mono λrt o' h=>?_
  obtain ⟨h1,rfl⟩:=h;refine ⟨h1,by simp only [go_sem],by simp only [go_sem],by simp only [go_sem],λj hj=>?_⟩
  simp only [go_sem]
  repeat rw [if_neg (by omega)]
  rw [if_pos hj]) λrt o' hR wN=>?_
 obtain ⟨rfl,j90,j91,j92,jF⟩:=hR;simp only [go_sem,j90];refine kv ?_
 refine WkK.wk (jc0 [some 91,some 92,some 90] (T:=[(3,Bx 91 b3),(4,Bx 92 b4),(6,Bx 90 b6)]) (O:=[(91,.box b3 jeP [.a (.v (.int .i64 id))]),(92,ZYd b4 tYd),(90,vv b6 tYd y.now y.seq y.aNC aS (.sl 8 tRn (rows.take (k*8)++rows.drop ((k+1)*8))) (wN 0))]) (b:=1000000000000) (fam:=fam) (by simp only [go_sem,j91,j92]<;>trivial) (λj hj=>by
  simp only [go_sem]
  repeat rw [if_neg (by omega)]
  exact jF j hj) (by decide)) ?_
 refine WkK.wk (jo8 (b:=1000000000000) (fam:=fam) (λj=>if j<2*k then j else j+2) (λi j h=>by
  split at h<;>split at h<;>omega) (λj hj=>by
  show (if 1000000000000<=j then _ else _)=_
  rw [if_pos hj])) ?_
 refine jfB 90 3 (y.aNE.eraseIdx k) [] 1000000000000 _ (wN 0) (rows.take (k*8)++rows.drop ((k+1)*8)) _ (eT.erase hk) rfl (by decide) (λj hj=>by
  show (if 1000000000000<=j then _ else _)=_
  rw [if_pos hj]) λtL _=>?_
 generalize y.aNE.eraseIdx k=R at*;refine WkK.wk (s':=St.of [(3,Bx 91 b3),(4,Bx 92 b4),(6,Bx 90 b6)] [(91,.box b3 jeP [.a (.v (.int .i64 id))]),(92,ZYd b4 tYd),(90,kb b6 tYd y.now y.seq y.aNC aS R tL)]) (jt [91,92,90]) ?_;refine WkK.of ?_;have fJ:y.aNC.length=4:=hP.four;simp only [go_sem];refine qY (λi:Nat×jf=>St.of [(3,Bx 91 b3),(4,Bx 92 b4),(6,Bx 90 b6),(41,Ni y.aNC.length),(42,Ni i.1)] [(91,.box b3 jeP [.a (.v (.int .i64 id))]),(92,ZYd b4 tYd),(90,kb b6 tYd y.now y.seq (jey (λl=>l.filter (jcC id)) y.aNC i.1) i.2 R tL)]) (λi=>i.1<=y.aNC.length) (λi=>y.aNC.length-i.1) (0,aS) (jt [91,92,90] (by simp only [go_sem,jxP]<;>trivial)) ?_
 rintro ⟨n,η⟩ fX;dsimp only at fX;have eA:=jp9 (f:=λl=>List.filter (jcC id) l) (l:=y.aNC) (i:=n)
 by_cases aB:n<y.aNC.length
 ·have aA:(n:Int)<y.aNC.length:=by omega
  obtain ⟨l,hl⟩:=ja aB;have o7:=jqa (f:=λl=>List.filter (jcC id) l) hl
  have yR:=jp8 (f:=λl=>List.filter (jcC id) l) hl
  have eQ:=jbC ht (aNQ hl);have pK:=kx n;have lZ:=qX n;generalize hS:jey (λl=>List.filter (jcC id) l) y.aNC n=S at*
  have hn:n<S.length:=by omega
  have gS:=jtH hn;have mV:=jue o7;simp only [go_sem,aA,hn,lZ,mV,gS,aOG];refine kZ (jya ?_);refine qo (β:=7000000) Tryz.func85 kw (by simp) ?_
  unfold ke;simp only [go_sem];refine jG (jcg l _ [iv id] (λe=>!jcC id e) (λx=>jxA id x) eQ) (by simp only [go_sem,qy o7]) λpJ=>?_
  simp only [go_sem]
  have hcut:∀(L:List En) (m:Nat),m<=L.length->(L.flatMap jk).take (m*4)=(L.take m).flatMap jk:=λL m hm=>by
   have e1:L.flatMap jk=(L.take m).flatMap jk++(L.drop m).flatMap jk:=by rw [<-aPK,aPF]
   rw [e1,List.take_left' (by rw [jC jtT,aNV,aPD hm])]
  rcases zO (λe=>!jcC id e) l with ⟨h1,h2⟩|⟨i0,x0,h1,h2,h3,h4⟩
  ·have hU:l.filter (jcC id)=l:=List.filter_eq_self.2 λe he=>by have:=h2 e he;simpa using this
   rw [hU] at yR;simp only [go_sem,h1,aQC];refine ⟨90,2,n,777,l.length,4,tEn,jro,l.flatMap jk,_,η,.inr ⟨rfl,(jC jtT l).symm⟩,by simp only [go_sem];rfl,jii o7,by simp only [go_sem],by decide,by decide,by rw [jC jtT];exact aOC _,λaBA aBD hη2=>?_⟩
   rw [hcut l l.length (aOC _),aPP];simp only [go_sem,jnd,jgG,hη2,jkI,jkC,jgv,hn,aOG,jbW,jgn _ l hn,kC,pK];refine ⟨hn,λg' cU=>?_⟩
   exact qf (n+1,g') (jt [91,92,90] (by simp only [go_sem,jnd,yR]<;>trivial))
  ·have sZ:=(aNP.1 h2).1
   have aJ:((i0:Int)==-1)=false:=by simp
   have hw0:=kx i0;have oJ:=jax o7;simp only [go_sem,h1,aJ,hw0];refine kg (λi:Nat×Nat×List En=>St.of [(0,.c (.h 90 2 [n] (η [n]))),(1,.fn 145 [.bp 91 0 b3]),(5,Ni i.1),(6,Ni i.2.1)] [(91,.box b3 jeP [.a (.v (.int .i64 id))]),(92,ZYd b4 tYd),(90,kb b6 tYd y.now y.seq (S.set n i.2.2) η R tL)]) (λi=>jCz (λe=>!jcC id e) l i.2.2 i.1 i.2.1) (λi=>l.length-i.2.1) (i0,i0+1,l) (jG1 h2 h3 h4) (jt [91,92,90] (by simp only [go_sem,oJ]<;>trivial)) ?_
   rintro ⟨i,j,L⟩ hd;dsimp only at hd;have hL:(S.set n L)[n]?=some L:=aNX hn;have p9:=hd.len;have hij:=hd.ij;have bN:=hd.jl;have f6:=qX i;by_cases dU:j<l.length
   ·have bB:(j:Int)<l.length:=by omega
    have dX:=qX j;obtain ⟨e,he⟩:=ja dU;have yE:L[j]?=some e:=by rw [hd.suf j (aOC _)];exact he
    have x9:i<L.length:=by omega
    have hjL:j<L.length:=by omega
    obtain ⟨xi,lB⟩:=ja x9;have hw:=kx j;have gA:=kx i;simp only [go_sem,qy hL,p9,dU,bB,dX,jvS yE,jvs yE,jk];intro b7;refine jkP (by simp only [go_sem];rfl) (jxA id e) (by simp only [go_sem,jk]) λη=>?_
    cases hf:jcC id e
    ·simp only [go_sem,hw]
     exact ⟨(i,j+1,L),jCk hd he (by simp [hf]),(jt [91,92,90]),by (try dsimp only);omega⟩
    ·simp only [go_sem,jk,hw,gA,qy hL,p9,f6,jvS lB,jvs lB,jtd e hL x9,aPE,(show i<l.length by omega)]
     exact ⟨(i+1,j+1,L.set i e),jyN hd he (by simp [hf]),(jt [91,92,90]),by (try dsimp only);omega⟩
   ·have bB:¬(j:Int)<l.length:=by omega
    obtain rfl:j=l.length:=by omega
    have yG:=jyO hd;have yD:l.filter (λe=>!!jcC id e)=l.filter (jcC id):=by simp
    rw [yD] at yG;have bW:i<=l.length:=by omega
    have iX:0<l.length-i:=by omega
    have eC:i+(l.length-i)=l.length:=by omega
    have oG:i+(l.length-i)=L.length:=by omega
    have t9:ka ((List.replicate (l.length-i) jeL).flatMap jk)=true:=jbi _;obtain ⟨L2,rZ⟩:∃L2,L2=L.take i++List.replicate (l.length-i) jeL:=⟨_,rfl⟩;have uX:L2.length=l.length:=by rw [rZ];simp;omega
    have uW:L2.take i=l.filter (jcC id):=by rw [rZ,List.take_left' (by rw [aNV];omega),yG]
    have uC:D.put [n] (i*4) ((List.replicate (l.length-i) jeL).flatMap jk) (ki (S.set n L))=ki (S.set n L2):=by rw [jrF hL (jCp oG),aPE,rZ]
    have lD:(S.set n L2)[n]?=some L2:=aNX hn;have fW:n<(S.set n L2).length:=by rw [aOE];exact hn
    simp only [go_sem,qy hL,p9,bB,f6,bW,aOC,iX,eC,jBY,jqz,uC,qy lD,uX];refine ⟨90,2,n,777,i,4,tEn,jro,L2.flatMap jk,_,η,.inl rfl,by simp only [go_sem];rfl,jii lD,by simp only [go_sem],by decide,by decide,by rw [jC jtT];omega,λaBA aBD hη2=>?_⟩
    rw [hcut L2 i (by omega),uW]
    simp only [go_sem,jnd,jgG,hη2,jkI,jkC,jgv,aOG,jbW,jgn _ (l.filter (jcC id)) fW,kC,aPE,aOE,hn,pK];refine ⟨hn,λg' cU=>?_⟩
    exact qf (n+1,g') (jt [91,92,90] (by simp only [go_sem,jnd,yR]<;>trivial))
 ·have aA:¬(n:Int)<y.aNC.length:=by omega
  obtain rfl:n=y.aNC.length:=by omega
  simp only [go_sem,aA];rw [jqb]
  apply kV
  simp only [go_sem]
theorem jga {α:Type} (f:α->Nat):∀(l:List α) (k:Nat),qh f (l.eraseIdx k)<=qh f l
 |[],_=>by simp [qh]
 |x::l,0=>by simp only [List.eraseIdx_cons_zero,qh,aPB,aQD];omega
 |x::l,k+1=>by
  have:=jga f l k;simp only [List.eraseIdx_cons_succ,qh,aPB,aQD] at this⊢;omega
