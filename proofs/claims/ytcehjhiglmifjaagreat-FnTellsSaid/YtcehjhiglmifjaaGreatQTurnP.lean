/- Parts. -/
import Derived.Test.YtcehjhiglmifjaaGreatQSwept
import Derived.Lib.SliceRun
import Derived.Deep.RegionLaw
set_option linter.all false
set_option maxHeartbeats 8000000
set_option maxRecDepth 100000
namespace Go.Proofs.YtcehjhiglmifjaaGreat
open Go.RowKit Go.Sort
def kT (y:Yd) (k:Nat) (r:Rn):Yd:=jtc ⟨y.now,y.seq,y.aLU,y.aLX.set k r⟩ r (zk ((y.aLX[k]?).getD default).aLT r.aLT r.aLT.length)
def jb1 (l:List Rn) (k:Nat) (row:List D):List D:=(l.take k).flatMap jc++(row++(l.drop (k+1)).flatMap jc)
abbrev rnV (r:Rn) (x5 x7:Value):List D:=[.val (.int .i64 r.id),.val (.int .i64 r.aLW.aMC),.val (.int .i64 r.aLW.aMG),.val (.int .i64 r.aLW.aMF),.val (.int .i64 r.aLW.aLT),.val x5,.val (.int .i64 r.aLV),.val x7]
section
variable {l:List Rn} {k:Nat} {r:Rn} {row row':List D}
theorem qS (hk:k<l.length):((l.take k).flatMap jc).length=k*8:=by rw [jg9,aMP,aNZ (Nat.le_of_lt hk)]
theorem jmF (h:l[k]?=some r):l.flatMap jc=jb1 l k (jc r):=jbB (enc:=jc) h
theorem jbd (hk:k<l.length) (j:Nat) (hj:j<row.length):(jb1 l k row)[k*8+j]?=row[j]?:=by
 rw [jb1,aOA (by rw [qS hk];omega),qS hk,aNR,aPA hj]
theorem jax (hk:k<l.length) (j:Nat) (hj:j<row.length) (d:D):(jb1 l k row).set (k*8+j) d=jb1 l k (row.set j d):=by
 rw [jb1,aPO _ _ (by rw [qS hk];omega),qS hk,aNR,aPR _ _ hj];rfl
theorem juK (hk:k<l.length) (h8:row.length=8):((jb1 l k row).drop (k*8)).take 8=row:=by
 rw [jb1,List.drop_append_of_le_length (by rw [qS hk];exact aMV _),List.drop_eq_nil_of_le (by rw [qS hk];exact aMV _),aON,<-h8,List.take_left]
theorem jje (hk:k<l.length) (h8:row.length=8):(jb1 l k row).length=l.length*8:=by
 have h1:=jg9 (l.drop (k+1));rw [aND] at h1;rw [jb1,aMR,aMR,qS hk,h1,h8];omega
theorem jxg (hk:k<l.length) (h8:row.length=8) (mC:row'.length=8):kI (jb1 l k row) (k*8) row'=jb1 l k row':=by
 have h1:=qS hk;have h2:=jje hk h8;rw [qd _ _ _ (by rw [h2,mC];omega),jb1,List.take_left' h1,mC]
 have:((l.take k).flatMap jc++(row++(l.drop (k+1)).flatMap jc)).drop (k*8+8)=(l.drop (k+1)).flatMap jc:=by
  rw [<-aNA];exact List.drop_left' (by rw [aMR,h1,h8])
 rw [this,jb1,aNA]
theorem jn5 (hk:k<l.length) (h8:row.length=8):(D.sl 8 tRn (jb1 l k row)).len=l.length:=by
 simp only [D.len,D.cells,D.size,jje hk h8];exact aNN _ (by decide)
theorem jmE (hk:k<l.length):D.sl 8 tRn (jb1 l k (jc r))=jI (l.set k r):=by
 have h1:(l.set k r)[k]?=some r:=aML hk;have h2:=jmF h1
 have h3:jb1 (l.set k r) k (jc r)=jb1 l k (jc r):=by
  rw [jb1,jb1,List.take_set_of_le (aMV _),List.drop_set_of_lt (Nat.lt_succ_self k)]
 rw [jI,h2,h3]
end
theorem jzt {flat:Bool} {p:List Nat} {k n:Nat} {η:jm} {K:jm->Prop} (h:∀aH,K aH):stH flat p k n η K:=by
 cases flat with
 |true=>exact h _
 |false=>exact λaH _=>h aH
theorem zI (r:Rn) (t:Int):(kx r t).aLT.length=r.aLT.length:=by
 unfold kx;split
 ·simp only [jhn,jaW]
 ·rfl
theorem kF (r:Rn) (t:Int):(jz r t).aLT.length=r.aLT.length:=by
 unfold jz;split
 ·unfold zC
  split
  ·simp only [aMU]
  ·simp only [vX,aMU]
 ·rfl
theorem RunOkP.le12 {r:Rn} (h:RunOkP r):r.aLT.length<=12:=by
 obtain ⟨n,h1,_,h2,_⟩:=jcH h.aLW;have:=h.len;omega
theorem jz7 {was ts:List Tk} {k:Nat} {x z:Tk} (h:ts[k]?=some x) (hz:was[k]?=some z):jpA was ts k=((x.aLV==2)&&!(z.aLV==2)):=by
 have:=(aMI.1 hz).1;simp [jpA,kt h,kt hz,this]
section
variable {P:Program} {β:Nat} {s:St} {K:St->Prop} {d:Option Nat} {g:Option (Nat×Bool)}
theorem Inl.weak {f:FuncId} {args:List AV} {o:Nat->Ob} {R R':AV->(Nat->Ob)->Prop} (h:Inl P f args o R) (hk:∀av o',R av o'->R' av o'):Inl P f args o R':=
 ⟨h.1,λB w F xs h1 h2=>(h.2 B w F xs h1 h2).mono λe w' ⟨v,av,o',F',k1,k2,k3,k4⟩=>⟨v,av,o',F',k1,k2,k3,hk _ _ k4⟩⟩
theorem jlF {f:Nat} {args:List X} {R:AV->(Nat->Ob)->Prop} (h:Inl P f (args.map s.ev) s.o R) (hk:∀av o',R av o'->K (St.put ⟨s.t,o'⟩ d av)):vv P β ⟨d,g,.call f args⟩ s K:=qe (h.weak hk)
theorem kL {f:Nat} {args:List X} {vs:List AV} {R:AV->(Nat->Ob)->Prop} (ha:args.map s.ev=vs) (h:Inl P f vs s.o R) (hk:∀av o',R av o'->K (St.put ⟨s.t,o'⟩ d av)):vv P β ⟨d,g,.call f args⟩ s K:=by subst ha;exact jlF h hk
theorem jnT (x:A0):x.sim x=True:=by cases x<;>simp [A0.sim]
theorem jnR:∀l:List A0,simL l l=True
 |[]=>rfl
 |x::l=>by simp [simL,jnT,jnR l]
theorem jnQ (x:Cell):x.sim x=True:=by cases x<;>simp [Cell.sim,jnT]
theorem jnS:∀l:List Cell,simC l l=True
 |[]=>rfl
 |x::l=>by simp [simC,jnQ,jnS l]
theorem jO (x:Ob):x.sim x=True:=by cases x<;>simp [Ob.sim,jnS]
end
abbrev jDh (o o':Nat->Ob):Prop:=o' 92=o 92/\o' 93=o 93/\o' 94=o 94/\o' 95=o 95/\o' 96=o 96/\o' 97=o 97
def EpK (P:Program) (f:FuncId) (k:Nat) (t:Int) (y:Yd) (r2:Rn):Prop:=∀(o:Nat->Ob) (b:Nat) (e2 e3:jm),o 90=ka b tYd y.now y.seq y.aLU e2 y.aLX e3->
 Inl P f [.c (.ep 90 3 [] (k*8) (e3 [])),Ni t] o λav o'=>av=.tup []/\o' 90=ka b tYd y.now y.seq y.aLU e2 (y.aLX.set k r2) e3/\o' 91=o 91/\jDh o o'
def jwH (P:Program) (f:FuncId) (caps:List A0) (H:Ob) (k:Nat) (y:Yd) (r2:Rn):Prop:=∀(o:Nat->Ob) (b:Nat) (e2 e3:jm),o 90=ka b tYd y.now y.seq y.aLU e2 y.aLX e3->o 91=H->
 Turns P f ([.c (.ep 90 3 [] (k*8) (e3 []))]++caps.map .c) o λrt o'=>rt=.tup []/\o' 90=ka b tYd y.now y.seq y.aLU e2 (y.aLX.set k r2) e3/\o' 91=H/\jDh o o'
section
variable {l:List Rn} {k:Nat} {r:Rn}
theorem qL (h:l[k]?=some r):((l.flatMap jc).drop (k*8+7)).take 1=[jC r.aLT]:=qA (enc:=jc) (size:=8) (λ_=>rfl) h (j:=7) (n:=1) (by decide)
theorem jzb (h:l[k]?=some r):((l.flatMap jc).drop (k*8+6)).take 1=[.val (.int .i64 r.aLV)]:=qA (enc:=jc) (size:=8) (λ_=>rfl) h (j:=6) (n:=1) (by decide)
theorem jDc (h:l[k]?=some r):((l.flatMap jc).drop (k*8+1)).take 5=ja r.aLW:=qA (enc:=jc) (size:=8) (λ_=>rfl) h (j:=1) (n:=5) (by decide)
theorem jDd (h:l[k]?=some r):((l.flatMap jc).drop (k*8+1+1)).take 1=[.val (.int .i64 r.aLW.aMG)]:=qA (enc:=jc) (size:=8) (λ_=>rfl) h (j:=2) (n:=1) (by decide)
theorem qU (h:l[k]?=some r):k*8+7+1<=(l.flatMap jc).length:=qG (enc:=jc) (size:=8) (λ_=>rfl) h (j:=7) (n:=1) (by decide)
theorem jyU (h:l[k]?=some r):k*8+6+1<=(l.flatMap jc).length:=qG (enc:=jc) (size:=8) (λ_=>rfl) h (j:=6) (n:=1) (by decide)
theorem jCy (h:l[k]?=some r):k*8+1+5<=(l.flatMap jc).length:=qG (enc:=jc) (size:=8) (λ_=>rfl) h (j:=1) (n:=5) (by decide)
theorem jCz (h:l[k]?=some r):k*8+1+1+1<=(l.flatMap jc).length:=qG (enc:=jc) (size:=8) (λ_=>rfl) h (j:=2) (n:=1) (by decide)
theorem juU (h:l[k]?=some r) (v:Int):D.put [] (k*8+6) [.val (.int .i64 v)] (jI l)=jI (l.set k ⟨r.id,r.aLW,v,r.aLT⟩):=jbH (enc:=jc) (size:=8) (λ_=>rfl) h (j:=6) rfl (by simp [jc,ja])
theorem va (h:l[k]?=some r) {ts:List Tk} {i:Nat} {ds:List D} (hp:D.put [] i ds (jC r.aLT)=jC ts):D.put [k*8+7] i ds (jI l)=jI (l.set k ⟨r.id,r.aLW,r.aLV,ts⟩):=by
 have hk:=(aMI.1 h).1;have h7:(l.flatMap jc)[k*8+7]?=some (jC r.aLT):=jpN (j:=7) h (by decide)
 have e:(l.flatMap jc).set (k*8+7) (jC ts)=jb1 l k (jc ⟨r.id,r.aLW,r.aLV,ts⟩):=by
  rw [jmF h,jax hk 7 (by simp [jc,ja])];rfl
 rw [<-jmE hk,<-e];simp only [jI,D.put,h7,hp]
end
theorem jAA {k t:Nat} {y:Yd} {r:Rn} (hr:y.aLX[k]?=some r) (aS:vL r t=true):EpK Tryz.prog 124 k t y (kx r t):=by
 intro o b10 e2 e3 hU;refine qv (β:=7000000) Tryz.func124 jlh (by simp) ?_
 unfold jkC;obtain ⟨t',x,dK,hx,hs,hP⟩:=jbc aS;obtain rfl:t=t':=by omega
 obtain ⟨n,hn,d8,cC,dS,bV,aX,-⟩:=jcH hP.aLW;have aD:=hP.len;have cZ:=(aMI.1 hr).1;have dV:=(aMI.1 hx).1;have eY:=qT t;have bW:(r.aLT.set t ⟨4,x.aME,x.tri,x.til⟩)[t]?=some ⟨4,x.aME,x.tri,x.til⟩:=aML dV;have lX:t<(r.aLT.set t ⟨4,x.aME,x.tri,x.til⟩).length:=by rw [aMU];exact dV
 have hS:∀r':Rn,(y.aLX.set k r')[k]?=some r':=λr'=>aML cZ
 have cL:=hS ⟨r.id,r.aLW,r.aLV,r.aLT.set t ⟨4,x.aME,x.tri,x.til⟩⟩;have oG:=hS ⟨r.id,r.aLW,r.aLV,r.aLT.set t ⟨4,x.aME,x.tri,0⟩⟩;simp only [go_sem,hU,aMX,dV,eY,qL hr,qU hr,jW hr,va hr (jbp hx 4),va hr (zX hx 4),vi hx,qK hx,zF hx,zx hx,lX,qL cL,qU cL,jW cL,jj6 bW,jwu bW,va cL (je4 bW 0),aNP,jDc oG,jCy oG,ja,kj oG];refine jn (jjV r.aLW t hP.aLW) (by simp only [go_sem,jc,ja,jf0 oG,kj oG]) λcH=>?_
 simp only [go_sem,jc,ja,jf0 oG,kj oG];have tZ:=jr2 hn cC dS t;have hlD:(vS r.aLW r.aLT t x).length=r.aLT.length:=jaW _ _ _ _;have hR:kx r t=jhn r t x:=jb0 hx aS;generalize gA:r.aLT.set t ⟨4,x.aME,x.tri,0⟩=ts0 at*;have cP:ts0.length=r.aLT.length:=by rw [<-gA,aMU]
 have xV:vS r.aLW r.aLT t x=(jbW r.aLW t).foldl ja4 ts0:=by rw [<-gA];rfl
 refine vo (λi:Nat=>St.of [(0,.c (.ep 90 3 [] (k*8) (e3 []))),(26,Hd 26 (cH 0)),(27,Ni (jbW r.aLW t).length),(28,Ni i)] [(90,ka b10 tYd y.now y.seq y.aLU e2 (y.aLX.set k ⟨r.id,r.aLW,r.aLV,((jbW r.aLW t).take i).foldl ja4 ts0⟩) e3),(91,o 91),(92,o 92),(93,o 93),(94,o 94),(95,o 95),(96,o 96),(97,o 97),(26,.loose (je (jbW r.aLW t)) (cH 0))]) (λi=>i<=(jbW r.aLW t).length) (λi=>(jbW r.aLW t).length-i) 0 (jy [90,91,92,93,94,95,96,97,700002600] (by simp only [go_sem,jc,ja,aNM,List.foldl_nil,jO]<;>trivial)) ?_
 rintro j hj;by_cases aB:j<(jbW r.aLW t).length
 ·have aA:(j:Int)<(jbW r.aLW t).length:=by omega
  obtain ⟨v,hv⟩:=jd aB;have pK:=jqE hn (aMJ hv);have fW:=jf5 ((jbW r.aLW t).take j) ts0;have fC:=jl4 hv ts0;generalize ((jbW r.aLW t).take j).foldl ja4 ts0=ts at*;have bN:v.toNat<ts.length:=by omega
  have nR:=pK.1;obtain ⟨z,fU⟩:=jd bN;have hw:=kX j;rw [jqV fU] at fC;generalize gI:IntKind.i64.wrap (z.aME-1)=nd at*;have pJ:(ts.set v.toNat ⟨z.aLV,nd,z.tri,z.til⟩)[v.toNat]?=some ⟨z.aLV,nd,z.tri,z.til⟩:=aML bN;have q1:=hS ⟨r.id,r.aLW,r.aLV,ts⟩;have q2:=hS ⟨r.id,r.aLW,r.aLV,ts.set v.toNat ⟨z.aLV,nd,z.tri,z.til⟩⟩;cases hz:nd==0
  ·have cI:¬nd=0:=by simpa using hz
   rw [if_neg cI] at fC;simp only [go_sem,jc,ja,aMX,aB,aA,jg hv,jf aB,qL q1,qU q1,jW q1,bN,nR,jr6 fU,jrB fU,gI,va q1 (juT fU nd),aNP,qL q2,qU q2,jW q2,jr6 pJ,jrB pJ,hz,hw];exact ql (j+1) (jy [90,91,92,93,94,95,96,97,26] (by simp only [go_sem,jc,ja,fC,jO]<;>trivial))
  ·have cI:nd=0:=by simpa using hz
   rw [if_pos cI] at fC;simp only [go_sem,jc,ja,aMX,aB,aA,jg hv,jf aB,qL q1,qU q1,jW q1,bN,nR,jr6 fU,jrB fU,gI,va q1 (juT fU nd),aNP,qL q2,qU q2,jW q2,jr6 pJ,jrB pJ,hz,vi pJ,qK pJ,va q2 (jbp pJ 2),va q2 (zX pJ 2),hw];exact ql (j+1) (jy [90,91,92,93,94,95,96,97,26] (by simp only [go_sem,jc,ja,fC,jO]<;>trivial))
 have aA:¬(j:Int)<(jbW r.aLW t).length:=by omega
 rw [aMO (by omega)]
 rw [hR,<-xV];have yU:jhn r t x=⟨r.id,r.aLW,if (qQ 4 (vS r.aLW r.aLT t x)).length=r.aLT.length then 2 else r.aLV,vS r.aLW r.aLT t x⟩:=rfl
 rw [yU];generalize vS r.aLW r.aLT t x=tD at*;have q3:=hS ⟨r.id,r.aLW,r.aLV,tD⟩;simp only [go_sem,jc,ja,aMX,aA,jkJ q3,je9 q3,qL q3,qU q3,jW q3,kz q3,kj q3];refine jn (qC ⟨r.id,r.aLW,r.aLV,tD⟩ 4 (by simp only;omega)) (by simp only [go_sem,jc,ja,kj q3,kz q3,jW q3]) λη=>?_
 simp only [go_sem,jc,ja,kj q3,kz q3,jW q3];rw [<-hlD];generalize hq:(qQ 4 tD).length=q at*;cases he:(q:Int)==(tD.length:Int)
 ·have fE:¬q=tD.length:=jvF he
  rw [if_neg fE];simp only [go_sem,jc,ja,aMX,he,hq];exact ⟨rfl,rfl,rfl,rfl,rfl,rfl⟩
 ·have fE:q=tD.length:=jvE he
  rw [if_pos fE];simp only [go_sem,jc,ja,aMX,he,hq,jzb q3,jyU q3,juU q3,aNP];exact ⟨rfl,rfl,rfl,rfl,rfl,rfl⟩
theorem jvy {P:Program} {f:FuncId} {args:List AV} {o:Nat->Ob} {R:AV->(Nat->Ob)->Prop} (h:Inl P f args o λav o'=>WkK (.only o') λs'=>R av s'.o):Inl P f args o R:=
 ⟨h.1,λB w F xs h1 h2=>(h.2 B w F xs h1 h2).mono λe w' ⟨v,av,o',F',k1,k2,k3,k4⟩=>by
  obtain ⟨s',F2,k5,k6⟩:=k4 _ _ _ _ _ _ k2;exact ⟨v,av,s'.o,F2,k1,⟨k5.below,k5.hB,k5.df,k5.sz,λ_=>trivial,k5.ob,k5.fr,k5.dj⟩,k3,k6⟩⟩
def frP (was:List Tk) (v:Int):Bool:=!decide (v∈qQ 2 was)
theorem jxB {s:Int} {ts:List Tk} {j:Nat}:(j:Int)∈qQ s ts↔j<ts.length/\(stT ts (j:Int)==s)=true:=by
 simp only [qQ,zh,aOB,aOD,aPJ];constructor
 ·rintro ⟨i,h,he⟩
  obtain rfl:i=j:=by omega
  exact h
 ·exact λh=>⟨j,h,rfl⟩
theorem jCD (was ts:List Tk):(qQ 2 ts).filter (frP was)=zk was ts ts.length:=by
 simp only [qQ,zh,zk,List.filter_map,List.filter_filter]
 congr 1
 refine List.filter_congr λj _=>?_
 have h:frP was (j:Int)=!(decide (j<was.length)&&(stT was (j:Int)==2)):=by
  simp only [frP,jxB]
  congr 1
  cases (stT was (j:Int)==2)<;>simp
 simp only [Function.comp,h,jpA];rw [Bool.and_comm]
theorem jAy {l:List Int} {k:Nat} {v:Int} (p:Int->Bool) (h:l[k]?=some v):(l.take (k+1)).filter p=(l.take k).filter p++(if p v then [v] else []):=by
 rw [aMT,h,aOV];cases hp:p v<;>simp [hp]
def jgO:C:=iS [aM 10 0,aF 11 0 10,aF 12 3 11,aL 13 12,aM 14 1,aI 15 8 13 14,aT 16 8 15,iA 17 (.call 47 [.t 16,oI 2]),aM 6 17] (iS [aM 18 2,aM 19 0,aF 20 0 19,aF 21 3 20,aL 22 21,aM 23 1,aI 24 8 22 23,iA 25 (.callv (.t 18) [.t 24])] (iS [iA 7 (.mov (.c (.slice none 0 0)))] (.seq (iS [aM 26 0,aF 27 0 26,aF 28 3 27,aL 29 28,aM 30 1,aI 31 8 29 30,aT 32 8 31,iA 33 (.call 47 [.t 32,oI 2]),aG 34 33,aN 35 0] (.blk 0 (.loop (iS [aP 36 .lss 3 35 34] (.seq (iD 36 .skip (.exit 0)) (.seq (.blk 1 (iS [aI 37 1 33 35,aL 38 37,aM 9 38] (iS [aM 39 6,aM 40 9,iA 41 (iK 80 [39,40]),aU 42 41] (iD 42 (.reg [aM 43 7,aM 44 9,iA 45 (wAW [(0,1,.t 44)]),iA 46 (wA3 43 45),aM 7 46]) .skip)))) (.reg [aQ 47 .add 3 35 1,aM 35 47]))))))) (.reg [aM 48 0,aM 49 0,aF 50 0 49,aF 51 3 50,aL 52 51,aM 53 1,aI 54 8 52 53,aT 55 8 54,aM 56 7,iA 57 (iK 111 [48,55,56])]))))
theorem jiT:fnC Tryz.prog Tryz.f116=some (jgO,[],58):=by kernel_rfl
theorem jdR {k b:Nat} {y:Yd} {r r2:Rn} {f:FuncId} {caps:List A0} {H:Ob} (hr:y.aLX[k]?=some r) (oR:r2.aLT.length=r.aLT.length) (aBV:r.aLT.length<=12) (h4:y.aLU.length=4) (hq:1<=y.seq/\y.seq<=4000000000) (ht:jt y<=2000000)
 (hc:jwH Tryz.prog f caps H k y r2) {o:Nat->Ob} {e2 e3:jm} (mA:o 90=ka b tYd y.now y.seq y.aLU e2 y.aLX e3) (nM:o 91=H):
 Inl Tryz.prog 116 [Bx 90 b,Ni k,.fn f caps] o λav o'=>av=.tup []/\(∃e2' e3',o' 90=ka b tYd (kT y k r2).now (kT y k r2).seq (kT y k r2).aLU e2' (kT y k r2).aLX e3')/\o' 91=H/\o' 92=o 92/\o' 93=o 93/\o' 94=o 94/\o' 95=o 95/\o' 96=o 96:=by
 refine jvy ?_;refine jlZ (β:=5000000) [[1,0],[1,1,1,1]] Tryz.func116 jiT (by simp) ?_
 unfold jgO;simp only [C.ghs,C.ghAt,List.foldr];have hk:=(aMI.1 hr).1;have bD:=qT k;simp only [go_sem,mA,aMX,hk,bD,jkJ hr,je9 hr,jc,ja];refine jn (qC r 2 (by omega)) (by simp only [go_sem,mA,jc,ja,kj hr,kz hr]) λsP=>?_
 simp only [go_sem,mA,jc,ja,kj hr,kz hr];refine qa ?_;refine WkK.wk (s':=St.of [(0,Bx 90 b),(1,Ni k),(2,.fn f caps),(6,Hd 97 (sP 0))] [(90,ka b tYd y.now y.seq y.aLU e2 y.aLX e3),(91,o 91),(92,o 92),(93,o 93),(94,o 94),(95,o 95),(96,o 96),(97,.loose (je (qQ 2 r.aLT)) (sP 0))]) (jy [90,91,92,93,94,95,96,500001700] (by simp only [go_sem,mA,jO,jnR]<;>trivial)) ?_
 refine WkK.of ?_;simp only [go_sem,aMX,hk,bD,je9 hr];refine juz (f:=f) (caps:=caps) (by simp only [go_sem]) (hc _ b e2 e3 (by simp only [go_sem]) (by simp only [go_sem];exact nM)) ?_
 rintro _ o1 ⟨rfl,j90,j91,j92,j93,j94,j95,j96,j97⟩ η;simp only [go_sem] at j92 j93 j94 j95 j96 j97;have cL:(y.aLX.set k r2)[k]?=some r2:=aML hk;have mO:k<(y.aLX.set k r2).length:=by rw [aMU];exact hk
 simp only [go_sem,j90,aMX,mO,bD,jkJ cL,je9 cL,jc,ja];refine jn (qC r2 2 (by omega)) (by simp only [go_sem,j90,jc,ja,kj cL,kz cL]) λyO=>?_
 simp only [go_sem,j90,jc,ja,kj cL,kz cL]
 have mM:∀v:Int,v∈qQ 2 r2.aLT->0<=v:=λv hv=>by
  simp only [qQ,zh,aOB] at hv;obtain ⟨a,_,rfl⟩:=hv;omega
 have hfn:=jCD r.aLT r2.aLT;have sO:(qQ 2 r2.aLT).length<=12:=aNX (vx _ _ _) (by omega)
 have hBl:(qQ 2 r.aLT).length<=12:=aNX (vx _ _ _) aBV;generalize qQ 2 r2.aLT=L2 at*;refine vo (λi:Nat×jm=>St.of [(0,Bx 90 b),(1,Ni k),(6,Hd 97 (sP 0)),(7,Hd 7 i.2),(33,Hd 33 (yO 0)),(34,Ni L2.length),(35,Ni i.1)] [(90,ka b tYd y.now y.seq y.aLU e2 (y.aLX.set k r2) e3),(91,H),(92,o 92),(93,o 93),(94,o 94),(95,o 95),(96,o 96),(97,.loose (je (qQ 2 r.aLT)) (sP 0)),(7,.loose (je ((L2.take i.1).filter (frP r.aLT))) i.2),(33,.loose (je L2) (yO 0))]) (λi=>i.1<=L2.length) (λi=>L2.length-i.1) (0,jcF) (zo [some 90,some 91,some 92,some 93,some 94,some 95,some 96,some 97,none,some 500003300] (by simp only [go_sem,j90,j91,j92,j93,j94,j95,j96,j97,aNM,List.filter_nil,jO]<;>trivial)) ?_
 rintro ⟨i,bF⟩ hi;dsimp only at hi;by_cases aB:i<L2.length
 ·have aA:(i:Int)<L2.length:=by omega
  obtain ⟨v,hv⟩:=jd aB;have hw:=kX i;have fC:=jAy (frP r.aLT) hv;have hFl:((L2.take i).filter (frP r.aLT)).length<=12:=aNX (aNH _ _) (by rw [aMP];omega)
  generalize (L2.take i).filter (frP r.aLT)=F at*;have m1:F.length+1<=maxLen:=by unfold maxLen;omega
  have m2:(F.length+1)*8<=140737488355328:=by omega
  simp only [go_sem,aA,aB,jg hv,jf aB];refine jx (jjW (qQ 2 r.aLT) v (by omega)) λη=>?_
  simp only [go_sem];cases hd:decide (v∈qQ 2 r.aLT)
  ·have hp:frP r.aLT v=true:=by rw [frP,hd];rfl
   rw [hp,if_pos rfl] at fC;simp only [go_sem,hd,m1,m2,vC,hw];intro dB mF;exact ql (i+1,mF) (jy [90,91,92,93,94,95,96,97,500004600,33] (by simp only [go_sem,fC,jO]<;>trivial))
  ·have hp:frP r.aLT v=false:=by rw [frP,hd];rfl
   rw [hp,if_neg (by decide),aNI] at fC
   simp only [go_sem,hd,hw];exact ql (i+1,bF) (jy [90,91,92,93,94,95,96,97,7,33] (by simp only [go_sem,fC,jO]<;>trivial))
 have aA:¬(i:Int)<L2.length:=by omega
 rw [aMO (by omega),hfn]
 simp only [go_sem,aA];refine qa ?_;have hR:jI (y.aLX.set k r2)=.sl 8 tRn (jb1 y.aLX k (jc r2)):=(jmE hk).symm;have hid:(zk r.aLT r2.aLT r2.aLT.length).length<=12:=aNX (jdK _ _ _) (by omega)
 have uF:kT y k r2=⟨y.now,(zl r2.aLW.aMC r2.id (zk r.aLT r2.aLT r2.aLT.length) ((y.aLU[shN r2.id]?).getD default,y.seq)).2,y.aLU.set (shN r2.id) (zl r2.aLW.aMC r2.id (zk r.aLT r2.aLT r2.aLT.length) ((y.aLU[shN r2.id]?).getD default,y.seq)).1,y.aLX.set k r2⟩:=by rw [kT,hr,aMM];rfl
 generalize zk r.aLT r2.aLT r2.aLT.length=ids at*;refine WkK.wk (s':=St.of [(0,Bx 90 b),(1,Ni k),(7,Hd 97 bF)] [(90,vu b tYd y.now y.seq y.aLU e2 (jI (y.aLX.set k r2)) e3),(91,H),(92,o 92),(93,o 93),(94,o 94),(95,o 95),(96,o 96),(97,.loose (je ids) bF)]) (jy [90,91,92,93,94,95,96,7] (by simp only [go_sem,jO]<;>trivial)) ?_
 rw [hR];refine jeW 90 3 (k*8+5) 98 (η:=e3) (cs:=r2.aLW.aLY.flatMap jR) rfl (jbd hk 5 (by simp [jc,ja])) rfl (by decide) λbH eP yJ mV nW=>?_
 rw [jax hk 5 (by simp [jc,ja])]
 refine jeW 90 3 (k*8+7) 99 (η:=eP) (cs:=r2.aLT.flatMap jk) rfl (jbd hk 7 (by simp [jc,ja])) rfl (by decide) λcH i9 yG dQ lR=>?_
 rw [jax hk 7 (by simp [jc,ja])]
 rw [<-mV,<-dQ];rw [<-mV] at nW;rw [<-dQ] at lR;have hV:((jc r2).set 5 (.val (bH []))).set 7 (.val (cH []))=rnV r2 (bH []) (cH []):=rfl;rw [hV];obtain ⟨dR,mU⟩:∃dR,D.sl 8 tRn (jb1 y.aLX k (rnV r2 (bH []) (cH [])))=dR:=⟨_,rfl⟩;refine WkK.wk (s':=St.of [(0,Bx 90 b),(1,Ni k),(7,Hd 97 bF)] [(90,vu b tYd y.now y.seq y.aLU e2 (.sl 8 tRn (jb1 y.aLX k (rnV r2 (bH []) (cH [])))) i9),(91,H),(92,o 92),(93,o 93),(94,o 94),(95,o 95),(96,o 96),(97,.loose (je ids) bF),(98,.loose (jv r2.aLW.aLY) bH),(99,.loose (jC r2.aLT) cH)]) (jy [90,91,92,93,94,95,96,97,98,99] (by simp only [go_sem,jO,jv,jC]<;>trivial)) ?_
 refine WkK.of ?_;have g8:(jb1 y.aLX k (rnV r2 (bH []) (cH []))).length=y.aLX.length*8:=jje hk rfl;have gE:((jb1 y.aLX k (rnV r2 (bH []) (cH []))).drop (k*8)).take 8=rnV r2 (bH []) (cH []):=juK hk rfl;have uW:k*8+8<=y.aLX.length*8:=by omega
 have fN:(D.sl 8 tRn (jb1 y.aLX k (rnV r2 (bH []) (cH [])))).len=y.aLX.length:=jn5 hk rfl;simp only [go_sem,g8,fN,gE,uW,hk,bD,nW,lR,aMX];refine qe (qv (β:=8000000) Tryz.func111 jc9 (by simp) ?_)
 unfold jdp;simp only [go_sem,nW,lR];intro b74;refine jx (jei r2.id) λη=>?_
 simp only [go_sem];obtain ⟨eU,pV⟩:=jzw r2.id;rw [eU];rw [uF];generalize shN r2.id=n at*;have hn:n<y.aLU.length:=by omega
 have fM:=qT n;obtain ⟨l,hl⟩:=jd hn;have eV:=zp ht (aMJ hl);rw [hl,aMM];rw [mU];refine vo (λi:Nat×jm=>St.of [(0,Bx 90 b),(4,Bx 4 b74),(6,Ni n),(12,Hd 97 bF),(13,Ni ids.length),(14,Ni i.1)] [(90,vu b tYd y.now (zl r2.aLW.aMC r2.id (ids.take i.1) (l,y.seq)).2 (y.aLU.set n (zl r2.aLW.aMC r2.id (ids.take i.1) (l,y.seq)).1) i.2 dR i9),(91,H),(92,o 92),(93,o 93),(94,o 94),(95,o 95),(96,o 96),(97,.loose (je ids) bF),(98,.loose (jv r2.aLW.aLY) bH),(99,.loose (jC r2.aLT) cH),(4,jpw b74 tRn r2 (bH []) (cH []))]) (λi=>i.1<=ids.length) (λi=>ids.length-i.1) (0,e2) (jy [90,91,92,93,94,95,96,97,98,99,800000400] (by simp only [go_sem,aNM,jfS,jaw hl,jO]<;>trivial)) ?_
 rintro ⟨i,η⟩ hi;dsimp only at hi;have rW:=zY r2.aLW.aMC r2.id (ids.take i) (l,y.seq);have cX:=jdQ r2.aLW.aMC r2.id (ids.take i) (l,y.seq);have gX:(ids.take i).length=i:=by rw [aMP];omega
 dsimp only at rW cX;by_cases aB:i<ids.length
 ·have aA:(i:Int)<ids.length:=by omega
  have eK:=qT i;obtain ⟨x,hx⟩:=jd aB;have eG:=jfR r2.aLW.aMC r2.id (ids.take i) x (l,y.seq);have cQ:ids.take (i+1)=ids.take i++[x]:=by rw [aMT,hx];rfl
  rw [<-cQ] at eG;have hw:=kX i;have bS:IntKind.i64.wrap ((zl r2.aLW.aMC r2.id (ids.take i) (l,y.seq)).2+1)=(zl r2.aLW.aMC r2.id (ids.take i) (l,y.seq)).2+1:=zy;generalize u7:zl r2.aLW.aMC r2.id (ids.take i) (l,y.seq)=P at*;obtain ⟨sh,fH⟩:∃s,y.aLU.set n P.1=s:=⟨_,rfl⟩;have iZ:sh[n]?=some P.1:=by rw [<-fH];exact aML hn
  have gH:n<sh.length:=by rw [<-fH,aMU];exact hn
  have gQ:∀L,sh.set n L=y.aLU.set n L:=λL=>by rw [<-fH,aNP]
  have gJ:n+1<=(sh.flatMap λes=>[ji es]).length:=by have:=jbf gH;rwa [aMZ] at this
  have aW:((sh.flatMap λes=>[ji es]).drop n).take 1=[ji P.1]:=by have:=jcd iZ;rwa [aMZ] at this
  have iJ:i+1<=(ids.flatMap λn=>[iv n]).length:=by have:=jf aB;rwa [aMZ] at this
  have lA:((ids.flatMap λn=>[iv n]).drop i).take 1=[iv x]:=by have:=jg hx;rwa [aMZ] at this
  rw [fH];simp only [go_sem,ja,jc,aA,eK,aB,lA,iJ,aMX,gH,aMZ,aW,gJ,fM];refine jn (jaN P.1 ⟨r2.aLW.aMC,P.2,r2.id,x⟩ (by omega)) (by simp only [go_sem,jh,kn iZ]) λrR=>?_
  simp only [go_sem,jh,kn iZ];simp only [go_sem,gH,aMZ,gJ,aW,fM,jaI,bS,hw,gQ,aMX];refine λaH hη'=>?_
  exact ql (i+1,aH) (jy [90,91,92,93,94,95,96,97,98,99,4] (by simp only [go_sem,ja,jc,eG,jO]<;>trivial))
 obtain rfl:i=ids.length:=by omega
 have aA:¬((ids.length:Nat):Int)<ids.length:=by omega
 rw [aOI];generalize zl r2.aLW.aMC r2.id ids (l,y.seq)=P at*;subst mU;simp only [go_sem,aA];refine WkK.wk (s':=St.of [] [(90,vu b tYd y.now P.2 (y.aLU.set n P.1) η (.sl 8 tRn (jb1 y.aLX k (rnV r2 (bH []) (cH [])))) i9),(91,H),(92,o 92),(93,o 93),(94,o 94),(95,o 95),(96,o 96),(98,.loose (jv r2.aLW.aLY) bH),(99,.loose (jC r2.aLT) cH)]) (jy [90,91,92,93,94,95,96,98,99] (by simp only [go_sem,jO]<;>trivial)) ?_
 refine qI 90 3 (k*8+5) 98 (η:=i9) (aV:=bH) (cs:=r2.aLW.aLY.flatMap jR) rfl (jbd hk 5 (by simp)) (.inl rfl) rfl (by decide) λz9 _=>?_
 rw [jax hk 5 (by simp)]
 refine qI 90 3 (k*8+7) 99 (η:=z9) (aV:=cH) (cs:=r2.aLT.flatMap jk) rfl (jbd hk 7 (by simp)) (.inl rfl) rfl (by decide) λrS _=>?_
 rw [jax hk 7 (by simp)]
 have bX:(List.set (List.set (rnV r2 (bH []) (cH [])) 5 (.sl 2 tEd (r2.aLW.aLY.flatMap jR))) 7 (.sl 4 tTk (r2.aLT.flatMap jk)))=jc r2:=rfl;rw [bX,jmE hk];refine WkK.of ?_;exact ⟨⟨η,rS,rfl⟩,rfl,rfl,rfl,rfl,rfl,rfl⟩
def CutR:List Rn->List D->(Nat->Ob)->Prop
 |[],rows,fam=>rows=[]/\∀j,fam j=.none
 |r::l,rows,fam=>∃(bP bF:jm) (rows':List D),rows=rnV r (bP []) (bF [])++rows'/\(bP []).oneCell'=true/\(bF []).oneCell'=true/\fam 0=.loose (jv r.aLW.aLY) bP/\fam 1=.loose (jC r.aLT) bF/\CutR l rows' (λj=>fam (j+2))
theorem CutR.len:∀{l:List Rn} {rows:List D} {fam:Nat->Ob},CutR l rows fam->rows.length=l.length*8
 |[],_,_,⟨h,_⟩=>by rw [h];rfl
 |r::l,_,_,⟨_,_,rows',h,_,_,_,_,h2⟩=>by
  have:=CutR.len h2;rw [h,aMR,aNG,this];simp only [aNG,aOM];omega
theorem CutR.flat:∀{l:List Rn} {rows:List D} {fam:Nat->Ob},CutR l rows fam->jZ rows=true
 |[],_,_,⟨h,_⟩=>by rw [h];rfl
 |r::l,_,_,⟨bP,bF,rows',h,h5,h7,_,_,h2⟩=>by
  have:=CutR.flat h2;rw [h,vR,this];simp [jZ,h5,h7];exact ⟨rfl,rfl,rfl,rfl,rfl,rfl⟩
theorem CutR.erase:∀{l:List Rn} {rows:List D} {fam:Nat->Ob} {k:Nat},CutR l rows fam->k<l.length->CutR (l.eraseIdx k) (rows.take (k*8)++rows.drop ((k+1)*8)) (λj=>fam (if j<2*k then j else j+2))
 |[],_,_,_,_,h=>by simp at h
 |r::l,_,fam,0,⟨bP,bF,rows',h,_,_,_,_,h2⟩,_=>by
  have e1:(rnV r (bP []) (bF [])++rows').drop ((0+1)*8)=rows':=List.drop_left' rfl;rw [h,e1,Nat.zero_mul,aNM,aON];simpa using h2
 |r::l,_,fam,k+1,⟨bP,bF,rows',h,h5,h7,f0,f1,h2⟩,hk=>by
  have ih:=CutR.erase (k:=k) h2 (by simpa using hk)
  have e1:(rnV r (bP []) (bF [])++rows').take ((k+1)*8)=rnV r (bP []) (bF [])++rows'.take (k*8):=by
   rw [show (k+1)*8=(rnV r (bP []) (bF [])).length+k*8 by rw [show (rnV r (bP []) (bF [])).length=8 from rfl];omega];exact List.take_length_add_append _
  have e2:(rnV r (bP []) (bF [])++rows').drop ((k+1+1)*8)=rows'.drop ((k+1)*8):=by
   rw [show (k+1+1)*8=(rnV r (bP []) (bF [])).length+(k+1)*8 by rw [show (rnV r (bP []) (bF [])).length=8 from rfl];omega];exact List.drop_length_add_append _
  rw [h,e1,e2,List.eraseIdx_cons_succ];refine ⟨bP,bF,_,by rw [aNA],h5,h7,?_,?_,?_⟩
  ·dsimp only;rw [if_pos (by omega)];exact f0
  ·dsimp only;rw [if_pos (by omega)];exact f1
  ·have:(λj=>fam (if j+2<2*(k+1) then j+2 else j+2+2))=(λj=>fam ((if j<2*k then j else j+2)+2)):=by
    funext j
    by_cases c:j<2*k
    ·rw [if_pos c,if_pos (by omega)]
    ·rw [if_neg c,if_neg (by omega)]
   rw [this];exact ih
theorem jrm {ob:Ob} {c:Nat} {d d':D} {η aH:jm} (h:ob.own c=some (d,η)):(ob.putOwn c d' aH).own c=some (d',aH):=by
 cases ob with
 |none=>simp [Ob.own] at h
 |loose e ε=>cases c with
  |zero=>rfl
  |succ c=>simp [Ob.own] at h
 |box b ty cs=>
  simp only [Ob.own] at h;split at h
  ·rename_i d0 fG hc
   have:=(aMI.1 hc).1;simp [Ob.own,Ob.putOwn,aML this]
  ·simp at h
theorem juV {ob:Ob} {c:Nat} {d:D} {η:jm} (h:ob.own c=some (d,η)):ob.putOwn c d η=ob:=by
 cases ob with
 |none=>rfl
 |loose e ε=>cases c with
  |zero=>simp [Ob.own] at h;obtain ⟨rfl,rfl⟩:=h;rfl
  |succ c=>simp [Ob.own] at h
 |box b ty cs=>
  simp only [Ob.own] at h;split at h
  ·rename_i d0 fG hc
   simp at h;obtain ⟨rfl,rfl⟩:=h;simp only [Ob.putOwn];rw [jaw hc]
  ·simp at h
theorem jrc {ob:Ob} {c:Nat} {d d':D} {η aH:jm}:(ob.putOwn c d η).putOwn c d' aH=ob.putOwn c d' aH:=by
 cases ob with
 |none=>rfl
 |loose e ε=>rfl
 |box b ty cs=>simp [Ob.putOwn,aNP]
theorem jmB {α:Type} {A B:List α} (k:Nat) (hk:k<B.length) (x:α):(A++B).set (A.length+k) x=A++B.set k x:=by
 rw [aPO _ _ (by omega),aNR]
theorem jng {α:Type} {A B:List α} (k:Nat):(A++B)[A.length+k]?=B[k]?:=by
 rw [aOA (by omega),aNR]
theorem jjv {K:St->Prop} (g c:Nat):∀(l:List Rn) (pre:List D) (b:Nat) (s:St) (η:jm),(s.o g).own c=some (.sl 8 tRn (pre++l.flatMap jc),η)->g<b->(∀j,b<=j->s.o j=.none)->
 (∀(rows:List D) (fam:Nat->Ob) (aH:jm),CutR l rows fam->aH []=η []->WkK ⟨s.t,λj=>if b<=j then fam (j-b) else if j=g then (s.o g).putOwn c (.sl 8 tRn (pre++rows)) aH else s.o j⟩ K)->WkK s K
 |[],pre,b,s,η,ho,hg,hn,hK=>by
  have:=hK [] (λ_=>.none) η ⟨rfl,λ_=>rfl⟩ rfl
  have e:(⟨s.t,λj=>if b<=j then Ob.none else if j=g then (s.o g).putOwn c (.sl 8 tRn (pre++[])) η else s.o j⟩:St)=s:=by
   have:(λj=>if b<=j then Ob.none else if j=g then (s.o g).putOwn c (.sl 8 tRn (pre++[])) η else s.o j)=s.o:=by
    funext j
    by_cases h1:b<=j
    ·rw [if_pos h1,hn j h1]
    ·rw [if_neg h1]
     by_cases h2:j=g
     ·subst h2;rw [if_pos rfl];exact juV ho
     ·rw [if_neg h2]
   rw [this]
  rwa [e] at this
 |r::l,pre,b,s,η,ho,hg,hn,hK=>by
  rw [aNL] at ho;have h8:(jc r).length=8:=rfl;refine jeW g c (pre.length+5) b (η:=η) (sz:=8) (tyo:=tRn) (cs:=r.aLW.aLY.flatMap jR) ho (by rw [jng];rfl) (hn b (aMV b)) (by omega) λbH eP yJ mV nW=>?_
  rw [jmB 5 (by rw [aMR,h8];omega),aPR _ _ (by rw [h8];omega)]
  have hbg:b≠g:=by omega
  have pL:∀(x y:Ob),(((s.setO g x).setO b y).o g)=x:=λx y=>by
   show (if g=b then y else if g=g then x else s.o g)=x
   rw [if_neg (by omega),if_pos rfl]
  have sA:((((s.setO g ((s.o g).putOwn c (.sl 8 tRn (pre++((jc r).set 5 (.val (η [pre.length+5]))++l.flatMap jc))) eP)).setO b (.loose (.sl 2 tEd (r.aLW.aLY.flatMap jR)) bH)).o g)).own c=some (.sl 8 tRn (pre++((jc r).set 5 (.val (η [pre.length+5]))++l.flatMap jc)),eP):=by
   rw [pL];exact jrm ho
  refine jeW g c (pre.length+7) (b+1) (η:=eP) (sz:=8) (tyo:=tRn) (cs:=r.aLT.flatMap jk) sA (by rw [jng];rfl) (by
   show (if b+1=b then _ else if b+1=g then _ else s.o (b+1))=_
   rw [if_neg (by omega),if_neg (by omega)];exact hn _ (by omega)) (by omega) λcH i9 yG dQ lR=>?_
  rw [pL,jrc,jmB 7 (by rw [aMR,aMU,h8];omega),aPR _ _ (by rw [aMU,h8];omega)]
  rw [<-mV] at nW⊢;rw [<-dQ] at lR⊢;have hV:((jc r).set 5 (.val (bH []))).set 7 (.val (cH []))=rnV r (bH []) (cH []):=rfl;rw [hV];obtain ⟨s2,fI⟩:∃s2,(((s.setO g ((s.o g).putOwn c (.sl 8 tRn (pre++((jc r).set 5 (.val (bH []))++l.flatMap jc))) eP)).setO b (.loose (.sl 2 tEd (r.aLW.aLY.flatMap jR)) bH)).setO g ((s.o g).putOwn c (.sl 8 tRn (pre++(rnV r (bH []) (cH [])++l.flatMap jc))) i9)).setO (b+1) (.loose (.sl 4 tTk (r.aLT.flatMap jk)) cH)=s2:=⟨_,rfl⟩;rw [fI]
  have q0:s2.o g=(s.o g).putOwn c (.sl 8 tRn (pre++(rnV r (bH []) (cH [])++l.flatMap jc))) i9:=by
   rw [<-fI];show (if g=b+1 then _ else if g=g then _ else _)=_
   rw [if_neg (by omega),if_pos rfl]
  have q1:s2.o b=.loose (jv r.aLW.aLY) bH:=by
   rw [<-fI];show (if b=b+1 then _ else if b=g then _ else if b=b then _ else _)=_
   rw [if_neg (by omega),if_neg (by omega),if_pos rfl];rfl
  have q2:s2.o (b+1)=.loose (jC r.aLT) cH:=by
   rw [<-fI];show (if b+1=b+1 then _ else _)=_
   rw [if_pos rfl];rfl
  have q3:∀j,j≠g->j≠b->j≠b+1->s2.o j=s.o j:=λj n1 n2 n3=>by
   rw [<-fI];show (if j=b+1 then _ else if j=g then _ else if j=b then _ else if j=g then _ else s.o j)=_
   rw [if_neg n3,if_neg n1,if_neg n2,if_neg n1]
  have qt:s2.t=s.t:=by rw [<-fI];rfl
  refine jjv g c l (pre++rnV r (bH []) (cH [])) (b+2) s2 i9 (by rw [q0,aNA];exact jrm ho) (by omega) (λj hj=>by rw [q3 j (by omega) (by omega) (by omega)];exact hn j (by omega)) λrows fam aH f6 hη=>?_
  have:=hK (rnV r (bH []) (cH [])++rows) (λj=>if j=0 then .loose (jv r.aLW.aLY) bH else if j=1 then .loose (jC r.aLT) cH else fam (j-2)) aH ⟨bH,cH,rows,rfl,nW,lR,rfl,rfl,f6⟩ (by rw [hη,yG,yJ])
  have e:(λj=>if b+2<=j then fam (j-(b+2)) else if j=g then (s2.o g).putOwn c (.sl 8 tRn (pre++rnV r (bH []) (cH [])++rows)) aH else s2.o j)=(λj=>if b<=j then (if j-b=0 then Ob.loose (jv r.aLW.aLY) bH else if j-b=1 then .loose (jC r.aLT) cH else fam (j-b-2)) else if j=g then (s.o g).putOwn c (.sl 8 tRn (pre++(rnV r (bH []) (cH [])++rows))) aH else s.o j):=by
   funext j
   by_cases c1:b+2<=j
   ·rw [if_pos c1,if_pos (by omega),if_neg (by omega),if_neg (by omega),show j-(b+2)=j-b-2 by omega]
   ·rw [if_neg c1]
    by_cases c2:j=b
    ·subst c2;rw [if_neg (by omega),if_pos (aMV _),if_pos (by omega),q1]
    ·by_cases c3:j=b+1
     ·subst c3;rw [if_neg (by omega),if_pos (by omega),if_neg (by omega),if_pos (by omega),q2]
     ·by_cases c4:j=g
      ·subst c4;rw [if_pos rfl,if_neg (by omega),if_pos rfl,q0,jrc,aNA]
      ·rw [if_neg c4,if_neg (by omega),if_neg c4,q3 j c4 c2 c3]
  rw [qt,e];exact this
theorem jeV {K:St->Prop} (g c:Nat):∀(l:List Rn) (pre:List D) (b:Nat) (s:St) (η:jm) (rows:List D) (fam:Nat->Ob),CutR l rows fam->(s.o g).own c=some (.sl 8 tRn (pre++rows),η)->g<b->(∀j,b<=j->s.o j=fam (j-b))->
 (∀aH:jm,aH []=η []->WkK ⟨s.t,λj=>if b<=j then .none else if j=g then (s.o g).putOwn c (.sl 8 tRn (pre++l.flatMap jc)) aH else s.o j⟩ K)->WkK s K
 |[],pre,b,s,η,_,fam,⟨rfl,hf⟩,ho,hg,hn,hK=>by
  have:=hK η rfl
  have e:(⟨s.t,λj=>if b<=j then Ob.none else if j=g then (s.o g).putOwn c (.sl 8 tRn (pre++List.flatMap jc [])) η else s.o j⟩:St)=s:=by
   have:(λj=>if b<=j then Ob.none else if j=g then (s.o g).putOwn c (.sl 8 tRn (pre++List.flatMap jc [])) η else s.o j)=s.o:=by
    funext j
    by_cases h1:b<=j
    ·rw [if_pos h1,hn j h1,hf]
    ·rw [if_neg h1]
     by_cases h2:j=g
     ·subst h2;rw [if_pos rfl];exact juV ho
     ·rw [if_neg h2]
   rw [this]
  rwa [e] at this
 |r::l,pre,b,s,η,_,fam,⟨bP,bF,rows,rfl,h5,h7,f0,f1,f6⟩,ho,hg,hn,hK=>by
  have h8:(rnV r (bP []) (bF [])).length=8:=rfl;have sM:s.o b=.loose (.sl 2 tEd (r.aLW.aLY.flatMap jR)) bP:=by rw [hn b (aMV b),Nat.sub_self,f0];rfl
  have aW:s.o (b+1)=.loose (.sl 4 tTk (r.aLT.flatMap jk)) bF:=by rw [hn (b+1) (by omega),aNR,f1];rfl
  refine qI g c (pre.length+5) b (η:=η) (aV:=bP) (sz:=8) (tyo:=tRn) (cs:=r.aLW.aLY.flatMap jR) ho (by rw [jng];rfl) (.inl rfl) sM (by omega) λeP hA=>?_
  rw [jmB 5 (by rw [aMR,h8];omega),aPR _ _ (by rw [h8];omega)]
  have pL:∀(x:Ob),(((s.setO b .none).setO g x).o g)=x:=λx=>by
   show (if g=g then x else _)=x
   rw [if_pos rfl]
  refine qI g c (pre.length+7) (b+1) (η:=eP) (aV:=bF) (sz:=8) (tyo:=tRn) (cs:=r.aLT.flatMap jk) (by rw [pL];exact jrm ho) (by rw [jng];rfl) (.inl rfl) (by
   show (if b+1=g then _ else if b+1=b then _ else s.o (b+1))=_
   rw [if_neg (by omega),if_neg (by omega)];exact aW) (by omega) λi9 hB=>?_
  rw [pL,jrc,jmB 7 (by rw [aMR,aMU,h8];omega),aPR _ _ (by rw [aMU,h8];omega)]
  have hV:(((rnV r (bP []) (bF [])).set 5 (.sl 2 tEd (r.aLW.aLY.flatMap jR))).set 7 (.sl 4 tTk (r.aLT.flatMap jk)))=jc r:=rfl;rw [hV];obtain ⟨s2,fI⟩:∃s2,(((s.setO b .none).setO g ((s.o g).putOwn c (.sl 8 tRn (pre++((rnV r (bP []) (bF [])).set 5 (.sl 2 tEd (r.aLW.aLY.flatMap jR))++rows))) eP)).setO (b+1) .none).setO g ((s.o g).putOwn c (.sl 8 tRn (pre++(jc r++rows))) i9)=s2:=⟨_,rfl⟩;rw [fI]
  have q0:s2.o g=(s.o g).putOwn c (.sl 8 tRn (pre++(jc r++rows))) i9:=by
   rw [<-fI];show (if g=g then _ else _)=_
   rw [if_pos rfl]
  have q3:∀j,j≠g->j≠b->j≠b+1->s2.o j=s.o j:=λj n1 n2 n3=>by
   rw [<-fI];show (if j=g then _ else if j=b+1 then _ else if j=g then _ else if j=b then _ else s.o j)=_
   rw [if_neg n1,if_neg n3,if_neg n1,if_neg n2]
  have q1:s2.o b=.none:=by
   rw [<-fI];show (if b=g then _ else if b=b+1 then _ else if b=g then _ else if b=b then _ else s.o b)=_
   rw [if_neg (by omega),if_neg (by omega),if_neg (by omega),if_pos rfl]
  have q2:s2.o (b+1)=.none:=by
   rw [<-fI];show (if b+1=g then _ else if b+1=b+1 then _ else _)=_
   rw [if_neg (by omega),if_pos rfl]
  have qt:s2.t=s.t:=by rw [<-fI];rfl
  refine jeV g c l (pre++jc r) (b+2) s2 i9 rows _ f6 (by rw [q0,aNA];exact jrm ho) (by omega) (λj hj=>by rw [q3 j (by omega) (by omega) (by omega),hn j (by omega),show j-b=j-(b+2)+2 by omega]) λaH hη=>?_
  have:=hK aH (by rw [hη,hB,hA])
  have e:(λj=>if b+2<=j then Ob.none else if j=g then (s2.o g).putOwn c (.sl 8 tRn (pre++jc r++l.flatMap jc)) aH else s2.o j)=(λj=>if b<=j then Ob.none else if j=g then (s.o g).putOwn c (.sl 8 tRn (pre++(r::l).flatMap jc)) aH else s.o j):=by
   funext j
   by_cases c1:b+2<=j
   ·rw [if_pos c1,if_pos (by omega)]
   ·rw [if_neg c1]
    by_cases c2:j=b
    ·subst c2;rw [if_neg (by omega),if_pos (aMV _),q1]
    ·by_cases c3:j=b+1
     ·subst c3;rw [if_neg (by omega),if_pos (by omega),q2]
     ·by_cases c4:j=g
      ·subst c4;rw [if_pos rfl,if_neg (by omega),if_pos rfl,q0,jrc,aNA,aNL]
      ·rw [if_neg c4,if_neg (by omega),if_neg c4,q3 j c4 c2 c3]
  rw [qt,e];exact this
def St.ofF (T:List (Nat×AV)) (O:List (Nat×Ob)) (b:Nat) (fam:Nat->Ob):St:=⟨lkT T,λj=>if b<=j then fam (j-b) else lkO O j⟩
theorem ofF_t (T:List (Nat×AV)) (O:List (Nat×Ob)) (b:Nat) (fam:Nat->Ob) (n:Nat):(St.ofF T O b fam).t n=lkT T n:=(rfl)
theorem ofF_o (T:List (Nat×AV)) (O:List (Nat×Ob)) (b:Nat) (fam:Nat->Ob) (n:Nat):(St.ofF T O b fam).o n=if b<=n then fam (n-b) else lkO O n:=(rfl)
attribute [go_sem] ofF_t ofF_o
theorem jnF {s:St} {T:List (Nat×AV)} {O:List (Nat×Ob)} {b:Nat} {fam:Nat->Ob} (ks:List (Option Nat)) (h:jxY s T/\jqs s ks O) (hf:∀j,b<=j->s.o j=fam (j-b)) (hk:∀k∈jqZ ks,k<b) (hn:jiq (jqZ ks)=true:=by decide):Wk s (St.ofF T O b fam):=λB N w0 w a F hr=>by
 have bL:=jvI hr.ob h.2;have nT:=jxT (ks:=ks) (O:=O) hr.dj (jce hn);refine ⟨λj=>if b<=j then F j else fp F ks O j,⟨hr.below,hr.hB,hr.df,hr.sz,jxW hr.sl h.1,λg=>?_,λg=>?_,λg g' aR x hx bQ=>?_⟩,λg x hx=>?_⟩
 ·by_cases c:b<=g
  ·simp only [St.ofF,if_pos c];rw [<-hf g c];exact hr.ob g
  ·simp only [St.ofF,if_neg c];exact bL g
 ·by_cases c:b<=g
  ·simp only [if_pos c];exact hr.fr g
  ·simp only [if_neg c];exact jxS hr.fr ks O g
 ·by_cases c:b<=g
  ·simp only [if_pos c] at hx
   by_cases c':b<=g'
   ·simp only [if_pos c'] at bQ;exact hr.dj g g' aR x hx bQ
   ·simp only [if_neg c'] at bQ
    obtain ⟨k,h1,h2⟩:=jf3 bQ;exact hr.dj g k (by have:=hk k h1;omega) x hx h2
  ·simp only [if_neg c] at hx
   by_cases c':b<=g'
   ·simp only [if_pos c'] at bQ
    obtain ⟨k,h1,h2⟩:=jf3 hx;exact hr.dj k g' (by have:=hk k h1;omega) x h2 bQ
   ·simp only [if_neg c'] at bQ;exact nT g g' aR x hx bQ
 ·by_cases c:b<=g
  ·simp only [if_pos c] at hx;exact ⟨g,hx⟩
  ·simp only [if_neg c] at hx
   obtain ⟨k,_,h2⟩:=jf3 hx;exact ⟨k,h2⟩
theorem jnG {s:St} {b:Nat} {fam:Nat->Ob} (ρ:Nat->Nat) (hρ:∀i j,ρ i=ρ j->i=j) (hf:∀j,b<=j->s.o j=fam (j-b)):Wk s ⟨s.t,λj=>if b<=j then fam (ρ (j-b)) else s.o j⟩:=λB N w0 w a F hr=>by
 refine ⟨λj=>if b<=j then F (b+ρ (j-b)) else F j,⟨hr.below,hr.hB,hr.df,hr.sz,hr.sl,λg=>?_,λg=>?_,λg g' aR x hx bQ=>?_⟩,λg x hx=>?_⟩
 ·by_cases c:b<=g
  ·simp only [if_pos c]
   have:=hr.ob (b+ρ (g-b))
   rwa [hf _ (aPM _ _),aNR] at this
  ·simp only [if_neg c];exact hr.ob g
 ·by_cases c:b<=g
  ·simp only [if_pos c];exact hr.fr _
  ·simp only [if_neg c];exact hr.fr g
 ·by_cases c:b<=g
  ·simp only [if_pos c] at hx
   by_cases c':b<=g'
   ·simp only [if_pos c'] at bQ
    exact hr.dj _ _ (λe=>aR (by have:=hρ _ _ (Nat.add_left_cancel e);omega)) x hx bQ
   ·simp only [if_neg c'] at bQ;exact hr.dj _ _ (by omega) x hx bQ
  ·simp only [if_neg c] at hx
   by_cases c':b<=g'
   ·simp only [if_pos c'] at bQ;exact hr.dj _ _ (by omega) x hx bQ
   ·simp only [if_neg c'] at bQ;exact hr.dj _ _ aR x hx bQ
 ·by_cases c:b<=g
  ·simp only [if_pos c] at hx;exact ⟨_,hx⟩
  ·simp only [if_neg c] at hx;exact ⟨g,hx⟩
open Go.RowKit Go.Sort Go.Lib
abbrev fDel:FuncId:=144
theorem jmC {P:Program} (w:World) (t e ty:TypeId) (z:Value) (ht:P.underlying t=some (.slice e)) (hv:∀w,(zeroValue e).run P w=.ok z w) (h1:∀v∈z.cells.toList,v.oneCell'=true) (hs:z.cells.size=8) (b o c:Nat)
 (hc:∀j,j<8->(w.cell? ⟨b,o+j,none⟩).isSome=true) (hf:∀j,j<8->w.frozen? ⟨b,o+j,none⟩=false):
 (Builtin.clear_ #[t] ty #[.slice (some ⟨b,o,none⟩) 1 c]).run P w=.ok (.tuple #[]) (w.setCells b o z.cells.toList):=by
 have n4:(Builtin.zeroCells z.cells 1).toList=z.cells.toList:=by
  simp only [Builtin.zeroCells,Nat.one_mul]
  apply List.ext_getElem
  ·simp
  ·intro i h1 h2
   have:i<z.cells.size:=by simpa using h2
   simp [Nat.mod_eq_of_lt this];exact getElem!_pos z.cells i this
 have aJ:=run_storeCells_cells (P:=P) b o z.cells.toList 0 w (by simpa [hs] using hc) (by simpa [hs] using hf) h1
 simp only [aMX] at aJ;simp [Builtin.clear_,run_underlying ht,hv,n4,aJ]
abbrev zRnL:List Value:=[.int .i64 0,.int .i64 0,.int .i64 0,.int .i64 0,.int .i64 0,.slice none 0 0,.int .i64 0,.slice none 0 0]
theorem jAJ (b n c k:Nat) (cs:List Value) (w:World) (hk:k<n) (mL:n<=c) (xZ:c<=9223372036854775807) (dG:cs.length=n*8)
 (fF:∀j v,cs[j]?=some v->w.cell? ⟨b,j,none⟩=some v) (rF:∀j,w.frozen? ⟨b,j,none⟩=false) (yL:∀v∈cs,v.oneCell'=true):
 Calls Tryz.prog fDel #[.slice (some ⟨b,0,none⟩) n c,.int .i64 k,.int .i64 ((k:Int)+1)] w λe w'=>
  e=.returned (.slice (some ⟨b,0,none⟩) (n-1) c)/\w'=(w.drew.setCells b (k*8) (cs.drop ((k+1)*8))).setCells b ((n-1)*8) zRnL:=by
 have mixed:Tryz.prog.follows .mixedOrders=true:=by kernel_rfl
 have t22:=Tryz.underlying25;have a22:=Tryz.isAgg25;have z22:=Tryz.sizeOf25;have u3:=Tryz.underlying3;have a3:=Tryz.isAgg3;have z3:=Tryz.sizeOf3;have u4:=Tryz.underlying4;have z23:=Tryz.sizeOf52;have hu:Tryz.prog.underlying jBc=some (.slice tRn):=slRn.1;obtain ⟨i0,zv,sI,fU,n4,mW,wD⟩:=slRn.info;obtain ⟨news,dP⟩:∃news,news=cs.drop ((k+1)*8):=⟨_,rfl⟩;have aD:news.length=(n-(k+1))*8:=by rw [dP,aND,dG];omega
 have eB:∀t u,news[t]?=some u->w.cell? ⟨b,(k+1)*8+t,none⟩=some u:=λt u hu=>by
  rw [dP,aOF] at hu;exact fF _ u hu
 obtain ⟨A,hA,lF⟩:∃A:Addr,(if c=k+1 then some (⟨b,0,none⟩:Addr) else some ⟨b,(k+1)*8,none⟩)=some A/\Hid (∀t u,news[t]?=some u->w.drew.cell? (A.add t)=some u):=by
  by_cases h:c=k+1
  ·refine ⟨⟨b,0,none⟩,by simp [h],λt u hu=>?_⟩
   have h0:news.length=0:=by rw [aD];omega
   rw [aPH.1 h0] at hu;simp at hu
  ·refine ⟨⟨b,(k+1)*8,none⟩,by simp [h],λt u hu=>?_⟩
   rw [Addr.add_lit];exact eB t u hu
 have s1:Hid (news.length=(n-(k+1))*8):=aD;have s2:Hid (∀u∈news,u.oneCell'=true):=λu hu=>by rw [dP] at hu;exact yL u (aPK hu)
 have mI:∀j,j<n*8->(w.cell? ⟨b,j,none⟩).isSome=true:=λj hj=>by rw [fF j _ (aMK (by omega))];rfl
 have s3:Hid (∀t,t<news.length->(w.drew.cell? ⟨b,0+k*8+t,none⟩).isSome=true/\w.drew.frozen? ⟨b,0+k*8+t,none⟩=false):=λt ht=>by
  rw [aD] at ht;exact ⟨mI _ (by omega),rF _⟩
 obtain ⟨W1,lO⟩:∃W1,W1=w.drew.setCells b (0+k*8) news:=⟨_,rfl⟩
 have oB:∀j,j<n*8->(W1.cell? ⟨b,j,none⟩).isSome=true:=λj hj=>by
  rw [lO];exact isSome_setCells b news (0+k*8) w.drew (λt ht=>mI _ (by omega)) j (mI j hj)
 have hz:∀w,(zeroValue tRn).run Tryz.prog w=.ok zv w:=λw=>by simp [zeroValue,typeInfo,sI,fU]
 have nZ:zv.cells.toList=zRnL:=by rw [n4]
 have aIW:∀ty q,(Builtin.clear_ #[jBc] ty #[.slice (some ⟨b,(k+(n-(k+1)))*8,none⟩) 1 q]).run Tryz.prog W1=.ok (.tuple #[]) (W1.setCells b ((k+(n-(k+1)))*8) zRnL):=λty q=>by
  rw [<-nZ];exact jmC W1 jBc tRn ty zv hu hz (by rw [nZ];decide) (by rw [n4];rfl) b _ q (λj hj=>oB _ (by omega)) (λj hj=>by rw [lO,World.frozen?_setCells];exact rF _)
 have hW:Hid (W1=w.drew.setCells b (0+k*8) news):=lO;have hkc:k<=c:=by omega
 have hjc:k+1<=c:=by omega
 have aR:¬((k:Int)=(k:Int)+1):=by omega
 have aW:(0:Int)<=(k:Int)+1:=by omega
 have bM:(k:Int)<=(n:Int):=by omega
 have y4:(k:Int)+1<=(n:Int):=by omega
 have hb4:(k:Int)<=(k:Int)+1:=by omega
 have htn:((k:Int)+1).toNat=k+1:=by omega
 have yX:k<=n:=by omega
 have hjn:k+1<=n:=hk;have h1n:n-(k+(n-(k+1)))=1:=by omega
 clear lO oB eB aD mI fF
 go_enter Tryz.func144,Tryz.ntmps144
 go_wp2_with fail
 go_region_law_o (refine step_append_room rfl (.tmp 22) (.tmp 25) jBc rfl tRn i0 8 hu sI mW b 0 k c (by simp [Act.eval,Act.put]) A (n-(k+1)) (c-(k+1)) news (by simp [Act.eval,Act.put,hA]) s1.out lF.out s2.out (by omega) s3.out ?_;rw [<-hW.out])
 go_wp2
 go_ret
 have e1:k+(n-(k+1))=n-1:=by omega
 refine ⟨by rw [e1];rfl,?_⟩
 rw [hW.out,dP,e1,aOK]
def jnL:D->Value
 |.val u=>u
 |.sl _ _ _=>undef
theorem jy2:∀{ds:List D} {w:World} {own:Bool} {vs:List Value} {S:List Nat},jZ ds=true->RepL w own ds vs S->vs=ds.map jnL/\S=[]
 |[],_,_,_,_,_,⟨h1,h2⟩=>⟨h1,h2⟩
 |.sl _ _ _::_,_,_,_,_,h,_=>by cases h
 |.val u::ds,w,own,_,_,h,⟨v,vs',S1,S2,rfl,rfl,⟨h1,h2⟩,h3⟩=>by
  simp only [jZ,aMY] at h;obtain ⟨k1,k2⟩:=jy2 h.2 h3;subst h1 h2 k1 k2;exact ⟨rfl,rfl⟩
theorem d_mk (w:World) (own:Bool):∀{ds:List D},jZ ds=true->RepL w own ds (ds.map jnL) []
 |[],_=>⟨rfl,rfl⟩
 |.sl _ _ _::_,h=>by cases h
 |.val u::ds,h=>by
  simp only [jZ,aMY] at h;exact ⟨u,ds.map jnL,[],[],rfl,rfl,⟨rfl,rfl⟩,d_mk w own h.2⟩
theorem jC1:∀{ds:List D},jZ ds=true->∀v∈ds.map jnL,v.oneCell'=true
 |[],_,_,hv=>by simp at hv
 |.sl _ _ _::_,h,_,_=>by cases h
 |.val u::ds,h,v,hv=>by
  simp only [jZ,aMY] at h;rcases aNB.1 hv with rfl|hv
  ·exact h.1
  ·exact jC1 h.2 v hv
theorem jwW (rows:List D) (n k:Nat) (hf:jZ rows=true) (nH:jZ (rows.take (k*8)++rows.drop ((k+1)*8))=true) (hl:rows.length=n*8) (hk:k<n) {o:Nat->Ob} {g:Nat} {η:jm} (ho:o g=.loose (.sl 8 tRn rows) η):
 Turns Tryz.prog fDel [.c (.v (η [])),.c (.v (.int .i64 k)),.c (.v (.int .i64 ((k:Int)+1)))] o (λrt o'=>rt=.c (.sl 8 tRn (rows.take (k*8)++rows.drop ((k+1)*8)))/\o'=λj=>if j=g then .none else o j):=
 ⟨⟨_,Tryz.func144,by kernel_rfl,by kernel_rfl⟩,λB w F xs hR gS=>by
   obtain ⟨x,xs1,rfl,rfl,_,xs2,rfl,rfl,x2,xs3,rfl,rfl,rfl⟩:=gS;have h1:=hR.ob g;simp only at h1;rw [ho] at h1;obtain ⟨_,u,r1,e1⟩:=h1;have q1:η []=u:=e1 [];rw [q1];have hB:B<=w.heap.size:=aNX hR.hB hR.below.size;have i7:=hR.fr g;have aB:∀k,∀b∈F k,b<w.heap.size:=λk b hb=>(hR.ob k).lt b hb
   obtain ⟨vs,T,S',bX,bZ,hS⟩:=r1;obtain ⟨rfl,rfl⟩:=jy2 hf bZ;have gO:=jC1 hf;have bN:(rows.map jnL).length=n*8:=by rw [aNT,hl]
   generalize mH:rows.map jnL=vs at*;obtain ⟨m,bX,rfl⟩:=bX;rcases bX.2 with ⟨_,h0⟩|⟨b,c,cu,rfl,_,rI,cW,dI,y3,eX⟩
   ·have:=bX.1;omega
   have yV:m=n:=by have:=bX.1;omega
   subst yV;have hFg:F g=[b]:=by rw [hS];simp [blk]
   have hbB:B<=b:=i7.2 b (by rw [hFg];simp)
   have fF:∀j v,vs[j]?=some v->w.cell? ⟨b,j,none⟩=some v:=λj v hj=>by
    rw [jnz rI,<-Array.getElem?_toList];exact jmr eX hj
   obtain ⟨_,sb2⟩:=jmz rI;have tW:cu.toList.length=c*8:=by simpa using y3
   refine (jAJ b m c k vs w hk cW (by unfold maxLen at dI;omega) bN fF sb2 gO).mono ?_
   rintro en w' ⟨rfl,rfl⟩;have hcu:w.drew.heap[b]?=some (.cells cu.toList.toArray tRn (0,0)):=by rw [Array.toArray_toList];exact rI
   have fN:(vs.drop ((k+1)*8)).length=(m-(k+1))*8:=by rw [aND,bN];omega
   obtain ⟨w1,w2⟩:=qx (vs.drop ((k+1)*8)) w.drew b (k*8) cu.toList tRn hcu;obtain ⟨w3,w4⟩:=qx zRnL _ b ((m-1)*8) _ tRn w1;have s1:=kS (vs.drop ((k+1)*8)) w.drew b (k*8);have s2:=kS zRnL (w.drew.setCells b (k*8) (vs.drop ((k+1)*8))) b ((m-1)*8);have hmc:m*8<=c*8:=by omega
   have hA:kI cu.toList (k*8) (vs.drop ((k+1)*8))=cu.toList.take (k*8)++vs.drop ((k+1)*8)++cu.toList.drop (k*8+(vs.drop ((k+1)*8)).length):=qd _ _ _ (by rw [fN,tW];omega)
   have y9:(kI cu.toList (k*8) (vs.drop ((k+1)*8))).length=c*8:=by
    rw [hA];simp only [aMR,aMP,aND,tW,bN];omega
   have hz8:zRnL.length=8:=rfl;have hBz:kI (kI cu.toList (k*8) (vs.drop ((k+1)*8))) ((m-1)*8) zRnL=(kI cu.toList (k*8) (vs.drop ((k+1)*8))).take ((m-1)*8)++zRnL++(kI cu.toList (k*8) (vs.drop ((k+1)*8))).drop ((m-1)*8+zRnL.length):=qd _ _ _ (by rw [hz8,y9];omega)
   have hct:cu.toList.take (k*8)=vs.take (k*8):=by rw [<-eX,List.take_take,aNZ (by omega)]
   have iV:(rows.take (k*8)++rows.drop ((k+1)*8)).map jnL=vs.take (k*8)++vs.drop ((k+1)*8):=by rw [aOT,List.map_take,List.map_drop,mH]
   have gX:(vs.take (k*8)++vs.drop ((k+1)*8)).length=(m-1)*8:=by rw [aMR,aMP,fN,bN];omega
   have dO:(kI (kI cu.toList (k*8) (vs.drop ((k+1)*8))) ((m-1)*8) zRnL).take ((m-1)*8)=vs.take (k*8)++vs.drop ((k+1)*8):=by
    rw [hBz,aNA,List.take_append_of_le_length (by rw [aMP,y9];omega),List.take_take,Nat.min_self,hA,hct]
    exact List.take_left' gX
   have fW:(kI (kI cu.toList (k*8) (vs.drop ((k+1)*8))) ((m-1)*8) zRnL).length=c*8:=by
    rw [hBz];simp only [aMR,aMP,aND,y9,hz8];omega
   generalize kI (kI cu.toList (k*8) (vs.drop ((k+1)*8))) ((m-1)*8) zRnL=us at*
   have hon:Only [b] w ((w.drew.setCells b (k*8) (vs.drop ((k+1)*8))).setCells b ((m-1)*8) zRnL):=⟨by rw [s2.1,s1.1];rfl,by rw [s2.2.1,s1.2.1];rfl,by rw [s2.2.2.1,s1.2.2.1];rfl,by rw [s2.2.2.2,s1.2.2.2];exact aMV _,λq hq hqn=>by
    have hqb:q≠b:=by simpa using hqn
    rw [w4 q hqb,w2 q hqb];rfl⟩
   have t1:=hR.setO (g:=g) (ob:=.none) (S:=[]) rfl (Fresh.nil _) (by simp)
   have t2:=t1.world' (hon.below (λs hs=>by simp at hs;omega) hB) λq x hx=>by
    split at hx
    ·simp at hx
    ·rename_i hq
     exact hon.block x (aB q x hx) λh=>hR.dj q g hq x hx (by rw [hFg];exact h)
   refine ⟨_,.c (.sl 8 tRn (rows.take (k*8)++rows.drop ((k+1)*8))),_,[b],_,rfl,t2,?_,Fresh.one _ _ hbB,λq x hx=>?_,rfl,rfl⟩
   ·refine ⟨(rows.take (k*8)++rows.drop ((k+1)*8)).map jnL,[b],[],⟨m-1,⟨?_,.inr ⟨b,c,us.toArray,rfl,aNE _,w3,by omega,dI,by simpa using fW,?_⟩⟩,rfl⟩,d_mk _ _ nH,by simp⟩
    ·rw [iV,gX]
    ·rw [iV];simpa [gX] using dO
   ·split
    ·simp
    ·rename_i hq
     intro bQ;simp at hx;subst hx;exact hR.dj q g hq x bQ (by rw [hFg];simp)⟩
theorem jeY {α:Type} (f:α->Nat) (m:Nat):∀l:List α,(∀x∈l,f x<=m)->qN f l<=m*l.length
 |[],_=>by simp [qN]
 |x::l,h=>by
  have h1:=h x (by simp)
  have h2:=jeY f m l λx hx=>h x (by simp [hx])
  simp only [qN,aNQ,aOW,aNG,Nat.mul_succ] at h2⊢;omega
theorem YardOkP.small {y:Yd} (h:YardOkP y):jt y<=700:=by
 have h1:=jeY zc 80 y.aLU λl hl=>(h.shelves l hl).aMG
 have h2:=jeY kQ 42 y.aLX λr hr=>by
  have hR:=h.right r hr;obtain ⟨n,hn,_,cC,dS,_⟩:=jcH hR.aLW;have:=hR.len;have aKE:r.aLW.aLY.length<=30:=dS;simp only [kQ,jeZ];omega
 have h3:=h.four;have h4:=h.eight;simp only [jt,jby,jac];omega
