/- Parts. -/
import Derived.Test.YtcehjhiglmifjaaGreatQSwept
import Derived.Lib.SliceRun
import Derived.Deep.RegionLaw
set_option linter.all false
set_option maxHeartbeats 8000000
set_option maxRecDepth 100000
namespace Go.Proofs.YtcehjhiglmifjaaGreat
open Go.RowKit Go.Sort
def kP (y:Yd) (k:Nat) (r:Rn):Yd:=jrI ⟨y.now,y.seq,y.aOE,y.aOH.set k r⟩ r (zn ((y.aOH[k]?).getD default).aOD r.aOD r.aOD.length)
def jcf (l:List Rn) (k:Nat) (row:List D):List D:=(l.take k).flatMap jd++(row++(l.drop (k+1)).flatMap jd)
abbrev rnV (r:Rn) (x5 x7:Value):List D:=[.val (.int .i64 r.id),.val (.int .i64 r.aOF.aOL),.val (.int .i64 r.aOF.aOQ),.val (.int .i64 r.aOF.aOP),.val (.int .i64 r.aOF.aOD),.val x5,.val (.int .i64 r.aOG),.val x7]
section
variable {l:List Rn} {k:Nat} {r:Rn} {row row':List D}
theorem qS (hk:k<l.length):((l.take k).flatMap jd).length=k*8:=by rw [jh3,aOZ,aQL (Nat.le_of_lt hk)]
theorem jnQ (h:l[k]?=some r):l.flatMap jd=jcf l k (jd r):=jbK (enc:=jd) h
theorem jbi (hk:k<l.length) (j:Nat) (hj:j<row.length):(jcf l k row)[k*8+j]?=row[j]?:=by
 rw [jcf,aQF (by rw [qS hk];omega),qS hk,aQE,aRH hj]
theorem jaI (hk:k<l.length) (j:Nat) (hj:j<row.length) (d:D):(jcf l k row).set (k*8+j) d=jcf l k (row.set j d):=by
 rw [jcf,aSC _ _ (by rw [qS hk];omega),qS hk,aQE,aSE _ _ hj];rfl
theorem jwi (hk:k<l.length) (h8:row.length=8):((jcf l k row).drop (k*8)).take 8=row:=by
 rw [jcf,List.drop_append_of_le_length (by rw [qS hk];exact aPD _),List.drop_eq_nil_of_le (by rw [qS hk];exact aPD _),aQG,<-h8,List.take_left]
theorem jkc (hk:k<l.length) (h8:row.length=8):(jcf l k row).length=l.length*8:=by
 have h1:=jh3 (l.drop (k+1));rw [aPN] at h1;rw [jcf,aOU,aOU,qS hk,h1,h8];omega
theorem jzb (hk:k<l.length) (h8:row.length=8) (lF:row'.length=8):kz (jcf l k row) (k*8) row'=jcf l k row':=by
 have h1:=qS hk;have h2:=jkc hk h8;rw [kY _ _ _ (by rw [h2,lF];omega),jcf,List.take_left' h1,lF]
 have:((l.take k).flatMap jd++(row++(l.drop (k+1)).flatMap jd)).drop (k*8+8)=(l.drop (k+1)).flatMap jd:=by
  rw [<-aPH];exact List.drop_left' (by rw [aOU,h1,h8])
 rw [this,jcf,aPH]
theorem jpt (hk:k<l.length) (h8:row.length=8):(D.sl 8 tRn (jcf l k row)).len=l.length:=by
 simp only [D.len,D.cells,D.size,jkc hk h8];exact aPZ _ (by decide)
theorem jnP (hk:k<l.length):D.sl 8 tRn (jcf l k (jd r))=jG (l.set k r):=by
 have h1:(l.set k r)[k]?=some r:=aOY hk;have h2:=jnQ h1
 have h3:jcf (l.set k r) k (jd r)=jcf l k (jd r):=by
  rw [jcf,jcf,List.take_set_of_le (aPD _),List.drop_set_of_lt (Nat.lt_succ_self k)]
 rw [jG,h2,h3]
end
theorem jBQ {flat:Bool} {p:List Nat} {k n:Nat} {η:jg} {K:jg->Prop} (h:∀aH,K aH):stH flat p k n η K:=by
 cases flat with
 |true=>exact h _
 |false=>exact λaH _=>h aH
theorem jfF (r:Rn) (t:Int):(kZ r t).aOD.length=r.aOD.length:=by
 unfold kZ;split
 ·simp only [jjz,jbX]
 ·rfl
theorem qe (r:Rn) (t:Int):(jC r t).aOD.length=r.aOD.length:=by
 unfold jC;split
 ·unfold zH
  split
  ·simp only [aPF]
  ·simp only [zw,aPF]
 ·rfl
theorem RunOkP.le12 {r:Rn} (h:RunOkP r):r.aOD.length<=12:=by
 obtain ⟨n,h1,_,h2,_⟩:=ja8 h.aOF;have:=h.len;omega
theorem jCD {was ts:List Tk} {k:Nat} {x z:Tk} (h:ts[k]?=some x) (hz:was[k]?=some z):jqW was ts k=((x.aOG==2)&&!(z.aOG==2)):=by
 have:=(aOS.1 hz).1;simp [jqW,kr h,kr hz,this]
section
variable {P:Program} {β:Nat} {s:St} {K:St->Prop} {d:Option Nat} {g:Option (Nat×Bool)}
theorem Inl.weak {f:FuncId} {args:List AV} {o:Nat->Ob} {R R':AV->(Nat->Ob)->Prop} (h:Inl P f args o R) (hk:∀av o',R av o'->R' av o'):Inl P f args o R':=
 ⟨h.1,λB w F xs h1 h2=>(h.2 B w F xs h1 h2).mono λe w' ⟨v,av,o',F',k1,k2,k3,k4⟩=>⟨v,av,o',F',k1,k2,k3,hk _ _ k4⟩⟩
theorem jmO {f:Nat} {args:List X} {R:AV->(Nat->Ob)->Prop} (h:Inl P f (args.map s.ev) s.o R) (hk:∀av o',R av o'->K (St.put ⟨s.t,o'⟩ d av)):vp P β ⟨d,g,.call f args⟩ s K:=kW (h.weak hk)
theorem ku {f:Nat} {args:List X} {vs:List AV} {R:AV->(Nat->Ob)->Prop} (ha:args.map s.ev=vs) (h:Inl P f vs s.o R) (hk:∀av o',R av o'->K (St.put ⟨s.t,o'⟩ d av)):vp P β ⟨d,g,.call f args⟩ s K:=by subst ha;exact jmO h hk
theorem jpd (x:A0):x.sim x=True:=by cases x<;>simp [A0.sim]
theorem jkG:∀l:List A0,simL l l=True
 |[]=>rfl
 |x::l=>by simp [simL,jpd,jkG l]
theorem jpb (x:Cell):x.sim x=True:=by cases x<;>simp [Cell.sim,jpd]
theorem jpc:∀l:List Cell,simC l l=True
 |[]=>rfl
 |x::l=>by simp [simC,jpb,jpc l]
theorem jN (x:Ob):x.sim x=True:=by cases x<;>simp [Ob.sim,jpc]
end
abbrev jF9 (o o':Nat->Ob):Prop:=o' 92=o 92/\o' 93=o 93/\o' 94=o 94/\o' 95=o 95/\o' 96=o 96/\o' 97=o 97
def EpK (P:Program) (f:FuncId) (k:Nat) (t:Int) (y:Yd) (r2:Rn):Prop:=∀(o:Nat->Ob) (b:Nat) (e2 e3:jg),o 90=jX b tYd y.now y.seq y.aOE e2 y.aOH e3->
 Inl P f [.c (.ep 90 3 [] (k*8) (e3 [])),Ni t] o λav o'=>av=.tup []/\o' 90=jX b tYd y.now y.seq y.aOE e2 (y.aOH.set k r2) e3/\o' 91=o 91/\jF9 o o'
def jyu (P:Program) (f:FuncId) (caps:List A0) (H:Ob) (k:Nat) (y:Yd) (r2:Rn):Prop:=∀(o:Nat->Ob) (b:Nat) (e2 e3:jg),o 90=jX b tYd y.now y.seq y.aOE e2 y.aOH e3->o 91=H->
 Turns P f ([.c (.ep 90 3 [] (k*8) (e3 []))]++caps.map .c) o λrt o'=>rt=.tup []/\o' 90=jX b tYd y.now y.seq y.aOE e2 (y.aOH.set k r2) e3/\o' 91=H/\jF9 o o'
section
variable {l:List Rn} {k:Nat} {r:Rn}
theorem zh (h:l[k]?=some r):((l.flatMap jd).drop (k*8+7)).take 1=[ju r.aOD]:=qK (enc:=jd) (size:=8) (λ_=>rfl) h (j:=7) (n:=1) (by decide)
theorem jBt (h:l[k]?=some r):((l.flatMap jd).drop (k*8+6)).take 1=[.val (.int .i64 r.aOG)]:=qK (enc:=jd) (size:=8) (λ_=>rfl) h (j:=6) (n:=1) (by decide)
theorem jF4 (h:l[k]?=some r):((l.flatMap jd).drop (k*8+1)).take 5=je r.aOF:=qK (enc:=jd) (size:=8) (λ_=>rfl) h (j:=1) (n:=5) (by decide)
theorem jF5 (h:l[k]?=some r):((l.flatMap jd).drop (k*8+1+1)).take 1=[.val (.int .i64 r.aOF.aOQ)]:=qK (enc:=jd) (size:=8) (λ_=>rfl) h (j:=2) (n:=1) (by decide)
theorem zz (h:l[k]?=some r):k*8+7+1<=(l.flatMap jd).length:=ve (enc:=jd) (size:=8) (λ_=>rfl) h (j:=7) (n:=1) (by decide)
theorem jBa (h:l[k]?=some r):k*8+6+1<=(l.flatMap jd).length:=ve (enc:=jd) (size:=8) (λ_=>rfl) h (j:=6) (n:=1) (by decide)
theorem jFp (h:l[k]?=some r):k*8+1+5<=(l.flatMap jd).length:=ve (enc:=jd) (size:=8) (λ_=>rfl) h (j:=1) (n:=5) (by decide)
theorem jFq (h:l[k]?=some r):k*8+1+1+1<=(l.flatMap jd).length:=ve (enc:=jd) (size:=8) (λ_=>rfl) h (j:=2) (n:=1) (by decide)
theorem jwu (h:l[k]?=some r) (v:Int):D.put [] (k*8+6) [.val (.int .i64 v)] (jG l)=jG (l.set k ⟨r.id,r.aOF,v,r.aOD⟩):=jbP (enc:=jd) (size:=8) (λ_=>rfl) h (j:=6) rfl (by simp [])
theorem zR (h:l[k]?=some r) {ts:List Tk} {i:Nat} {ds:List D} (hp:D.put [] i ds (ju r.aOD)=ju ts):D.put [k*8+7] i ds (jG l)=jG (l.set k ⟨r.id,r.aOF,r.aOG,ts⟩):=by
 have hk:=(aOS.1 h).1;have h7:(l.flatMap jd)[k*8+7]?=some (ju r.aOD):=jrd (j:=7) h (by decide)
 have e:(l.flatMap jd).set (k*8+7) (ju ts)=jcf l k (jd ⟨r.id,r.aOF,r.aOG,ts⟩):=by
  rw [jnQ h,jaI hk 7 (by simp [jd,je])];rfl
 rw [<-jnP hk,<-e];simp only [jG,D.put,h7,hp]
end
theorem jC7 {k t:Nat} {y:Yd} {r:Rn} (hr:y.aOH[k]?=some r) (aW:vK r t=true):EpK Tryz.prog 124 k t y (kZ r t):=by
 intro o b10 e2 e3 lG;refine qm (β:=7000000) Tryz.func124 jms (by simp) ?_
 unfold jlO;obtain ⟨t',x,dQ,hx,hs,hP⟩:=jbh aW;obtain rfl:t=t':=by omega
 obtain ⟨n,hn,eB,cC,dI,bU,aY,-⟩:=ja8 hP.aOF;have aC:=hP.len;have dM:=(aOS.1 hr).1;have eH:=(aOS.1 hx).1;have eT:=qN t;have bG:(r.aOD.set t ⟨4,x.aOO,x.tri,x.til⟩)[t]?=some ⟨4,x.aOO,x.tri,x.til⟩:=aOY eH;have oP:t<(r.aOD.set t ⟨4,x.aOO,x.tri,x.til⟩).length:=by rw [aPF];exact eH
 have hS:∀r':Rn,(y.aOH.set k r')[k]?=some r':=λr'=>aOY dM
 have bZ:=hS ⟨r.id,r.aOF,r.aOG,r.aOD.set t ⟨4,x.aOO,x.tri,x.til⟩⟩;have p9:=hS ⟨r.id,r.aOF,r.aOG,r.aOD.set t ⟨4,x.aOO,x.tri,0⟩⟩;simp only [go_sem,lG,aPO,eH,eT,zh hr,zz hr,jY hr,zR hr (jch hx 4),vP hx,jhQ hx,oP,zh bZ,zz bZ,jY bZ,jlf bG,jyf bG,zR bZ (jfG bG 0),aQB,jF4 p9,jFp p9,je];refine jw (jk3 r.aOF t hP.aOF) (by simp only [go_sem,je,jgJ p9]) λcO=>?_
 simp only [go_sem];have uV:=jtH hn cC dI t;have hlD:(vZ r.aOF r.aOD t x).length=r.aOD.length:=jbX _ _ _ _;have hR:kZ r t=jjz r t x:=jfE hx aW;generalize gJ:r.aOD.set t ⟨4,x.aOO,x.tri,0⟩=ts0 at*;have dD:ts0.length=r.aOD.length:=by rw [<-gJ,aPF]
 have uR:vZ r.aOF r.aOD t x=(jca r.aOF t).foldl jba ts0:=by rw [<-gJ];rfl
 refine qP (λi:Nat=>St.of [(0,.c (.ep 90 3 [] (k*8) (e3 []))),(26,Hd 26 (cO 0)),(27,Ni (jca r.aOF t).length),(28,Ni i)] [(90,jX b10 tYd y.now y.seq y.aOE e2 (y.aOH.set k ⟨r.id,r.aOF,r.aOG,((jca r.aOF t).take i).foldl jba ts0⟩) e3),(91,o 91),(92,o 92),(93,o 93),(94,o 94),(95,o 95),(96,o 96),(97,o 97),(26,.loose (jc (jca r.aOF t)) (cO 0))]) (λi=>i<=(jca r.aOF t).length) (λi=>(jca r.aOF t).length-i) 0 (js [90,91,92,93,94,95,96,97,700002600] (by simp only [go_sem,aQH,List.foldl_nil,jN]<;>trivial)) ?_
 rintro j hj;by_cases aB:j<(jca r.aOF t).length
 ·have aA:(j:Int)<(jca r.aOF t).length:=by omega
  obtain ⟨v,hv⟩:=ja aB;have p8:=jsa hn (aOT hv);have f8:=jgN ((jca r.aOF t).take j) ts0;have e9:=jnd hv ts0;generalize ((jca r.aOF t).take j).foldl jba ts0=ts at*;have bO:v.toNat<ts.length:=by omega
  have oA:=p8.1;obtain ⟨z,fX⟩:=ja bO;have hw:=kw j;rw [jsu fX] at e9;generalize gW:IntKind.i64.wrap (z.aOO-1)=nd at*;have sN:(ts.set v.toNat ⟨z.aOG,nd,z.tri,z.til⟩)[v.toNat]?=some ⟨z.aOG,nd,z.tri,z.til⟩:=aOY bO;have q1:=hS ⟨r.id,r.aOF,r.aOG,ts⟩;have q2:=hS ⟨r.id,r.aOF,r.aOG,ts.set v.toNat ⟨z.aOG,nd,z.tri,z.til⟩⟩;cases hz:nd==0
  ·have cQ:¬nd=0:=by simpa using hz
   rw [if_neg cQ] at e9;simp only [go_sem,aPO,aB,aA,jq hv,jp aB,zh q1,zz q1,jY q1,bO,oA,jtK fX,jtd fX,gW,zR q1 (jwt fX nd),aQB,jY q2,jtK sN,jtd sN,hz,hw];exact qc (j+1) (js [90,91,92,93,94,95,96,97,26] (by simp only [go_sem,e9,jN]<;>trivial))
  ·have cQ:nd=0:=by simpa using hz
   rw [if_pos cQ] at e9;simp only [go_sem,aPO,aB,aA,jq hv,jp aB,zh q1,zz q1,jY q1,bO,oA,jtK fX,jtd fX,gW,zR q1 (jwt fX nd),aQB,jY q2,jtK sN,jtd sN,hz,vP sN,zR q2 (jch sN 2),hw];exact qc (j+1) (js [90,91,92,93,94,95,96,97,26] (by simp only [go_sem,e9,jN]<;>trivial))
 have aA:¬(j:Int)<(jca r.aOF t).length:=by omega
 rw [aOW (by omega)]
 rw [hR,<-uR];have sV:jjz r t x=⟨r.id,r.aOF,if (qG 4 (vZ r.aOF r.aOD t x)).length=r.aOD.length then 2 else r.aOG,vZ r.aOF r.aOD t x⟩:=rfl
 rw [sV];generalize vZ r.aOF r.aOD t x=tD at*;have q3:=hS ⟨r.id,r.aOF,r.aOG,tD⟩;simp only [go_sem,jd,je,aPO,aA,jlV q3,jgE q3,zh q3,jY q3];refine jw (qg ⟨r.id,r.aOF,r.aOG,tD⟩ 4 (by simp only;omega)) (by simp only [go_sem,jd,je,vB q3,vA q3]) λη=>?_
 simp only [go_sem];rw [<-hlD];generalize hq:(qG 4 tD).length=q at*;cases he:(q:Int)==(tD.length:Int)
 ·have eS:¬q=tD.length:=jxl he
  rw [if_neg eS];simp only [go_sem];exact ⟨rfl,rfl,rfl,rfl,rfl,rfl⟩
 ·have eS:q=tD.length:=jxk he
  rw [if_pos eS];simp only [go_sem,aPO,jBt q3,jBa q3,jwu q3,aQB];exact ⟨rfl,rfl,rfl,rfl,rfl,rfl⟩
theorem jxf {P:Program} {f:FuncId} {args:List AV} {o:Nat->Ob} {R:AV->(Nat->Ob)->Prop} (h:Inl P f args o λav o'=>WkK (.only o') λs'=>R av s'.o):Inl P f args o R:=
 ⟨h.1,λB w F xs h1 h2=>(h.2 B w F xs h1 h2).mono λe w' ⟨v,av,o',F',k1,k2,k3,k4⟩=>by
  obtain ⟨s',F2,k5,k6⟩:=k4 _ _ _ _ _ _ k2;exact ⟨v,av,s'.o,F2,k1,⟨k5.below,k5.hB,k5.df,k5.sz,λ_=>trivial,k5.ob,k5.fr,k5.dj⟩,k3,k6⟩⟩
def frP (was:List Tk) (v:Int):Bool:=!decide (v∈qG 2 was)
theorem jzE {s:Int} {ts:List Tk} {j:Nat}:(j:Int)∈qG s ts↔j<ts.length/\(stT ts (j:Int)==s)=true:=by
 simp only [qG,zk,aQS,aQP,aRZ];constructor
 ·rintro ⟨i,h,he⟩
  obtain rfl:i=j:=by omega
  exact h
 ·exact λh=>⟨j,h,rfl⟩
theorem jFv (was ts:List Tk):(qG 2 ts).filter (frP was)=zn was ts ts.length:=by
 simp only [qG,zk,zn,List.filter_map,List.filter_filter]
 congr 1
 refine List.filter_congr λj _=>?_
 have h:frP was (j:Int)=!(decide (j<was.length)&&(stT was (j:Int)==2)):=by
  simp only [frP,jzE]
  congr 1
  cases (stT was (j:Int)==2)<;>simp
 simp only [Function.comp,h,jqW];rw [Bool.and_comm]
theorem jC5 {l:List Int} {k:Nat} {v:Int} (p:Int->Bool) (h:l[k]?=some v):(l.take (k+1)).filter p=(l.take k).filter p++(if p v then [v] else []):=by
 rw [aPE,h,aRD];cases hp:p v<;>simp [hp]
def jhD:C:=iS [aM 10 0,aF 11 0 10,aF 12 3 11,aL 13 12,aM 14 1,aI 15 8 13 14,aT 16 8 15,iA 17 (.call 47 [.t 16,oI 2]),aM 6 17] (iS [aM 18 2,aM 19 0,aF 20 0 19,aF 21 3 20,aL 22 21,aM 23 1,aI 24 8 22 23,iA 25 (.callv (.t 18) [.t 24])] (iS [iA 7 (.mov (.c (.slice none 0 0)))] (.seq (iS [aM 26 0,aF 27 0 26,aF 28 3 27,aL 29 28,aM 30 1,aI 31 8 29 30,aT 32 8 31,iA 33 (.call 47 [.t 32,oI 2]),aG 34 33,aN 35 0] (.blk 0 (.loop (iS [aP 36 .lss 3 35 34] (.seq (iD 36 .skip (.exit 0)) (.seq (.blk 1 (iS [aI 37 1 33 35,aL 38 37,aM 9 38] (iS [aM 39 6,aM 40 9,iA 41 (iK 80 [39,40]),aU 42 41] (iD 42 (.reg [aM 43 7,aM 44 9,iA 45 (wAY [(0,1,.t 44)]),iA 46 (wA7 43 45),aM 7 46]) .skip)))) (.reg [aQ 47 .add 3 35 1,aM 35 47]))))))) (.reg [aM 48 0,aM 49 0,aF 50 0 49,aF 51 3 50,aL 52 51,aM 53 1,aI 54 8 52 53,aT 55 8 54,aM 56 7,iA 57 (iK 111 [48,55,56])]))))
theorem jjS:fnC Tryz.prog Tryz.f116=some (jhD,[],58):=by kernel_rfl
theorem jeo {k b:Nat} {y:Yd} {r r2:Rn} {f:FuncId} {caps:List A0} {H:Ob} (hr:y.aOH[k]?=some r) (mC:r2.aOD.length=r.aOD.length) (aDH:r.aOD.length<=12) (h4:y.aOE.length=4) (hq:1<=y.seq/\y.seq<=4000000000) (ht:jB y<=2000000)
 (hc:jyu Tryz.prog f caps H k y r2) {o:Nat->Ob} {e2 e3:jg} (nK:o 90=jX b tYd y.now y.seq y.aOE e2 y.aOH e3) (n5:o 91=H):
 Inl Tryz.prog 116 [Bx 90 b,Ni k,.fn f caps] o λav o'=>av=.tup []/\(∃e2' e3',o' 90=jX b tYd (kP y k r2).now (kP y k r2).seq (kP y k r2).aOE e2' (kP y k r2).aOH e3')/\o' 91=H/\o' 92=o 92/\o' 93=o 93/\o' 94=o 94/\o' 95=o 95/\o' 96=o 96:=by
 refine jxf ?_;refine jle (β:=5000000) [[1,0],[1,1,1,1]] Tryz.func116 jjS (by simp) ?_
 unfold jhD;simp only [C.ghs,C.ghAt,List.foldr];have hk:=(aOS.1 hr).1;have bL:=qN k;simp only [go_sem,nK,aPO,hk,bL,jlV hr,jgE hr,jd,je];refine jw (qg r 2 (by omega)) (by simp only [go_sem,nK,jd,je,vB hr,vA hr]) λsK=>?_
 simp only [go_sem];refine ky ?_;refine WkK.wk (s':=St.of [(0,Bx 90 b),(1,Ni k),(2,.fn f caps),(6,Hd 97 (sK 0))] [(90,jX b tYd y.now y.seq y.aOE e2 y.aOH e3),(91,o 91),(92,o 92),(93,o 93),(94,o 94),(95,o 95),(96,o 96),(97,.loose (jc (qG 2 r.aOD)) (sK 0))]) (js [90,91,92,93,94,95,96,500001700] (by simp only [go_sem,nK,jN,jkG]<;>trivial)) ?_
 refine WkK.of ?_;simp only [go_sem,aPO,hk,bL];refine jv9 (f:=f) (caps:=caps) (by simp only [go_sem]) (hc _ b e2 e3 (by simp only [go_sem]) (by simp only [go_sem];exact n5)) ?_
 rintro _ o1 ⟨rfl,j90,j91,j92,j93,j94,j95,j96,j97⟩ η;simp only [go_sem] at j92 j93 j94 j95 j96 j97;have bZ:(y.aOH.set k r2)[k]?=some r2:=aOY hk;have oD:k<(y.aOH.set k r2).length:=by rw [aPF];exact hk
 simp only [go_sem,j90,aPO,oD,bL,jlV bZ,jgE bZ,jd,je];refine jw (qg r2 2 (by omega)) (by simp only [go_sem,j90,jd,je,vB bZ,vA bZ]) λmW=>?_
 simp only [go_sem]
 have nC:∀v:Int,v∈qG 2 r2.aOD->0<=v:=λv hv=>by
  simp only [qG,zk,aQS] at hv;obtain ⟨a,_,rfl⟩:=hv;omega
 have hfn:=jFv r.aOD r2.aOD;have pQ:(qG 2 r2.aOD).length<=12:=aQJ (va _ _ _) (by omega)
 have hBl:(qG 2 r.aOD).length<=12:=aQJ (va _ _ _) aDH;generalize qG 2 r2.aOD=L2 at*;refine qP (λi:Nat×jg=>St.of [(0,Bx 90 b),(1,Ni k),(6,Hd 97 (sK 0)),(7,Hd 7 i.2),(33,Hd 33 (mW 0)),(34,Ni L2.length),(35,Ni i.1)] [(90,jX b tYd y.now y.seq y.aOE e2 (y.aOH.set k r2) e3),(91,H),(92,o 92),(93,o 93),(94,o 94),(95,o 95),(96,o 96),(97,.loose (jc (qG 2 r.aOD)) (sK 0)),(7,.loose (jc ((L2.take i.1).filter (frP r.aOD))) i.2),(33,.loose (jc L2) (mW 0))]) (λi=>i.1<=L2.length) (λi=>L2.length-i.1) (0,jcb) (vU [some 90,some 91,some 92,some 93,some 94,some 95,some 96,some 97,none,some 500003300] (by simp only [go_sem,j90,j91,j92,j93,j94,j95,j96,j97,aQH,List.filter_nil,jN]<;>trivial)) ?_
 rintro ⟨i,bK⟩ hi;dsimp only at hi;by_cases aB:i<L2.length
 ·have aA:(i:Int)<L2.length:=by omega
  obtain ⟨v,hv⟩:=ja aB;have hw:=kw i;have e9:=jC5 (frP r.aOD) hv;have hFl:((L2.take i).filter (frP r.aOD)).length<=12:=aQJ (aPT _ _) (by rw [aOZ];omega)
  generalize (L2.take i).filter (frP r.aOD)=F at*;have m1:F.length+1<=maxLen:=vT;have m2:(F.length+1)*8<=140737488355328:=by omega
  simp only [go_sem,aA,aB,jq hv,jp aB];refine jk (jk4 (qG 2 r.aOD) v (by omega)) λη=>?_
  simp only [go_sem];cases hd:decide (v∈qG 2 r.aOD)
  ·have hp:frP r.aOD v=true:=by rw [frP,hd];rfl
   rw [hp,if_pos rfl] at e9;simp only [go_sem,m1,m2,ko,hw];intro dF mA;exact qc (i+1,mA) (js [90,91,92,93,94,95,96,97,500004600,33] (by simp only [go_sem,e9,jN]<;>trivial))
  ·have hp:frP r.aOD v=false:=by rw [frP,hd];rfl
   rw [hp,if_neg (by decide),aPR] at e9
   simp only [go_sem,hw];exact qc (i+1,bK) (js [90,91,92,93,94,95,96,97,7,33] (by simp only [go_sem,e9,jN]<;>trivial))
 have aA:¬(i:Int)<L2.length:=by omega
 rw [aOW (by omega),hfn]
 simp only [go_sem,aA];refine ky ?_;have hR:jG (y.aOH.set k r2)=.sl 8 tRn (jcf y.aOH k (jd r2)):=(jnP hk).symm;have hid:(zn r.aOD r2.aOD r2.aOD.length).length<=12:=aQJ (jej _ _ _) (by omega)
 have v8:kP y k r2=⟨y.now,(zo r2.aOF.aOL r2.id (zn r.aOD r2.aOD r2.aOD.length) ((y.aOE[shN r2.id]?).getD default,y.seq)).2,y.aOE.set (shN r2.id) (zo r2.aOF.aOL r2.id (zn r.aOD r2.aOD r2.aOD.length) ((y.aOE[shN r2.id]?).getD default,y.seq)).1,y.aOH.set k r2⟩:=by rw [kP,hr,aPA];rfl
 generalize zn r.aOD r2.aOD r2.aOD.length=ids at*;refine WkK.wk (s':=St.of [(0,Bx 90 b),(1,Ni k),(7,Hd 97 bK)] [(90,vC b tYd y.now y.seq y.aOE e2 (jG (y.aOH.set k r2)) e3),(91,H),(92,o 92),(93,o 93),(94,o 94),(95,o 95),(96,o 96),(97,.loose (jc ids) bK)]) (js [90,91,92,93,94,95,96,7] (by simp only [go_sem,jN]<;>trivial)) ?_
 rw [hR];refine jfC 90 3 (k*8+5) 98 (η:=e3) (cs:=r2.aOF.aOI.flatMap kb) rfl (jbi hk 5 (by simp [jd,je])) rfl (by decide) λbM eV z5 nH pU=>?_
 rw [jaI hk 5 (by simp [jd,je])]
 refine jfC 90 3 (k*8+7) 99 (η:=eV) (cs:=r2.aOD.flatMap jz) rfl (jbi hk 7 (by simp [jd,je])) rfl (by decide) λcO lM z1 d8 mT=>?_
 rw [jaI hk 7 (by simp [jd,je])]
 rw [<-nH,<-d8];rw [<-nH] at pU;rw [<-d8] at mT;have hV:((jd r2).set 5 (.val (bM []))).set 7 (.val (cO []))=rnV r2 (bM []) (cO []):=rfl;rw [hV];obtain ⟨dR,rG⟩:∃dR,D.sl 8 tRn (jcf y.aOH k (rnV r2 (bM []) (cO [])))=dR:=⟨_,rfl⟩;refine WkK.wk (s':=St.of [(0,Bx 90 b),(1,Ni k),(7,Hd 97 bK)] [(90,vC b tYd y.now y.seq y.aOE e2 (.sl 8 tRn (jcf y.aOH k (rnV r2 (bM []) (cO [])))) lM),(91,H),(92,o 92),(93,o 93),(94,o 94),(95,o 95),(96,o 96),(97,.loose (jc ids) bK),(98,.loose (jn r2.aOF.aOI) bM),(99,.loose (ju r2.aOD) cO)]) (js [90,91,92,93,94,95,96,97,98,99] (by simp only [go_sem,jN,jn,ju]<;>trivial)) ?_
 refine WkK.of ?_;have gM:(jcf y.aOH k (rnV r2 (bM []) (cO []))).length=y.aOH.length*8:=jkc hk rfl;have nG:((jcf y.aOH k (rnV r2 (bM []) (cO []))).drop (k*8)).take 8=rnV r2 (bM []) (cO []):=jwi hk rfl;have wP:k*8+8<=y.aOH.length*8:=by omega
 have fV:(D.sl 8 tRn (jcf y.aOH k (rnV r2 (bM []) (cO [])))).len=y.aOH.length:=jpt hk rfl;simp only [go_sem,gM,fV,nG,wP,hk,bL,aPO];refine kW (qm (β:=8000000) Tryz.func111 jdA (by simp) ?_)
 unfold jdT;simp only [go_sem,pU,mT];intro b74;refine jk (jeS r2.id) λη=>?_
 simp only [go_sem];obtain ⟨lI,rP⟩:=jBY r2.id;rw [lI];rw [v8];generalize shN r2.id=n at*;have hn:n<y.aOE.length:=by omega
 have l9:=qN n;obtain ⟨l,hl⟩:=ja hn;have eR:=zq ht (aOT hl);rw [hl,aPA];rw [rG];refine qP (λi:Nat×jg=>St.of [(0,Bx 90 b),(4,Bx 4 b74),(6,Ni n),(12,Hd 97 bK),(13,Ni ids.length),(14,Ni i.1)] [(90,vC b tYd y.now (zo r2.aOF.aOL r2.id (ids.take i.1) (l,y.seq)).2 (y.aOE.set n (zo r2.aOF.aOL r2.id (ids.take i.1) (l,y.seq)).1) i.2 dR lM),(91,H),(92,o 92),(93,o 93),(94,o 94),(95,o 95),(96,o 96),(97,.loose (jc ids) bK),(98,.loose (jn r2.aOF.aOI) bM),(99,.loose (ju r2.aOD) cO),(4,jqS b74 tRn r2 (bM []) (cO []))]) (λi=>i.1<=ids.length) (λi=>ids.length-i.1) (0,e2) (js [90,91,92,93,94,95,96,97,98,99,800000400] (by simp only [go_sem,aQH,jgz,jaH hl,jN]<;>trivial)) ?_
 rintro ⟨i,η⟩ hi;dsimp only at hi;have uE:=zx r2.aOF.aOL r2.id (ids.take i) (l,y.seq);have cR:=jem r2.aOF.aOL r2.id (ids.take i) (l,y.seq);have iV:(ids.take i).length=i:=by rw [aOZ];omega
 dsimp only at uE cR;by_cases aB:i<ids.length
 ·have aA:(i:Int)<ids.length:=by omega
  have hU:=qN i;obtain ⟨x,hx⟩:=ja aB;have eJ:=jgx r2.aOF.aOL r2.id (ids.take i) x (l,y.seq);have cE:ids.take (i+1)=ids.take i++[x]:=by rw [aPE,hx];rfl
  rw [<-cE] at eJ;have hw:=kw i;have bX:IntKind.i64.wrap ((zo r2.aOF.aOL r2.id (ids.take i) (l,y.seq)).2+1)=(zo r2.aOF.aOL r2.id (ids.take i) (l,y.seq)).2+1:=zm;generalize wS:zo r2.aOF.aOL r2.id (ids.take i) (l,y.seq)=P at*;obtain ⟨sh,eD⟩:∃s,y.aOE.set n P.1=s:=⟨_,rfl⟩;have l8:sh[n]?=some P.1:=by rw [<-eD];exact aOY hn
  have gE:n<sh.length:=by rw [<-eD,aPF];exact hn
  have iJ:∀L,sh.set n L=y.aOE.set n L:=λL=>by rw [<-eD,aQB]
  have gX:n+1<=(sh.flatMap λes=>[jf es]).length:=by have:=jaK gE;rwa [aPK] at this
  have aZ:((sh.flatMap λes=>[jf es]).drop n).take 1=[jf P.1]:=by have:=jbs l8;rwa [aPK] at this
  have lH:i+1<=(ids.flatMap λn=>[iv n]).length:=by have:=jp aB;rwa [aPK] at this
  have n7:((ids.flatMap λn=>[iv n]).drop i).take 1=[iv x]:=by have:=jq hx;rwa [aPK] at this
  rw [eD];simp only [go_sem,aA,hU,aB,n7,lH,aPO,gE,aPK,aZ,gX,l9];refine jw (jaY P.1 ⟨r2.aOF.aOL,P.2,r2.id,x⟩ (by omega)) (by simp only [go_sem,jj,qn l8]) λtW=>?_
  simp only [go_sem];simp only [go_sem,gE,aPK,gX,jbv,bX,hw,iJ];refine λaH hη'=>?_
  exact qc (i+1,aH) (js [90,91,92,93,94,95,96,97,98,99,4] (by simp only [go_sem,eJ,jN]<;>trivial))
 obtain rfl:i=ids.length:=by omega
 have aA:¬((ids.length:Nat):Int)<ids.length:=by omega
 rw [aRC];generalize zo r2.aOF.aOL r2.id ids (l,y.seq)=P at*;subst rG;simp only [go_sem,aA];refine WkK.wk (s':=St.of [] [(90,vC b tYd y.now P.2 (y.aOE.set n P.1) η (.sl 8 tRn (jcf y.aOH k (rnV r2 (bM []) (cO [])))) lM),(91,H),(92,o 92),(93,o 93),(94,o 94),(95,o 95),(96,o 96),(98,.loose (jn r2.aOF.aOI) bM),(99,.loose (ju r2.aOD) cO)]) (js [90,91,92,93,94,95,96,98,99] (by simp only [go_sem,jN]<;>trivial)) ?_
 refine qL 90 3 (k*8+5) 98 (η:=lM) (aS:=bM) (cs:=r2.aOF.aOI.flatMap kb) rfl (jbi hk 5 (by simp)) (.inl rfl) rfl (by decide) ληD _=>?_
 rw [jaI hk 5 (by simp)]
 refine qL 90 3 (k*8+7) 99 (η:=ηD) (aS:=cO) (cs:=r2.aOD.flatMap jz) rfl (jbi hk 7 (by simp)) (.inl rfl) rfl (by decide) λsL _=>?_
 rw [jaI hk 7 (by simp)]
 have bD:(List.set (List.set (rnV r2 (bM []) (cO [])) 5 (.sl 2 tEd (r2.aOF.aOI.flatMap kb))) 7 (.sl 4 tTk (r2.aOD.flatMap jz)))=jd r2:=rfl;rw [bD,jnP hk];refine WkK.of ?_;exact ⟨⟨η,sL,rfl⟩,rfl,rfl,rfl,rfl,rfl,rfl⟩
def simAs:List AV->List AV->Prop
 |[],[]=>True
 |a::l,b::m=>a.sim b/\simAs l m
 |_,_=>False
theorem jv0:simAs [] []=True:=(rfl)
theorem jt7 (a b:AV) (l m:List AV):simAs (a::l) (b::m)=(a.sim b/\simAs l m):=(rfl)
theorem simAs.rel {B:Nat} {w:World}:∀{l m:List AV} {xs:List Value},simAs l m->jlZ B w l xs->jlZ B w m xs
 |[],[],_,_,h=>h
 |_::_,_::_,_,⟨h1,h2⟩,⟨x,xs',e,h3,h4⟩=>⟨x,xs',e,h1.rel h3,h2.rel h4⟩
theorem jCY {P:Program} {f:FuncId} {vs vs2:List AV} {o o2:Nat->Ob} {R:AV->(Nat->Ob)->Prop} (hw:Wk (.only o) (.only o2)) (hs:simAs vs vs2) (h:Inl P f vs2 o2 R):Inl P f vs o R:=
 ⟨h.1,λB w F xs h1 h2=>by
  obtain ⟨F2,h3,_⟩:=hw _ _ _ _ _ _ h1;exact h.2 B w F2 xs h3 (hs.rel h2)⟩
theorem zP {P:Program} {β:Nat} {s:St} {K:St->Prop} {d:Option Nat} {g:Option (Nat×Bool)} {f:Nat} {args:List X} {R:AV->(Nat->Ob)->Prop} (ks:List (Option Nat)) (O:List (Nat×Ob)) (vs2:List AV) (hs:simAs (args.map s.ev) vs2) (hf:jrZ s ks O) (h:Inl P f vs2 (lkO O) R) (hk:∀av o',R av o'->K (St.put ⟨s.t,o'⟩ d av)) (hn:jjp (jsx ks)=true:=by decide):vp P β ⟨d,g,.call f args⟩ s K:=by
 refine kW (jCY (o2:=lkO O) ?_ hs (h.weak hk))
 have hf':∀{ks:List (Option Nat)} {O:List (Nat×Ob)},jrZ s ks O->jrZ (.only s.o) ks O:=by
  intro ks
  induction ks with
  |nil=>intro O h;cases O<;>first|exact h|exact h.elim
  |cons k ks ih=>
   intro O h;cases O with
   |nil=>cases k<;>exact h.elim
   |cons p O=>cases k<;>exact ⟨h.1,ih h.2⟩
 exact vU (s:=.only s.o) ks (T:=[]) ⟨trivial,hf' hf⟩ hn
attribute [go_sem] jv0 jt7
def je0:C:=iS [iA 3 (.box 27 4 (.t 0)),iA 5 (.box 52 8 (.t 2)),iA 6 wAL] (iS [aF 8 3 3,aL 9 8,aM 10 1,aI 11 8 9 10,aT 12 8 11,iA 7 wAM,wAC 7 12] (iS [aF 13 3 3,aL 14 13,aM 15 1,aT 16 8 5,aI 17 8 14 15,wAC 17 16] (iS [aT 18 4 3,aT 19 8 7,aT 20 8 5,iA 21 (iK 115 [18,19,20]),wAA 6 21] .ret)))
theorem jip:fnC Tryz.prog Tryz.f119=some (je0,[.cell 6 true 4],22):=by kernel_rfl
abbrev jhT (b ty:Nat) (now seq:Int) (x2 x3:Value):Ob:=.box b ty [.a (.v (.int .i64 now)),.a (.v (.int .i64 seq)),.a (.v x2),.a (.v x3)]
theorem jgD {k b:Nat} {y:Yd} {r r2:Rn} (hr:y.aOH[k]?=some r) (cH:r2.aOD.length=r.aOD.length) (lU:r.aOD.length<=12) (h4:y.aOE.length=4) (hq:1<=y.seq/\y.seq<=4000000000) (ht:jB y<=2000000)
 {o:Nat->Ob} {aS bY bR bK:jg} (nK:o 90=jX b tYd y.now y.seq y.aOE aS y.aOH bY) (h97:o 97=.loose (jn r2.aOF.aOI) bR) (h98:o 98=.loose (ju r2.aOD) bK):
 Inl Tryz.prog 119 [.agg [.v (.int .i64 y.now),.v (.int .i64 y.seq),.h 90 2 [] (aS []),.h 90 3 [] (bY [])],Ni k,.agg [.v (.int .i64 r2.id),.v (.int .i64 r2.aOF.aOL),.v (.int .i64 r2.aOF.aOQ),.v (.int .i64 r2.aOF.aOP),.v (.int .i64 r2.aOF.aOD),.h 97 0 [] (bR []),.v (.int .i64 r2.aOG),.h 98 0 [] (bK [])]] o
  λav o'=>∃c e2 e3 x2 x3,av=.agg [.v (.int .i64 (kP y k r2).now),.v (.int .i64 (kP y k r2).seq),.h 66 2 [] (e2 []),.h 66 3 [] (e3 [])]/\o' 66=jX c tYd (kP y k r2).now (kP y k r2).seq (kP y k r2).aOE e2 (kP y k r2).aOH e3/\o' 90=jhT b tYd y.now y.seq x2 x3/\o' 91=o 91/\o' 92=o 92/\o' 93=o 93/\o' 94=o 94/\o' 95=o 95/\o' 96=o 96:=by
 have hk:=(aOS.1 hr).1;have bL:=qN k;refine jxf ?_;refine jle (β:=5000000) [[1,0],[1,1,0],[1,1,1,0],[1,1,1,1]] Tryz.func119 jip (by simp) ?_
 unfold je0;simp only [C.ghs,C.ghAt,List.foldr];simp only [go_sem,nK,h97,h98];intro c3 c5 c6;refine ky ?_;have hR:jG y.aOH=.sl 8 tRn (jcf y.aOH k (jd r)):=by rw [jG,jnQ hr]
 refine WkK.wk (s':=St.of [(1,Ni k),(3,Bx 3 c3),(5,Bx 5 c5),(6,Bx 66 c6)] [(90,jhT b tYd y.now y.seq (aS []) (bY [])),(91,o 91),(92,o 92),(93,o 93),(94,o 94),(95,o 95),(96,o 96),(3,vC c3 _ y.now y.seq y.aOE aS (jG y.aOH) bY),(5,ja7 c5 _ r2 bR bK),(66,ZYd c6 _)]) (js [90,91,92,93,94,95,96,500000300,500000500,500000600] (by simp only [go_sem,jN,nK]<;>trivial)) ?_
 rw [hR];refine jfC 3 3 (k*8+5) 901 (η:=bY) (cs:=r.aOF.aOI.flatMap kb) rfl (jbi hk 5 (by simp [jd,je])) rfl (by decide) λbM eV z5 nH pU=>?_
 rw [jaI hk 5 (by simp [jd,je])]
 refine jfC 3 3 (k*8+7) 902 (η:=eV) (cs:=r.aOD.flatMap jz) rfl (jbi hk 7 (by simp [jd,je])) rfl (by decide) λcO lM z1 d8 mT=>?_
 rw [jaI hk 7 (by simp [jd,je])]
 rw [<-nH,<-d8];rw [<-nH] at pU;rw [<-d8] at mT;have hV:((jd r).set 5 (.val (bM []))).set 7 (.val (cO []))=rnV r (bM []) (cO []):=rfl;rw [hV];refine WkK.wk (s':=St.of [(1,Ni k),(3,Bx 3 c3),(5,Bx 5 c5),(6,Bx 66 c6)] [(90,jhT b tYd y.now y.seq (aS []) (bY [])),(91,o 91),(92,o 92),(93,o 93),(94,o 94),(95,o 95),(96,o 96),(3,vC c3 _ y.now y.seq y.aOE aS (.sl 8 tRn (jcf y.aOH k (rnV r (bM []) (cO [])))) lM),(5,ja7 c5 _ r2 bR bK),(66,ZYd c6 _),(901,.loose (jn r.aOF.aOI) bM),(902,.loose (ju r.aOD) cO)]) (js [90,91,92,93,94,95,96,3,5,66,901,902] (by simp only [go_sem,je,jd,jN]<;>trivial)) ?_
 refine WkK.of ?_;have gM:(jcf y.aOH k (rnV r (bM []) (cO []))).length=y.aOH.length*8:=jkc hk rfl;have hd8:y.aOH.length*8/8=y.aOH.length:=aPZ _ (by decide)
 have nG:((jcf y.aOH k (rnV r (bM []) (cO []))).drop (k*8)).take 8=rnV r (bM []) (cO []):=jwi hk rfl;have wP:k*8+8<=y.aOH.length*8:=by omega
 have fV:(D.sl 8 tRn (jcf y.aOH k (rnV r (bM []) (cO [])))).len=y.aOH.length:=jpt hk rfl;simp only [go_sem,gM,fV,nG,wP,hk,bL,pU,mT];intro c7;refine ky ?_;refine WkK.wk (s':=St.of [(1,Ni k),(3,Bx 3 c3),(5,Bx 5 c5),(6,Bx 66 c6),(7,Bx 7 c7)] [(90,jhT b tYd y.now y.seq (aS []) (bY [])),(91,o 91),(92,o 92),(93,o 93),(94,o 94),(95,o 95),(96,o 96),(3,vC c3 _ y.now y.seq y.aOE aS (.sl 8 tRn (jcf y.aOH k (rnV r (bM []) (cO [])))) lM),(5,ja7 c5 _ r2 bR bK),(66,ZYd c6 _),(7,jqS c7 _ r (bM []) (cO [])),(901,.loose (jn r.aOF.aOI) bM),(902,.loose (ju r.aOD) cO)]) (js [90,91,92,93,94,95,96,3,5,66,500000700,901,902] (by simp only [go_sem,jN]<;>trivial)) ?_
 refine qx 7 5 901 (d:=jn r.aOF.aOI) (η:=bM) rfl rfl rfl ?_;refine qx 7 7 902 (d:=ju r.aOD) (η:=cO) rfl rfl rfl ?_;refine qD 5 5 903 (d:=jn r2.aOF.aOI) (η:=bR) rfl rfl (by decide) λuA=>?_
 refine qD 5 7 904 (d:=ju r2.aOD) (η:=bK) rfl rfl (by decide) λt9=>?_
 refine WkK.of ?_;simp only [go_sem,gM,fV,nG,wP,hk,bL,uA,t9];refine jBQ λwW=>?_
 have aCS:D.put [] (k*8) (rnH r2 (bR []) (bK [])) (.sl 8 tRn (jcf y.aOH k (rnV r (bM []) (cO []))))=.sl 8 tRn (jcf y.aOH k (rnH r2 (bR []) (bK []))):=by
  simp only [D.put];rw [jzb hk rfl rfl]
 refine ky ?_;refine WkK.wk (s':=St.of [(1,Ni k),(3,Bx 3 c3),(5,Bx 5 c5),(6,Bx 66 c6),(7,Bx 7 c7)] [(90,jhT b tYd y.now y.seq (aS []) (bY [])),(91,o 91),(92,o 92),(93,o 93),(94,o 94),(95,o 95),(96,o 96),(3,vC c3 _ y.now y.seq y.aOE aS (.sl 8 tRn (jcf y.aOH k (rnH r2 (bR []) (bK [])))) wW),(5,jqS c5 _ r2 (bR []) (bK [])),(66,ZYd c6 _),(7,ja7 c7 _ r bM cO),(903,.loose (jn r2.aOF.aOI) bR),(904,.loose (ju r2.aOD) bK)]) (js [90,91,92,93,94,95,96,3,5,66,7,903,904] (by simp only [go_sem,aCS,jN]<;>trivial)) ?_
 refine qx 5 5 903 (d:=jn r2.aOF.aOI) (η:=bR) rfl rfl rfl ?_;refine qx 5 7 904 (d:=ju r2.aOD) (η:=bK) rfl rfl rfl ?_;generalize rG:D.sl 8 tRn (jcf y.aOH k (rnH r2 (bR []) (bK [])))=dR at*;refine WkK.wk (s':=St.of [(1,Ni k),(3,Bx 3 c3),(5,Bx 5 c5),(6,Bx 66 c6),(7,Bx 7 c7)] [(90,jhT b tYd y.now y.seq (aS []) (bY [])),(91,o 91),(92,o 92),(93,o 93),(94,o 94),(95,o 95),(96,o 96),(3,vC c3 _ y.now y.seq y.aOE aS dR wW),(5,ja7 c5 _ r2 bR bK),(66,ZYd c6 _),(7,ja7 c7 _ r bM cO)]) (js [90,91,92,93,94,95,96,3,5,66,7] (by simp only [go_sem,jN]<;>trivial)) ?_
 refine WkK.of ?_;simp only [go_sem];refine kW (qm (β:=7000000) Tryz.func115 jcD (by simp) ?_)
 unfold jcs;simp only [go_sem];intro d3 d4 d5 d6;refine jk (jeP r2.id) λη=>?_
 simp only [go_sem];obtain ⟨lI,rP⟩:=jBY r2.id;rw [lI];have v8:kP y k r2=⟨y.now,(zo r2.aOF.aOL r2.id (zn r.aOD r2.aOD r2.aOD.length) ((y.aOE[shN r2.id]?).getD default,y.seq)).2,y.aOE.set (shN r2.id) (zo r2.aOF.aOL r2.id (zn r.aOD r2.aOD r2.aOD.length) ((y.aOE[shN r2.id]?).getD default,y.seq)).1,y.aOH.set k r2⟩:=by rw [kP,hr,aPA];rfl
 rw [v8];generalize shN r2.id=n at*;have hn:n<y.aOE.length:=by omega
 have l9:=qN n;obtain ⟨l,hl⟩:=ja hn;have eR:=zq ht (aOT hl);rw [hl,aPA];refine qP (λi:Nat×jg=>St.of [(3,Bx 3 d3),(4,Bx 4 d4),(5,Bx 5 d5),(6,Bx 6 d6),(7,Ni n),(8,Ni i.1)] [(90,jhT b tYd y.now y.seq (aS []) (bY [])),(91,o 91),(92,o 92),(93,o 93),(94,o 94),(95,o 95),(96,o 96),(66,ZYd c6 _),(3,vC d3 _ y.now (zo r2.aOF.aOL r2.id (zn r.aOD r2.aOD i.1) (l,y.seq)).2 (y.aOE.set n (zo r2.aOF.aOL r2.id (zn r.aOD r2.aOD i.1) (l,y.seq)).1) i.2 dR wW),(4,ja7 d4 _ r bM cO),(5,ja7 d5 _ r2 bR bK),(6,ZYd d6 _)]) (λi=>i.1<=r2.aOD.length) (λi=>r2.aOD.length-i.1) (0,aS) (js [90,91,92,93,94,95,96,66,700000300,700000400,700000500,700000600] (by simp only [go_sem,jA6,jgz,jaH hl,jN]<;>trivial)) ?_
 rintro ⟨j,η⟩ hj;dsimp only at hj;have uE:=zx r2.aOF.aOL r2.id (zn r.aOD r2.aOD j) (l,y.seq);have cR:=jem r2.aOF.aOL r2.id (zn r.aOD r2.aOD j) (l,y.seq);have iV:=jej r.aOD r2.aOD j;have eJ:=jgx r2.aOF.aOL r2.id (zn r.aOD r2.aOD j) j (l,y.seq);have cE:=jA5 r.aOD r2.aOD j;dsimp only at uE cR;by_cases aB:j<r2.aOD.length
 ·have aA:(j:Int)<r2.aOD.length:=by omega
  have o3:j<r.aOD.length:=by omega
  have tJ:(j:Int)<r.aOD.length:=by omega
  have dK:=qN j;obtain ⟨x,hx⟩:=ja aB;obtain ⟨z,hz⟩:=ja o3;have hw:=kw j;rw [jCD hx hz] at cE;have bX:IntKind.i64.wrap ((zo r2.aOF.aOL r2.id (zn r.aOD r2.aOD j) (l,y.seq)).2+1)=(zo r2.aOF.aOL r2.id (zn r.aOD r2.aOD j) (l,y.seq)).2+1:=zm;generalize wS:zo r2.aOF.aOL r2.id (zn r.aOD r2.aOD j) (l,y.seq)=P at*;obtain ⟨sh,eD⟩:∃s,y.aOE.set n P.1=s:=⟨_,rfl⟩;have l8:sh[n]?=some P.1:=by rw [<-eD];exact aOY hn
  have gE:n<sh.length:=by rw [<-eD,aPF];exact hn
  have iJ:∀L,sh.set n L=y.aOE.set n L:=λL=>by rw [<-eD,aQB]
  have gX:n+1<=(sh.flatMap λes=>[jf es]).length:=by have:=jaK gE;rwa [aPK] at this
  have aZ:((sh.flatMap λes=>[jf es]).drop n).take 1=[jf P.1]:=by have:=jbs l8;rwa [aPK] at this
  rw [eD];cases h2:x.aOG !=2
  ·have bP:(x.aOG==2)=true:=by have:x.aOG=2:=by simpa using h2
                               simp [this]
   rw [bP,Bool.true_and] at cE;cases h3:z.aOG==2
   ·rw [h3,Bool.not_false,if_pos rfl] at cE
    rw [<-cE] at eJ;simp only [go_sem,aA,dK,aB,o3,tJ,vP hx,jf2 hx,vP hz,jf2 hz,h2,h3];simp only [go_sem,gE,aPK,aZ,gX];refine jw (jaW P.1 ⟨r2.aOF.aOL,P.2,r2.id,j⟩ (by omega)) (by simp only [go_sem,jj,qn l8]) λtW=>?_
    simp only [go_sem];simp only [go_sem,gE,aPK,gX,jbv,bX,hw,iJ];refine λaH hη'=>?_
    exact qc (j+1,aH) (js [90,91,92,93,94,95,96,66,3,4,5,6] (by simp only [go_sem,eJ,jN]<;>trivial))
   ·rw [h3,Bool.not_true,if_neg (by decide),aPR] at cE
    simp only [go_sem,aA,dK,aB,o3,tJ,vP hx,jf2 hx,vP hz,jf2 hz,h2,h3,hw];exact qc (j+1,η) (js [90,91,92,93,94,95,96,66,3,4,5,6] (by simp only [go_sem,cE,wS,eD,jN]<;>trivial))
  ·have bP:(x.aOG==2)=false:=by simpa using h2
   rw [bP,Bool.false_and,if_neg (by decide),aPR] at cE
   simp only [go_sem,aA,dK,aB,vP hx,jf2 hx,h2,hw];exact qc (j+1,η) (js [90,91,92,93,94,95,96,66,3,4,5,6] (by simp only [go_sem,cE,wS,eD,jN]<;>trivial))
 obtain rfl:j=r2.aOD.length:=by omega
 have aA:¬((r2.aOD.length:Nat):Int)<r2.aOD.length:=by omega
 generalize zo r2.aOF.aOL r2.id (zn r.aOD r2.aOD r2.aOD.length) (l,y.seq)=P at*;simp only [go_sem,aA];refine ky ?_;subst rG;refine WkK.wk (s':=St.of [(6,Bx 66 c6)] [(90,jhT b tYd y.now y.seq (aS []) (bY [])),(91,o 91),(92,o 92),(93,o 93),(94,o 94),(95,o 95),(96,o 96),(66,vC c6 _ y.now P.2 (y.aOE.set n P.1) η (.sl 8 tRn (jcf y.aOH k (rnH r2 (bR []) (bK [])))) wW),(5,ja7 d5 _ r2 bR bK)]) (js [90,91,92,93,94,95,96,66,5] (by simp only [go_sem,jN]<;>trivial)) ?_
 refine qD 5 5 901 (d:=jn r2.aOF.aOI) (η:=bR) rfl rfl (by decide) λ_=>?_
 refine qD 5 7 902 (d:=ju r2.aOD) (η:=bK) rfl rfl (by decide) λ_=>?_
 refine qL 66 3 (k*8+5) 901 (η:=wW) (aS:=bR) (cs:=r2.aOF.aOI.flatMap kb) rfl (jbi hk 5 (by simp)) (.inr rfl) rfl (by decide) ληD _=>?_
 rw [jaI hk 5 (by simp)]
 refine qL 66 3 (k*8+7) 902 (η:=ηD) (aS:=bK) (cs:=r2.aOD.flatMap jz) rfl (jbi hk 7 (by simp)) (.inr rfl) rfl (by decide) λsL _=>?_
 rw [jaI hk 7 (by simp)]
 have bD:(List.set (List.set (rnH r2 (bR []) (bK [])) 5 (.sl 2 tEd (r2.aOF.aOI.flatMap kb))) 7 (.sl 4 tTk (r2.aOD.flatMap jz)))=jd r2:=rfl;rw [bD,jnP hk];refine WkK.of ?_;simp only [go_sem];refine WkK.wk (s':=St.of [] [(66,jX c6 tYd y.now P.2 (y.aOE.set n P.1) η (y.aOH.set k r2) sL),(90,jhT b tYd y.now y.seq (aS []) (bY [])),(91,o 91),(92,o 92),(93,o 93),(94,o 94),(95,o 95),(96,o 96)]) (js [66,90,91,92,93,94,95,96] (by simp only [go_sem,jN]<;>trivial)) ?_
 refine WkK.of ⟨c6,η,sL,aS [],bY [],rfl,rfl,rfl,rfl,rfl,rfl,rfl,rfl,rfl⟩
noncomputable def jc0 (y:Yd) (id aOK tri:Int):Yd:=if jbt y id aOK tri=0 then kP y (runAt y id).toNat (kZ ((y.aOH[(runAt y id).toNat]?).getD default) aOK) else y
def jdO:C:=iS [iA 4 (.box 27 4 (.t 0)),iA 8 wAL,aN 9 0] (iS [aT 13 4 4,iA 14 (iK 67 [13]),iA 10 wAL,wAA 10 14] (iS [aT 15 4 4,aM 16 1,aM 17 2,aM 18 3,iA 19 (iK 189 [15,16,17,18]),aM 11 19] (.seq (iS [aM 20 11,aQ 21 .neq 3 20 0] (iD 21 (iS [aT 22 4 10,aM 23 11,wAA 8 22,aM 9 23] .ret) .skip)) (iS [aT 24 4 4,aM 25 1,iA 26 (iK 26 [24,25]),aM 12 26] (.seq (.dreg (tA 0 27 (iT 4 10) (tA 1 28 (iM 12) (tA 2 29 (iF 3 10) (tA 3 30 (iL 29) (tA 4 31 (iM 12) (tA 5 32 (iI 8 30 31) (tA 6 33 (iT 8 32) (tA 7 34 (iM 2) (tC 35 (iK 190 [33,34]) [1,0] (tC 36 (iK 119 [27,28,35]) [] (.alt (wAA 8 36) [] (tA 11 9 (iN 0) .done) .stop) .stop) .stop)))))))))) .ret)))))
theorem jg4:fnC Tryz.prog Tryz.f148=some (jdO,[.cell 8 true 4,.t 9],37):=by kernel_rfl
theorem jkW (y:Yd) (id aOK tri:Int) (ht:jB y<=2000000):jZ Tryz.prog 148 [.agg (jb y),.c (.val (.int .i64 id)),.c (.val (.int .i64 aOK)),.c (.val (.int .i64 tri))] (.tup [(true,jb (jc0 y id aOK tri)),(false,[.val (.int .i64 (jbt y id aOK tri))])]):=by
 refine vx [[1,1,1,1,1,0]] Tryz.func148 jg4 (by simp) ?_
 unfold jdO;simp only [C.ghs,C.ghAt,List.foldr];simp only [go_sem,jb];intro b4 b8;refine jk (kp y ht) λbI=>?_
 simp only [go_sem,jb];intro b10;refine jk (jgq y id aOK tri ht) λη=>?_
 simp only [go_sem];cases h0:jbt y id aOK tri !=0;rotate_left
 ·have hy:jc0 y id aOK tri=y:=by rw [jc0,if_neg (by simpa using h0)]
  simp only [go_sem,hy]
  apply qa
  simp only [go_sem]
 have eU:jbt y id aOK tri=0:=by simpa using h0
 obtain ⟨aR,aV⟩:=jmx eU;obtain ⟨k,r,cD,hr,hid,h8⟩:=qk aV;have hk:=(aOS.1 hr).1;have bL:=qN k;have cI:¬(k:Int)<0:=by omega
 have hY:jc0 y id aOK tri=kP y k (kZ r aOK):=by rw [jc0,if_pos eU,cD,aPB,hr,aPA]
 rw [hY,eU];simp only [go_sem];refine jk (qf y id) λη=>?_
 simp only [go_sem];refine ky ?_;refine WkK.wk (s':=St.of [(2,Ni aOK),(8,Bx 92 b8),(10,Bx 90 b10),(12,Ni k)] [(92,ZYd b8 tYd),(90,jX b10 tYd y.now y.seq y.aOE (bI 2) y.aOH (bI 3))]) (js [800,1000] (by simp only [go_sem,cD]<;>trivial)) ?_
 refine WkK.of ?_;have fQ:=jde ht (aOT hr);simp only [go_sem,bL,hk,jlV hr,jgE hr,jd,je];refine jw (jmd r aOK fQ.1 fQ.2) (by simp only [go_sem,jd,je,vB hr,vA hr]) λdO=>?_
 simp only [go_sem,jd,je];have cH:(kZ r aOK).aOD.length=r.aOD.length:=jfF r aOK;have lU:r.aOD.length<=12:=(aR.right r (aOT hr)).le12;generalize kZ r aOK=r2 at*;refine zP [some 90,some 92,some 3505,some 3507] [(90,jX b10 tYd y.now y.seq y.aOE (bI 2) y.aOH (bI 3)),(92,ZYd b8 tYd),(97,.loose (jn r2.aOF.aOI) (dO 5)),(98,.loose (ju r2.aOD) (dO 7))] [.agg [.v (.int .i64 y.now),.v (.int .i64 y.seq),.h 90 2 [] (bI 2 []),.h 90 3 [] (bI 3 [])],Ni k,.agg [.v (.int .i64 r2.id),.v (.int .i64 r2.aOF.aOL),.v (.int .i64 r2.aOF.aOQ),.v (.int .i64 r2.aOF.aOP),.v (.int .i64 r2.aOF.aOD),.h 97 0 [] (dO 5 []),.v (.int .i64 r2.aOG),.h 98 0 [] (dO 7 [])]] (by simp only [go_sem]<;>and_intros<;>rfl) (by simp only [go_sem]<;>and_intros<;>rfl) (jgD hr cH lU aR.four (by have:=aR.seq;omega) ht rfl rfl rfl) ?_
 rintro _ o1 ⟨c,g2,g3,x2,x3,rfl,j99,j90,j91,j92,j93,j94,j95,j96⟩;have j92':o1 92=ZYd b8 tYd:=j92;generalize kP y k r2=z2 at*;simp only [go_sem,j99,j92']
 apply qa
 simp only [go_sem]
theorem jcm {p:Pl} {ts ts':List Tk} (h:∀b:Int,(stT ts' b !=4)=(stT ts b !=4)) (t:Int):jaZ p ts' t=jaZ p ts t:=by
 simp only [jaZ,h]
theorem jq7 {ts:List Tk} {t:Nat} {x y:Tk} (hx:ts[t]?=some x) (h:(y.aOG !=4)=(x.aOG !=4)) (b:Int):(stT (ts.set t y) b !=4)=(stT ts b !=4):=by
 have ht:=(aOS.1 hx).1;simp only [stT,aQK];by_cases e:t=b.toNat
 ·rw [if_pos e,<-e,if_pos ht,hx];exact h
 ·rw [if_neg e]
theorem jFX {s:Int} {ts:List Tk} {t:Nat} (ht:t<ts.length) (h1:∀(j:Nat) (x:Tk),ts[j]?=some x->(x.aOG=s↔j=t)):cS s ts=1:=by
 have e:(List.range ts.length).filter (λ(j:Nat)=>stT ts (j:Int)==s)=(List.range ts.length).filter (λj=>j==t):=by
  refine List.filter_congr λj hj=>?_
  rw [aRZ] at hj;have hx:ts[j]?=some ts[j]:=aOV hj;rw [kr hx,Bool.eq_iff_iff,aQW,aQW];exact h1 j _ hx
 have:(List.range ts.length).count t=1:=by rw [List.count_range,if_pos ht]
 simp only [cS,qG,zk,e,aQI];rw [<-this,List.count_eq_length_filter]
theorem js7 (j:Nat) (x:Tk):((jy j x).aOG !=4)=(x.aOG !=4):=by
 unfold jy;split
 ·rename_i h
  have:(x.aOG !=4)=true:=by simpa using h.1
  rw [this];rfl
 ·rfl
theorem jgv {f:Nat->Tk->Tk} {ts:List Tk} {j:Nat} {z:Tk} (h:(vv f ts ts.length)[j]?=some z):∃x,ts[j]?=some x/\z=f j x:=by
 simp only [vv,List.getElem?_mapIdx,Option.map_eq_some_iff] at h;obtain ⟨x,hx,rfl⟩:=h;exact ⟨x,hx,by rw [if_pos (aOS.1 hx).1]⟩
theorem taskB_iff {p:Pl} {ts:List Tk} {t:Nat} {x:Tk}:jT p ts t x=true↔(1<=x.aOG/\x.aOG<=6)/\x.aOO=jaZ p ts t/\(0<=x.tri/\x.tri<=p.aOQ)/\jbB x=true/\vn p x=true:=by
 simp only [jT,inB,aPG,aPM,aQW,and_assoc]
theorem jqq {r:Rn} {t:Nat} {x:Tk} (h:RunOkP r) (hx:r.aOD[t]?=some x) (hs:x.aOG=3):RunOkP (zH r t x):=by
 obtain ⟨e1,e2,e3,e4⟩:=h.aOH hx hs;have ht:=(aOS.1 hx).1;have bA:=taskB_iff.1 (h.aOD t x hx);have hl:=bA.2.2.2.2
 have yE:x.aOO=0/\1<=x.tri:=by
  simpa [vn,hs] using hl
 unfold zH;split
 ·rename_i hm
  have hN:∀j:Int,jaZ r.aOF (r.aOD.set t ⟨2,x.aOO,x.tri,0⟩) j=jaZ r.aOF r.aOD j:=jcm (jq7 hx (by simp [hs]))
  have c5:cS 5 (r.aOD.set t ⟨2,x.aOO,x.tri,0⟩)=0:=jeG (ji4 (q:=λs=>s≠5) (by simp) λy hy=>by obtain ⟨k,hk,rfl⟩:=aPY hy;exact jtF e2 (aOV hk))
  have c6:cS 6 (r.aOD.set t ⟨2,x.aOO,x.tri,0⟩)=0:=jeG (ji4 (q:=λs=>s≠6) (by simp) λy hy=>by obtain ⟨k,hk,rfl⟩:=aPY hy;exact jtF e3 (aOV hk))
  have aJ:∀z∈r.aOD.set t ⟨2,x.aOO,x.tri,0⟩,1<=z.aOG/\z.aOG<=6:=ji4 (q:=λs=>1<=s/\s<=6) (by simp) h.st
  have c2:=jtE (s:=2) (aOY ht:(r.aOD.set t ⟨2,x.aOO,x.tri,0⟩)[t]?=some _) rfl;have eI:=jc5 aJ _ (aPD _);change cS 1 _+cS 2 _+cS 3 _+cS 4 _+cS 5 _+cS 6 _=_ at eI;refine ⟨h.id,h.aOF,by rw [aPF];exact h.len,λj z hz=>?_,?_,h.live⟩
  ·dsimp only at hz⊢
   rw [aQK] at hz;by_cases e:t=j
   ·subst e
    rw [if_pos rfl,if_pos ht] at hz;obtain rfl:=aPJ hz;rw [taskB_iff,hN];exact ⟨by simp,bA.2.1,bA.2.2.1,rfl,by simp [vn,yE.1,hm]⟩
   ·rw [if_neg e] at hz
    have:=taskB_iff.1 (h.aOD j z hz);rw [taskB_iff,hN];exact this
  ·dsimp only
   rw [e1,jgd,if_neg (by omega),c5,c6,if_neg (by omega),if_neg (by omega),if_pos ⟨rfl,rfl⟩]
 ·rename_i hm
  generalize hT:r.aOD.set t ⟨5,x.aOO,x.tri,0⟩=T;have hTl:T.length=r.aOD.length:=by rw [<-hT,aPF]
  have hTt:T[t]?=some ⟨5,x.aOO,x.tri,0⟩:=by rw [<-hT];exact aOY ht
  have hTj:∀j,t≠j->T[j]?=r.aOD[j]?:=λj hj=>by rw [<-hT,aPW hj]
  rw [<-hTl]
  have hM:∀(j:Nat) (z:Tk),(vv jy T T.length)[j]?=some z->(j=t/\z=⟨5,x.aOO,x.tri,0⟩)\/j≠t/\∃y,r.aOD[j]?=some y/\((y.aOG=4/\z=y)\/(y.aOG≠4/\z=⟨6,y.aOO,y.tri,0⟩)):=by
   intro j z hz;obtain ⟨y,hy,rfl⟩:=jgv hz;by_cases e:t=j
   ·subst e
    rw [hTt] at hy;obtain rfl:=aPJ hy;exact .inl ⟨rfl,by simp [jy]⟩
   ·rw [hTj j e] at hy
    have h5:y.aOG≠5:=jtF e2 hy;refine .inr ⟨λe'=>e e'.symm,y,hy,?_⟩
    by_cases e4:y.aOG=4
    ·exact .inl ⟨e4,by simp [jy,e4]⟩
    ·exact .inr ⟨e4,by simp [jy,e4,h5]⟩
  have lS:∀b:Int,(stT (vv jy T T.length) b !=4)=(stT r.aOD b !=4):=by
   intro b;rw [<-jq7 hx (y:=⟨5,x.aOO,x.tri,0⟩) (by simp [hs]),hT]
   simp only [stT,vv,List.getElem?_mapIdx];cases hb:T[b.toNat]? with
   |none=>rfl
   |some z=>simp only [Option.map_some,aPA,if_pos (aOS.1 hb).1,js7]
  have hN:=λj=>jcm (p:=r.aOF) lS j
  have aC:(vv jy T T.length).length=T.length:=zw
  have aJ:∀z∈vv jy T T.length,4<=z.aOG/\z.aOG<=6:=λz hz=>by
   obtain ⟨k,hk,rfl⟩:=aPY hz;rcases hM k _ (aOV hk) with ⟨_,h1⟩|⟨_,y,_,⟨h1,h2⟩|⟨_,h2⟩⟩
   ·rw [h1];simp
   ·rw [h2];omega
   ·rw [h2];simp
  have c1:cS 1 (vv jy T T.length)=0:=jeG λz hz=>by have:=aJ z hz;omega
  have c2:cS 2 (vv jy T T.length)=0:=jeG λz hz=>by have:=aJ z hz;omega
  have c3:cS 3 (vv jy T T.length)=0:=jeG λz hz=>by have:=aJ z hz;omega
  have c5:cS 5 (vv jy T T.length)=1:=by
   refine jFX (t:=t) (by rw [aC,hTl];exact ht) λj z hz=>?_
   rcases hM j z hz with ⟨h1,h2⟩|⟨h1,y,_,⟨h2,h3⟩|⟨_,h3⟩⟩
   ·rw [h2];simp [h1]
   ·rw [h3];simp [h1,h2]
   ·rw [h3];simp [h1]
  have eI:=jc5 (λz hz=>by have:=aJ z hz;omega) _ (aPD (vv jy T T.length).length)
  change cS 1 _+cS 2 _+cS 3 _+cS 4 _+cS 5 _+cS 6 _=_ at eI;refine ⟨h.id,h.aOF,by dsimp only;rw [aC,hTl];exact h.len,λj z hz=>?_,?_,by simp⟩
  ·dsimp only at hz⊢
   rw [taskB_iff,hN];rcases hM j z hz with ⟨rfl,rfl⟩|⟨h1,y,hy,⟨h2,rfl⟩|⟨h2,rfl⟩⟩
   ·exact ⟨by simp,bA.2.1,bA.2.2.1,rfl,by simp [vn,yE.1,yE.2]⟩
   ·exact taskB_iff.1 (h.aOD j _ hy)
   ·have h3:=taskB_iff.1 (h.aOD j _ hy)
    exact ⟨by simp,h3.2.1,h3.2.2.1,rfl,by simp [vn]⟩
  ·dsimp only
   rw [jgd,if_neg (by omega),if_pos ⟨c5,by omega⟩]
theorem jrb {r:Rn} (t:Int) (h:RunOkP r):RunOkP (jC r t):=by
 cases hr:vK r t with
 |false=>rw [jfD hr];exact h
 |true=>
  obtain ⟨k,x,rfl,hx,hs,_⟩:=jbh hr;rw [qR hx hr];exact jqq h hx hs
theorem jh0 {r:Rn} {t:Nat} {x:Tk} (h:RunOkP r) (hx:r.aOD[t]?=some x) (hs:x.aOG=3):vK r t=true:=by
 have ht:=(aOS.1 hx).1;simp only [vK,inB,aPG,aPM,aQW,kr hx,runOk_iff];exact ⟨⟨by omega,hs⟩,h⟩
theorem jmP {r:Rn} {t:Int} {j:Nat} {z:Tk} (hz:(jC r t).aOD[j]?=some z) (hs:z.aOG=3):r.aOD[j]?=some z:=by
 cases hr:vK r t with
 |false=>rwa [jfD hr] at hz
 |true=>
  obtain ⟨k,x,rfl,hx,nA,_⟩:=jbh hr;rw [qR hx hr,zH] at hz;have hk:=(aOS.1 hx).1;split at hz
  ·dsimp only at hz
   rw [aQK] at hz;by_cases e:k=j
   ·subst e
    rw [if_pos rfl,if_pos hk] at hz;obtain rfl:=aPJ hz;cases hs
   ·rw [if_neg e] at hz;exact hz
  ·dsimp only at hz
   have e:r.aOD.length=(r.aOD.set k ⟨5,x.aOO,x.tri,0⟩).length:=by rw [aPF]
   rw [e] at hz;obtain ⟨y,hy,rfl⟩:=jgv hz;unfold jy at hs;split at hs
   ·cases hs
   ·rename_i h
    exact absurd ⟨by omega,by omega⟩ h
theorem zQ (r:Rn) (t:Int):(jC r t).id=r.id/\(jC r t).aOF=r.aOF:=by
 unfold jC;split
 ·unfold zH;split<;>exact ⟨rfl,rfl⟩
 ·exact ⟨rfl,rfl⟩
structure LaterP (y z:Yd):Prop where
 len:z.aOH.length=y.aOH.length
 aOH:∀(k:Nat) (r:Rn),y.aOH[k]?=some r->∃r',z.aOH[k]?=some r'/\r'.id=r.id/\r'.aOF=r.aOF/\RunOkP r'/\r'.aOD.length=r.aOD.length/\∀(t:Nat) (x:Tk),r'.aOD[t]?=some x->x.aOG=3->r.aOD[t]?=some x
theorem LaterP.refl {y:Yd} (h:YardOkP y):LaterP y y:=⟨rfl,λk r hr=>⟨r,hr,rfl,rfl,h.right r (aOT hr),rfl,λ_ _ h _=>h⟩⟩
theorem jy9:∀{l m:List Rn} (id:Int),l.map (·.id)=m.map (·.id)->jh2 l id=jh2 m id:=by
 intro l m id h;have e:∀l:List Rn,l.findIdx? (λr=>r.id==id)=(l.map (·.id)).findIdx? (· ==id):=λl=>by rw [List.findIdx?_map];rfl
 simp only [jh2,e,h]
theorem LaterP.ids {y z:Yd} (h:LaterP y z):z.aOH.map (·.id)=y.aOH.map (·.id):=by
 apply aRB
 intro k;simp only [aRQ];cases hr:y.aOH[k]? with
 |none=>
  have:z.aOH[k]?=none:=by rw [aRJ] at hr⊢;rw [h.len];exact hr
  rw [this]
 |some r=>
  obtain ⟨r',h1,h2,_⟩:=h.aOH k r hr;rw [h1];simp [h2]
theorem LaterP.runAt {y z:Yd} (h:LaterP y z) (id:Int):runAt z id=runAt y id:=by
 unfold Go.Proofs.YtcehjhiglmifjaaGreat.runAt;rw [h.len,jy9 id h.ids]
noncomputable def failK (y:Yd) (k t:Nat):Yd:=if stT ((y.aOH[k]?).getD default).aOD t==3 then kP y k (jC ((y.aOH[k]?).getD default) t) else y
theorem jc4 (y:Yd) (k:Nat) (r:Rn):(kP y k r).aOH=y.aOH.set k r:=rfl
theorem LaterP.fail {y z:Yd} (h:LaterP y z) (k t:Nat):LaterP y (failK z k t):=by
 unfold failK;split
 ·cases hk:y.aOH[k]? with
  |none=>
   have oD:z.aOH[k]?=none:=by rw [aRJ] at hk⊢;rw [h.len];exact hk
   rename_i hs;rw [oD] at hs;simp [stT] at hs;cases hs
  |some r=>
   obtain ⟨r',h1,h2,h3,h4,h5,h6⟩:=h.aOH k r hk;have tM:=(aOS.1 h1).1;rw [h1,aPA];refine ⟨by rw [jc4,aPF];exact h.len,λj q hq=>?_⟩
   rw [jc4,aQK];by_cases e:k=j
   ·subst e
    rw [hk] at hq;obtain rfl:=aPJ hq;rw [if_pos rfl,if_pos tM];have hi:=zQ r' t;refine ⟨_,rfl,by rw [hi.1];exact h2,by rw [hi.2];exact h3,jrb _ h4,by rw [qe];exact h5,λi x hx hs=>h6 i x (jmP hx hs) hs⟩
   ·rw [if_neg e];exact h.aOH j q hq
 ·exact h
structure StepI (y z:Yd) (i:Nat):Prop where
 later:LaterP y z
 four:z.aOE.length=4
 seq:1<=z.seq/\z.seq<=1000000000+12*i
 tot:jB z<=jB y+12*i
 now:z.now=y.now
theorem StepI.refl {y:Yd} (h:YardOkP y):StepI y y 0:=⟨.refl h,h.four,by have:=h.seq;omega,aPD _,rfl⟩
theorem StepI.mono {y z:Yd} {i j:Nat} (h:StepI y z i) (hij:i<=j):StepI y z j:=⟨h.later,h.four,by have:=h.seq;omega,by have:=h.tot;omega,h.now⟩
theorem jyK {y:Yd} {k:Nat} {r r2:Rn} (hr:y.aOH[k]?=some r) (ht:qH r2=qH r) (hl:r2.aOD.length<=12):jB (kP y k r2)<=jB y+12:=by
 have h1:=jBH (y:=⟨y.now,y.seq,y.aOE,y.aOH.set k r2⟩) (r:=r2) (ids:=zn ((y.aOH[k]?).getD default).aOD r2.aOD r2.aOD.length);have h2:=jej ((y.aOH[k]?).getD default).aOD r2.aOD r2.aOD.length;have h3:=qZ (f:=qH) r2 hr
 have h4:jB ⟨y.now,y.seq,y.aOE,y.aOH.set k r2⟩=jB y:=by
  simp only [jB,jaQ,aPF];omega
 rw [kP];omega
theorem jy4 (y:Yd) (k:Nat) (r2:Rn):y.seq<=(kP y k r2).seq/\(kP y k r2).seq<=y.seq+r2.aOD.length:=by
 have h2:=jej ((y.aOH[k]?).getD default).aOD r2.aOD r2.aOD.length;have h1:=zx r2.aOF.aOL r2.id (zn ((y.aOH[k]?).getD default).aOD r2.aOD r2.aOD.length) ((y.aOE[shN r2.id]?).getD default,y.seq);have e:(kP y k r2).seq=(zo r2.aOF.aOL r2.id (zn ((y.aOH[k]?).getD default).aOD r2.aOD r2.aOD.length) ((y.aOE[shN r2.id]?).getD default,y.seq)).2:=rfl;rw [e,h1];dsimp only;omega
theorem jxq (y:Yd) (k:Nat) (r2:Rn):(kP y k r2).aOE.length=y.aOE.length:=by
 have e:(kP y k r2).aOE=y.aOE.set (shN r2.id) (zo r2.aOF.aOL r2.id (zn ((y.aOH[k]?).getD default).aOD r2.aOD r2.aOD.length) ((y.aOE[shN r2.id]?).getD default,y.seq)).1:=rfl;rw [e,aPF]
theorem StepI.fail {y z:Yd} {i:Nat} (h:StepI y z i) (k t:Nat):StepI y (failK z k t) (i+1):=by
 have hL:=h.later.fail k t;cases hc:(stT ((z.aOH[k]?).getD default).aOD t==3) with
 |false=>
  have e:failK z k t=z:=by unfold failK;rw [hc];rfl
  rw [e];exact h.mono (Nat.le_succ i)
 |true=>
  have e:failK z k t=kP z k (jC ((z.aOH[k]?).getD default) t):=by unfold failK;rw [hc];rfl
  cases hk:y.aOH[k]? with
  |none=>
   have oD:z.aOH[k]?=none:=by rw [aRJ] at hk⊢;rw [h.later.len];exact hk
   rw [oD] at hc;simp [stT] at hc;cases hc
  |some r=>
   obtain ⟨r',h1,h2,h3,h4,h5,h6⟩:=h.later.aOH k r hk;rw [h1,aPA] at e;have hl:=qe r' t;have cC:=h4.le12;have hs:=jy4 z k (jC r' t);have:=h.seq;have:=h.tot;have hT:=jyK (r2:=jC r' t) h1 (jpn r' t) (by omega)
   rw [e] at hL⊢;exact ⟨hL,by rw [jxq];exact h.four,by omega,by omega,h.now⟩
theorem jnb {y z:Yd} (h:LaterP y z) {k t:Nat} {r:Rn} {x:Tk} (hk:y.aOH[k]?=some r) (oC:runAt y r.id=k) (hx:r.aOD[t]?=some x):vu z r.id t x.tri=(stT ((z.aOH[k]?).getD default).aOD t==3):=by
 obtain ⟨r',h1,h2,h3,h4,h5,h6⟩:=h.aOH k r hk;have ht:=(aOS.1 hx).1;have bV:r'.aOD[t]?=some r'.aOD[t]:=aOV (by omega)
 have hn:¬((k:Int)<0):=by omega
 have hT:jaR z r.id t=some r'.aOD[t]:=by
  simp only [jaR,h.runAt,oC,hn,if_false,aPB,h1];rw [if_pos (by omega)];exact bV
 rw [h1,aPA,kr bV];simp only [vu,hT];cases hs:(r'.aOD[t].aOG==3) with
 |false=>rfl
 |true=>
  have nA:r'.aOD[t].aOG=3:=by simpa using hs
  have:=h6 t _ bV nA;rw [hx] at this;rw [aPJ this];simp
noncomputable def restT (z:Yd) (k:Nat):Nat->Yd
 |0=>z
 |t+1=>failK (restT z k t) k t
noncomputable def restR (y:Yd):Nat->Yd
 |0=>y
 |k+1=>restT (restR y k) k ((y.aOH[k]?).getD default).aOD.length
theorem StepI.restT {y z:Yd} {i:Nat} (h:StepI y z i) (k:Nat):∀t,StepI y (restT z k t) (i+t)
 |0=>h
 |t+1=>(StepI.restT h k t).fail k t
theorem StepI.restR {y:Yd} (h:YardOkP y):∀k,StepI y (restR y k) (12*k)
 |0=>.refl h
 |k+1=>by
  refine ((StepI.restR h k).restT k _).mono ?_;cases hk:y.aOH[k]? with
  |none=>rw [Option.getD_none];have:(default:Rn).aOD.length=0:=rfl;omega
  |some r=>
   have:=(h.right r (aOT hk)).le12;rw [aPA];omega
noncomputable def jcX (y:Yd):Yd:=if jt y then restR y y.aOH.length else y
theorem jtg {y:Yd} {id aOK tri:Int} {k:Nat} {r:Rn} (h:jbt y id aOK tri=0) (hk:runAt y id=(k:Int)) (hr:y.aOH[k]?=some r):∃t:Nat,aOK=(t:Int)/\vK r aOK=true:=by
 have aR:=(jmx h).1
 have hh:vu y id aOK tri=true:=by
  unfold jbt at h;split at h
  ·cases h
  split at h
  ·cases h
  split at h
  ·cases h
  ·rename_i h3;simpa using h3
 unfold vu at hh;rcases zc y id aOK with ⟨_,h2⟩|⟨k',r',h1,h2,⟨_,h3⟩|⟨j,x,hj,hx,h3⟩⟩
 ·rw [h2] at hh;cases hh
 ·rw [h3] at hh;cases hh
 ·rw [h3] at hh
  obtain rfl:k=k':=by omega
  obtain rfl:r=r':=by rw [hr] at h2;exact aPJ h2
  refine ⟨j,hj,?_⟩;subst hj;have hl:=(aOS.1 hx).1;simp only [aPG,aQW] at hh;have hR:=aR.right r (aOT hr);simp only [vK,inB,aPG,aPM,aQW,kr hx,runOk_iff];exact ⟨⟨by omega,hh.1⟩,hR⟩
def jd2:C:=iS [iA 4 (.box 27 4 (.t 0)),iA 6 (.box 3 1 (.t 2)),iA 8 wAL,aN 9 0] (iS [aT 12 4 4,iA 13 (iK 61 [12]),iA 10 wAL,wAA 10 13] (iS [aT 14 4 4,aM 15 1,aL 16 6,aM 17 3,iA 18 (iK 122 [14,15,16,17]),aM 11 18] (.seq (iS [aM 19 11,aQ 20 .eql 3 19 0] (iD 20 (.reg [aT 21 4 4,aM 22 1,iA 23 (iK 25 [21,22]),iA 24 (.mkf 123 [.t 6]),iA 25 (iK 116 [10,23,24])]) .skip)) (iS [aT 26 4 10,aM 27 11,wAA 8 26,aM 9 27] .ret))))
theorem jhg:fnC Tryz.prog Tryz.f55=some (jd2,[.cell 8 true 4,.t 9],28):=by kernel_rfl
def jb9:C:=.reg [aM 3 0,aL 4 1,iA 5 (iK 124 [3,4])]
theorem jeF:fnC Tryz.prog Tryz.f123=some (jb9,[],6):=by kernel_rfl
theorem joL {k t b6:Nat} {y:Yd} {r:Rn} (hr:y.aOH[k]?=some r) (aW:vK r t=true):jyu Tryz.prog 123 [.bp 91 0 b6] (.box b6 jes [.a (.v (.int .i64 t))]) k y (kZ r t):=by
 intro o b e2 e3 nK n5;refine jj5 (β:=6000000) Tryz.func123 jeF (by simp) ?_
 unfold jb9;simp only [go_sem,n5];refine ku (by simp only [go_sem]) (jC7 hr aW _ b e2 e3 (by simp only [go_sem];exact nK)) ?_
 rintro _ o1 ⟨rfl,j90,j91,j92,j93,j94,j95,j96,j97⟩;simp only [go_sem] at j91 j92 j93 j94 j95 j96 j97;rw [n5] at j91;exact ⟨.tup [],⟨by decide,rfl⟩,rfl,rfl,j90,j91,j92,j93,j94,j95,j96,j97⟩
theorem jk2 (y:Yd) (id aOK tri:Int) (ht:jB y<=2000000):jZ Tryz.prog 55 [.agg (jb y),.c (.val (.int .i64 id)),.c (.val (.int .i64 aOK)),.c (.val (.int .i64 tri))] (.tup [(true,jb (jc0 y id aOK tri)),(false,[.val (.int .i64 (jbt y id aOK tri))])]):=by
 refine vx [[1,1,1,0,1,0]] Tryz.func55 jhg (by simp) ?_
 unfold jd2;simp only [C.ghs,C.ghAt,List.foldr];simp only [go_sem,jb];intro b4 b6 b8;refine jk (kj y ht) λbI=>?_
 simp only [go_sem,jb];intro b10;refine jk (jkX y id aOK tri ht) λη=>?_
 simp only [go_sem];cases h0:jbt y id aOK tri==0
 ·have hy:jc0 y id aOK tri=y:=by rw [jc0,if_neg (by simpa using h0)]
  simp only [go_sem,hy]
  apply qa
  simp only [go_sem]
 have eU:jbt y id aOK tri=0:=by simpa using h0
 obtain ⟨aR,aV⟩:=jmx eU;obtain ⟨k,r,cD,hr,hid,h8⟩:=qk aV;obtain ⟨t,rfl,aW⟩:=jtg eU cD hr;have hY:jc0 y id t tri=kP y k (kZ r t):=by rw [jc0,if_pos eU,cD,aPB,hr,aPA]
 have lU:r.aOD.length<=12:=(aR.right r (aOT hr)).le12;rw [hY,eU];simp only [go_sem];refine ky ?_;generalize bI 2=aS at*;generalize bI 3=bY at*;refine WkK.wk (s':=St.of [(1,Ni id),(4,Bx 93 b4),(6,Bx 91 b6),(8,Bx 92 b8),(10,Bx 90 b10),(11,Ni 0)] [(93,Bi b4 tYd (jb y)),(91,.box b6 jes [.a (.v (.int .i64 t))]),(92,ZYd b8 tYd),(90,jX b10 tYd y.now y.seq y.aOE aS y.aOH bY)]) (js [400,600,800,1000] (by simp only [go_sem,jb]<;>trivial)) ?_
 refine WkK.of ?_;simp only [go_sem,jb];refine jk (kQ y id) λη=>?_
 simp only [go_sem];rw [cD];refine ku (vs:=[Bx 90 b10,Ni k,.fn 123 [.bp 91 0 b6]]) (by simp only [go_sem]) (jeo hr (jfF r t) lU aR.four (by have:=aR.seq;omega) ht (joL hr aW) (e2:=aS) (e3:=bY) (by simp only [go_sem]) (by simp only [go_sem])) ?_
 rintro _ o1 ⟨rfl,⟨e2',e3',j90⟩,j91,j92,j93,j94,j95,j96⟩;simp only [go_sem] at j92;generalize kP y k (kZ r t)=y2 at*;simp only [go_sem,j90,j92]
 apply qa
 simp only [go_sem]
theorem joB {k t:Nat} {y:Yd} {r:Rn} (hr:y.aOH[k]?=some r) (aW:vK r t=true):EpK Tryz.prog 118 k t y (jC r t):=by
 intro o b10 e2 e3 lG;refine qm (β:=7000000) Tryz.func118 jlE (by simp) ?_
 unfold jjk;obtain ⟨t',x,dQ,hx,hs,hP⟩:=jbh aW;obtain rfl:t=t':=by omega
 obtain ⟨n,hn,eB,cC,dI,bU,aY,-⟩:=ja8 hP.aOF;have aC:=hP.len;have dM:=(aOS.1 hr).1;have eH:=(aOS.1 hx).1;have eT:=qN t;have bG:(r.aOD.set t ⟨x.aOG,x.aOO,x.tri,0⟩)[t]?=some ⟨x.aOG,x.aOO,x.tri,0⟩:=aOY eH;have hS:∀r':Rn,(y.aOH.set k r')[k]?=some r':=λr'=>aOY dM
 have q1:=hS ⟨r.id,r.aOF,r.aOG,r.aOD.set t ⟨x.aOG,x.aOO,x.tri,0⟩⟩;simp only [go_sem,lG,aPO,eH,eT,zh hr,zz hr,jY hr,jlf hx,jyf hx,zR hr (jfG hx 0),jY q1,jnq bG,jm8 bG,jF5 q1,jFq q1];by_cases hm:x.tri<r.aOF.aOQ
 ·have hR:jC r t=⟨r.id,r.aOF,r.aOG,r.aOD.set t ⟨2,x.aOO,x.tri,0⟩⟩:=by rw [qR hx aW,zH,if_pos hm]
  simp only [go_sem,aPO,hm,hR,jY q1,jhQ bG,vP bG,zR q1 (jch bG 2),aQB];exact ⟨rfl,rfl,rfl,rfl,rfl,rfl⟩
 have hR:jC r t=⟨r.id,r.aOF,3,vv jy (r.aOD.set t ⟨5,x.aOO,x.tri,0⟩) r.aOD.length⟩:=by rw [qR hx aW,zH,if_neg hm]
 rw [hR,<-jr4 hP hx hs];simp only [go_sem,aPO,hm,jY q1,jhQ bG,vP bG,zR q1 (jch bG 5),aQB];have dD:(r.aOD.set t ⟨5,x.aOO,x.tri,0⟩).length=r.aOD.length:=by rw [aPF]
 generalize r.aOD.set t ⟨5,x.aOO,x.tri,0⟩=ts0 at*;refine kW (qm (β:=8000000) Tryz.func171 jdC (by simp) ?_)
 unfold jdV;have q2:=hS ⟨r.id,r.aOF,r.aOG,ts0⟩;simp only [go_sem,aPO,zh q2,zz q2,jY q2];refine qP (λi:Nat=>St.of [(0,.c (.ep 90 3 [] (k*8) (e3 []))),(1,Ni t),(10,Ni ts0.length),(11,Ni i)] [(90,jX b10 tYd y.now y.seq y.aOE e2 (y.aOH.set k ⟨r.id,r.aOF,r.aOG,vv (qz t) ts0 i⟩) e3),(91,o 91),(92,o 92),(93,o 93),(94,o 94),(95,o 95),(96,o 96),(97,o 97)]) (λi=>i<=ts0.length) (λi=>ts0.length-i) 0 (js [90,91,92,93,94,95,96,97] (by simp only [go_sem,js5,jN]<;>trivial)) ?_
 rintro j hj;have dX:=zw (f:=qz t) (ts:=ts0) (k:=j);by_cases aB:j<ts0.length
 ·have aA:(j:Int)<ts0.length:=by omega
  have dK:=qN j;obtain ⟨z,hz⟩:=ja aB;have fP:=jgu (f:=qz t) hz;have cU:=jgt (f:=qz t) hz;have m9:=jpY (f:=qz t) hz;generalize vv (qz t) ts0 j=M at*;have hw:=kw j;have lJ:j<M.length:=by omega
  have p1:=hS ⟨r.id,r.aOF,r.aOG,M⟩;cases aK:(j:Int) !=(t:Int)
  ·have hg:qz t j z=z:=by have:(j:Int)=t:=by simpa using aK
                          simp [qz,this]
   have hq:=m9 hg;simp only [go_sem,aPO,dX,aA,dK,aB,zh p1,zz p1,jY p1,aK,hw];exact qc (j+1) (js [90,91,92,93,94,95,96,97] (by simp only [go_sem,hq,jN]<;>trivial))
  have bS:¬(j:Int)=t:=by simpa using aK
  cases gB:z.aOG !=4
  ·have hg:qz t j z=z:=by have:z.aOG=4:=by simpa using gB
                          simp [qz,this]
   have hq:=m9 hg;simp only [go_sem,aPO,dX,aA,dK,aB,zh p1,zz p1,jY p1,aK,jhQ fP,vP fP,gB,hw];exact qc (j+1) (js [90,91,92,93,94,95,96,97] (by simp only [go_sem,hq,jN]<;>trivial))
  ·have hg:qz t j z=⟨6,z.aOO,z.tri,0⟩:=by
    have h1:¬z.aOG=4:=by simpa using gB
    simp [qz,h1,bS]
   rw [hg] at cU;have nO:(M.set j ⟨6,z.aOO,z.tri,z.til⟩)[j]?=some ⟨6,z.aOO,z.tri,z.til⟩:=aOY lJ;have p2:=hS ⟨r.id,r.aOF,r.aOG,M.set j ⟨6,z.aOO,z.tri,z.til⟩⟩;simp only [go_sem,aPO,dX,aA,dK,aB,zh p1,zz p1,jY p1,aK,jhQ fP,vP fP,gB,zR p1 (jch fP 6),jY p2,zR p2 (jfG nO 0),jlf nO,jyf nO,aQB,cU,hw];exact qc (j+1) (js [90,91,92,93,94,95,96,97] (by simp only [go_sem,jN]<;>trivial))
 have aA:¬(j:Int)<ts0.length:=by omega
 obtain rfl:j=ts0.length:=by omega
 rw [<-dD];generalize vv (qz t) ts0 ts0.length=M at*;have p3:=hS ⟨r.id,r.aOF,r.aOG,M⟩;simp only [go_sem,aA,jBt p3,jBa p3,jwu p3,aQB];exact ⟨rfl,rfl,rfl,rfl,rfl,rfl⟩
def jfj:C:=iS [iA 1 (.box 27 4 (.t 0)),iA 2 wAL] (iS [aT 6 4 1,iA 7 (iK 67 [6]),iA 3 wAL,wAA 3 7] (.seq (iS [aT 8 4 1,iA 9 (iK 66 [8]),aU 10 9] (iD 10 (iS [aT 11 4 3,wAA 2 11] .ret) .skip)) (.seq (iS [aN 4 0] (.blk 0 (.loop (.seq (iS [aM 12 4,aF 13 3 3,aL 14 13,aG 15 14,aP 16 .lss 3 12 15] (iD 16 .skip (.exit 0))) (.seq (.blk 1 (iS [aN 5 0] (.blk 2 (.loop (.seq (iS [aM 19 5,aF 20 3 3,aL 21 20,aM 22 4,aI 23 8 21 22,aF 24 7 23,aL 25 24,aG 26 25,aP 27 .lss 3 19 26] (iD 27 .skip (.exit 2))) (.seq (.blk 3 (iS [aF 30 3 3,aL 31 30,aM 32 4,aI 33 8 31 32,aF 34 7 33,aL 35 34,aM 36 5,aI 37 4 35 36,aF 38 0 37,aL 39 38,aQ 40 .eql 3 39 3] (iD 40 (.dreg (tA 0 41 (iT 4 3) (tA 1 42 (iM 4) (tA 2 43 (iF 3 3) (tA 3 44 (iL 43) (tA 4 45 (iM 4) (tA 5 46 (iI 8 44 45) (tA 6 47 (iT 8 46) (tA 7 48 (iM 5) (tC 49 (iK 120 [47,48]) [1,0] (tC 50 (iK 119 [41,42,49]) [] (.alt (wAA 3 50) [] .done .stop) .stop) .stop)))))))))) .skip))) (.reg [aM 28 5,aQ 29 .add 3 28 1,aM 5 29]))))))) (.reg [aM 17 4,aQ 18 .add 3 17 1,aM 4 18])))))) (iS [aT 51 4 3,wAA 2 51] .ret))))
theorem jiI:fnC Tryz.prog Tryz.f49=some (jfj,[.cell 2 true 4],52):=by kernel_rfl
def jfw:C:=iS [iA 1 (.box 27 4 (.t 0)),iA 2 wAL] (iS [aT 8 4 1,iA 9 (iK 61 [8]),iA 3 wAL,wAA 3 9] (.seq (iS [aT 10 4 1,iA 11 (iK 18 [10]),aU 12 11] (iD 12 (iS [aT 13 4 3,wAA 2 13] .ret) .skip)) (.seq (iS [aF 14 3 1,aL 15 14,aG 16 15,aN 17 0] (.blk 0 (.loop (iS [aP 18 .lss 3 17 16] (.seq (iD 18 .skip (.exit 0)) (.seq (.blk 1 (iS [aM 19 17,aI 20 8 15 17,aT 21 8 20,iA 5 wAM,aM 4 19,wAC 5 21] (iS [aF 22 7 5,aL 23 22,aG 24 23,aN 25 0] (.blk 2 (.loop (iS [aP 26 .lss 3 25 24] (.seq (iD 26 .skip (.exit 2)) (.seq (.blk 3 (iS [aM 27 25,aI 28 4 23 25,aT 29 4 28,iA 6 (.alloc 3 [.int .i64 0]),iA 7 wAN,wAD 6 27,wAB 7 29] (iS [aT 30 4 3,aF 31 0 5,aL 32 31,aL 33 6,aF 34 2 7,aL 35 34,iA 36 (iK 53 [30,32,33,35])] (iD 36 (.reg [aM 37 4,iA 38 (.mkf 117 [.t 6]),iA 39 (iK 116 [3,37,38])]) .skip)))) (.reg [aQ 40 .add 3 25 1,aM 25 40]))))))))) (.reg [aQ 41 .add 3 17 1,aM 17 41]))))))) (iS [aT 42 4 3,wAA 2 42] .ret))))
theorem jiV:fnC Tryz.prog Tryz.f48=some (jfw,[.cell 2 true 4],43):=by kernel_rfl
def jcS:C:=.reg [aM 3 0,aL 4 1,iA 5 (iK 118 [3,4])]
theorem jfZ:fnC Tryz.prog Tryz.f117=some (jcS,[],6):=by kernel_rfl
theorem jmf (y:Yd) (ht:jB y<=1990000):jZ Tryz.prog 49 [.agg (jb y)] (.agg (jb (jcX y))):=by
 refine pf_ jiI ?_;unfold jfj;have eN:jB y<=2000000:=by omega
 simp only [go_sem,jb];intro b1 b2;refine jk (kp y eN) λbI=>?_
 simp only [go_sem,jb];intro b3;refine jk (qb y eN) λη=>?_
 simp only [go_sem];cases aR:jt y
 ·have hy:jcX y=y:=by simp [jcX,aR]
  simp only [go_sem,hy]
 have hP:=yard_iff.1 aR;have hy:jcX y=restR y y.aOH.length:=by simp [jcX,aR]
 rw [hy];simp only [go_sem];have h8:=hP.eight;refine qP (λi:Nat×jg×jg=>St.of [(2,Bx 92 b2),(3,Bx 90 b3),(4,Ni i.1)] [(92,ZYd b2 tYd),(90,jX b3 tYd (restR y i.1).now (restR y i.1).seq (restR y i.1).aOE i.2.1 (restR y i.1).aOH i.2.2)]) (λi=>i.1<=y.aOH.length) (λi=>y.aOH.length-i.1) (0,bI 2,bI 3) (js [200,300] (by simp only [go_sem,restR]<;>trivial)) ?_
 rintro ⟨k,e2,e3⟩ hk;dsimp only at hk;have hI:=StepI.restR hP k;by_cases aB:k<y.aOH.length
 ·obtain ⟨r0,mB⟩:=ja aB
  have xO:=(hP.right r0 (aOT mB)).le12;have cE:restR y (k+1)=restT (restR y k) k r0.aOD.length:=by rw [restR,mB,aPA]
  have hIt:=hI.restT k;have hw:=kw k;have hlz:(restR y k).aOH.length=y.aOH.length:=hI.later.len;have aA:(k:Int)<(restR y k).aOH.length:=by omega
  generalize restR y k=z0 at*;simp only [go_sem,aA];refine qP (λi:Nat×jg×jg=>St.of [(2,Bx 92 b2),(3,Bx 90 b3),(4,Ni k),(5,Ni i.1)] [(92,ZYd b2 tYd),(90,jX b3 tYd (restT z0 k i.1).now (restT z0 k i.1).seq (restT z0 k i.1).aOE i.2.1 (restT z0 k i.1).aOH i.2.2)]) (λi=>i.1<=r0.aOD.length) (λi=>r0.aOD.length-i.1) (0,e2,e3) (js [92,90] (by simp only [go_sem,restT]<;>trivial)) ?_
  rintro ⟨t,f2,f3⟩ hti;dsimp only at hti;have hJ:=hIt t;have gT:restT z0 k (t+1)=failK (restT z0 k t) k t:=rfl;generalize hz:restT z0 k t=z at*;obtain ⟨r,hr,hid,gL,hR,cH,p9⟩:=hJ.later.aOH k r0 mB;have dM:=(aOS.1 hr).1;have bL:=qN k;have cC:=hR.le12;by_cases mN:t<r0.aOD.length
  ·have gF:t<r.aOD.length:=by omega
   have fO:(t:Int)<r.aOD.length:=by omega
   have eT:=qN t;obtain ⟨x,hx⟩:=ja gF;have mG:=kw t;have lE:failK z k t=if x.aOG==3 then kP z k (jC r t) else z:=by rw [failK,hr,aPA,kr hx]
   simp only [go_sem,aPO,dM,bL,zh hr,zz hr,jY hr,fO,gF,eT,jhQ hx,vP hx];cases hs:x.aOG==3
   ·rw [hs,if_neg (by decide)] at lE
    rw [lE] at gT;simp only [go_sem,mG];exact qc (t+1,f2,f3) (js [92,90] (by simp only [go_sem,gT]<;>trivial))
   ·rw [hs,if_pos rfl] at lE
    rw [lE] at gT;simp only [go_sem,dM,bL,jlV hr,jgE hr,jd,je];refine jw (jaV r t (by have:=ja8 hR.aOF;obtain ⟨n,_,_,_,dI,_⟩:=this;omega) (by omega)) (by simp only [go_sem,jd,je,vB hr,vA hr]) λdO=>?_
    simp only [go_sem,jd,je];have mC:=qe r t;generalize jC r t=r2 at*;refine zP [some 90,some 92,some 4905,some 4907] [(90,jX b3 tYd z.now z.seq z.aOE f2 z.aOH f3),(92,ZYd b2 tYd),(97,.loose (jn r2.aOF.aOI) (dO 5)),(98,.loose (ju r2.aOD) (dO 7))] [.agg [.v (.int .i64 z.now),.v (.int .i64 z.seq),.h 90 2 [] (f2 []),.h 90 3 [] (f3 [])],Ni k,.agg [.v (.int .i64 r2.id),.v (.int .i64 r2.aOF.aOL),.v (.int .i64 r2.aOF.aOQ),.v (.int .i64 r2.aOF.aOP),.v (.int .i64 r2.aOF.aOD),.h 97 0 [] (dO 5 []),.v (.int .i64 r2.aOG),.h 98 0 [] (dO 7 [])]] (by simp only [go_sem]<;>and_intros<;>rfl) (by simp only [go_sem]<;>and_intros<;>rfl) (jgD hr mC cC hJ.four (by have:=hJ.seq;omega) (by have:=hJ.tot;omega) rfl rfl rfl) ?_
    rintro _ o1 ⟨c,g2,g3,x2,x3,rfl,j99,j90,j91,j92,j93,j94,j95,j96⟩;have j92':o1 92=ZYd b2 tYd:=j92;generalize kP z k r2=z2 at*;simp only [go_sem,j99,j90,mG];exact qc (t+1,g2,g3) (js [92,90] (by simp only [go_sem,gT,j92']<;>trivial))
  ·have fO:¬(t:Int)<r.aOD.length:=by omega
   obtain rfl:t=r0.aOD.length:=by omega
   rw [hz] at cE;simp only [go_sem,dM,bL,zh hr,zz hr,jY hr,fO,hw];exact qc (k+1,f2,f3) (js [92,90] (by simp only [go_sem,cE]<;>trivial))
 have hlz:(restR y k).aOH.length=y.aOH.length:=hI.later.len;have aA:¬(k:Int)<(restR y k).aOH.length:=by omega
 obtain rfl:k=y.aOH.length:=by omega
 generalize restR y y.aOH.length=z at*;simp only [go_sem,aA]
theorem jqx {k t b6:Nat} {y:Yd} {r:Rn} (hr:y.aOH[k]?=some r) (aW:vK r t=true):jyu Tryz.prog 117 [.bp 91 0 b6] (.box b6 jes [.a (.v (.int .i64 t))]) k y (jC r t):=by
 intro o b e2 e3 nK n5;refine jj5 (β:=6000000) Tryz.func117 jfZ (by simp) ?_
 unfold jcS;simp only [go_sem,n5];refine ku (by simp only [go_sem]) (joB hr aW _ b e2 e3 (by simp only [go_sem];exact nK)) ?_
 rintro _ o1 ⟨rfl,j90,j91,j92,j93,j94,j95,j96,j97⟩;simp only [go_sem] at j91 j92 j93 j94 j95 j96 j97;rw [n5] at j91;exact ⟨.tup [],⟨by decide,rfl⟩,rfl,rfl,j90,j91,j92,j93,j94,j95,j96,j97⟩
theorem jmi (y:Yd) (ht:jB y<=1990000):jZ Tryz.prog 48 [.agg (jb y)] (.agg (jb (jcX y))):=by
 refine vx [[1,1,1,0,1,0,0,1,1,0,0,1,1,0,0,1,1,0,0,1,1,0]] Tryz.func48 jiV (by simp) ?_
 unfold jfw;simp only [C.ghs,C.ghAt,List.foldr];have eN:jB y<=2000000:=by omega
 simp only [go_sem,jb];intro b1 b2;refine jk (kj y eN) λbI=>?_
 simp only [go_sem,jb];intro b3;refine jk (kn y eN) λη=>?_
 simp only [go_sem];cases aR:jt y
 ·have hy:jcX y=y:=by simp [jcX,aR]
  simp only [go_sem,hy]
 have hP:=yard_iff.1 aR;have hy:jcX y=restR y y.aOH.length:=by simp [jcX,aR]
 rw [hy];simp only [go_sem];have h8:=hP.eight;refine qP (λi:Nat×jg×jg=>St.of [(2,Bx 92 b2),(3,Bx 90 b3),(15,Ro (jG y.aOH)),(16,Ni y.aOH.length),(17,Ni i.1)] [(92,ZYd b2 tYd),(90,jX b3 tYd (restR y i.1).now (restR y i.1).seq (restR y i.1).aOE i.2.1 (restR y i.1).aOH i.2.2)]) (λi=>i.1<=y.aOH.length) (λi=>y.aOH.length-i.1) (0,bI 2,bI 3) (js [200,300] (by simp only [go_sem,restR]<;>trivial)) ?_
 rintro ⟨k,e2,e3⟩ hk;dsimp only at hk;have hI:=StepI.restR hP k;by_cases aB:k<y.aOH.length
 ·have aA:(k:Int)<y.aOH.length:=by omega
  obtain ⟨r0,mB⟩:=ja aB;have xO:=(hP.right r0 (aOT mB)).le12;have aCT:=hP.place k r0 mB;have cE:restR y (k+1)=restT (restR y k) k r0.aOD.length:=by rw [restR,mB,aPA]
  have hIt:=hI.restT k;have hw:=kw k;generalize restR y k=z0 at*;simp only [go_sem,aA,aB,jR mB,jd,je];intro b5;refine qP (λi:Nat×jg×jg=>St.of [(2,Bx 92 b2),(3,Bx 90 b3),(4,Ni k),(5,Bx 93 b5),(15,Ro (jG y.aOH)),(16,Ni y.aOH.length),(17,Ni k),(23,Ro (ju r0.aOD)),(24,Ni r0.aOD.length),(25,Ni i.1)] [(92,ZYd b2 tYd),(93,Bi b5 tRn (jd r0)),(90,jX b3 tYd (restT z0 k i.1).now (restT z0 k i.1).seq (restT z0 k i.1).aOE i.2.1 (restT z0 k i.1).aOH i.2.2)]) (λi=>i.1<=r0.aOD.length) (λi=>r0.aOD.length-i.1) (0,e2,e3) (js [92,500,90] (by simp only [go_sem,restT,jd,je]<;>trivial)) ?_
  rintro ⟨t,f2,f3⟩ hti;dsimp only at hti;have hJ:=hIt t;have gT:restT z0 k (t+1)=failK (restT z0 k t) k t:=rfl;generalize hz:restT z0 k t=z at*;obtain ⟨r,hr,hid,gL,hR,cH,p9⟩:=hJ.later.aOH k r0 mB;have cC:=hR.le12;by_cases mN:t<r0.aOD.length
  ·have dZ:(t:Int)<r0.aOD.length:=by omega
   have gF:t<r.aOD.length:=by omega
   obtain ⟨x,hx⟩:=ja gF;obtain ⟨x0,mX⟩:=ja mN;have mG:=kw t;have lE:failK z k t=if x.aOG==3 then kP z k (jC r t) else z:=by rw [failK,hr,aPA,kr hx]
   have hho:vu z r0.id t x0.tri=(x.aOG==3):=by rw [jnb hJ.later mB aCT mX,hr,aPA,kr hx]
   simp only [go_sem,dZ,mN,jL mX,jz];intro b6 b7;simp only [go_sem,jd,je];refine jk (jdn z r0.id t x0.tri) λη=>?_
   simp only [go_sem];rw [hho];cases hs:x.aOG==3
   ·rw [hs,if_neg (by decide)] at lE
    rw [lE] at gT;simp only [go_sem,mG];exact qc (t+1,f2,f3) (js [92,93,90] (by simp only [go_sem,gT]<;>trivial))
   ·rw [hs,if_pos rfl] at lE
    rw [lE] at gT;have nA:x.aOG=3:=by simpa using hs
    simp only [go_sem];refine ky ?_;refine WkK.wk (s':=St.of [(2,Bx 92 b2),(3,Bx 90 b3),(4,Ni k),(5,Bx 93 b5),(6,Bx 91 b6),(15,Ro (jG y.aOH)),(16,Ni y.aOH.length),(17,Ni k),(23,Ro (ju r0.aOD)),(24,Ni r0.aOD.length),(25,Ni t)] [(92,ZYd b2 tYd),(93,Bi b5 tRn (jd r0)),(90,jX b3 tYd z.now z.seq z.aOE f2 z.aOH f3),(91,.box b6 jes [.a (.v (.int .i64 t))])]) (js [92,93,90,600] (by simp only [go_sem,jd,je]<;>trivial)) ?_
    refine WkK.of ?_;simp only [go_sem];refine ku (vs:=[Bx 90 b3,Ni k,.fn 117 [.bp 91 0 b6]]) (by simp only [go_sem]) (jeo hr (qe r t) cC hJ.four (by have:=hJ.seq;omega) (by have:=hJ.tot;omega) (jqx hr (jh0 hR hx nA)) (e2:=f2) (e3:=f3) (by simp only [go_sem]) (by simp only [go_sem])) ?_
    rintro _ o1 ⟨rfl,⟨g2,g3,j90⟩,j91,j92,j93,j94,j95,j96⟩;have j92':o1 92=ZYd b2 tYd:=j92;have j93':o1 93=Bi b5 tRn (jd r0):=j93;generalize kP z k (jC r t)=z2 at*;simp only [go_sem,mG];exact qc (t+1,g2,g3) (js [92,93,90] (by simp only [go_sem,gT,j90,j92',j93',jd,je]<;>trivial))
  ·have dZ:¬(t:Int)<r0.aOD.length:=by omega
   obtain rfl:t=r0.aOD.length:=by omega
   rw [hz] at cE;simp only [go_sem,dZ,hw];exact qc (k+1,f2,f3) (js [92,90] (by simp only [go_sem,cE]<;>trivial))
 have aA:¬(k:Int)<y.aOH.length:=by omega
 obtain rfl:k=y.aOH.length:=by omega
 generalize restR y y.aOH.length=z at*;simp only [go_sem,aA]
theorem jp4 (now:Int) (r:Rn):∀(ts:List Tk) (k:Nat) (l:List Int),l∈jal now r k ts->∃(t:Nat) (x:Tk),ts[t]?=some x/\x.aOG=3/\l=[r.id,((k+t:Nat):Int),x.tri]
 |[],_,_,h=>by simp [jal] at h
 |z::ts,k,l,h=>by
  rw [jal] at h;rcases aOX.1 h with h|h
  ·unfold jaJ at h
   split at h
   ·rename_i hc
    simp at h;simp only [aPG,aQW] at hc;exact ⟨0,z,rfl,hc.1,by rw [h];rfl⟩
   ·simp at h
  ·obtain ⟨t,x,h1,h2,h3⟩:=jp4 now r ts (k+1) l h
   exact ⟨t+1,x,by simpa using h1,h2,by rw [h3,Nat.add_right_comm,aSF]⟩
theorem js8 {y:Yd} (hP:YardOkP y) {l:List Int} (h:l∈kx y):∃(k t:Nat) (r:Rn) (x:Tk),y.aOH[k]?=some r/\r.aOD[t]?=some x/\runAt y r.id=k/\x.aOG=3/\l=[r.id,(t:Int),x.tri]:=by
 obtain ⟨r,hr,hl⟩:=aRR.1 h;obtain ⟨k,hk,rfl⟩:=aPY hr;have oD:y.aOH[k]?=some y.aOH[k]:=aOV hk;obtain ⟨t,x,h1,h2,h3⟩:=jp4 _ _ _ _ _ hl;exact ⟨k,t,_,x,oD,h1,hP.place k _ oD,h2,by rw [h3,aQN]⟩
theorem jrJ {y:Yd} (hP:YardOkP y):(kx y).length<=96:=by
 have h:∀l:List Rn,(∀r∈l,r.aOD.length<=12)->(l.flatMap λr=>jal y.now r 0 r.aOD).length<=12*l.length:=by
  intro l
  induction l with
  |nil=>intro;simp
  |cons r l ih=>
   intro h;have h1:=h r (by simp)
   have h2:=ih λr hr=>h r (by simp [hr])
   have h3:=jgA y.now r r.aOD 0;simp only [aPQ,aOU,aPI] at h2⊢;omega
 have h1:=h y.aOH λr hr=>(hP.right r hr).le12
 have h2:=hP.eight;have e:(kx y).length=(y.aOH.flatMap λr=>jal y.now r 0 r.aOD).length:=rfl
 omega
noncomputable def jl4 (z:Yd) (l:List Int):Yd:=failK z (runAt z (l.headD 0)).toNat (l.tail.headD 0).toNat
noncomputable def tickI (y:Yd) (i:Nat):Yd:=((kx y).take i).foldl jl4 y
noncomputable def jbI (y:Yd):Int:=if jt y=false then 8 else if y.now+1>999999980 then 7 else 0
noncomputable def jbH (y:Yd):Yd:=if jbI y=0 then ⟨y.now+1,(tickI y (kx y).length).seq,(tickI y (kx y).length).aOE,(tickI y (kx y).length).aOH⟩ else y
theorem jc7 {y:Yd} {i:Nat} {l:List Int} (h:(kx y)[i]?=some l):tickI y (i+1)=jl4 (tickI y i) l:=by
 rw [tickI,aPE,h,List.foldl_append];rfl
theorem jhZ {y:Yd} (hP:YardOkP y):∀i,StepI y (tickI y i) i
 |0=>.refl hP
 |i+1=>by
  have ih:=jhZ hP i;cases h:(kx y)[i]? with
  |none=>
   have:tickI y (i+1)=tickI y i:=by rw [tickI,tickI,aPE,h];simp
   rw [this];exact ih.mono (Nat.le_succ i)
  |some l=>rw [jc7 h];exact ih.fail _ _
section
variable {L:List (List Int)} {i:Nat} {l:List Int}
theorem jrU (h:L[i]?=some l):D.get [i] (qU L)=some (jc l):=by
 have e:L.flatMap (λes=>[jc es])=L.map jc:=by clear h;induction L<;>simp_all
 simp [qU,D.get,e,h]
theorem jyg (h:L[i]?=some l):((L.flatMap λes=>[jc es]).drop i).take 1=[jc l]:=by have:=jyh h;rwa [aPK] at this
theorem jxi (h:L[i]?=some l):i+1<=(L.flatMap λes=>[jc es]).length:=by have:=jxj (aOS.1 h).1;rwa [aPK] at this
end
theorem joY {y:Yd} (h:YardOkP y):wfL y:=by
 refine ⟨by have:=h.now;simp only [inR];omega,λr hr x hx=>?_⟩
 obtain ⟨k,hk,rfl⟩:=aPY hx;have h1:=taskB_iff.1 ((h.right r hr).aOD k _ (aOV hk));have h2:=h1.2.2.2.1;unfold jbB at h2;split at h2
 ·simp only [inB,aPM] at h2;simp only [inR];omega
 ·have:r.aOD[k].til=0:=by simpa using h2
  simp only [inR];omega
def jlK:C:=iS [iA 1 (.box 27 4 (.t 0)),iA 2 wAL,aN 3 0] (iS [aT 8 4 1,iA 9 (iK 67 [8]),iA 4 wAL,wAA 4 9] (.seq (iS [aT 10 4 1,iA 11 (iK 66 [10]),aU 12 11] (iD 12 (iS [aT 13 4 4,wAA 2 13,aN 3 8] .ret) .skip)) (.seq (iS [aF 14 0 1,aL 15 14,aQ 16 .add 3 15 1,aQ 17 .gtr 3 16 999999980] (iD 17 (iS [aT 18 4 4,wAA 2 18,aN 3 7] .ret) .skip)) (iS [aT 19 4 1,iA 20 (iK 54 [19]),aM 5 20] (.seq (iS [aN 6 0] (.blk 0 (.loop (.seq (iS [aM 21 6,aM 22 5,aG 23 22,aP 24 .lss 3 21 23] (iD 24 .skip (.exit 0))) (.seq (.blk 1 (.seq (.dreg (tA 0 27 (iT 4 4) (tA 1 28 (iM 5) (tA 2 29 (iM 6) (tA 3 30 (iI 1 28 29) (tA 4 31 (iL 30) (tA 5 32 (.ia 1 (.t 31) (oI 0)) (tA 6 33 (iL 32) (tC 34 (iK 26 [27,33]) [] (tA 8 7 (iM 34) .done) .stop))))))))) (.seq (.dreg (tA 0 35 (iF 3 4) (tA 1 36 (iL 35) (tA 2 37 (iM 7) (tA 3 38 (iI 8 36 37) (tA 4 39 (iF 7 38) (tA 5 40 (iL 39) (tA 6 41 (iM 5) (tA 7 42 (iM 6) (tA 8 43 (iI 1 41 42) (tA 9 44 (iL 43) (tA 10 45 (.ia 1 (.t 44) (oI 1)) (tA 11 46 (iL 45) (tA 12 47 (iI 4 40 46) (tA 13 48 (iF 0 47) (tA 14 49 (iL 48) (tA 15 50 (iQ .eql 3 49 3) .done))))))))))))))))) (iD 50 (.dreg (tA 0 51 (iT 4 4) (tA 1 52 (iM 7) (tA 2 53 (iF 3 4) (tA 3 54 (iL 53) (tA 4 55 (iM 7) (tA 5 56 (iI 8 54 55) (tA 6 57 (iT 8 56) (tA 7 58 (iM 5) (tA 8 59 (iM 6) (tA 9 60 (iI 1 58 59) (tA 10 61 (iL 60) (tA 11 62 (.ia 1 (.t 61) (oI 1)) (tA 12 63 (iL 62) (tC 64 (iK 120 [57,63]) [1,0] (tC 65 (iK 119 [51,52,64]) [] (.alt (wAA 4 65) [] .done .stop) .stop) .stop))))))))))))))) .skip)))) (.reg [aM 25 6,aQ 26 .add 3 25 1,aM 6 26])))))) (iS [aF 66 0 4,aL 67 66,aQ 68 .add 3 67 1,aF 69 0 4,wAD 69 68] (iS [aT 70 4 4,wAA 2 70,aN 3 0] .ret)))))))
theorem jmn:fnC Tryz.prog Tryz.f52=some (jlK,[.cell 2 true 4,.t 3],71):=by kernel_rfl
def jlP:C:=iS [iA 1 (.box 27 4 (.t 0)),iA 2 wAL,aN 3 0] (iS [aT 7 4 1,iA 8 (iK 61 [7]),iA 4 wAL,wAA 4 8] (.seq (.blk 0 (iS [aT 10 4 1,iA 11 (iK 18 [10]),aU 12 11,aM 9 12] (iD 9 (iS [aT 13 4 4,wAA 2 13,aN 3 8] .ret) (iS [aF 15 0 1,aL 16 15,aQ 17 .add 3 16 1,aQ 18 .gtr 3 17 999999980,aM 14 18] (iD 14 (iS [aT 19 4 4,wAA 2 19,aN 3 7] .ret) .skip))))) (iS [aF 20 0 4,aL 21 20,aQ 22 .add 3 21 1,aF 23 0 4,wAD 23 22] (.seq (iS [aT 24 4 1,iA 25 (iK 50 [24]),aG 26 25,aN 27 0] (.blk 1 (.loop (iS [aP 28 .lss 3 27 26] (.seq (iD 28 .skip (.exit 1)) (.seq (.blk 2 (iS [aI 29 1 25 27,aL 30 29,iA 6 (.alloc 29 [.slice none 0 0]),iC (.st 1 [some (1,3)] (.t 6) (.t 30))] (.seq (.dreg (tA 0 31 (iT 4 4) (tA 1 32 (iL 6) (tA 2 33 (.ia 1 (.t 32) (oI 0)) (tA 3 34 (iL 33) (tA 4 35 (iL 6) (tA 5 36 (.ia 1 (.t 35) (oI 1)) (tA 6 37 (iL 36) (tA 7 38 (iL 6) (tA 8 39 (.ia 1 (.t 38) (oI 2)) (tA 9 40 (iL 39) (tC 41 (iK 53 [31,34,37,40]) [] .done .stop)))))))))))) (iD 41 (.dreg (tA 0 42 (iT 4 4) (tA 1 43 (iL 6) (tA 2 44 (.ia 1 (.t 43) (oI 0)) (tA 3 45 (iL 44) (tA 5 47 (.mkf 121 [.t 6]) (tC 46 (iK 25 [42,45]) [5] (tC 48 (iK 116 [4,46,47]) [] .done .stop) .stop))))))) .skip)))) (.reg [aQ 49 .add 3 27 1,aM 27 49]))))))) (iS [aT 50 4 4,wAA 2 50,aN 3 0] .ret)))))
theorem jmt:fnC Tryz.prog Tryz.f51=some (jlP,[.cell 2 true 4,.t 3],51):=by kernel_rfl
def jhF:C:=.reg [aM 3 0,aL 4 1,iA 5 (.ia 1 (.t 4) (oI 1)),aL 6 5,iA 7 (iK 118 [3,6])]
theorem jjU:fnC Tryz.prog Tryz.f121=some (jhF,[],8):=by kernel_rfl
theorem jro (y:Yd) (ht:jB y<=1990000):jZ Tryz.prog 52 [.agg (jb y)] (.tup [(true,jb (jbH y)),(false,[.val (.int .i64 (jbI y))])]):=by
 refine pf_ jmn ?_;unfold jlK;have eN:jB y<=2000000:=by omega
 simp only [go_sem,jb];intro b1 b2;refine jk (kp y eN) λbI=>?_
 simp only [go_sem,jb];intro b4;refine jk (qb y eN) λη=>?_
 simp only [go_sem];cases aR:jt y
 ·have hc:jbI y=8:=by simp [jbI,aR]
  have hy:jbH y=y:=by rw [jbH,if_neg (by rw [hc];decide)]
  simp only [go_sem,hc,hy]
  apply qa
  simp only [go_sem]
 have hP:=yard_iff.1 aR;have gU:=hP.now;have fK:IntKind.i64.wrap (y.now+1)=y.now+1:=zm;by_cases lD:y.now+1>999999980
 ·have hc:jbI y=7:=by rw [jbI,if_neg (by rw [aR];decide),if_pos lD]
  have hy:jbH y=y:=by rw [jbH,if_neg (by rw [hc];decide)]
  simp only [go_sem,fK,lD,hc,hy]
  apply qa
  simp only [go_sem]
 have hc:jbI y=0:=by rw [jbI,if_neg (by rw [aR];decide),if_neg lD]
 rw [hc,jbH,if_pos hc];simp only [go_sem,fK,lD];refine jk (jn1 y eN (joY hP)) λwI=>?_
 simp only [go_sem];have h96:=jrJ hP;refine qP (λi:Nat×jg×jg=>St.of [(2,Bx 92 b2),(4,Bx 90 b4),(5,Hd 93 (wI 0)),(6,Ni i.1)] [(92,ZYd b2 tYd),(90,jX b4 tYd (tickI y i.1).now (tickI y i.1).seq (tickI y i.1).aOE i.2.1 (tickI y i.1).aOH i.2.2),(93,.loose (qU (kx y)) (wI 0))]) (λi=>i.1<=(kx y).length) (λi=>(kx y).length-i.1) (0,bI 2,bI 3) (js [200,400,2000] (by simp only [go_sem,show tickI y 0=y from rfl]<;>trivial)) ?_
 rintro ⟨i,f2,f3⟩ hi;dsimp only at hi;have hJ:=jhZ hP i;by_cases aB:i<(kx y).length
 ·have aA:(i:Int)<(kx y).length:=by omega
  have hU:=qN i;obtain ⟨l,hl⟩:=ja aB;obtain ⟨k,t,r0,x0,mB,mX,oC,hs0,eR⟩:=js8 hP (aOT hl);have hw:=kw i;have gT:tickI y (i+1)=failK (tickI y i) k t:=by rw [jc7 hl,eR,jl4];simp only [List.headD_cons,List.tail_cons,hJ.later.runAt,oC,aPB]
  generalize tickI y i=z at*;obtain ⟨r,hr,hid,gL,hR,cH,p9⟩:=hJ.later.aOH k r0 mB;have dM:=(aOS.1 hr).1;have bL:=qN k;have cC:=hR.le12;have dD:=(aOS.1 mX).1;have gF:t<r.aOD.length:=by omega
  have eT:=qN t;obtain ⟨x,hx⟩:=ja gF;have lE:failK z k t=if x.aOG==3 then kP z k (jC r t) else z:=by rw [failK,hr,aPA,kr hx]
  have lA:runAt z r0.id=(k:Int):=by rw [hJ.later.runAt,oC]
  subst eR;simp only [go_sem,aA,aB,hU,aPK,jyg hl,jxi hl,jrU hl];refine jk (qf z r0.id) λη=>?_
  simp only [go_sem];rw [lA];simp only [go_sem,aB,aPK,jyg hl,jxi hl,jrU hl,aPO,dM,bL,zh hr,zz hr,jY hr,gF,eT,jhQ hx,vP hx];cases hs:x.aOG==3
  ·rw [hs,if_neg (by decide)] at lE
   rw [lE] at gT;simp only [go_sem,hw];exact qc (i+1,f2,f3) (js [92,90,93] (by simp only [go_sem,gT]<;>trivial))
  ·rw [hs,if_pos rfl] at lE
   rw [lE] at gT;simp only [go_sem,aB,hU,aPK,jyg hl,jxi hl,jrU hl,dM,bL,jlV hr,jgE hr,jd,je];refine jw (jaV r t (by have:=ja8 hR.aOF;obtain ⟨n,_,_,_,dI,_⟩:=this;omega) (by omega)) (by simp only [go_sem,jd,je,vB hr,vA hr]) λdO=>?_
   simp only [go_sem,jd,je];have mC:=qe r t;generalize jC r t=r2 at*;refine zP [some 90,some 92,some 93,some 6405,some 6407] [(90,jX b4 tYd z.now z.seq z.aOE f2 z.aOH f3),(92,ZYd b2 tYd),(93,.loose (qU (kx y)) (wI 0)),(97,.loose (jn r2.aOF.aOI) (dO 5)),(98,.loose (ju r2.aOD) (dO 7))] [.agg [.v (.int .i64 z.now),.v (.int .i64 z.seq),.h 90 2 [] (f2 []),.h 90 3 [] (f3 [])],Ni k,.agg [.v (.int .i64 r2.id),.v (.int .i64 r2.aOF.aOL),.v (.int .i64 r2.aOF.aOQ),.v (.int .i64 r2.aOF.aOP),.v (.int .i64 r2.aOF.aOD),.h 97 0 [] (dO 5 []),.v (.int .i64 r2.aOG),.h 98 0 [] (dO 7 [])]] (by simp only [go_sem]<;>and_intros<;>rfl) (by simp only [go_sem]<;>and_intros<;>rfl) (jgD hr mC cC hJ.four (by have:=hJ.seq;omega) (by have:=hJ.tot;omega) rfl rfl rfl) ?_
   rintro _ o1 ⟨c,g2,g3,x2,x3,rfl,j99,j90,j91,j92,j93,j94,j95,j96⟩;have j92':o1 92=ZYd b2 tYd:=j92;have j93':o1 93=.loose (qU (kx y)) (wI 0):=j93;generalize kP z k r2=z2 at*;simp only [go_sem,j99,j90,hw];exact qc (i+1,g2,g3) (js [92,90,93] (by simp only [go_sem,gT,j92',j93']<;>trivial))
 have aA:¬(i:Int)<(kx y).length:=by omega
 obtain rfl:i=(kx y).length:=by omega
 have hzn:=hJ.now;generalize tickI y (kx y).length=z at*;have aBZ:IntKind.i64.wrap (z.now+1)=y.now+1:=by rw [hzn,fK]
 simp only [go_sem,aA,aBZ]
 apply qa
 simp only [go_sem]
section
variable {L:List (List Int)} {i:Nat} {d:D}
theorem jrL (L:List (List Int)):(L.flatMap λes=>[jc es]).length=L.length:=by rw [jD (enc:=λes=>[jc es]) (size:=1) (λ_=>rfl),aPK]
theorem jfJ:((L.flatMap λes=>[jc es]).set i d).length=L.length:=by rw [aPF,jrL]
theorem jp8:(D.sl 1 tIs ((L.flatMap λes=>[jc es]).set i d)).len=L.length:=by
 simp only [D.len,D.cells,D.size,jfJ,Nat.div_one]
theorem juP (h:i<L.length):(((L.flatMap λes=>[jc es]).set i d).drop i).take 1=[d]:=by
 have hl:i<((L.flatMap λes=>[jc es]).set i d).length:=by rw [jfJ];exact h
 rw [aQT hl,List.take_succ_cons,aQH,List.getElem_set_self]
theorem jrM {l:List Int} (h:L[i]?=some l):(L.flatMap λes=>[jc es])[i]?=some (jc l):=by
 have e:L.flatMap (λes=>[jc es])=L.map jc:=by clear h;induction L<;>simp_all
 simp [e,h]
end
theorem jxW {k t b6:Nat} {y:Yd} {r:Rn} {id tri:Int} {wX:jg} (hr:y.aOH[k]?=some r) (aW:vK r t=true):jyu Tryz.prog 121 [.bp 91 0 b6] (.box b6 tIs [.own (jc [id,(t:Int),tri]) wX]) k y (jC r t):=by
 intro o b e2 e3 nK n5;refine jj5 (β:=6000000) Tryz.func121 jjU (by simp) ?_
 unfold jhF;simp only [go_sem,n5,aPK];refine ku (vs:=[.c (.ep 90 3 [] (k*8) (e3 [])),Ni t]) (by simp only [go_sem]) (joB hr aW _ b e2 e3 (by simp only [go_sem];exact nK)) ?_
 rintro _ o1 ⟨rfl,j90,j91,j92,j93,j94,j95,j96,j97⟩;simp only [go_sem] at j91 j92 j93 j94 j95 j96 j97;rw [n5] at j91;exact ⟨.tup [],⟨by decide,rfl⟩,rfl,rfl,j90,j91,j92,j93,j94,j95,j96,j97⟩
theorem jrt (y:Yd) (ht:jB y<=1990000):jZ Tryz.prog 51 [.agg (jb y)] (.tup [(true,jb (jbH y)),(false,[.val (.int .i64 (jbI y))])]):=by
 refine vx [[1,1,1,1,0,1,0,0,1,1,0,0,0],[1,1,1,1,0,1,0,0,1,1,0,0,1,0],[1,1,1,1,0,1,0,0,1,1,1]] Tryz.func51 jmt (by simp) ?_
 unfold jlP;simp only [C.ghs,C.ghAt,List.foldr];have eN:jB y<=2000000:=by omega
 simp only [go_sem,jb];intro b1 b2;refine jk (kj y eN) λbI=>?_
 simp only [go_sem,jb];intro b4;refine jk (kn y eN) λη=>?_
 simp only [go_sem];cases aR:jt y
 ·have hc:jbI y=8:=by simp [jbI,aR]
  have hy:jbH y=y:=by rw [jbH,if_neg (by rw [hc];decide)]
  simp only [go_sem,hc,hy]
  apply qa
  simp only [go_sem]
 have hP:=yard_iff.1 aR;have gU:=hP.now;have fK:IntKind.i64.wrap (y.now+1)=y.now+1:=zm;by_cases lD:y.now+1>999999980
 ·have hc:jbI y=7:=by rw [jbI,if_neg (by rw [aR];decide),if_pos lD]
  have hy:jbH y=y:=by rw [jbH,if_neg (by rw [hc];decide)]
  simp only [go_sem,fK,lD,hc,hy]
  apply qa
  simp only [go_sem]
 have hc:jbI y=0:=by rw [jbI,if_neg (by rw [aR];decide),if_neg lD]
 rw [hc,jbH,if_pos hc];simp only [go_sem,fK,lD];refine jk (job y eN (joY hP)) λwI=>?_
 simp only [go_sem];have h96:=jrJ hP;refine qP (λi:Nat×jg×jg×jg=>St.of [(2,Bx 92 b2),(4,Bx 90 b4),(25,Hd 93 i.2.2.2),(26,Ni (kx y).length),(27,Ni i.1)] [(92,ZYd b2 tYd),(90,jX b4 tYd (y.now+1) (tickI y i.1).seq (tickI y i.1).aOE i.2.1 (tickI y i.1).aOH i.2.2.1),(93,.loose (qU (kx y)) i.2.2.2)]) (λi=>i.1<=(kx y).length) (λi=>(kx y).length-i.1) (0,bI 2,bI 3,wI 0) (js [200,400,2500] (by simp only [go_sem,show tickI y 0=y from rfl]<;>trivial)) ?_
 rintro ⟨i,f2,f3,f9⟩ hi;dsimp only at hi;have hJ:=jhZ hP i;by_cases aB:i<(kx y).length
 ·have aA:(i:Int)<(kx y).length:=by omega
  have hU:=qN i;obtain ⟨l,hl⟩:=ja aB;obtain ⟨k,t,r0,x0,mB,mX,oC,hs0,eR⟩:=js8 hP (aOT hl);have hw:=kw i;have gT:tickI y (i+1)=failK (tickI y i) k t:=by rw [jc7 hl,eR,jl4];simp only [List.headD_cons,List.tail_cons,hJ.later.runAt,oC,aPB]
  generalize tickI y i=z at*;obtain ⟨r,hr,hid,gL,hR,cH,p9⟩:=hJ.later.aOH k r0 mB;have cC:=hR.le12;have dD:=(aOS.1 mX).1;have gF:t<r.aOD.length:=by omega
  obtain ⟨x,hx⟩:=ja gF;have lE:failK z k t=if x.aOG==3 then kP z k (jC r t) else z:=by rw [failK,hr,aPA,kr hx]
  have hho:vu z r0.id t x0.tri=(x.aOG==3):=by rw [jnb hJ.later mB oC mX,hr,aPA,kr hx]
  have lA:runAt z r0.id=(k:Int):=by rw [hJ.later.runAt,oC]
  subst eR;simp only [go_sem,aA];refine ky ?_;refine jfC 93 0 i 94 (η:=f9) (sz:=1) (tyo:=tIs) (ds0:=(kx y).flatMap λes=>[jc es]) (cs:=[r0.id,(t:Int),x0.tri].flatMap λn=>[iv n]) rfl (jrM hl) rfl (by decide) λbM eV z5 nH pU=>?_
  rw [<-nH];rw [<-nH] at pU;refine WkK.wk (s':=St.of [(2,Bx 92 b2),(4,Bx 90 b4),(25,Hd 93 eV),(26,Ni (kx y).length),(27,Ni i)] [(92,ZYd b2 tYd),(90,jX b4 tYd (y.now+1) z.seq z.aOE f2 z.aOH f3),(93,.loose (.sl 1 tIs (((kx y).flatMap λes=>[jc es]).set i (.val (bM [])))) eV),(94,.loose (jc [r0.id,(t:Int),x0.tri]) bM)]) (js [92,90,93,94] (by simp only [go_sem,z5]<;>trivial)) ?_
  refine WkK.of ?_;have gX:i+1<=(kx y).length:=aB;simp only [go_sem,aB,hU,aPK,jp8,jfJ,juP aB,pU,gX];intro b6;refine ky ?_;refine WkK.wk (s':=St.of [(2,Bx 92 b2),(4,Bx 90 b4),(6,Bx 91 b6),(25,Hd 93 eV),(26,Ni (kx y).length),(27,Ni i)] [(92,ZYd b2 tYd),(90,jX b4 tYd (y.now+1) z.seq z.aOE f2 z.aOH f3),(93,.loose (.sl 1 tIs (((kx y).flatMap λes=>[jc es]).set i (.val (bM [])))) eV),(94,.loose (jc [r0.id,(t:Int),x0.tri]) bM),(91,.box b6 tIs [.a (.v (bM []))])]) (js [92,90,93,94,600]) ?_
  refine qx 91 0 94 (d:=jc [r0.id,(t:Int),x0.tri]) (η:=bM) rfl rfl rfl ?_;refine WkK.wk (s':=St.of [(2,Bx 92 b2),(4,Bx 90 b4),(6,Bx 91 b6),(25,Hd 93 eV),(26,Ni (kx y).length),(27,Ni i)] [(92,ZYd b2 tYd),(90,jX b4 tYd (y.now+1) z.seq z.aOE f2 z.aOH f3),(93,.loose (.sl 1 tIs (((kx y).flatMap λes=>[jc es]).set i (.val (bM [])))) eV),(91,.box b6 tIs [.own (jc [r0.id,(t:Int),x0.tri]) bM])]) (js [92,90,93,91]) ?_
  refine WkK.of ?_;simp only [go_sem,aPK];refine jk (jdn ⟨y.now+1,z.seq,z.aOE,z.aOH⟩ r0.id t x0.tri) λη=>?_
  simp only [go_sem];rw [show vu ⟨y.now+1,z.seq,z.aOE,z.aOH⟩ r0.id t x0.tri=(x.aOG==3) from hho]
  cases hs:x.aOG==3
  ·rw [hs,if_neg (by decide)] at lE
   rw [lE] at gT;simp only [go_sem];refine ky ?_;refine WkK.wk (s':=St.of [(2,Bx 92 b2),(4,Bx 90 b4),(25,Hd 93 eV),(26,Ni (kx y).length),(27,Ni i)] [(92,ZYd b2 tYd),(90,jX b4 tYd (y.now+1) z.seq z.aOE f2 z.aOH f3),(93,.loose (.sl 1 tIs (((kx y).flatMap λes=>[jc es]).set i (.val (bM [])))) eV),(91,.box b6 tIs [.own (jc [r0.id,(t:Int),x0.tri]) bM])]) (js [92,90,93,91]) ?_
   refine qD 91 0 94 (d:=jc [r0.id,(t:Int),x0.tri]) (η:=bM) rfl rfl (by decide) λ_=>?_
   refine qL 93 0 i 94 (η:=eV) (aS:=bM) (sz:=1) (tyo:=tIs) (ds0:=((kx y).flatMap λes=>[jc es]).set i (.val (bM []))) (cs:=[r0.id,(t:Int),x0.tri].flatMap λn=>[iv n]) rfl (aOY (by rw [jrL];exact aB)) (.inl rfl) rfl (by decide) λsL hE=>?_
   rw [aQB,show D.sl 1 jes ([r0.id,(t:Int),x0.tri].flatMap λn=>[iv n])=jc [r0.id,(t:Int),x0.tri] from rfl,jaH (jrM hl)]
   refine WkK.of ?_;simp only [go_sem,hw];exact qc (i+1,f2,f3,sL) (js [92,90,93] (by simp only [go_sem,gT,hE,qU]<;>trivial))
  ·rw [hs,if_pos rfl] at lE
   rw [lE] at gT;have nA:x.aOG=3:=by simpa using hs
   simp only [go_sem,aPK];refine jk (kQ ⟨y.now+1,z.seq,z.aOE,z.aOH⟩ r0.id) λη=>?_
   simp only [go_sem];rw [show runAt ⟨y.now+1,z.seq,z.aOE,z.aOH⟩ r0.id=(k:Int) from lA]
   have hq:=hJ.seq;have htz:=hJ.tot
   have hte:jB ⟨y.now+1,z.seq,z.aOE,z.aOH⟩<=2000000:=by
    have e:jB ⟨y.now+1,z.seq,z.aOE,z.aOH⟩=jB z:=rfl;rw [e];omega
   refine ku (vs:=[Bx 90 b4,Ni k,.fn 121 [.bp 91 0 b6]]) (by simp only [go_sem]) (jeo (y:=⟨y.now+1,z.seq,z.aOE,z.aOH⟩) (H:=.box b6 tIs [.own (jc [r0.id,(t:Int),x0.tri]) bM]) hr (qe r t) cC hJ.four (by dsimp only;omega) hte (jxW hr (jh0 hR hx nA)) (e2:=f2) (e3:=f3) (by simp only [go_sem]) (by simp only [go_sem])) ?_
   rintro _ o1 ⟨rfl,⟨g2,g3,j90⟩,j91,j92,j93,j94,j95,j96⟩;have j92':o1 92=ZYd b2 tYd:=j92;have j93':o1 93=.loose (.sl 1 tIs (((kx y).flatMap λes=>[jc es]).set i (.val (bM [])))) eV:=j93
   have j90':o1 90=jX b4 tYd (y.now+1) (kP z k (jC r t)).seq (kP z k (jC r t)).aOE g2 (kP z k (jC r t)).aOH g3:=j90;generalize kP z k (jC r t)=z2 at*;refine ky ?_;refine WkK.wk (s':=St.of [(2,Bx 92 b2),(4,Bx 90 b4),(25,Hd 93 eV),(26,Ni (kx y).length),(27,Ni i)] [(92,ZYd b2 tYd),(90,jX b4 tYd (y.now+1) z2.seq z2.aOE g2 z2.aOH g3),(93,.loose (.sl 1 tIs (((kx y).flatMap λes=>[jc es]).set i (.val (bM [])))) eV),(91,.box b6 tIs [.own (jc [r0.id,(t:Int),x0.tri]) bM])]) (js [92,90,93,91] (by simp only [go_sem,j90',j91,j92',j93']<;>trivial)) ?_
   refine qD 91 0 94 (d:=jc [r0.id,(t:Int),x0.tri]) (η:=bM) rfl rfl (by decide) λ_=>?_
   refine qL 93 0 i 94 (η:=eV) (aS:=bM) (sz:=1) (tyo:=tIs) (ds0:=((kx y).flatMap λes=>[jc es]).set i (.val (bM []))) (cs:=[r0.id,(t:Int),x0.tri].flatMap λn=>[iv n]) rfl (aOY (by rw [jrL];exact aB)) (.inl rfl) rfl (by decide) λsL hE=>?_
   rw [aQB,show D.sl 1 jes ([r0.id,(t:Int),x0.tri].flatMap λn=>[iv n])=jc [r0.id,(t:Int),x0.tri] from rfl,jaH (jrM hl)]
   refine WkK.of ?_;simp only [go_sem,hw];exact qc (i+1,g2,g3,sL) (js [92,90,93] (by simp only [go_sem,gT,hE,qU]<;>trivial))
 have aA:¬(i:Int)<(kx y).length:=by omega
 obtain rfl:i=(kx y).length:=by omega
 generalize tickI y (kx y).length=z at*;simp only [go_sem,aA]
 apply qa
 simp only [go_sem]
def CutR:List Rn->List D->(Nat->Ob)->Prop
 |[],rows,fam=>rows=[]/\∀j,fam j=.none
 |r::l,rows,fam=>∃(bR bK:jg) (rows':List D),rows=rnV r (bR []) (bK [])++rows'/\(bR []).oneCell'=true/\(bK []).oneCell'=true/\fam 0=.loose (jn r.aOF.aOI) bR/\fam 1=.loose (ju r.aOD) bK/\CutR l rows' (λj=>fam (j+2))
theorem CutR.len:∀{l:List Rn} {rows:List D} {fam:Nat->Ob},CutR l rows fam->rows.length=l.length*8
 |[],_,_,⟨h,_⟩=>by rw [h];rfl
 |r::l,_,_,⟨_,_,rows',h,_,_,_,_,h2⟩=>by
  have:=CutR.len h2;rw [h,aOU,aPI,this];simp only [aPI,aPU];omega
theorem CutR.flat:∀{l:List Rn} {rows:List D} {fam:Nat->Ob},CutR l rows fam->ka rows=true
 |[],_,_,⟨h,_⟩=>by rw [h];rfl
 |r::l,_,_,⟨bR,bK,rows',h,h5,h7,_,_,h2⟩=>by
  have:=CutR.flat h2;rw [h,vQ,this];simp [ka,h5,h7];exact ⟨rfl,rfl,rfl,rfl,rfl,rfl⟩
theorem CutR.erase:∀{l:List Rn} {rows:List D} {fam:Nat->Ob} {k:Nat},CutR l rows fam->k<l.length->CutR (l.eraseIdx k) (rows.take (k*8)++rows.drop ((k+1)*8)) (λj=>fam (if j<2*k then j else j+2))
 |[],_,_,_,_,h=>by simp at h
 |r::l,_,fam,0,⟨bR,bK,rows',h,_,_,_,_,h2⟩,_=>by
  have e1:(rnV r (bR []) (bK [])++rows').drop ((0+1)*8)=rows':=List.drop_left' rfl;rw [h,e1,Nat.zero_mul,aQH,aQG];simpa using h2
 |r::l,_,fam,k+1,⟨bR,bK,rows',h,h5,h7,f0,f1,h2⟩,hk=>by
  have ih:=CutR.erase (k:=k) h2 (by simpa using hk)
  have e1:(rnV r (bR []) (bK [])++rows').take ((k+1)*8)=rnV r (bR []) (bK [])++rows'.take (k*8):=by
   rw [show (k+1)*8=(rnV r (bR []) (bK [])).length+k*8 by rw [show (rnV r (bR []) (bK [])).length=8 from rfl];omega];exact List.take_length_add_append _
  have e2:(rnV r (bR []) (bK [])++rows').drop ((k+1+1)*8)=rows'.drop ((k+1)*8):=by
   rw [show (k+1+1)*8=(rnV r (bR []) (bK [])).length+(k+1)*8 by rw [show (rnV r (bR []) (bK [])).length=8 from rfl];omega];exact List.drop_length_add_append _
  rw [h,e1,e2,List.eraseIdx_cons_succ];refine ⟨bR,bK,_,by rw [aPH],h5,h7,?_,?_,?_⟩
  ·dsimp only;rw [if_pos (by omega)];exact f0
  ·dsimp only;rw [if_pos (by omega)];exact f1
  ·have:(λj=>fam (if j+2<2*(k+1) then j+2 else j+2+2))=(λj=>fam ((if j<2*k then j else j+2)+2)):=by
    funext j
    by_cases c:j<2*k
    ·rw [if_pos c,if_pos (by omega)]
    ·rw [if_neg c,if_neg (by omega)]
   rw [this];exact ih
theorem jsY {ob:Ob} {c:Nat} {d d':D} {η aH:jg} (h:ob.own c=some (d,η)):(ob.putOwn c d' aH).own c=some (d',aH):=by
 cases ob with
 |none=>simp [Ob.own] at h
 |loose e ε=>cases c with
  |zero=>rfl
  |succ c=>simp [Ob.own] at h
 |box b ty cs=>
  simp only [Ob.own] at h;split at h
  ·rename_i d0 eP hc
   have:=(aOS.1 hc).1;simp [Ob.own,Ob.putOwn,aOY this]
  ·simp at h
theorem jww {ob:Ob} {c:Nat} {d:D} {η:jg} (h:ob.own c=some (d,η)):ob.putOwn c d η=ob:=by
 cases ob with
 |none=>rfl
 |loose e ε=>cases c with
  |zero=>simp [Ob.own] at h;obtain ⟨rfl,rfl⟩:=h;rfl
  |succ c=>simp [Ob.own] at h
 |box b ty cs=>
  simp only [Ob.own] at h;split at h
  ·rename_i d0 eP hc
   simp at h;obtain ⟨rfl,rfl⟩:=h;simp only [Ob.putOwn];rw [jaH hc]
  ·simp at h
theorem jsP {ob:Ob} {c:Nat} {d d':D} {η aH:jg}:(ob.putOwn c d η).putOwn c d' aH=ob.putOwn c d' aH:=by
 cases ob with
 |none=>rfl
 |loose e ε=>rfl
 |box b ty cs=>simp [Ob.putOwn,aQB]
theorem jnK {α:Type} {A B:List α} (k:Nat) (hk:k<B.length) (x:α):(A++B).set (A.length+k) x=A++B.set k x:=by
 rw [aSC _ _ (by omega),aQE]
theorem jow {α:Type} {A B:List α} (k:Nat):(A++B)[A.length+k]?=B[k]?:=by
 rw [aQF (by omega),aQE]
theorem jkq {K:St->Prop} (g c:Nat):∀(l:List Rn) (pre:List D) (b:Nat) (s:St) (η:jg),(s.o g).own c=some (.sl 8 tRn (pre++l.flatMap jd),η)->g<b->(∀j,b<=j->s.o j=.none)->
 (∀(rows:List D) (fam:Nat->Ob) (aH:jg),CutR l rows fam->aH []=η []->WkK ⟨s.t,λj=>if b<=j then fam (j-b) else if j=g then (s.o g).putOwn c (.sl 8 tRn (pre++rows)) aH else s.o j⟩ K)->WkK s K
 |[],pre,b,s,η,ho,hg,hn,hK=>by
  have:=hK [] (λ_=>.none) η ⟨rfl,λ_=>rfl⟩ rfl
  have e:(⟨s.t,λj=>if b<=j then Ob.none else if j=g then (s.o g).putOwn c (.sl 8 tRn (pre++[])) η else s.o j⟩:St)=s:=by
   have:(λj=>if b<=j then Ob.none else if j=g then (s.o g).putOwn c (.sl 8 tRn (pre++[])) η else s.o j)=s.o:=by
    funext j
    by_cases h1:b<=j
    ·rw [if_pos h1,hn j h1]
    ·rw [if_neg h1]
     by_cases h2:j=g
     ·subst h2;rw [if_pos rfl];exact jww ho
     ·rw [if_neg h2]
   rw [this]
  rwa [e] at this
 |r::l,pre,b,s,η,ho,hg,hn,hK=>by
  rw [aPQ] at ho;have h8:(jd r).length=8:=rfl;refine jfC g c (pre.length+5) b (η:=η) (sz:=8) (tyo:=tRn) (cs:=r.aOF.aOI.flatMap kb) ho (by rw [jow];rfl) (hn b (aPD b)) (by omega) λbM eV z5 nH pU=>?_
  rw [jnK 5 (by rw [aOU,h8];omega),aSE _ _ (by rw [h8];omega)]
  have hbg:b≠g:=by omega
  have rB:∀(x y:Ob),(((s.setO g x).setO b y).o g)=x:=λx y=>by
   show (if g=b then y else if g=g then x else s.o g)=x
   rw [if_neg (by omega),if_pos rfl]
  have tH:((((s.setO g ((s.o g).putOwn c (.sl 8 tRn (pre++((jd r).set 5 (.val (η [pre.length+5]))++l.flatMap jd))) eV)).setO b (.loose (.sl 2 tEd (r.aOF.aOI.flatMap kb)) bM)).o g)).own c=some (.sl 8 tRn (pre++((jd r).set 5 (.val (η [pre.length+5]))++l.flatMap jd)),eV):=by
   rw [rB];exact jsY ho
  refine jfC g c (pre.length+7) (b+1) (η:=eV) (sz:=8) (tyo:=tRn) (cs:=r.aOD.flatMap jz) tH (by rw [jow];rfl) (by
   show (if b+1=b then _ else if b+1=g then _ else s.o (b+1))=_
   rw [if_neg (by omega),if_neg (by omega)];exact hn _ (by omega)) (by omega) λcO lM z1 d8 mT=>?_
  rw [rB,jsP,jnK 7 (by rw [aOU,aPF,h8];omega),aSE _ _ (by rw [aPF,h8];omega)]
  rw [<-nH] at pU⊢;rw [<-d8] at mT⊢;have hV:((jd r).set 5 (.val (bM []))).set 7 (.val (cO []))=rnV r (bM []) (cO []):=rfl;rw [hV];obtain ⟨s2,fM⟩:∃s2,(((s.setO g ((s.o g).putOwn c (.sl 8 tRn (pre++((jd r).set 5 (.val (bM []))++l.flatMap jd))) eV)).setO b (.loose (.sl 2 tEd (r.aOF.aOI.flatMap kb)) bM)).setO g ((s.o g).putOwn c (.sl 8 tRn (pre++(rnV r (bM []) (cO [])++l.flatMap jd))) lM)).setO (b+1) (.loose (.sl 4 tTk (r.aOD.flatMap jz)) cO)=s2:=⟨_,rfl⟩;rw [fM]
  have q0:s2.o g=(s.o g).putOwn c (.sl 8 tRn (pre++(rnV r (bM []) (cO [])++l.flatMap jd))) lM:=by
   rw [<-fM];show (if g=b+1 then _ else if g=g then _ else _)=_
   rw [if_neg (by omega),if_pos rfl]
  have q1:s2.o b=.loose (jn r.aOF.aOI) bM:=by
   rw [<-fM];show (if b=b+1 then _ else if b=g then _ else if b=b then _ else _)=_
   rw [if_neg (by omega),if_neg (by omega),if_pos rfl];rfl
  have q2:s2.o (b+1)=.loose (ju r.aOD) cO:=by
   rw [<-fM];show (if b+1=b+1 then _ else _)=_
   rw [if_pos rfl];rfl
  have q3:∀j,j≠g->j≠b->j≠b+1->s2.o j=s.o j:=λj n1 n2 n3=>by
   rw [<-fM];show (if j=b+1 then _ else if j=g then _ else if j=b then _ else if j=g then _ else s.o j)=_
   rw [if_neg n3,if_neg n1,if_neg n2,if_neg n1]
  have qt:s2.t=s.t:=by rw [<-fM];rfl
  refine jkq g c l (pre++rnV r (bM []) (cO [])) (b+2) s2 lM (by rw [q0,aPH];exact jsY ho) (by omega) (λj hj=>by rw [q3 j (by omega) (by omega) (by omega)];exact hn j (by omega)) λrows fam aH gG hη=>?_
  have:=hK (rnV r (bM []) (cO [])++rows) (λj=>if j=0 then .loose (jn r.aOF.aOI) bM else if j=1 then .loose (ju r.aOD) cO else fam (j-2)) aH ⟨bM,cO,rows,rfl,pU,mT,rfl,rfl,gG⟩ (by rw [hη,z1,z5])
  have e:(λj=>if b+2<=j then fam (j-(b+2)) else if j=g then (s2.o g).putOwn c (.sl 8 tRn (pre++rnV r (bM []) (cO [])++rows)) aH else s2.o j)=(λj=>if b<=j then (if j-b=0 then Ob.loose (jn r.aOF.aOI) bM else if j-b=1 then .loose (ju r.aOD) cO else fam (j-b-2)) else if j=g then (s.o g).putOwn c (.sl 8 tRn (pre++(rnV r (bM []) (cO [])++rows))) aH else s.o j):=by
   funext j
   by_cases c1:b+2<=j
   ·rw [if_pos c1,if_pos (by omega),if_neg (by omega),if_neg (by omega),show j-(b+2)=j-b-2 by omega]
   ·rw [if_neg c1]
    by_cases c2:j=b
    ·subst c2;rw [if_neg (by omega),if_pos (aPD _),if_pos (by omega),q1]
    ·by_cases c3:j=b+1
     ·subst c3;rw [if_neg (by omega),if_pos (by omega),if_neg (by omega),if_pos (by omega),q2]
     ·by_cases c4:j=g
      ·subst c4;rw [if_pos rfl,if_neg (by omega),if_pos rfl,q0,jsP,aPH]
      ·rw [if_neg c4,if_neg (by omega),if_neg c4,q3 j c4 c2 c3]
  rw [qt,e];exact this
theorem jfB {K:St->Prop} (g c:Nat):∀(l:List Rn) (pre:List D) (b:Nat) (s:St) (η:jg) (rows:List D) (fam:Nat->Ob),CutR l rows fam->(s.o g).own c=some (.sl 8 tRn (pre++rows),η)->g<b->(∀j,b<=j->s.o j=fam (j-b))->
 (∀aH:jg,aH []=η []->WkK ⟨s.t,λj=>if b<=j then .none else if j=g then (s.o g).putOwn c (.sl 8 tRn (pre++l.flatMap jd)) aH else s.o j⟩ K)->WkK s K
 |[],pre,b,s,η,_,fam,⟨rfl,hf⟩,ho,hg,hn,hK=>by
  have:=hK η rfl
  have e:(⟨s.t,λj=>if b<=j then Ob.none else if j=g then (s.o g).putOwn c (.sl 8 tRn (pre++List.flatMap jd [])) η else s.o j⟩:St)=s:=by
   have:(λj=>if b<=j then Ob.none else if j=g then (s.o g).putOwn c (.sl 8 tRn (pre++List.flatMap jd [])) η else s.o j)=s.o:=by
    funext j
    by_cases h1:b<=j
    ·rw [if_pos h1,hn j h1,hf]
    ·rw [if_neg h1]
     by_cases h2:j=g
     ·subst h2;rw [if_pos rfl];exact jww ho
     ·rw [if_neg h2]
   rw [this]
  rwa [e] at this
 |r::l,pre,b,s,η,_,fam,⟨bR,bK,rows,rfl,h5,h7,f0,f1,gG⟩,ho,hg,hn,hK=>by
  have h8:(rnV r (bR []) (bK [])).length=8:=rfl;have tR:s.o b=.loose (.sl 2 tEd (r.aOF.aOI.flatMap kb)) bR:=by rw [hn b (aPD b),aSK,f0];rfl
  have aZ:s.o (b+1)=.loose (.sl 4 tTk (r.aOD.flatMap jz)) bK:=by rw [hn (b+1) (by omega),aQE,f1];rfl
  refine qL g c (pre.length+5) b (η:=η) (aS:=bR) (sz:=8) (tyo:=tRn) (cs:=r.aOF.aOI.flatMap kb) ho (by rw [jow];rfl) (.inl rfl) tR (by omega) λeV hA=>?_
  rw [jnK 5 (by rw [aOU,h8];omega),aSE _ _ (by rw [h8];omega)]
  have rB:∀(x:Ob),(((s.setO b .none).setO g x).o g)=x:=λx=>by
   show (if g=g then x else _)=x
   rw [if_pos rfl]
  refine qL g c (pre.length+7) (b+1) (η:=eV) (aS:=bK) (sz:=8) (tyo:=tRn) (cs:=r.aOD.flatMap jz) (by rw [rB];exact jsY ho) (by rw [jow];rfl) (.inl rfl) (by
   show (if b+1=g then _ else if b+1=b then _ else s.o (b+1))=_
   rw [if_neg (by omega),if_neg (by omega)];exact aZ) (by omega) λlM hB=>?_
  rw [rB,jsP,jnK 7 (by rw [aOU,aPF,h8];omega),aSE _ _ (by rw [aPF,h8];omega)]
  have hV:(((rnV r (bR []) (bK [])).set 5 (.sl 2 tEd (r.aOF.aOI.flatMap kb))).set 7 (.sl 4 tTk (r.aOD.flatMap jz)))=jd r:=rfl;rw [hV];obtain ⟨s2,fM⟩:∃s2,(((s.setO b .none).setO g ((s.o g).putOwn c (.sl 8 tRn (pre++((rnV r (bR []) (bK [])).set 5 (.sl 2 tEd (r.aOF.aOI.flatMap kb))++rows))) eV)).setO (b+1) .none).setO g ((s.o g).putOwn c (.sl 8 tRn (pre++(jd r++rows))) lM)=s2:=⟨_,rfl⟩;rw [fM]
  have q0:s2.o g=(s.o g).putOwn c (.sl 8 tRn (pre++(jd r++rows))) lM:=by
   rw [<-fM];show (if g=g then _ else _)=_
   rw [if_pos rfl]
  have q3:∀j,j≠g->j≠b->j≠b+1->s2.o j=s.o j:=λj n1 n2 n3=>by
   rw [<-fM];show (if j=g then _ else if j=b+1 then _ else if j=g then _ else if j=b then _ else s.o j)=_
   rw [if_neg n1,if_neg n3,if_neg n1,if_neg n2]
  have q1:s2.o b=.none:=by
   rw [<-fM];show (if b=g then _ else if b=b+1 then _ else if b=g then _ else if b=b then _ else s.o b)=_
   rw [if_neg (by omega),if_neg (by omega),if_neg (by omega),if_pos rfl]
  have q2:s2.o (b+1)=.none:=by
   rw [<-fM];show (if b+1=g then _ else if b+1=b+1 then _ else _)=_
   rw [if_neg (by omega),if_pos rfl]
  have qt:s2.t=s.t:=by rw [<-fM];rfl
  refine jfB g c l (pre++jd r) (b+2) s2 lM rows _ gG (by rw [q0,aPH];exact jsY ho) (by omega) (λj hj=>by rw [q3 j (by omega) (by omega) (by omega),hn j (by omega),show j-b=j-(b+2)+2 by omega]) λaH hη=>?_
  have:=hK aH (by rw [hη,hB,hA])
  have e:(λj=>if b+2<=j then Ob.none else if j=g then (s2.o g).putOwn c (.sl 8 tRn (pre++jd r++l.flatMap jd)) aH else s2.o j)=(λj=>if b<=j then Ob.none else if j=g then (s.o g).putOwn c (.sl 8 tRn (pre++(r::l).flatMap jd)) aH else s.o j):=by
   funext j
   by_cases c1:b+2<=j
   ·rw [if_pos c1,if_pos (by omega)]
   ·rw [if_neg c1]
    by_cases c2:j=b
    ·subst c2;rw [if_neg (by omega),if_pos (aPD _),q1]
    ·by_cases c3:j=b+1
     ·subst c3;rw [if_neg (by omega),if_pos (by omega),q2]
     ·by_cases c4:j=g
      ·subst c4;rw [if_pos rfl,if_neg (by omega),if_pos rfl,q0,jsP,aPH,aPQ]
      ·rw [if_neg c4,if_neg (by omega),if_neg c4,q3 j c4 c2 c3]
  rw [qt,e];exact this
def St.ofF (T:List (Nat×AV)) (O:List (Nat×Ob)) (b:Nat) (fam:Nat->Ob):St:=⟨lkT T,λj=>if b<=j then fam (j-b) else lkO O j⟩
theorem ofF_t (T:List (Nat×AV)) (O:List (Nat×Ob)) (b:Nat) (fam:Nat->Ob) (n:Nat):(St.ofF T O b fam).t n=lkT T n:=(rfl)
theorem ofF_o (T:List (Nat×AV)) (O:List (Nat×Ob)) (b:Nat) (fam:Nat->Ob) (n:Nat):(St.ofF T O b fam).o n=if b<=n then fam (n-b) else lkO O n:=(rfl)
attribute [go_sem] ofF_t ofF_o
theorem joW {s:St} {T:List (Nat×AV)} {O:List (Nat×Ob)} {b:Nat} {fam:Nat->Ob} (ks:List (Option Nat)) (h:jz3 s T/\jrZ s ks O) (hf:∀j,b<=j->s.o j=fam (j-b)) (hk:∀k∈jsx ks,k<b) (hn:jjp (jsx ks)=true:=by decide):Wk s (St.ofF T O b fam):=λB N w0 w a F hr=>by
 have bT:=jxp hr.ob h.2;have oG:=jzY (ks:=ks) (O:=O) hr.dj (jcw hn);refine ⟨λj=>if b<=j then F j else fp F ks O j,⟨hr.below,hr.hB,hr.df,hr.sz,jz1 hr.sl h.1,λg=>?_,λg=>?_,λg g' aK x hx bV=>?_⟩,λg x hx=>?_⟩
 ·by_cases c:b<=g
  ·simp only [St.ofF,if_pos c];rw [<-hf g c];exact hr.ob g
  ·simp only [St.ofF,if_neg c];exact bT g
 ·by_cases c:b<=g
  ·simp only [if_pos c];exact hr.fr g
  ·simp only [if_neg c];exact jzX hr.fr ks O g
 ·by_cases c:b<=g
  ·simp only [if_pos c] at hx
   by_cases c':b<=g'
   ·simp only [if_pos c'] at bV;exact hr.dj g g' aK x hx bV
   ·simp only [if_neg c'] at bV
    obtain ⟨k,h1,h2⟩:=jgL bV;exact hr.dj g k (by have:=hk k h1;omega) x hx h2
  ·simp only [if_neg c] at hx
   by_cases c':b<=g'
   ·simp only [if_pos c'] at bV
    obtain ⟨k,h1,h2⟩:=jgL hx;exact hr.dj k g' (by have:=hk k h1;omega) x h2 bV
   ·simp only [if_neg c'] at bV;exact oG g g' aK x hx bV
 ·by_cases c:b<=g
  ·simp only [if_pos c] at hx;exact ⟨g,hx⟩
  ·simp only [if_neg c] at hx
   obtain ⟨k,_,h2⟩:=jgL hx;exact ⟨k,h2⟩
theorem joX {s:St} {b:Nat} {fam:Nat->Ob} (ρ:Nat->Nat) (hρ:∀i j,ρ i=ρ j->i=j) (hf:∀j,b<=j->s.o j=fam (j-b)):Wk s ⟨s.t,λj=>if b<=j then fam (ρ (j-b)) else s.o j⟩:=λB N w0 w a F hr=>by
 refine ⟨λj=>if b<=j then F (b+ρ (j-b)) else F j,⟨hr.below,hr.hB,hr.df,hr.sz,hr.sl,λg=>?_,λg=>?_,λg g' aK x hx bV=>?_⟩,λg x hx=>?_⟩
 ·by_cases c:b<=g
  ·simp only [if_pos c]
   have:=hr.ob (b+ρ (g-b))
   rwa [hf _ (aSG _ _),aQE] at this
  ·simp only [if_neg c];exact hr.ob g
 ·by_cases c:b<=g
  ·simp only [if_pos c];exact hr.fr _
  ·simp only [if_neg c];exact hr.fr g
 ·by_cases c:b<=g
  ·simp only [if_pos c] at hx
   by_cases c':b<=g'
   ·simp only [if_pos c'] at bV
    exact hr.dj _ _ (λe=>aK (by have:=hρ _ _ (Nat.add_left_cancel e);omega)) x hx bV
   ·simp only [if_neg c'] at bV;exact hr.dj _ _ (by omega) x hx bV
  ·simp only [if_neg c] at hx
   by_cases c':b<=g'
   ·simp only [if_pos c'] at bV;exact hr.dj _ _ (by omega) x hx bV
   ·simp only [if_neg c'] at bV;exact hr.dj _ _ aK x hx bV
 ·by_cases c:b<=g
  ·simp only [if_pos c] at hx;exact ⟨_,hx⟩
  ·simp only [if_neg c] at hx;exact ⟨g,hx⟩
open Go.RowKit Go.Sort Go.Lib
abbrev fDel:FuncId:=144
theorem jnM {P:Program} (w:World) (t e ty:TypeId) (z:Value) (ht:P.underlying t=some (.slice e)) (hv:∀w,(zeroValue e).run P w=.ok z w) (h1:∀v∈z.cells.toList,v.oneCell'=true) (hs:z.cells.size=8) (b o c:Nat)
 (hc:∀j,j<8->(w.cell? ⟨b,o+j,none⟩).isSome=true) (hf:∀j,j<8->w.frozen? ⟨b,o+j,none⟩=false):
 (Builtin.clear_ #[t] ty #[.slice (some ⟨b,o,none⟩) 1 c]).run P w=.ok (.tuple #[]) (w.setCells b o z.cells.toList):=by
 have oN:(Builtin.zeroCells z.cells 1).toList=z.cells.toList:=by
  simp only [Builtin.zeroCells,Nat.one_mul]
  apply List.ext_getElem
  ·simp
  ·intro i h1 h2
   have:i<z.cells.size:=by simpa using h2
   simp [Nat.mod_eq_of_lt this];exact getElem!_pos z.cells i this
 have aJ:=run_storeCells_cells (P:=P) b o z.cells.toList 0 w (by simpa [hs] using hc) (by simpa [hs] using hf) h1
 simp only [aPO] at aJ;simp [Builtin.clear_,run_underlying ht,hv,oN,aJ]
abbrev zRnL:List Value:=[.int .i64 0,.int .i64 0,.int .i64 0,.int .i64 0,.int .i64 0,.slice none 0 0,.int .i64 0,.slice none 0 0]
theorem jDi (b n c k:Nat) (cs:List Value) (w:World) (hk:k<n) (nB:n<=c) (yZ:c<=9223372036854775807) (dN:cs.length=n*8)
 (fI:∀j v,cs[j]?=some v->w.cell? ⟨b,j,none⟩=some v) (rF:∀j,w.frozen? ⟨b,j,none⟩=false) (z7:∀v∈cs,v.oneCell'=true):
 Calls Tryz.prog fDel #[.slice (some ⟨b,0,none⟩) n c,.int .i64 k,.int .i64 ((k:Int)+1)] w λe w'=>
  e=.returned (.slice (some ⟨b,0,none⟩) (n-1) c)/\w'=(w.drew.setCells b (k*8) (cs.drop ((k+1)*8))).setCells b ((n-1)*8) zRnL:=by
 have mixed:Tryz.prog.follows .mixedOrders=true:=by kernel_rfl
 have t22:=Tryz.underlying25;have a22:=Tryz.isAgg25;have z22:=Tryz.sizeOf25;have u3:=Tryz.underlying3;have a3:=Tryz.isAgg3;have z3:=Tryz.sizeOf3;have u4:=Tryz.underlying4;have z23:=Tryz.sizeOf52;have hu:Tryz.prog.underlying jDU=some (.slice tRn):=slRn.1;obtain ⟨i0,zv,tO,fX,oN,nM,w8⟩:=slRn.info;obtain ⟨news,dW⟩:∃news,news=cs.drop ((k+1)*8):=⟨_,rfl⟩;have aC:news.length=(n-(k+1))*8:=by rw [dW,aPN,dN];omega
 have eF:∀t u,news[t]?=some u->w.cell? ⟨b,(k+1)*8+t,none⟩=some u:=λt u hu=>by
  rw [dW,aQU] at hu;exact fI _ u hu
 obtain ⟨A,hA,lT⟩:∃A:Addr,(if c=k+1 then some (⟨b,0,none⟩:Addr) else some ⟨b,(k+1)*8,none⟩)=some A/\Hid (∀t u,news[t]?=some u->w.drew.cell? (A.add t)=some u):=by
  by_cases h:c=k+1
  ·refine ⟨⟨b,0,none⟩,by simp [h],λt u hu=>?_⟩
   have h0:news.length=0:=by rw [aC];omega
   rw [aRT.1 h0] at hu;simp at hu
  ·refine ⟨⟨b,(k+1)*8,none⟩,by simp [h],λt u hu=>?_⟩
   rw [Addr.add_lit];exact eF t u hu
 have s1:Hid (news.length=(n-(k+1))*8):=aC;have s2:Hid (∀u∈news,u.oneCell'=true):=λu hu=>by rw [dW] at hu;exact z7 u (aSA hu)
 have gD:∀j,j<n*8->(w.cell? ⟨b,j,none⟩).isSome=true:=λj hj=>by rw [fI j _ (aOV (by omega))];rfl
 have s3:Hid (∀t,t<news.length->(w.drew.cell? ⟨b,0+k*8+t,none⟩).isSome=true/\w.drew.frozen? ⟨b,0+k*8+t,none⟩=false):=λt ht=>by
  rw [aC] at ht;exact ⟨gD _ (by omega),rF _⟩
 obtain ⟨W1,l7⟩:∃W1,W1=w.drew.setCells b (0+k*8) news:=⟨_,rfl⟩
 have oU:∀j,j<n*8->(W1.cell? ⟨b,j,none⟩).isSome=true:=λj hj=>by
  rw [l7];exact isSome_setCells b news (0+k*8) w.drew (λt ht=>gD _ (by omega)) j (gD j hj)
 have hz:∀w,(zeroValue tRn).run Tryz.prog w=.ok zv w:=λw=>by simp [zeroValue,typeInfo,tO,fX]
 have oM:zv.cells.toList=zRnL:=by rw [oN]
 have aKR:∀ty q,(Builtin.clear_ #[jDU] ty #[.slice (some ⟨b,(k+(n-(k+1)))*8,none⟩) 1 q]).run Tryz.prog W1=.ok (.tuple #[]) (W1.setCells b ((k+(n-(k+1)))*8) zRnL):=λty q=>by
  rw [<-oM];exact jnM W1 jDU tRn ty zv hu hz (by rw [oM];decide) (by rw [oN];rfl) b _ q (λj hj=>oU _ (by omega)) (λj hj=>by rw [l7,World.frozen?_setCells];exact rF _)
 have hW:Hid (W1=w.drew.setCells b (0+k*8) news):=l7;have hkc:k<=c:=by omega
 have hjc:k+1<=c:=by omega
 have aK:¬((k:Int)=(k:Int)+1):=by omega
 have aZ:(0:Int)<=(k:Int)+1:=by omega
 have bF:(k:Int)<=(n:Int):=by omega
 have hb3:(k:Int)+1<=(n:Int):=by omega
 have hb4:(k:Int)<=(k:Int)+1:=by omega
 have htn:((k:Int)+1).toNat=k+1:=by omega
 have hkn:k<=n:=by omega
 have hjn:k+1<=n:=hk;have h1n:n-(k+(n-(k+1)))=1:=by omega
 clear l7 oU eF aC gD fI
 go_enter Tryz.func144,Tryz.ntmps144
 go_wp2_with fail
 go_region_law_o (refine step_append_room rfl (.tmp 22) (.tmp 25) jDU rfl tRn i0 8 hu tO nM b 0 k c (by simp [Act.eval,Act.put]) A (n-(k+1)) (c-(k+1)) news (by simp [Act.eval,Act.put]) s1.out lT.out s2.out (by omega) s3.out ?_;rw [<-hW.out])
 go_wp2
 go_ret
 have e1:k+(n-(k+1))=n-1:=by omega
 refine ⟨by rw [e1];rfl,?_⟩
 rw [hW.out,dW,e1,aQN]
def jo3:D->Value
 |.val u=>u
 |.sl _ _ _=>undef
theorem jBl:∀{ds:List D} {w:World} {own:Bool} {vs:List Value} {S:List Nat},ka ds=true->RepL w own ds vs S->vs=ds.map jo3/\S=[]
 |[],_,_,_,_,_,⟨h1,h2⟩=>⟨h1,h2⟩
 |.sl _ _ _::_,_,_,_,_,h,_=>by cases h
 |.val u::ds,w,own,_,_,h,⟨v,vs',S1,S2,rfl,rfl,⟨h1,h2⟩,h3⟩=>by
  simp only [ka,aPG] at h;obtain ⟨k1,k2⟩:=jBl h.2 h3;subst h1 h2 k1 k2;exact ⟨rfl,rfl⟩
theorem d_mk (w:World) (own:Bool):∀{ds:List D},ka ds=true->RepL w own ds (ds.map jo3) []
 |[],_=>⟨rfl,rfl⟩
 |.sl _ _ _::_,h=>by cases h
 |.val u::ds,h=>by
  simp only [ka,aPG] at h;exact ⟨u,ds.map jo3,[],[],rfl,rfl,⟨rfl,rfl⟩,d_mk w own h.2⟩
theorem jFS:∀{ds:List D},ka ds=true->∀v∈ds.map jo3,v.oneCell'=true
 |[],_,_,hv=>by simp at hv
 |.sl _ _ _::_,h,_,_=>by cases h
 |.val u::ds,h,v,hv=>by
  simp only [ka,aPG] at h;rcases aPL.1 hv with rfl|hv
  ·exact h.1
  ·exact jFS h.2 v hv
theorem jyP (rows:List D) (n k:Nat) (hf:ka rows=true) (l0:ka (rows.take (k*8)++rows.drop ((k+1)*8))=true) (hl:rows.length=n*8) (hk:k<n) {o:Nat->Ob} {g:Nat} {η:jg} (ho:o g=.loose (.sl 8 tRn rows) η):
 Turns Tryz.prog fDel [.c (.v (η [])),.c (.v (.int .i64 k)),.c (.v (.int .i64 ((k:Int)+1)))] o (λrt o'=>rt=.c (.sl 8 tRn (rows.take (k*8)++rows.drop ((k+1)*8)))/\o'=λj=>if j=g then .none else o j):=
 ⟨⟨_,Tryz.func144,by kernel_rfl,by kernel_rfl⟩,λB w F xs hR lN=>by
   obtain ⟨x,xs1,rfl,rfl,_,xs2,rfl,rfl,x2,xs3,rfl,rfl,rfl⟩:=lN;have h1:=hR.ob g;simp only at h1;rw [ho] at h1;obtain ⟨_,u,r1,e1⟩:=h1;have q1:η []=u:=e1 [];rw [q1];have hB:B<=w.heap.size:=aQJ hR.hB hR.below.size;have lK:=hR.fr g;have aB:∀k,∀b∈F k,b<w.heap.size:=λk b hb=>(hR.ob k).lt b hb
   obtain ⟨vs,T,S',bD,cH,hS⟩:=r1;obtain ⟨rfl,rfl⟩:=jBl hf cH;have gQ:=jFS hf;have bO:(rows.map jo3).length=n*8:=by rw [aQI,hl]
   generalize mY:rows.map jo3=vs at*;obtain ⟨m,bD,rfl⟩:=bD;rcases bD.2 with ⟨_,h0⟩|⟨b,c,cu,rfl,_,sC,cT,cY,hc3,gB⟩
   ·have:=bD.1;omega
   have hmn:m=n:=by have:=bD.1;omega
   subst hmn;have hFg:F g=[b]:=by rw [hS];simp [blk]
   have hbB:B<=b:=lK.2 b (by rw [hFg];simp)
   have fI:∀j v,vs[j]?=some v->w.cell? ⟨b,j,none⟩=some v:=λj v hj=>by
    rw [joO sC,<-Array.getElem?_toList];exact jnE gB hj
   obtain ⟨_,sb2⟩:=jnI sC;have uS:cu.toList.length=c*8:=by simpa using hc3
   refine (jDi b m c k vs w hk cT (by unfold maxLen at cY;omega) bO fI sb2 gQ).mono ?_
   rintro en w' ⟨rfl,rfl⟩;have hcu:w.drew.heap[b]?=some (.cells cu.toList.toArray tRn (0,0)):=by rw [Array.toArray_toList];exact sC
   have fV:(vs.drop ((k+1)*8)).length=(m-(k+1))*8:=by rw [aPN,bO];omega
   obtain ⟨w1,w2⟩:=qA (vs.drop ((k+1)*8)) w.drew b (k*8) cu.toList tRn hcu;obtain ⟨w3,w4⟩:=qA zRnL _ b ((m-1)*8) _ tRn w1;have s1:=kK (vs.drop ((k+1)*8)) w.drew b (k*8);have s2:=kK zRnL (w.drew.setCells b (k*8) (vs.drop ((k+1)*8))) b ((m-1)*8);have hmc:m*8<=c*8:=by omega
   have hA:kz cu.toList (k*8) (vs.drop ((k+1)*8))=cu.toList.take (k*8)++vs.drop ((k+1)*8)++cu.toList.drop (k*8+(vs.drop ((k+1)*8)).length):=kY _ _ _ (by rw [fV,uS];omega)
   have hAl:(kz cu.toList (k*8) (vs.drop ((k+1)*8))).length=c*8:=by
    rw [hA];simp only [aOU,aOZ,aPN,uS,bO];omega
   have hz8:zRnL.length=8:=rfl;have hBz:kz (kz cu.toList (k*8) (vs.drop ((k+1)*8))) ((m-1)*8) zRnL=(kz cu.toList (k*8) (vs.drop ((k+1)*8))).take ((m-1)*8)++zRnL++(kz cu.toList (k*8) (vs.drop ((k+1)*8))).drop ((m-1)*8+zRnL.length):=kY _ _ _ (by rw [hz8,hAl];omega)
   have hct:cu.toList.take (k*8)=vs.take (k*8):=by rw [<-gB,List.take_take,aQL (by omega)]
   have lP:(rows.take (k*8)++rows.drop ((k+1)*8)).map jo3=vs.take (k*8)++vs.drop ((k+1)*8):=by rw [aRF,List.map_take,List.map_drop,mY]
   have iV:(vs.take (k*8)++vs.drop ((k+1)*8)).length=(m-1)*8:=by rw [aOU,aOZ,fV,bO];omega
   have dV:(kz (kz cu.toList (k*8) (vs.drop ((k+1)*8))) ((m-1)*8) zRnL).take ((m-1)*8)=vs.take (k*8)++vs.drop ((k+1)*8):=by
    rw [hBz,aPH,List.take_append_of_le_length (by rw [aOZ,hAl];omega),List.take_take,Nat.min_self,hA,hct]
    exact List.take_left' iV
   have f8:(kz (kz cu.toList (k*8) (vs.drop ((k+1)*8))) ((m-1)*8) zRnL).length=c*8:=by
    rw [hBz];simp only [aOU,aOZ,aPN,hAl,hz8];omega
   generalize kz (kz cu.toList (k*8) (vs.drop ((k+1)*8))) ((m-1)*8) zRnL=us at*
   have hon:Only [b] w ((w.drew.setCells b (k*8) (vs.drop ((k+1)*8))).setCells b ((m-1)*8) zRnL):=⟨by rw [s2.1,s1.1];rfl,by rw [s2.2.1,s1.2.1];rfl,by rw [s2.2.2.1,s1.2.2.1];rfl,by rw [s2.2.2.2,s1.2.2.2];exact aPD _,λq hq hqn=>by
    have hqb:q≠b:=by simpa using hqn
    rw [w4 q hqb,w2 q hqb];rfl⟩
   have t1:=hR.setO (g:=g) (ob:=.none) (S:=[]) rfl (Fresh.nil _) (by simp)
   have t2:=t1.world' (hon.below (λs hs=>by simp at hs;omega) hB) λq x hx=>by
    split at hx
    ·simp at hx
    ·rename_i hq
     exact hon.block x (aB q x hx) λh=>hR.dj q g hq x hx (by rw [hFg];exact h)
   refine ⟨_,.c (.sl 8 tRn (rows.take (k*8)++rows.drop ((k+1)*8))),_,[b],_,rfl,t2,?_,Fresh.one _ _ hbB,λq x hx=>?_,rfl,rfl⟩
   ·refine ⟨(rows.take (k*8)++rows.drop ((k+1)*8)).map jo3,[b],[],⟨m-1,⟨?_,.inr ⟨b,c,us.toArray,rfl,aPP _,w3,by omega,cY,by simpa using f8,?_⟩⟩,rfl⟩,d_mk _ _ l0,by simp⟩
    ·rw [lP,iV]
    ·rw [lP];simpa [iV] using dV
   ·split
    ·simp
    ·rename_i hq
     intro bV;simp at hx;subst hx;exact hR.dj q g hq x bV (by rw [hFg];simp)⟩
