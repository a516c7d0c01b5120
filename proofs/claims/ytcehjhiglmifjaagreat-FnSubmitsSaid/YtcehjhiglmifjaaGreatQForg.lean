/- Parts. -/
import Derived.Test.YtcehjhiglmifjaaGreatQVarAt
set_option linter.all false
set_option maxHeartbeats 16000000
set_option maxRecDepth 100000
namespace Go.Proofs.YtcehjhiglmifjaaGreat
open Go.RowKit Go.Sort
def jfh:C:=iS [iA 1 (.box 52 8 (.t 0)),iA 2 wAM] (iS [aT 4 8 1,iA 5 (iK 133 [4]),iA 3 wAM,wAC 3 5] (.seq (iS [aT 6 8 1,iA 7 (iK 130 [6]),aU 8 7,aM 9 8,iB 10 9 false (iF 6 1),iB 11 9 false (iL 10),iB 12 9 false (iQ .neq 3 11 1),iA 13 (iY 9 (oT) (.t 12))] (iD 13 (iS [aT 14 8 3,wAC 2 14] .ret) .skip)) (iS [aT 15 8 3,iA 16 (.call 173 [.t 15,oI 4]),wAC 2 16] .ret)))
theorem jiG:fnC Tryz.prog Tryz.f191=some (jfh,[.cell 2 true 8],17):=by kernel_rfl
def jfv:C:=iS [iA 1 (.box 52 8 (.t 0)),iA 2 wAM] (iS [aT 4 8 1,iA 5 (iK 127 [4]),iA 3 wAM,wAC 3 5] (.seq (iS [aT 6 8 1,iA 7 (iK 81 [6]),aM 8 7,iB 9 8 true (iF 6 1),iB 10 8 true (iL 9),iB 11 8 true (iQ .eql 3 10 1),iA 12 (iY 8 (.t 11) (oF))] (iD 12 (iS [iA 13 (.call 171 [.t 3,.c (.int .i64 (-1))])] (.reg [aF 14 6 3,iC (.st 1 [none] (.t 14) (oI 4))])) .skip)) (iS [aT 15 8 3,wAC 2 15] .ret)))
theorem jiU:fnC Tryz.prog Tryz.f143=some (jfv,[.cell 2 true 8],16):=by kernel_rfl
def jhx:C:=iS [iA 2 (.box 27 4 (.t 0)),iA 4 wAL,aN 5 0] (iS [aT 8 4 2,iA 9 (iK 67 [8]),iA 6 wAL,wAA 6 9] (iS [aT 10 4 2,aM 11 1,iA 12 (iK 26 [10,11]),aM 7 12] (.seq (.blk 0 (iS [aT 14 4 2,iA 15 (iK 66 [14]),aU 16 15,aM 13 16] (iD 13 (iS [aT 17 4 6,wAA 4 17,aN 5 8] .ret) (iS [aM 19 7,aQ 20 .lss 3 19 0,aM 18 20] (iD 18 (iS [aT 21 4 6,wAA 4 21,aN 5 10] .ret) (iS [aF 23 3 2,aL 24 23,aM 25 7,aI 26 8 24 25,aF 27 6 26,aL 28 27,aQ 29 .neq 3 28 1,aM 22 29] (iD 22 (iS [aT 30 4 6,wAA 4 30,aN 5 12] .ret) .skip))))))) (.seq (.dreg (tA 0 31 (iF 3 6) (tA 1 32 (iL 31) (tA 2 33 (iM 7) (tA 3 34 (iF 3 6) (tA 4 35 (iL 34) (tA 5 36 (iM 7) (tA 6 37 (iI 8 35 36) (tA 7 38 (iT 8 37) (tC 39 (iK 191 [38]) [2,1,0] (tA 9 40 (iI 8 32 33) (.alt (wAC 40 39) [] .done .stop)) .stop)))))))))) (iS [aT 41 4 6,wAA 4 41,aN 5 0] .ret)))))
theorem jjM:fnC Tryz.prog Tryz.f150=some (jhx,[.cell 4 true 4,.t 5],42):=by kernel_rfl
def jhN:C:=iS [iA 2 (.box 27 4 (.t 0)),iA 4 wAL,aN 5 0] (iS [aT 8 4 2,iA 9 (iK 61 [8]),iA 6 wAL,wAA 6 9] (iS [aT 10 4 2,aM 11 1,iA 12 (iK 25 [10,11]),aM 7 12] (.seq (.blk 0 (iS [aT 14 4 2,iA 15 (iK 18 [14]),aU 16 15,aM 13 16] (iD 13 (iS [aT 17 4 6,wAA 4 17,aN 5 8] .ret) (iS [aM 19 7,aQ 20 .lss 3 19 0,aM 18 20] (iD 18 (iS [aT 21 4 6,wAA 4 21,aN 5 10] .ret) (iS [aF 23 3 2,aL 24 23,aM 25 7,aI 26 8 24 25,aF 27 6 26,aL 28 27,aQ 29 .neq 3 28 1,aM 22 29] (iD 22 (iS [aT 30 4 6,wAA 4 30,aN 5 12] .ret) .skip))))))) (.seq (.dreg (tA 0 31 (iF 3 6) (tA 1 32 (iL 31) (tA 2 33 (iM 7) (tA 3 34 (iF 3 2) (tA 4 35 (iL 34) (tA 5 36 (iM 7) (tA 6 37 (iI 8 35 36) (tA 7 38 (iT 8 37) (tC 39 (iK 143 [38]) [2,1,0] (tA 9 40 (iI 8 32 33) (.alt (wAC 40 39) [] .done .stop)) .stop)))))))))) (iS [aT 41 4 6,wAA 4 41,aN 5 0] .ret)))))
theorem jj3:fnC Tryz.prog Tryz.f90=some (jhN,[.cell 4 true 4,.t 5],42):=by kernel_rfl
theorem jmc (r:Rn) (cW:r.aOF.aOI.length<=4000000) (ht:r.aOD.length<=4000000):jZ Tryz.prog 191 [.agg (jd r)] (.agg (jd (jaw r))):=by
 refine pf_ jiG ?_;unfold jfh;simp only [go_sem,jd,je];intro b1 b2;refine jk (vL r cW ht) λbI=>?_
 simp only [go_sem,jd,je];intro b3;refine jk (jdj r) λη=>?_
 simp only [go_sem];cases h:kI r
 ·have hb:jaw r=r:=jkf (by simp [h])
  simp only [go_sem,hb]
 cases h1:r.aOG !=1;rotate_left
 ·have dG:(r.aOG==1)=false:=by have:=h1;simp only [bne,Bool.not_eq_true'] at this;exact this
  have hb:jaw r=r:=jkf (by simp [h,dG])
  simp only [go_sem,h1,hb]
 have dG:(r.aOG==1)=true:=by have:=h1;simp only [bne,Bool.not_eq_false'] at this;exact this
 have hb:jaw r=⟨r.id,r.aOF,4,vv jy r.aOD r.aOD.length⟩:=jp2 (by simp [h,dG])
 rw [hb];simp only [go_sem,h1];generalize gJ:r.aOD=ts0 at*;refine kW (qm (β:=7000000) Tryz.func173 jbn (by simp) ?_)
 unfold ja4;simp only [go_sem];intro b72 b74;refine qP (λi:Nat=>St.of [(1,Ni 4),(2,Bx 2 b72),(4,Bx 4 b74),(5,Ni i)] [(200,ZRn b2 tRn),(2,ja7 b72 tRn ⟨r.id,r.aOF,r.aOG,vv jy ts0 i⟩ (bI 5) (bI 7)),(4,ZRn b74 tRn)]) (λi=>i<=ts0.length) (λi=>ts0.length-i) 0 (js [200,700000200,700000400] (by simp only [go_sem,js5]<;>trivial)) ?_
 rintro j hj;have dX:=zw (f:=jy) (ts:=ts0) (k:=j);by_cases aB:j<ts0.length
 ·have aA:(j:Int)<ts0.length:=by omega
  have dK:=qN j;obtain ⟨y,hy⟩:=ja aB;have fP:=jgu (f:=jy) hy;have cU:=jgt (f:=jy) hy;generalize vv jy ts0 j=M at*;have lJ:j<M.length:=by omega
  have hw:=kw j;simp only [go_sem,dX,aA,dK,aB,jvi fP,jjv fP,jz];intro b6;cases gB:y.aOG !=4
  ·have lS:y.aOG=4:=by simpa using gB
   have nU:jy j y=y:=by simp [jy,lS]
   have hg:jy j y=⟨y.aOG,y.aOO,y.tri,y.til⟩:=nU;rw [hg] at cU;simp only [go_sem,dX,dK,aB,jcg y.aOG y.aOO y.tri y.til lJ,cU,jjv fP,hw];exact qc (j+1) (js [200,2,4])
  cases sB:y.aOG !=5
  ·have uC:y.aOG=5:=by simpa using sB
   have nU:jy j y=y:=by simp [jy,uC]
   have hg:jy j y=⟨y.aOG,y.aOO,y.tri,y.til⟩:=nU;rw [hg] at cU;simp only [go_sem,aPO,dX,dK,aB,sB,jcg y.aOG y.aOO y.tri y.til lJ,cU,jjv fP,hw];exact qc (j+1) (js [200,2,4])
  ·have hg:jy j y=⟨6,y.aOO,y.tri,0⟩:=by
    have h1:¬y.aOG=4:=by simpa using gB
    have h2:¬y.aOG=5:=by simpa using sB
    simp [jy,h1,h2]
   rw [hg] at cU;simp only [go_sem,aPO,dX,dK,aB,sB,jcg 6 y.aOO y.tri 0 lJ,cU,jjv fP,hw];exact qc (j+1) (js [200,2,4])
 have aA:¬(j:Int)<ts0.length:=by omega
 obtain rfl:j=ts0.length:=by omega
 generalize vv jy ts0 ts0.length=M at*;simp only [go_sem,dX,aA]
theorem jmh (r:Rn) (cW:r.aOF.aOI.length<=4000000) (ht:r.aOD.length<=4000000):jZ Tryz.prog 143 [.agg (jd r)] (.agg (jd (jaw r))):=by
 refine pf_ jiU ?_;unfold jfv;simp only [go_sem,jd,je];intro b1 b2;refine jk (jeR r cW ht) λbI=>?_
 simp only [go_sem,jd,je];intro b3;refine jk (ji9 r cW) λη=>?_
 simp only [go_sem];cases h:kI r
 ·have hb:jaw r=r:=jkf (by simp [h])
  simp only [go_sem,hb]
 cases h1:r.aOG==1
 ·have hb:jaw r=r:=jkf (by simp [h,h1])
  simp only [go_sem,h1,hb]
 have hb:jaw r=⟨r.id,r.aOF,4,vv jy r.aOD r.aOD.length⟩:=jp2 (by simp [h,h1])
 have h5:=jFe (runOk_iff.1 h) (by simpa using h1)
 rw [hb,<-juM h5];simp only [go_sem,h1];generalize gJ:r.aOD=ts0 at*;refine kW (qm (β:=8000000) Tryz.func171 jdC (by simp) ?_)
 unfold jdV;simp only [go_sem,aPO];refine qP (λi:Nat=>St.of [(0,Bx 300 b3),(1,Ni (-1)),(10,Ni ts0.length),(11,Ni i)] [(200,ZRn b2 tRn),(300,ja7 b3 tRn ⟨r.id,r.aOF,r.aOG,vv (qz (-1)) ts0 i⟩ (bI 5) (bI 7))]) (λi=>i<=ts0.length) (λi=>ts0.length-i) 0 (js [200,300] (by simp only [go_sem,js5]<;>trivial)) ?_
 rintro j hj;have dX:=zw (f:=qz (-1)) (ts:=ts0) (k:=j);by_cases aB:j<ts0.length
 ·have aA:(j:Int)<ts0.length:=by omega
  have dK:=qN j;obtain ⟨y,hy⟩:=ja aB;have fP:=jgu (f:=qz (-1)) hy;have cU:=jgt (f:=qz (-1)) hy;have m9:=jpY (f:=qz (-1)) hy;generalize vv (qz (-1)) ts0 j=M at*;have hw:=kw j;have lJ:j<M.length:=by omega
  have bS:¬(j:Int)=-1:=by omega
  have aK:((j:Int) !=-1)=true:=by simp only [bne,Bool.not_eq_true',beq_eq_false_iff_ne];exact bS
  cases gB:y.aOG !=4
  ·have hg:qz (-1) j y=y:=by have:y.aOG=4:=by simpa using gB
                             simp [qz,this]
   have hq:=m9 hg;simp only [go_sem,aPO,dX,aA,dK,aB,aK,jhQ fP,vP fP,gB,hw];exact qc (j+1) (js [200,300] (by simp only [go_sem,hq]<;>trivial))
  ·have hg:qz (-1) j y=⟨6,y.aOO,y.tri,0⟩:=by
    have h1:¬y.aOG=4:=by simpa using gB
    simp [qz,h1,bS]
   rw [hg] at cU;have nO:(M.set j ⟨6,y.aOO,y.tri,y.til⟩)[j]?=some ⟨6,y.aOO,y.tri,y.til⟩:=aOY lJ;simp only [go_sem,aPO,dX,aA,dK,aB,aK,jhQ fP,vP fP,gB,jch fP,jfG nO,jlf nO,aQB,cU,hw];exact qc (j+1) (js [200,300])
 have aA:¬(j:Int)<ts0.length:=by omega
 obtain rfl:j=ts0.length:=by omega
 generalize vv (qz (-1)) ts0 ts0.length=M at*;simp only [go_sem,aA]
theorem jn5 (y:Yd) (id:Int) (ht:jB y<=2000000):jZ Tryz.prog 150 [.agg (jb y),.c (.val (.int .i64 id))] (.tup [(true,jb (kT y id)),(false,[.val (.int .i64 (qp y id))])]):=by
 refine pf_ jjM ?_;unfold jhx;simp only [go_sem,jb];intro b2 b4;refine jk (kp y ht) λbI=>?_
 simp only [go_sem,jb];intro b6;refine jk (qf y id) λη=>?_
 simp only [go_sem];refine jk (qb y ht) λη=>?_
 simp only [go_sem];cases aR:jt y
 ·have hc:qp y id=8:=by simp [qp,aR]
  have hy:kT y id=y:=by simp [kT,hc]
  simp only [go_sem,hc,hy]
  apply qa
  simp only [go_sem]
 by_cases aV:runAt y id<0
 ·have hc:qp y id=10:=by simp [qp,aR,aV]
  have hy:kT y id=y:=by simp [kT,hc]
  simp only [go_sem,aV,hc,hy]
  apply qa
  simp only [go_sem]
 obtain ⟨k,r,cD,hr,hid,h8⟩:=qk aV;have hk:=(aOS.1 hr).1;have bL:=qN k;have cI:¬(k:Int)<0:=by omega
 have eF:(y.aOH[(runAt y id).toNat]?).getD default=r:=by rw [cD,aPB,hr];rfl
 cases aJ:r.aOG !=1;rotate_left
 ·have fN:¬r.aOG=1:=by simpa using aJ
  have hc:qp y id=12:=by unfold qp;rw [if_neg (by simp [aR]),if_neg aV,eF,if_neg fN]
  have hy:kT y id=y:=by simp [kT,hc]
  simp only [go_sem,cD,cI,bL,hk,jR hr,jd,je,aJ,hc,hy]
  apply qa
  simp only [go_sem]
 have fN:r.aOG=1:=by simpa using aJ
 have hc:qp y id=0:=by unfold qp;rw [if_neg (by simp [aR]),if_neg aV,eF,if_pos fN]
 have hy:kT y id=ji5 y k (jaw r):=by rw [kT,if_pos hc,eF,cD,aPB]
 have fQ:=jde ht (aOT hr);rw [hc,hy,ji5];simp only [go_sem,cD,cI,bL,hk,jR hr,jlV hr,jgE hr,jd,je,aJ];refine jw (jmc r fQ.1 fQ.2) (by simp only [go_sem,jd,je,vB hr,vA hr]) λη=>?_
 simp only [go_sem,jd,je];simp only [go_sem,hk,jrl (jaw r) hk];refine ⟨jgE hr,λaH hη=>qa _ _ _ _ _ ?_⟩
 simp only [go_sem]
theorem jof (y:Yd) (id:Int) (ht:jB y<=2000000):jZ Tryz.prog 90 [.agg (jb y),.c (.val (.int .i64 id))] (.tup [(true,jb (kT y id)),(false,[.val (.int .i64 (qp y id))])]):=by
 refine pf_ jj3 ?_;unfold jhN;simp only [go_sem,jb];intro b2 b4;refine jk (kj y ht) λbI=>?_
 simp only [go_sem,jb];intro b6;refine jk (kQ y id) λη=>?_
 simp only [go_sem];refine jk (kn y ht) λη=>?_
 simp only [go_sem];cases aR:jt y
 ·have hc:qp y id=8:=by simp [qp,aR]
  have hy:kT y id=y:=by simp [kT,hc]
  simp only [go_sem,hc,hy]
  apply qa
  simp only [go_sem]
 by_cases aV:runAt y id<0
 ·have hc:qp y id=10:=by simp [qp,aR,aV]
  have hy:kT y id=y:=by simp [kT,hc]
  simp only [go_sem,aV,hc,hy]
  apply qa
  simp only [go_sem]
 obtain ⟨k,r,cD,hr,hid,h8⟩:=qk aV;have hk:=(aOS.1 hr).1;have bL:=qN k;have cI:¬(k:Int)<0:=by omega
 have eF:(y.aOH[(runAt y id).toNat]?).getD default=r:=by rw [cD,aPB,hr];rfl
 cases aJ:r.aOG !=1;rotate_left
 ·have fN:¬r.aOG=1:=by simpa using aJ
  have hc:qp y id=12:=by unfold qp;rw [if_neg (by simp [aR]),if_neg aV,eF,if_neg fN]
  have hy:kT y id=y:=by simp [kT,hc]
  simp only [go_sem,cD,cI,bL,hk,jR hr,jd,je,aJ,hc,hy]
  apply qa
  simp only [go_sem]
 have fN:r.aOG=1:=by simpa using aJ
 have hc:qp y id=0:=by unfold qp;rw [if_neg (by simp [aR]),if_neg aV,eF,if_pos fN]
 have hy:kT y id=ji5 y k (jaw r):=by rw [kT,if_pos hc,eF,cD,aPB]
 have fQ:=jde ht (aOT hr);rw [hc,hy,ji5];simp only [go_sem,cD,cI,bL,hk,jR hr,jd,je,aJ];refine jk (jmh r fQ.1 fQ.2) λη=>?_
 simp only [go_sem,jd,je];simp only [go_sem,hk,jrl (jaw r) hk];refine ⟨jgE hr,λaH hη=>qa _ _ _ _ _ ?_⟩
 simp only [go_sem]
noncomputable def jcZ (y:Yd) (id aOK tri:Int):Yd:=if jbt y id aOK tri=0 then kP y (runAt y id).toNat (jC ((y.aOH[(runAt y id).toNat]?).getD default) aOK) else y
def jlL:C:=iS [iA 4 (.box 27 4 (.t 0)),iA 8 wAL,aN 9 0] (iS [aT 13 4 4,iA 14 (iK 67 [13]),iA 10 wAL,wAA 10 14] (iS [aT 15 4 4,aM 16 1,aM 17 2,aM 18 3,iA 19 (iK 189 [15,16,17,18]),aM 11 19] (.seq (iS [aM 20 11,aQ 21 .neq 3 20 0] (iD 21 (iS [aT 22 4 10,aM 23 11,wAA 8 22,aM 9 23] .ret) .skip)) (iS [aT 24 4 4,aM 25 1,iA 26 (iK 26 [24,25]),aM 12 26] (.seq (.dreg (tA 0 27 (iT 4 10) (tA 1 28 (iM 12) (tA 2 29 (iF 3 10) (tA 3 30 (iL 29) (tA 4 31 (iM 12) (tA 5 32 (iI 8 30 31) (tA 6 33 (iT 8 32) (tA 7 34 (iM 2) (tC 35 (iK 120 [33,34]) [1,0] (tC 36 (iK 119 [27,28,35]) [] (.alt (wAA 8 36) [] (tA 11 9 (iN 0) .done) .stop) .stop) .stop)))))))))) .ret)))))
theorem jmp:fnC Tryz.prog Tryz.f149=some (jlL,[.cell 8 true 4,.t 9],37):=by kernel_rfl
theorem jrp (y:Yd) (id aOK tri:Int) (ht:jB y<=2000000):jZ Tryz.prog 149 [.agg (jb y),.c (.val (.int .i64 id)),.c (.val (.int .i64 aOK)),.c (.val (.int .i64 tri))] (.tup [(true,jb (jcZ y id aOK tri)),(false,[.val (.int .i64 (jbt y id aOK tri))])]):=by
 refine vx [[1,1,1,1,1,0]] Tryz.func149 jmp (by simp) ?_
 unfold jlL;simp only [C.ghs,C.ghAt,List.foldr];simp only [go_sem,jb];intro b4 b8;refine jk (kp y ht) λbI=>?_
 simp only [go_sem,jb];intro b10;refine jk (jgq y id aOK tri ht) λη=>?_
 simp only [go_sem];cases h0:jbt y id aOK tri !=0;rotate_left
 ·have hy:jcZ y id aOK tri=y:=by rw [jcZ,if_neg (by simpa using h0)]
  simp only [go_sem,hy]
  apply qa
  simp only [go_sem]
 have eU:jbt y id aOK tri=0:=by simpa using h0
 obtain ⟨aR,aV⟩:=jmx eU;obtain ⟨k,r,cD,hr,hid,h8⟩:=qk aV;have hk:=(aOS.1 hr).1;have bL:=qN k;have cI:¬(k:Int)<0:=by omega
 have hY:jcZ y id aOK tri=kP y k (jC r aOK):=by rw [jcZ,if_pos eU,cD,aPB,hr,aPA]
 rw [hY,eU];simp only [go_sem];refine jk (qf y id) λη=>?_
 simp only [go_sem];refine ky ?_;refine WkK.wk (s':=St.of [(2,Ni aOK),(8,Bx 92 b8),(10,Bx 90 b10),(12,Ni k)] [(92,ZYd b8 tYd),(90,jX b10 tYd y.now y.seq y.aOE (bI 2) y.aOH (bI 3))]) (js [800,1000] (by simp only [go_sem,cD]<;>trivial)) ?_
 refine WkK.of ?_;have fQ:=jde ht (aOT hr);simp only [go_sem,bL,hk,jlV hr,jgE hr,jd,je];refine jw (jaV r aOK fQ.1 fQ.2) (by simp only [go_sem,jd,je,vB hr,vA hr]) λdO=>?_
 simp only [go_sem,jd,je];have cH:(jC r aOK).aOD.length=r.aOD.length:=qe r aOK;have lU:r.aOD.length<=12:=(aR.right r (aOT hr)).le12;generalize jC r aOK=r2 at*;refine zP [some 90,some 92,some 3505,some 3507] [(90,jX b10 tYd y.now y.seq y.aOE (bI 2) y.aOH (bI 3)),(92,ZYd b8 tYd),(97,.loose (jn r2.aOF.aOI) (dO 5)),(98,.loose (ju r2.aOD) (dO 7))] [.agg [.v (.int .i64 y.now),.v (.int .i64 y.seq),.h 90 2 [] (bI 2 []),.h 90 3 [] (bI 3 [])],Ni k,.agg [.v (.int .i64 r2.id),.v (.int .i64 r2.aOF.aOL),.v (.int .i64 r2.aOF.aOQ),.v (.int .i64 r2.aOF.aOP),.v (.int .i64 r2.aOF.aOD),.h 97 0 [] (dO 5 []),.v (.int .i64 r2.aOG),.h 98 0 [] (dO 7 [])]] (by simp only [go_sem]<;>and_intros<;>rfl) (by simp only [go_sem]<;>and_intros<;>rfl) (jgD hr cH lU aR.four (by have:=aR.seq;omega) ht rfl rfl rfl) ?_
 rintro _ o1 ⟨c,g2,g3,x2,x3,rfl,j99,j90,j91,j92,j93,j94,j95,j96⟩;have j92':o1 92=ZYd b8 tYd:=j92;generalize kP y k r2=z2 at*;simp only [go_sem,j99,j92']
 apply qa
 simp only [go_sem]
def jlQ:C:=iS [iA 4 (.box 27 4 (.t 0)),iA 6 (.box 3 1 (.t 2)),iA 8 wAL,aN 9 0] (iS [aT 12 4 4,iA 13 (iK 61 [12]),iA 10 wAL,wAA 10 13] (iS [aT 14 4 4,aM 15 1,aL 16 6,aM 17 3,iA 18 (iK 122 [14,15,16,17]),aM 11 18] (.seq (iS [aM 19 11,aQ 20 .eql 3 19 0] (iD 20 (.reg [aT 21 4 4,aM 22 1,iA 23 (iK 25 [21,22]),iA 24 (.mkf 125 [.t 6]),iA 25 (iK 116 [10,23,24])]) .skip)) (iS [aT 26 4 10,aM 27 11,wAA 8 26,aM 9 27] .ret))))
theorem jmv:fnC Tryz.prog Tryz.f56=some (jlQ,[.cell 8 true 4,.t 9],28):=by kernel_rfl
def jhM:C:=.reg [aM 3 0,aL 4 1,iA 5 (iK 118 [3,4])]
theorem jj1:fnC Tryz.prog Tryz.f125=some (jhM,[],6):=by kernel_rfl
theorem jxX {k t b6:Nat} {y:Yd} {r:Rn} (hr:y.aOH[k]?=some r) (aW:vK r t=true):jyu Tryz.prog 125 [.bp 91 0 b6] (.box b6 jes [.a (.v (.int .i64 t))]) k y (jC r t):=by
 intro o b e2 e3 nK n5;refine jj5 (β:=6000000) Tryz.func125 jj1 (by simp) ?_
 unfold jhM;simp only [go_sem,n5];refine ku (by simp only [go_sem]) (joB hr aW _ b e2 e3 (by simp only [go_sem];exact nK)) ?_
 rintro _ o1 ⟨rfl,j90,j91,j92,j93,j94,j95,j96,j97⟩;simp only [go_sem] at j91 j92 j93 j94 j95 j96 j97;rw [n5] at j91;exact ⟨.tup [],⟨by decide,rfl⟩,rfl,rfl,j90,j91,j92,j93,j94,j95,j96,j97⟩
theorem jru (y:Yd) (id aOK tri:Int) (ht:jB y<=2000000):jZ Tryz.prog 56 [.agg (jb y),.c (.val (.int .i64 id)),.c (.val (.int .i64 aOK)),.c (.val (.int .i64 tri))] (.tup [(true,jb (jcZ y id aOK tri)),(false,[.val (.int .i64 (jbt y id aOK tri))])]):=by
 refine vx [[1,1,1,0,1,0]] Tryz.func56 jmv (by simp) ?_
 unfold jlQ;simp only [C.ghs,C.ghAt,List.foldr];simp only [go_sem,jb];intro b4 b6 b8;refine jk (kj y ht) λbI=>?_
 simp only [go_sem,jb];intro b10;refine jk (jkX y id aOK tri ht) λη=>?_
 simp only [go_sem];cases h0:jbt y id aOK tri==0
 ·have hy:jcZ y id aOK tri=y:=by rw [jcZ,if_neg (by simpa using h0)]
  simp only [go_sem,hy]
  apply qa
  simp only [go_sem]
 have eU:jbt y id aOK tri=0:=by simpa using h0
 obtain ⟨aR,aV⟩:=jmx eU;obtain ⟨k,r,cD,hr,hid,h8⟩:=qk aV;obtain ⟨t,rfl,aW⟩:=jtg eU cD hr;have hY:jcZ y id t tri=kP y k (jC r t):=by rw [jcZ,if_pos eU,cD,aPB,hr,aPA]
 have lU:r.aOD.length<=12:=(aR.right r (aOT hr)).le12;rw [hY,eU];simp only [go_sem];refine ky ?_;generalize bI 2=aS at*;generalize bI 3=bY at*;refine WkK.wk (s':=St.of [(1,Ni id),(4,Bx 93 b4),(6,Bx 91 b6),(8,Bx 92 b8),(10,Bx 90 b10),(11,Ni 0)] [(93,Bi b4 tYd (jb y)),(91,.box b6 jes [.a (.v (.int .i64 t))]),(92,ZYd b8 tYd),(90,jX b10 tYd y.now y.seq y.aOE aS y.aOH bY)]) (js [400,600,800,1000] (by simp only [go_sem,jb]<;>trivial)) ?_
 refine WkK.of ?_;simp only [go_sem,jb];refine jk (kQ y id) λη=>?_
 simp only [go_sem];rw [cD];refine ku (vs:=[Bx 90 b10,Ni k,.fn 125 [.bp 91 0 b6]]) (by simp only [go_sem]) (jeo hr (qe r t) lU aR.four (by have:=aR.seq;omega) ht (jxX hr aW) (e2:=aS) (e3:=bY) (by simp only [go_sem]) (by simp only [go_sem])) ?_
 rintro _ o1 ⟨rfl,⟨e2',e3',j90⟩,j91,j92,j93,j94,j95,j96⟩;simp only [go_sem] at j92;generalize kP y k (jC r t)=y2 at*;simp only [go_sem,j90,j92]
 apply qa
 simp only [go_sem]
def jc1 (id:Int) (e:En):Bool:=e.run !=id
noncomputable def ja3 (y:Yd) (id:Int):Int:=if jt y=false then 8 else if runAt y id<0 then 10 else if ((y.aOH[(runAt y id).toNat]?).getD default).aOG=1 then 13 else 0
noncomputable def jaL (y:Yd) (id:Int):Yd:=if ja3 y id=0 then ⟨y.now,y.seq,y.aOE.map (λl=>l.filter (jc1 id)),y.aOH.eraseIdx (runAt y id).toNat⟩ else y
def jet {α:Type} (f:α->α) (l:List α) (i:Nat):List α:=(l.take i).map f++l.drop i
section
variable {α:Type} {f:α->α} {l:List α} {i:Nat} {x:α}
theorem jwX:jet f l 0=l:=rfl
theorem jpV:(jet f l i).length=l.length:=by
 simp only [jet,aOU,aQI,aOZ,aPN];omega
theorem jpX:jet f l l.length=l.map f:=by simp [jet]
theorem jpW (h:l[i]?=some x):(jet f l i)[i]?=some x:=by
 have hi:=(aOS.1 h).1;have hl:((l.take i).map f).length=i:=by rw [aQI,aOZ];omega
 rw [jet,aQF (by omega),hl,aSK,aQU,aPO,h]
theorem jpU (h:l[i]?=some x):(jet f l i).set i (f x)=jet f l (i+1):=by
 have hi:=(aOS.1 h).1;have hl:((l.take i).map f).length=i:=by rw [aQI,aOZ];omega
 have hx:l[i]=x:=by rw [aOV hi] at h;exact aPJ h
 rw [jet,aSC _ _ (by omega),hl,aSK,aQT hi,List.set_cons_zero,jet,aPE,h]
 simp
end
theorem jxv {l:List En} {k:Nat} {e:En} (p:En->Bool) (h:l[k]?=some e):(l.take (k+1)).filter p=(l.take k).filter p++(if p e then [e] else []):=by
 rw [aPE,h,aRD];cases hp:p e<;>simp [hp]
section
variable {l:List En} {k:Nat} {x:En}
theorem jBv (hx:l[k]?=some x):((l.flatMap jj).drop (k*4+2)).take 1=[.val (.int .i64 x.run)]:=qK (enc:=jj) (size:=4) (λ_=>rfl) hx (j:=2) (n:=1) (by decide)
theorem jBc (hx:l[k]?=some x):k*4+2+1<=(l.flatMap jj).length:=ve (enc:=jj) (size:=4) (λ_=>rfl) hx (j:=2) (n:=1) (by decide)
end
section
variable {sh:List (List En)} {n:Nat} {l:List En}
theorem jte (h:n<sh.length):n+1<=(sh.flatMap λes=>[jf es]).length:=by have:=jaK h;rwa [aPK] at this
theorem jtL (h:sh[n]?=some l):((sh.flatMap λes=>[jf es]).drop n).take 1=[jf l]:=by have:=jbs h;rwa [aPK] at this
end
theorem jlm {rows:List D} (h:ka rows=true) (n m:Nat):ka (rows.take n)=true/\ka (rows.drop m)=true:=by
 have e1:ka (rows.take n++rows.drop n)=true:=by rw [aQR];exact h
 have e2:ka (rows.take m++rows.drop m)=true:=by rw [aQR];exact h
 rw [vQ,aPG] at e1 e2;exact ⟨e1.1,e2.2⟩
def jhv:C:=iS [iA 2 (.box 27 4 (.t 0)),iA 4 wAL,aN 5 0] (iS [aT 11 4 2,iA 12 (iK 67 [11]),iA 6 wAL,wAA 6 12] (iS [aT 13 4 2,aM 14 1,iA 15 (iK 26 [13,14]),aM 7 15] (.seq (.blk 0 (iS [aT 17 4 2,iA 18 (iK 66 [17]),aU 19 18,aM 16 19] (iD 16 (iS [aT 20 4 6,wAA 4 20,aN 5 8] .ret) (iS [aM 22 7,aQ 23 .lss 3 22 0,aM 21 23] (iD 21 (iS [aT 24 4 6,wAA 4 24,aN 5 10] .ret) (iS [aF 26 3 2,aL 27 26,aM 28 7,aI 29 8 27 28,aF 30 6 29,aL 31 30,aQ 32 .eql 3 31 1,aM 25 32] (iD 25 (iS [aT 33 4 6,wAA 4 33,aN 5 13] .ret) .skip))))))) (.seq (.dreg (tA 1 35 (iF 3 6) (tA 2 36 (iL 35) (tA 3 37 (iM 7) (tA 4 38 (.sl 8 (.t 36) none (some (.t 37))) (tA 6 40 (iF 3 6) (tA 7 41 (iL 40) (tA 8 42 (iM 7) (tA 9 43 (iQ .add 3 42 1) (tA 10 44 (.sl 8 (.t 41) (some (.t 43)) none) (tC 34 (.bsl 52 8 0 [] []) [10,9,8,7,6,4,3,2,1] (tC 39 (wA9 34 38) [10,9,8,7,6] (tC 45 (wA9 39 44) [] (tA 12 46 (iF 3 6) (.alt (wAI 46 45) [] .done .stop)) .stop) .stop) .stop))))))))))) (.seq (iS [aN 8 0] (.blk 1 (.loop (.seq (iS [aM 47 8,aF 48 2 6,aL 49 48,aG 50 49,aP 51 .lss 3 47 50] (iD 51 .skip (.exit 1))) (.seq (.blk 2 (iS [iA 54 (wAZ []),aM 9 54] (.seq (iS [aN 10 0] (.blk 3 (.loop (.seq (iS [aM 55 10,aF 56 2 6,aL 57 56,aM 58 8,aI 59 1 57 58,aL 60 59,aG 61 60,aP 62 .lss 3 55 61] (iD 62 .skip (.exit 3))) (.seq (.blk 4 (iS [aF 65 2 6,aL 66 65,aM 67 8,aI 68 1 66 67,aL 69 68,aM 70 10,aI 71 4 69 70,aF 72 2 71,aL 73 72,aM 74 1,aP 75 .neq 3 73 74] (iD 75 (.reg [aM 76 9,aF 77 2 6,aL 78 77,aM 79 8,aI 80 1 78 79,aL 81 80,aM 82 10,aI 83 4 81 82,aT 84 4 83,iA 85 (wA0 [(0,4,.t 84)]),iA 86 (wA8 76 85),aM 9 86]) .skip))) (.reg [aM 63 10,aQ 64 .add 3 63 1,aM 10 64])))))) (.reg [aF 87 2 6,aL 88 87,aM 89 8,aM 90 9,aI 91 1 88 89,wAE 91 90])))) (.reg [aM 52 8,aQ 53 .add 3 52 1,aM 8 53])))))) (iS [aT 92 4 6,wAA 4 92,aN 5 0] .ret))))))
theorem jjK:fnC Tryz.prog Tryz.f151=some (jhv,[.cell 4 true 4,.t 5],93):=by kernel_rfl
def jhL:C:=iS [iA 2 (.box 27 4 (.t 0)),iA 3 (.box 3 1 (.t 1)),iA 4 wAL,aN 5 0] (iS [aT 9 4 2,iA 10 (iK 61 [9]),iA 6 wAL,wAA 6 10] (iS [aT 11 4 2,aL 12 3,iA 13 (iK 25 [11,12]),aM 7 13] (.seq (.blk 0 (iS [aT 15 4 2,iA 16 (iK 18 [15]),aU 17 16,aM 14 17] (iD 14 (iS [aT 18 4 6,wAA 4 18,aN 5 8] .ret) (iS [aM 20 7,aQ 21 .lss 3 20 0,aM 19 21] (iD 19 (iS [aT 22 4 6,wAA 4 22,aN 5 10] .ret) (iS [aF 24 3 2,aL 25 24,aM 26 7,aI 27 8 25 26,aF 28 6 27,aL 29 28,aQ 30 .eql 3 29 1,aM 23 30] (iD 23 (iS [aT 31 4 6,wAA 4 31,aN 5 13] .ret) .skip))))))) (iS [aF 32 3 6,aL 33 32,aM 34 7,aM 35 7,aQ 36 .add 3 35 1,iA 37 (iK 144 [33,34,36]),aF 38 3 6,wAI 38 37] (.seq (iS [aF 39 2 6,aL 40 39,aG 41 40,aN 42 0] (.blk 1 (.loop (iS [aP 43 .lss 3 42 41] (.seq (iD 43 .skip (.exit 1)) (.seq (.blk 2 (iS [aM 44 42,aM 8 44] (.dreg (tA 0 45 (iF 2 6) (tA 1 46 (iL 45) (tA 2 47 (iM 8) (tA 3 48 (iF 2 6) (tA 4 49 (iL 48) (tA 5 50 (iM 8) (tA 6 51 (iI 1 49 50) (tA 7 52 (iL 51) (tA 8 53 (.mkf 145 [.t 3]) (tC 54 (iK 85 [52,53]) [2,1,0] (tA 10 55 (iI 1 46 47) (.alt (wAE 55 54) [] .done .stop)) .stop))))))))))))) (.reg [aQ 56 .add 3 42 1,aM 42 56]))))))) (iS [aT 57 4 6,wAA 4 57,aN 5 0] .ret))))))
theorem jj0:fnC Tryz.prog Tryz.f91=some (jhL,[.cell 4 true 4,.t 5],58):=by kernel_rfl
def jd1:C:=iS [iA 2 (.box 44 4 (.t 0)),aO 3 false] (iS [aF 4 2 2,aL 5 4,aL 6 1,aP 7 .eql 3 5 6,aM 3 7] .ret)
theorem jhf:fnC Tryz.prog Tryz.f145=some (jd1,[.t 3],8):=by kernel_rfl
theorem jn3 (y:Yd) (id:Int) (ht:jB y<=2000000):jZ Tryz.prog 151 [.agg (jb y),.c (.val (.int .i64 id))] (.tup [(true,jb (jaL y id)),(false,[.val (.int .i64 (ja3 y id))])]):=by
 refine vx [[1,1,1,1,0],[1,1,1,1,1,0,0]] Tryz.func151 jjK (by simp) ?_
 unfold jhv;simp only [C.ghs,C.ghAt,List.foldr];simp only [go_sem,jb];intro b2 b4;refine jk (kp y ht) λbI=>?_
 simp only [go_sem,jb];intro b6;refine jk (qf y id) λη=>?_
 simp only [go_sem];refine jk (qb y ht) λη=>?_
 simp only [go_sem];cases aR:jt y
 ·have hc:ja3 y id=8:=by simp [ja3,aR]
  have hy:jaL y id=y:=by rw [jaL,if_neg (by rw [hc];decide)]
  simp only [go_sem,hc,hy]
  apply qa
  simp only [go_sem]
 have hP:=yard_iff.1 aR;by_cases aV:runAt y id<0
 ·have hc:ja3 y id=10:=by rw [ja3,if_neg (by rw [aR];decide),if_pos aV]
  have hy:jaL y id=y:=by rw [jaL,if_neg (by rw [hc];decide)]
  simp only [go_sem,aV,hc,hy]
  apply qa
  simp only [go_sem]
 obtain ⟨k,r,cD,hr,hid,h8⟩:=qk aV;have hk:=(aOS.1 hr).1;have bL:=qN k;have cI:¬(k:Int)<0:=by omega
 have eF:((y.aOH[(runAt y id).toNat]?).getD default)=r:=by rw [cD,aPB,hr,aPA]
 cases aJ:r.aOG==1;rotate_left
 ·have fN:r.aOG=1:=by simpa using aJ
  have hc:ja3 y id=13:=by rw [ja3,if_neg (by rw [aR];decide),if_neg aV,eF,if_pos fN]
  have hy:jaL y id=y:=by rw [jaL,if_neg (by rw [hc];decide)]
  simp only [go_sem,cD,cI,bL,hk,jR hr,jd,je,aJ,hc,hy]
  apply qa
  simp only [go_sem]
 have fN:¬r.aOG=1:=by simpa using aJ
 have hc:ja3 y id=0:=by rw [ja3,if_neg (by rw [aR];decide),if_neg aV,eF,if_neg fN]
 rw [hc,jaL,if_pos hc,cD,aPB];simp only [go_sem,cI,bL,hk,jR hr,jd,je,aJ];refine ky ?_;generalize bI 2=aS at*;generalize bI 3=bY at*;refine WkK.wk (s':=St.of [(1,Ni id),(4,Bx 92 b4),(6,Bx 90 b6),(7,Ni k)] [(92,ZYd b4 tYd),(90,jX b6 tYd y.now y.seq y.aOE aS y.aOH bY)]) (js [400,600]) ?_
 refine jkq 90 3 y.aOH [] 1000000000000 _ bY rfl (by decide) (λj hj=>by
  show (if j=92 then _ else if j=90 then _ else Ob.none)=Ob.none
  rw [if_neg (by omega),if_neg (by omega)]) λrows fam aH gG hη=>?_
 refine WkK.wk (joW [some 92,some 90] (T:=[(1,Ni id),(4,Bx 92 b4),(6,Bx 90 b6),(7,Ni k)]) (O:=[(92,ZYd b4 tYd),(90,vC b6 tYd y.now y.seq y.aOE aS (.sl 8 tRn rows) aH)]) (b:=1000000000000) (fam:=fam) (by simp only [go_sem]<;>trivial) (λj hj=>by
  show (if 1000000000000<=j then _ else _)=_
  rw [if_pos hj]) (by decide)) ?_
 refine WkK.of ?_;have cH:=gG.len;have f8:=gG.flat;obtain ⟨fU,l0⟩:=jlm f8 (k*8) ((k+1)*8)
 have fV:(D.sl 8 tRn rows).len=y.aOH.length:=by
  simp only [D.len,D.cells,D.size,cH];exact aPZ _ (by decide)
 have fK:=kw k;have lY:k+1<=y.aOH.length:=hk;have o8:k<=y.aOH.length:=by omega
 have z8:((k+1:Nat):Int)>=0:=by omega
 have rN:List.take ((k+1+(y.aOH.length-(k+1))-(k+1))*8) (List.drop ((k+1)*8) rows)=List.drop ((k+1)*8) rows:=aOW (by rw [aPN,cH];omega)
 have tI:k+1+(y.aOH.length-(k+1))<=y.aOH.length:=by omega
 have mQ:(List.take (k*8) rows).length/8=k:=by rw [aOZ,cH,aQL (by omega)];exact aPZ _ (by decide)
 have fC:(List.drop ((k+1)*8) rows).length/8=y.aOH.length-(k+1):=by
  rw [aPN,cH,show y.aOH.length*8-(k+1)*8=(y.aOH.length-(k+1))*8 by omega];exact aPZ _ (by decide)
 have m1:k<=maxLen:=vT;have m2:k*96<=140737488355328:=by omega
 have m3:k+(y.aOH.length-(k+1))<=maxLen:=vT;have m4:(k+(y.aOH.length-(k+1)))*96<=140737488355328:=by omega
 simp only [go_sem,fV,fK,lY,o8,bL,z8,fU,l0,aPD,rN,tI,mQ,fC,m1,m2,m3,m4];intro aHW aHV wY;refine ky ?_
 refine WkK.wk (joW [some 92,some 90] (T:=[(1,Ni id),(4,Bx 92 b4),(6,Bx 90 b6)]) (O:=[(92,ZYd b4 tYd),(90,vC b6 tYd y.now y.seq y.aOE aS (.sl 8 tRn (rows.take (k*8)++rows.drop ((k+1)*8))) wY)]) (b:=1000000000000) (fam:=fam) (by simp only [go_sem]<;>trivial) (λj hj=>by
  simp only [go_sem]
  repeat rw [if_neg (by omega)]
  rw [if_pos hj]) (by decide)) ?_
 refine WkK.wk (joX (b:=1000000000000) (fam:=fam) (λj=>if j<2*k then j else j+2) (λi j h=>by
  split at h<;>split at h<;>omega) (λj hj=>by
  show (if 1000000000000<=j then _ else _)=_
  rw [if_pos hj])) ?_
 refine jfB 90 3 (y.aOH.eraseIdx k) [] 1000000000000 _ wY (rows.take (k*8)++rows.drop ((k+1)*8)) _ (gG.erase hk) rfl (by decide) (λj hj=>by
  show (if 1000000000000<=j then _ else _)=_
  rw [if_pos hj]) λsM _=>?_
 generalize y.aOH.eraseIdx k=R at*;refine WkK.wk (s':=St.of [(1,Ni id),(4,Bx 92 b4),(6,Bx 90 b6)] [(92,ZYd b4 tYd),(90,jX b6 tYd y.now y.seq y.aOE aS R sM)]) (js [92,90]) ?_;refine WkK.of ?_;have fH:y.aOE.length=4:=hP.four;simp only [go_sem];refine qP (λi:Nat×jg=>St.of [(1,Ni id),(4,Bx 92 b4),(6,Bx 90 b6),(8,Ni i.1)] [(92,ZYd b4 tYd),(90,jX b6 tYd y.now y.seq (jet (λl=>l.filter (jc1 id)) y.aOE i.1) i.2 R sM)]) (λi=>i.1<=y.aOE.length) (λi=>y.aOE.length-i.1) (0,aS) (js [92,90] (by simp only [go_sem,jwX]<;>trivial)) ?_
 rintro ⟨n,η⟩ hn;dsimp only at hn;have dX:=jpV (f:=λl=>List.filter (jc1 id) l) (l:=y.aOE) (i:=n)
 by_cases aB:n<y.aOE.length
 ·obtain ⟨l,hl⟩:=ja aB
  have pN:=jpW (f:=λl=>List.filter (jc1 id) l) hl
  have y7:=jpU (f:=λl=>List.filter (jc1 id) l) hl
  have eR:=zq ht (aOT hl);have gI:=kw n;have hU:=qN n;generalize hS:jet (λl=>List.filter (jc1 id) l) y.aOE n=S at*
  have wO:n<S.length:=by omega
  have aA:(n:Int)<S.length:=by omega
  simp only [go_sem,aA];intro i7;refine qP (λi:Nat×jg=>St.of [(1,Ni id),(4,Bx 92 b4),(6,Bx 90 b6),(8,Ni n),(9,Hd 9 i.2),(10,Ni i.1)] [(92,ZYd b4 tYd),(90,jX b6 tYd y.now y.seq S η R sM),(9,.loose (jf ((l.take i.1).filter (jc1 id))) i.2)]) (λi=>i.1<=l.length) (λi=>l.length-i.1) (0,i7) (js [92,90,5400] (by simp only [go_sem,aQH,List.filter_nil,jif]<;>trivial)) ?_
  rintro ⟨j,mA⟩ hj;dsimp only at hj;by_cases d7:j<l.length
  ·have bB:(j:Int)<l.length:=by omega
   have dK:=qN j;obtain ⟨e,he⟩:=ja d7;have cZ:=kw j;have e9:=jxv (jc1 id) he;have hFl:((l.take j).filter (jc1 id)).length<=l.length:=aQJ (aPT _ _) (by rw [aOZ];omega)
   generalize (l.take j).filter (jc1 id)=F at*;have n1:F.length+1<=maxLen:=vT;have n2:(F.length+1)*32<=140737488355328:=by omega
   cases cY:e.run !=id
   ·have hp:jc1 id e=false:=cY
    rw [hp,if_neg (by decide),aPR] at e9
    simp only [go_sem,wO,hU,aPK,jtL pN,jte wO,qn pN,bB,d7,dK,jBv he,jBc he,cY,cZ];exact qc (j+1,mA) (js [92,90,9] (by simp only [go_sem,e9]<;>trivial))
   ·have hp:jc1 id e=true:=cY
    rw [hp,if_pos rfl] at e9;simp only [go_sem,wO,hU,aPK,jtL pN,jte wO,qn pN,bB,d7,dK,jBv he,jBc he,cY,cZ,jvj he,juU he,jj,n1,n2,jxz,kE];intro ηx ηy;exact qc (j+1,ηy) (js [92,90,8600] (by simp only [go_sem,e9]<;>trivial))
  ·have bB:¬(j:Int)<l.length:=by omega
   obtain rfl:j=l.length:=by omega
   rw [aRC];simp only [go_sem,wO,hU,aPK,jtL pN,jte wO,qn pN,bB,jbv,y7,gI];refine λg' dE=>?_
   exact qc (n+1,g') (js [92,90])
 ·have aA:¬(n:Int)<(jet (λl=>List.filter (jc1 id) l) y.aOE n).length:=by omega
  obtain rfl:n=y.aOE.length:=by omega
  simp only [go_sem,aA];rw [jpX]
  apply qa
  simp only [go_sem]
theorem jwM (id:Int) (e:En):jZ Tryz.prog 145 [.agg (jj e),.ptr [iv id]] (.c (.val (.bool (!jc1 id e)))):=by
 refine pf_ jhf ?_;unfold jd1;have hb:(!jc1 id e)=(e.run==id):=by simp [jc1,bne]
 simp only [go_sem,jj,hb]
theorem jod (y:Yd) (id:Int) (ht:jB y<=2000000):jZ Tryz.prog 91 [.agg (jb y),.c (.val (.int .i64 id))] (.tup [(true,jb (jaL y id)),(false,[.val (.int .i64 (ja3 y id))])]):=by
 refine vx [[1,1,1,1,0],[1,1,1,1,1,0,0]] Tryz.func91 jj0 (by simp) ?_
 unfold jhL;simp only [C.ghs,C.ghAt,List.foldr];simp only [go_sem,jb];intro b2 b3 b4;refine jk (kj y ht) λbI=>?_
 simp only [go_sem,jb];intro b6;refine jk (kQ y id) λη=>?_
 simp only [go_sem];refine jk (kn y ht) λη=>?_
 simp only [go_sem];cases aR:jt y
 ·have hc:ja3 y id=8:=by simp [ja3,aR]
  have hy:jaL y id=y:=by rw [jaL,if_neg (by rw [hc];decide)]
  simp only [go_sem,hc,hy]
  apply qa
  simp only [go_sem]
 have hP:=yard_iff.1 aR;by_cases aV:runAt y id<0
 ·have hc:ja3 y id=10:=by rw [ja3,if_neg (by rw [aR];decide),if_pos aV]
  have hy:jaL y id=y:=by rw [jaL,if_neg (by rw [hc];decide)]
  simp only [go_sem,aV,hc,hy]
  apply qa
  simp only [go_sem]
 obtain ⟨k,r,cD,hr,hid,h8⟩:=qk aV;have hk:=(aOS.1 hr).1;have bL:=qN k;have cI:¬(k:Int)<0:=by omega
 have eF:((y.aOH[(runAt y id).toNat]?).getD default)=r:=by rw [cD,aPB,hr,aPA]
 cases aJ:r.aOG==1;rotate_left
 ·have fN:r.aOG=1:=by simpa using aJ
  have hc:ja3 y id=13:=by rw [ja3,if_neg (by rw [aR];decide),if_neg aV,eF,if_pos fN]
  have hy:jaL y id=y:=by rw [jaL,if_neg (by rw [hc];decide)]
  simp only [go_sem,cD,cI,bL,hk,jR hr,jd,je,aJ,hc,hy]
  apply qa
  simp only [go_sem]
 have fN:¬r.aOG=1:=by simpa using aJ
 have hc:ja3 y id=0:=by rw [ja3,if_neg (by rw [aR];decide),if_neg aV,eF,if_neg fN]
 rw [hc,jaL,if_pos hc,cD,aPB];simp only [go_sem,cI,bL,hk,jR hr,jd,je,aJ];refine ky ?_;generalize bI 2=aS at*;generalize bI 3=bY at*;refine WkK.wk (s':=St.of [(3,Bx 91 b3),(4,Bx 92 b4),(6,Bx 90 b6),(7,Ni k)] [(91,.box b3 jes [.a (.v (.int .i64 id))]),(92,ZYd b4 tYd),(90,jX b6 tYd y.now y.seq y.aOE aS y.aOH bY)]) (js [300,400,600]) ?_
 refine jkq 90 3 y.aOH [] 1000000000000 _ bY rfl (by decide) (λj hj=>by
  show (if j=91 then _ else if j=92 then _ else if j=90 then _ else Ob.none)=Ob.none
  rw [if_neg (by omega),if_neg (by omega),if_neg (by omega)]) λrows fam aH gG hη=>?_
 refine WkK.wk (joW [some 91,some 92,some 90] (T:=[(3,Bx 91 b3),(4,Bx 92 b4),(6,Bx 90 b6),(7,Ni k)]) (O:=[(91,.box b3 jes [.a (.v (.int .i64 id))]),(92,ZYd b4 tYd),(90,vC b6 tYd y.now y.seq y.aOE aS (.sl 8 tRn rows) aH)]) (b:=1000000000000) (fam:=fam) (by simp only [go_sem]<;>trivial) (λj hj=>by
  show (if 1000000000000<=j then _ else _)=_
  rw [if_pos hj]) (by decide)) ?_
 refine qD 90 3 95 (d:=.sl 8 tRn rows) (η:=aH) rfl rfl (by decide) λeK=>?_
 refine WkK.wk (joW [some 91,some 92,some 90,some 95] (T:=[(3,Bx 91 b3),(4,Bx 92 b4),(6,Bx 90 b6),(7,Ni k)]) (O:=[(91,.box b3 jes [.a (.v (.int .i64 id))]),(92,ZYd b4 tYd),(90,.box b6 tYd [.a (.v (.int .i64 y.now)),.a (.v (.int .i64 y.seq)),.own (ke y.aOE) aS,.a (.v (aH []))]),(95,.loose (.sl 8 tRn rows) aH)]) (b:=1000000000000) (fam:=fam) (by simp only [go_sem]<;>trivial) (λj hj=>by
  simp only [go_sem]
  repeat rw [if_neg (by omega)]
  rw [if_pos hj]) (by decide)) ?_
 refine WkK.of ?_;have cH:=gG.len;have f8:=gG.flat;obtain ⟨fU,l0⟩:=jlm f8 (k*8) ((k+1)*8)
 have fV:(D.sl 8 tRn rows).len=y.aOH.length:=by
  simp only [D.len,D.cells,D.size,cH];exact aPZ _ (by decide)
 have fK:IntKind.i64.wrap ((k:Int)+1)=(k:Int)+1:=zm;have lY:k+1<=y.aOH.length:=hk;have o8:k<=y.aOH.length:=by omega
 have z8:((k+1:Nat):Int)>=0:=by omega
 have rN:List.take ((k+1+(y.aOH.length-(k+1))-(k+1))*8) (List.drop ((k+1)*8) rows)=List.drop ((k+1)*8) rows:=aOW (by rw [aPN,cH];omega)
 have tI:k+1+(y.aOH.length-(k+1))<=y.aOH.length:=by omega
 have mQ:(List.take (k*8) rows).length/8=k:=by rw [aOZ,cH,aQL (by omega)];exact aPZ _ (by decide)
 have fC:(List.drop ((k+1)*8) rows).length/8=y.aOH.length-(k+1):=by
  rw [aPN,cH,show y.aOH.length*8-(k+1)*8=(y.aOH.length-(k+1))*8 by omega];exact aPZ _ (by decide)
 have m1:k<=maxLen:=vT;have m2:k*96<=140737488355328:=by omega
 have m3:k+(y.aOH.length-(k+1))<=maxLen:=vT;have m4:(k+(y.aOH.length-(k+1)))*96<=140737488355328:=by omega
 have hf3:ka (rows.take (k*8)++rows.drop ((k+1)*8))=true:=by rw [vQ,fU,l0];rfl
 simp only [go_sem,fK]
 refine jgg (R:=λrt o'=>rt=.c (.sl 8 tRn (rows.take (k*8)++rows.drop ((k+1)*8)))/\o' 90=.box b6 tYd [.a (.v (.int .i64 y.now)),.a (.v (.int .i64 y.seq)),.own (ke y.aOE) aS,.a (.v (aH []))]/\o' 91=.box b3 jes [.a (.v (.int .i64 id))]/\o' 92=ZYd b4 tYd/\∀j,1000000000000<=j->o' j=fam (j-1000000000000)) (by
  simp only [go_sem];refine (jyP rows y.aOH.length k f8 hf3 cH hk (g:=95) (η:=aH) (by simp only [go_sem])).mono λrt o' h=>?_
  obtain ⟨h1,rfl⟩:=h;refine ⟨h1,by simp only [go_sem],by simp only [go_sem],by simp only [go_sem],λj hj=>?_⟩
  simp only [go_sem]
  repeat rw [if_neg (by omega)]
  rw [if_pos hj]) λrt o' hR wZ=>?_
 obtain ⟨rfl,j90,j91,j92,jF⟩:=hR;simp only [go_sem,j90];refine ky ?_
 refine WkK.wk (joW [some 91,some 92,some 90] (T:=[(3,Bx 91 b3),(4,Bx 92 b4),(6,Bx 90 b6)]) (O:=[(91,.box b3 jes [.a (.v (.int .i64 id))]),(92,ZYd b4 tYd),(90,vC b6 tYd y.now y.seq y.aOE aS (.sl 8 tRn (rows.take (k*8)++rows.drop ((k+1)*8))) (wZ 0))]) (b:=1000000000000) (fam:=fam) (by simp only [go_sem,j91,j92]<;>trivial) (λj hj=>by
  simp only [go_sem]
  repeat rw [if_neg (by omega)]
  exact jF j hj) (by decide)) ?_
 refine WkK.wk (joX (b:=1000000000000) (fam:=fam) (λj=>if j<2*k then j else j+2) (λi j h=>by
  split at h<;>split at h<;>omega) (λj hj=>by
  show (if 1000000000000<=j then _ else _)=_
  rw [if_pos hj])) ?_
 refine jfB 90 3 (y.aOH.eraseIdx k) [] 1000000000000 _ (wZ 0) (rows.take (k*8)++rows.drop ((k+1)*8)) _ (gG.erase hk) rfl (by decide) (λj hj=>by
  show (if 1000000000000<=j then _ else _)=_
  rw [if_pos hj]) λsM _=>?_
 generalize y.aOH.eraseIdx k=R at*;refine WkK.wk (s':=St.of [(3,Bx 91 b3),(4,Bx 92 b4),(6,Bx 90 b6)] [(91,.box b3 jes [.a (.v (.int .i64 id))]),(92,ZYd b4 tYd),(90,jX b6 tYd y.now y.seq y.aOE aS R sM)]) (js [91,92,90]) ?_;refine WkK.of ?_;have fH:y.aOE.length=4:=hP.four;simp only [go_sem];refine qP (λi:Nat×jg=>St.of [(3,Bx 91 b3),(4,Bx 92 b4),(6,Bx 90 b6),(41,Ni y.aOE.length),(42,Ni i.1)] [(91,.box b3 jes [.a (.v (.int .i64 id))]),(92,ZYd b4 tYd),(90,jX b6 tYd y.now y.seq (jet (λl=>l.filter (jc1 id)) y.aOE i.1) i.2 R sM)]) (λi=>i.1<=y.aOE.length) (λi=>y.aOE.length-i.1) (0,aS) (js [91,92,90] (by simp only [go_sem,jwX]<;>trivial)) ?_
 rintro ⟨n,η⟩ iV;dsimp only at iV;have dX:=jpV (f:=λl=>List.filter (jc1 id) l) (l:=y.aOE) (i:=n)
 by_cases aB:n<y.aOE.length
 ·have aA:(n:Int)<y.aOE.length:=by omega
  obtain ⟨l,hl⟩:=ja aB;have pN:=jpW (f:=λl=>List.filter (jc1 id) l) hl
  have y7:=jpU (f:=λl=>List.filter (jc1 id) l) hl
  have eR:=jbL ht (aOT hl);have pZ:=kw n;have l9:=qN n;generalize hS:jet (λl=>List.filter (jc1 id) l) y.aOE n=S at*
  have hn:n<S.length:=by omega
  have gX:=jte hn;have nG:=jtL pN;simp only [go_sem,aA,hn,l9,nG,gX,aPK];refine kW (jxh ?_);refine qm (β:=7000000) Tryz.func85 kv (by simp) ?_
  unfold kf;simp only [go_sem];refine jw (jcj l _ [iv id] (λe=>!jc1 id e) (λx=>jwM id x) eR) (by simp only [go_sem,qn pN]) ληq=>?_
  simp only [go_sem]
  have hcut:∀(L:List En) (m:Nat),m<=L.length->(L.flatMap jj).take (m*4)=(L.take m).flatMap jj:=λL m hm=>by
   have e1:L.flatMap jj=(L.take m).flatMap jj++(L.drop m).flatMap jj:=by rw [<-aQO,aQR]
   rw [e1,List.take_left' (by rw [jD jtr,aOZ,aQL hm])]
  rcases zW (λe=>!jc1 id e) l with ⟨h1,h2⟩|⟨i0,x0,h1,h2,h3,h4⟩
  ·have f8:l.filter (jc1 id)=l:=List.filter_eq_self.2 λe he=>by have:=h2 e he;simpa using this
   rw [f8] at y7;simp only [go_sem,h1,aQD];refine ⟨90,2,n,777,l.length,4,tEn,jq4,l.flatMap jj,_,η,.inr ⟨rfl,(jD jtr l).symm⟩,by simp only [go_sem];rfl,jii pN,by simp only [go_sem],by decide,by decide,by rw [jD jtr];exact aPD _,λaBO aBQ hη2=>?_⟩
   rw [hcut l l.length (aPD _),aRC];simp only [go_sem,jna,jgM,hη2,jkD,jkx,jgw,hn,aPK,jb1,jgn _ l hn,kE,pZ];refine ⟨hn,λg' dE=>?_⟩
   exact qc (n+1,g') (js [91,92,90] (by simp only [go_sem,jna,y7]<;>trivial))
  ·have tO:=(aOS.1 h2).1
   have aK:((i0:Int)==-1)=false:=by simp
   have hw0:=kw i0;have oV:=jaH pN;simp only [go_sem,h1,aK,hw0];refine kh (λi:Nat×Nat×List En=>St.of [(0,.c (.h 90 2 [n] (η [n]))),(1,.fn 145 [.bp 91 0 b3]),(5,Ni i.1),(6,Ni i.2.1)] [(91,.box b3 jes [.a (.v (.int .i64 id))]),(92,ZYd b4 tYd),(90,jX b6 tYd y.now y.seq (S.set n i.2.2) η R sM)]) (λi=>jBy (λe=>!jc1 id e) l i.2.2 i.1 i.2.1) (λi=>l.length-i.2.1) (i0,i0+1,l) (jFQ h2 h3 h4) (js [91,92,90] (by simp only [go_sem,oV]<;>trivial)) ?_
   rintro ⟨i,j,L⟩ hd;dsimp only at hd;have hL:(S.set n L)[n]?=some L:=aOY hn;have pQ:=hd.len;have hij:=hd.ij;have bJ:=hd.jl;have hU:=qN i;by_cases d7:j<l.length
   ·have bB:(j:Int)<l.length:=by omega
    have dK:=qN j;obtain ⟨e,he⟩:=ja d7;have yS:L[j]?=some e:=by rw [hd.suf j (aPD _)];exact he
    have yL:i<L.length:=by omega
    have hjL:j<L.length:=by omega
    obtain ⟨xi,lH⟩:=ja yL;have hw:=kw j;have gI:=kw i;simp only [go_sem,qn hL,pQ,d7,bB,dK,jvj yS,juU yS,jj];intro b7;refine jkM (by simp only [go_sem];rfl) (jwM id e) (by simp only [go_sem,jj]) λη=>?_
    cases hf:jc1 id e
    ·simp only [go_sem,hw]
     exact ⟨(i,j+1,L),jBj hd he (by simp [hf]),(js [91,92,90]),by (try dsimp only);omega⟩
    ·simp only [go_sem,jj,hw,gI,qn hL,pQ,hU,jvj lH,juU lH,jsO e hL yL,aQB,(show i<l.length by omega)]
     exact ⟨(i+1,j+1,L.set i e),jxK hd he (by simp [hf]),(js [91,92,90]),by (try dsimp only);omega⟩
   ·have bB:¬(j:Int)<l.length:=by omega
    obtain rfl:j=l.length:=by omega
    have yU:=jxL hd;have yR:l.filter (λe=>!!jc1 id e)=l.filter (jc1 id):=by simp
    rw [yR] at yU;have cJ:i<=l.length:=by omega
    have lB:0<l.length-i:=by omega
    have eI:i+(l.length-i)=l.length:=by omega
    have oS:i+(l.length-i)=L.length:=by omega
    have uI:ka ((List.replicate (l.length-i) jeH).flatMap jj)=true:=jbm _;obtain ⟨L2,wB⟩:∃L2,L2=L.take i++List.replicate (l.length-i) jeH:=⟨_,rfl⟩;have wA:L2.length=l.length:=by rw [wB];simp;omega
    have v9:L2.take i=l.filter (jc1 id):=by rw [wB,List.take_left' (by rw [aOZ];omega),yU]
    have tF:D.put [n] (i*4) ((List.replicate (l.length-i) jeH).flatMap jj) (ke (S.set n L))=ke (S.set n L2):=by rw [jrk hL (jBn oS),aQB,wB]
    have mD:(S.set n L2)[n]?=some L2:=aOY hn;have gE:n<(S.set n L2).length:=by rw [aPF];exact hn
    simp only [go_sem,qn hL,pQ,bB,hU,cJ,aPD,lB,eI,jAW,jqm,tF,qn mD,wA];refine ⟨90,2,n,777,i,4,tEn,jq4,L2.flatMap jj,_,η,.inl rfl,by simp only [go_sem];rfl,jii mD,by simp only [go_sem],by decide,by decide,by rw [jD jtr];omega,λaBO aBQ hη2=>?_⟩
    rw [hcut L2 i (by omega),v9]
    simp only [go_sem,jna,jgM,hη2,jkD,jkx,jgw,aPK,jb1,jgn _ (l.filter (jc1 id)) gE,kE,aQB,aPF,hn,pZ];refine ⟨hn,λg' dE=>?_⟩
    exact qc (n+1,g') (js [91,92,90] (by simp only [go_sem,jna,y7]<;>trivial))
 ·have aA:¬(n:Int)<y.aOE.length:=by omega
  obtain rfl:n=y.aOE.length:=by omega
  simp only [go_sem,aA];rw [jpX]
  apply qa
  simp only [go_sem]
theorem jcc {α:Type} (f:α->Nat) (m:Nat):∀l:List α,(∀x∈l,f x<=m)->vh f l<=m*l.length
 |[],_=>by simp [vh]
 |x::l,h=>by
  have h1:=h x (by simp)
  have h2:=jcc f m l λx hx=>h x (by simp [hx])
  simp only [vh,aQX,aRV,aPI,Nat.mul_succ] at h2⊢;omega
theorem YardOkP.small {y:Yd} (h:YardOkP y):jB y<=700:=by
 have h1:=jcc zb 80 y.aOE λl hl=>(h.shelves l hl).aOQ
 have h2:=jcc qH 42 y.aOH λr hr=>by
  have hR:=h.right r hr;obtain ⟨n,hn,_,cC,dI,_⟩:=ja8 hR.aOF;have:=hR.len;have aMI:r.aOF.aOI.length<=30:=dI;simp only [qH,jf9];omega
 have h3:=h.four;have h4:=h.eight;simp only [jB,jbG,jaQ];omega
noncomputable def doY (y:Yd) (d:Dd):Yd:=
 if kg d=false then y else if d.aON=1 then jaS y d.run d.aOF else if d.aON=2 then qu y d.aOJ d.aOM else if d.aON=3 then jc0 y d.run d.aOK d.tri
 else if d.aON=4 then jcZ y d.run d.aOK d.tri else if d.aON=5 then jbH y else if d.aON=6 then kT y d.run else if d.aON=7 then jaL y d.run else jcX y
noncomputable def doQ (y:Yd) (d:Dd):Rp:=
 if kg d=false then ⟨5,0,0,0⟩ else if d.aON=1 then ⟨jbu y d.run d.aOF,0,0,0⟩ else if d.aON=2 then jbw y d.aOJ d.aOM else if d.aON=3 then ⟨jbt y d.run d.aOK d.tri,0,0,0⟩
 else if d.aON=4 then ⟨jbt y d.run d.aOK d.tri,0,0,0⟩ else if d.aON=5 then ⟨jbI y,0,0,0⟩ else if d.aON=6 then ⟨qp y d.run,0,0,0⟩ else if d.aON=7 then ⟨ja3 y d.run,0,0,0⟩
 else if jt y=true then ⟨0,0,0,0⟩ else ⟨8,0,0,0⟩
theorem zV {sh:List (List En)} {n:Nat} {l:List En} (h:sh[n]?=some l) (l':List En):∃rest,sh.flatten.Perm (l++rest)/\(sh.set n l').flatten.Perm (l'++rest):=by
 have hn:=(aOS.1 h).1
 have key:∀m:List En,(sh.set n m).flatten.Perm (m++((sh.take n).flatten++(sh.drop (n+1)).flatten)):=λm=>by
  rw [List.set_eq_take_append_cons_drop,if_pos hn,List.flatten_append,aSB];exact List.perm_append_comm_assoc _ _ _
 have e:sh.set n l=sh:=by
  obtain ⟨h1,rfl⟩:=aOS.1 h;exact List.set_getElem_self h1
 exact ⟨_,by have:=key l;rwa [e] at this,key l'⟩
theorem jlY {a b c:En} (h1:km a b=true) (h2:km b c=true):km a c=true:=by
 simp only [km,aPM] at*;omega
theorem jAv {a b:En} (h:a.seq≠b.seq) (h1:km a b=false):km b a=true:=by
 simp only [km,aPM,aPX] at*;omega
def SrtP (l:List En):Prop:=l.Pairwise λa b=>km a b=true
theorem SrtP.ahead {l:List En} (h:SrtP l) (k:Nat) (a b:En) (ha:l[k]?=some a) (hb:l[k+1]?=some b):km a b=true:=by
 obtain ⟨h1,rfl⟩:=aOS.1 ha;obtain ⟨h2,rfl⟩:=aOS.1 hb;exact List.pairwise_iff_getElem.1 h k (k+1) h1 h2 (by omega)
theorem jkQ (l:List En) (e:En):(jcy l e).Perm (e::l):=by
 rw [jcy,jm7];have:=List.perm_middle (a:=e) (l₁:=l.take (jl1 l e)) (l₂:=l.drop (jl1 l e))
 rwa [aQR] at this
theorem jsQ {l:List En} {e:En} (h:SrtP l) (hs:∀x∈l,x.seq≠e.seq):SrtP (jcy l e):=by
 have hd:(∀x∈l.take (jl1 l e),km x e=true)/\∀x∈l.drop (jl1 l e),km e x=true:=by
  rcases zW (λx=>!km x e) l with ⟨hf,hn⟩|⟨k,x,hk,hx,hp,hn⟩
  ·have hK:jl1 l e=l.length:=by rw [jl1,if_pos (by omega)]
   rw [hK,aRC,List.drop_length];exact ⟨λx hx=>by have:=hn x hx;simpa using this,by simp⟩
  ·have hK:jl1 l e=k:=by rw [jl1,if_neg (by omega),hk];simp
   rw [hK];refine ⟨λz hz=>by have:=hn z hz;simpa using this,?_⟩
   have n6:km e x=true:=jAv (hs x (aOT hx)) (by simpa using hp)
   have dM:=(aOS.1 hx).1
   have e1:l.drop k=x::l.drop (k+1):=by
    rw [aQT dM];congr 1;exact (aOS.1 hx).2
   intro z hz;have tF:SrtP (l.drop k):=h.sublist (List.drop_sublist _ _);rw [e1] at hz tF;rcases aPL.1 hz with rfl|hz
   ·exact n6
   ·exact jlY n6 ((List.pairwise_cons.1 tF).1 z hz)
 rw [jcy,jm7];refine List.pairwise_append.2 ⟨h.sublist (List.take_sublist _ _),List.pairwise_cons.2 ⟨hd.2,h.sublist (List.drop_sublist _ _)⟩,λa ha b hb=>?_⟩
 rcases aPL.1 hb with rfl|hb
 ·exact hd.1 a ha
 ·exact jlY (hd.1 a ha) (hd.2 b hb)
theorem jgo:∀(b a:List En),(b.foldl jcy a).Perm (a++b)
 |[],a=>by simp
 |e::b,a=>by
  rw [aRL];exact (jgo b (jcy a e)).trans (((jkQ a e).append_right b).trans (by simpa using (List.perm_middle (a:=e) (l₁:=a) (l₂:=b)).symm))
theorem jsU:∀{b a:List En},SrtP a->((a++b).map (·.seq)).Nodup->SrtP (b.foldl jcy a)
 |[],a,h,_=>h
 |e::b,a,h,hn=>by
  rw [aRL]
  have hp:((jcy a e++b).map (·.seq)).Nodup:=by
   refine ((List.Perm.map _ (((jkQ a e).append_right b).trans ?_)).nodup_iff).2 hn;simpa using (List.perm_middle (a:=e) (l₁:=a) (l₂:=b)).symm
  refine jsU (jsQ h λx hx n6=>?_) hp
  rw [aRF,aQX] at hn;exact (aPC.1 hn).2.2 _ (List.mem_map_of_mem hx) _ (by rw [n6];simp) rfl
def jm3 (aOL id:Int):Int->List Int->List En
 |_,[]=>[]
 |q,t::ids=>⟨aOL,q,id,t⟩::jm3 aOL id (q+1) ids
theorem joj (aOL id:Int):∀(ids:List Int) (q:Int),(jm3 aOL id q ids).length=ids.length
 |[],_=>rfl
 |_::ids,q=>by simp [jm3,joj aOL id ids]
theorem jcl {aOL id:Int}:∀{ids:List Int} {q:Int} {e:En},e∈jm3 aOL id q ids->e.aOL=aOL/\e.run=id/\e.aOK∈ids/\q<=e.seq/\e.seq<q+ids.length
 |[],_,_,h=>by simp [jm3] at h
 |t::ids,q,e,h=>by
  rcases aPL.1 h with rfl|h
  ·refine ⟨rfl,rfl,by simp,?_,?_⟩<;>(try dsimp only)<;>(try simp only [aPI])<;>omega
  ·obtain ⟨h1,h2,h3,h4,h5⟩:=jcl h
   refine ⟨h1,h2,by simp [h3],?_,?_⟩<;>(try simp only [aPI])<;>omega
theorem jm2 (aOL id:Int):∀(ids:List Int) (q:Int),((jm3 aOL id q ids).map (·.seq)).Nodup
 |[],_=>by simp [jm3]
 |t::ids,q=>by
  simp only [jm3,aQX];refine aQZ.2 ⟨λh=>?_,jm2 aOL id ids (q+1)⟩
  obtain ⟨e,he,hq⟩:=aQS.1 h;have:=(jcl he).2.2.2.1;omega
theorem js3 (aOL id:Int) (t:Int):∀(ids:List Int) (q:Int),jaq id t (jm3 aOL id q ids)=ids.count t
 |[],_=>by simp [jm3,jaq]
 |u::ids,q=>by
  have ih:=js3 aOL id t ids (q+1);simp only [jaq] at ih;simp only [jm3,jaq,aRX,aQD,Bool.true_and,List.count_cons];cases h:u==t<;>simp [ih]
theorem jgy (aOL id:Int):∀(ids:List Int) (l:List En) (q:Int),(zo aOL id ids (l,q)).1.Perm (jm3 aOL id q ids++l)
 |[],l,q=>by simp [zo,jm3]
 |t::ids,l,q=>by
  have ih:=jgy aOL id ids (jcy l ⟨aOL,q,id,t⟩) (q+1);simp only [zo,aRL,jm3] at ih⊢;refine ih.trans (((jkQ l ⟨aOL,q,id,t⟩).append_left _).trans ?_);exact List.perm_middle
theorem jol (aOL id:Int):∀(ids:List Int) {l:List En} {q:Int},SrtP l->(∀x∈l,x.seq<q)->SrtP (zo aOL id ids (l,q)).1
 |[],_,_,h,_=>h
 |t::ids,l,q,h,hq=>by
  have:=jol aOL id ids (l:=jcy l ⟨aOL,q,id,t⟩) (q:=q+1) (jsQ h λx hx=>by have:=hq x hx;dsimp only;omega) (λx hx=>by
   rcases jsR hx with hx|rfl
   ·have:=hq x hx;omega
   ·dsimp only;omega)
  simpa only [zo,aRL] using this
structure RnsI (now:Int) (rs:List Rn):Prop where
 eight:rs.length<=8
 right:∀r∈rs,RunOkP r
 ids:(rs.map (·.id)).Nodup
 til:∀r∈rs,∀(t:Nat) (x:Tk),r.aOD[t]?=some x->x.aOG=3->now+1<=x.til/\x.til<=now+r.aOF.aOP
 tri:∀r∈rs,∀x∈r.aOD,x.aOG=1->x.tri=0
structure EnsI (rs:List Rn) (q:Int) (L:List En):Prop where
 range:∀e∈L,1<=e.seq/\e.seq<=q-1
 apart:(L.map (·.seq)).Nodup
 own:∀e∈L,∃r∈rs,∃(t:Nat) (x:Tk),e.run=r.id/\e.aOK=t/\r.aOD[t]?=some x/\(x.aOG=2/\e.aOL=r.aOF.aOL\/x.aOG=6)
 one:∀r∈rs,∀(t:Nat) (x:Tk),r.aOD[t]?=some x->x.aOG=2->jaq r.id t L=1
def zd (rs:List Rn):Nat:=vh (λr=>cS 2 r.aOD) rs
structure YdI (y:Yd):Prop where
 now:0<=y.now/\y.now<=999999980
 seq:1<=y.seq
 four:y.aOE.length=4
 sorted:∀l∈y.aOE,SrtP l
 rns:RnsI y.now y.aOH
 ens:EnsI y.aOH y.seq y.aOE.flatten
 room:vh kL y.aOH+y.aOE.flatten.length<=40+zd y.aOH
theorem jxU {L M:List En} (h:L.Perm M) (id t:Int):jaq id t L=jaq id t M:=by
 simp only [jaq];exact (h.filter _).length_eq
theorem EnsI.perm {rs:List Rn} {q:Int} {L M:List En} (h:EnsI rs q L) (hp:L.Perm M):EnsI rs q M:=
 ⟨λe he=>h.range e (hp.mem_iff.2 he),((hp.map _).nodup_iff).1 h.apart,λe he=>h.own e (hp.mem_iff.2 he),λr hr t x hx hs=>by rw [<-jxU hp];exact h.one r hr t x hx hs⟩
theorem jDo {L:List En} {e:En} {id t:Int} (he:e∈L) (h1:e.run=id) (h2:e.aOK=t):1<=jaq id t L:=by
 have:e∈L.filter λe=>e.run==id&&e.aOK==t:=aQP.2 ⟨he,by simp [h1,h2]⟩
 exact List.length_pos_of_mem this
theorem joJ {L:List En} {id t:Int} (h:∀e∈L,¬(e.run=id/\e.aOK=t)):jaq id t L=0:=by
 have:L.filter (λe=>e.run==id&&e.aOK==t)=[]:=List.filter_eq_nil_iff.2 λe he=>by
  have:=h e he;simp;intro h1 h2;exact this ⟨h1,h2⟩
 simp [jaq,this]
theorem jiY (id t:Int) (L M:List En):jaq id t (L++M)=jaq id t L+jaq id t M:=by simp [jaq]
theorem jtf {rs:List Rn} (h:(rs.map (·.id)).Nodup) {j k:Nat} {r r':Rn} (h1:rs[j]?=some r) (h2:rs[k]?=some r') (he:r.id=r'.id):j=k:=by
 have hj:=(aOS.1 h1).1;have hk:=(aOS.1 h2).1;refine aQM λaK=>?_
 have e1:(rs.map (·.id))[j]?=some r.id:=by rw [aRQ,h1];rfl
 have e2:(rs.map (·.id))[k]?=some r.id:=by rw [aRQ,h2,he];rfl
 exact aK ((List.getElem?_inj (by simpa using hj) h).1 (e1.trans e2.symm))
theorem jor {rs:List Rn} (h:(rs.map (·.id)).Nodup) {r r':Rn} (h1:r∈rs) (h2:r'∈rs) (he:r.id=r'.id):r=r':=by
 obtain ⟨j,hj⟩:=aQC h1;obtain ⟨k,hk⟩:=aQC h2;have:=jtf h hj hk he;subst this;rw [hj] at hk;exact aPJ hk
theorem jnr {y:Yd} (h8:y.aOH.length<=8) (h:(y.aOH.map (·.id)).Nodup) {k:Nat} {r:Rn} (hr:y.aOH[k]?=some r):runAt y r.id=k:=by
 unfold runAt;rw [if_neg (by omega)]
 refine jce hr rfl λj hj z hz he=>?_
 have:=jtf h hz hr he;omega
theorem jki {y:Yd} (h8:y.aOH.length<=8) (h:(y.aOH.map (·.id)).Nodup) {e:En} {r:Rn} {t:Nat} {x:Tk} (hr:r∈y.aOH) (h1:e.run=r.id) (h2:e.aOK=t) (hx:r.aOD[t]?=some x):jJ y e=(x.aOG==2):=by
 obtain ⟨k,hk⟩:=aQC hr;have:=jnr h8 h hk;rw [<-h1] at this
 have ht:jaR y e.run e.aOK=some x:=by
  unfold jaR;simp only [this,h2,aPB,hk];simp [hx]
 simp [jJ,ht]
theorem tinL_mem {s:Int} {ts:List Tk} {v:Int}:v∈qG s ts↔∃(t:Nat) (x:Tk),v=t/\ts[t]?=some x/\x.aOG=s:=by
 simp only [qG,zk,aQS,aQP,aRZ];constructor
 ·rintro ⟨j,⟨hj,hs⟩,rfl⟩
  have hx:ts[j]?=some ts[j]:=aOV hj;rw [kr hx] at hs;exact ⟨j,_,rfl,hx,by simpa using hs⟩
 ·rintro ⟨t,x,rfl,hx,hs⟩
  exact ⟨t,⟨(aOS.1 hx).1,by rw [kr hx,hs];simp⟩,rfl⟩
theorem jcx (p:Nat->Bool) (n:Nat):(((List.range n).filter p).map λ(j:Nat)=>(j:Int)).Nodup:=by
 have h:((List.range n).filter p).Pairwise (· ≠ ·):=List.Pairwise.filter _ (List.nodup_range (n:=n))
 exact List.pairwise_map.2 (h.imp λn4 e=>n4 (by omega))
theorem jmD (s:Int) (ts:List Tk):(qG s ts).Nodup:=jcx _ _
def jeL (rs:List Rn):List (Int×Int):=rs.flatMap λr=>(qG 2 r.aOD).map λt=>(r.id,t)
theorem juk (rs:List Rn):(jeL rs).length=zd rs:=by
 induction rs with
 |nil=>rfl
 |cons r rs ih=>simp only [jeL,zd,vh,aPQ,aOU,aQI,aQX,aRV,cS] at ih⊢;rw [ih]
theorem readyK_mem {rs:List Rn} {a b:Int}:(a,b)∈jeL rs↔∃r∈rs,∃(t:Nat) (x:Tk),a=r.id/\b=t/\r.aOD[t]?=some x/\x.aOG=2:=by
 simp only [jeL,aRR,aQS,tinL_mem,Prod.mk.injEq];constructor
 ·rintro ⟨r,hr,v,⟨t,x,rfl,hx,hs⟩,rfl,rfl⟩;exact ⟨r,hr,t,x,rfl,rfl,hx,hs⟩
 ·rintro ⟨r,hr,t,x,rfl,rfl,hx,hs⟩;exact ⟨r,hr,_,⟨t,x,rfl,hx,hs⟩,rfl,rfl⟩
theorem ji6:∀{rs:List Rn},(rs.map (·.id)).Nodup->(jeL rs).Nodup
 |[],_=>by simp [jeL]
 |r::rs,h=>by
  obtain ⟨h1,h2⟩:=aQZ.1 h;have ih:=ji6 h2;simp only [jeL,aPQ] at ih⊢;refine aPC.2 ⟨?_,ih,λa ha b hb e=>?_⟩
  ·have:(qG 2 r.aOD).Pairwise (· ≠ ·):=jmD 2 r.aOD
   exact List.pairwise_map.2 (this.imp λn4 e=>n4 (by simpa using e))
  ·subst e
   obtain ⟨t,_,rfl⟩:=aQS.1 ha;obtain ⟨r',bN,_,_,he,_⟩:=readyK_mem.1 hb;exact h1 (aQS.2 ⟨r',bN,he.symm⟩)
theorem zA {y:Yd} {q:Int} {L:List En} (h8:y.aOH.length<=8) (hi:(y.aOH.map (·.id)).Nodup) (h:EnsI y.aOH q L):(L.filter (jJ y)).length=zd y.aOH:=by
 have lC:∀a b:Int,(a,b)∈(L.filter (jJ y)).map (λe=>(e.run,e.aOK))↔(a,b)∈jeL y.aOH:=by
  intro a b;rw [readyK_mem];constructor
  ·intro hm
   obtain ⟨e,he,n4⟩:=aQS.1 hm;obtain ⟨nF,cA⟩:=aQP.1 he;simp only [Prod.mk.injEq] at n4;obtain ⟨rfl,rfl⟩:=n4;obtain ⟨r,hr,t,x,h1,h2,h3,h4⟩:=h.own e nF;rw [jki h8 hi hr h1 h2 h3] at cA;exact ⟨r,hr,t,x,h1,h2,h3,by simpa using cA⟩
  ·rintro ⟨r,hr,t,x,rfl,rfl,hx,hs⟩
   have h1:=h.one r hr t x hx hs;have:0<(L.filter λe=>e.run==r.id&&e.aOK==(t:Int)).length:=by simp only [jaq] at h1;omega
   obtain ⟨e,he⟩:=List.exists_mem_of_length_pos this;obtain ⟨nF,cA⟩:=aQP.1 he;simp only [aPG,aQW] at cA;refine aQS.2 ⟨e,aQP.2 ⟨nF,?_⟩,by simp [cA.1,cA.2]⟩
   rw [jki h8 hi hr cA.1 cA.2 hx,hs];rfl
 have aY:((L.filter (jJ y)).map λe=>(e.run,e.aOK)).Nodup:=by
  rw [List.nodup_iff_count];rintro ⟨a,b⟩;by_cases hm:(a,b)∈jeL y.aOH
  ·obtain ⟨r,hr,t,x,rfl,rfl,hx,hs⟩:=readyK_mem.1 hm
   have h1:=h.one r hr t x hx hs;rw [List.count_eq_countP,List.countP_map,List.countP_filter,aRA];refine aQJ (Nat.le_of_eq ?_) (Nat.le_of_eq h1);simp only [jaq]
   congr 1
   refine List.filter_congr λe he=>?_
   simp only [Function.comp];by_cases h2:e.run=r.id/\e.aOK=t
   ·have:jJ y e=true:=by rw [jki h8 hi hr h2.1 h2.2 hx,hs];rfl
    simp [h2.1,h2.2,this]
   ·have e1:((e.run,e.aOK)==(r.id,(t:Int)))=false:=by
     simp only [beq_eq_false_iff_ne,ne_eq,Prod.mk.injEq];exact h2
    have e2:(e.run==r.id&&e.aOK==(t:Int))=false:=by
     simp only [Bool.and_eq_false_iff,beq_eq_false_iff_ne,ne_eq];by_cases h3:e.run=r.id
     ·exact .inr λh4=>h2 ⟨h3,h4⟩
     ·exact .inl h3
    rw [e1,e2];rfl
  ·rw [List.count_eq_zero.2 λeG=>hm ((lC a b).1 eG)];omega
 have hp:((L.filter (jJ y)).map λe=>(e.run,e.aOK)).Perm (jeL y.aOH):=
  (List.perm_ext_iff_of_nodup aY (ji6 hi)).2 λ⟨a,b⟩=>lC a b
 have:=hp.length_eq;rw [aQI,juk] at this;exact this
theorem jbS {r:Rn} (h:RunOkP r):cS 2 r.aOD<=kL r:=by
 by_cases h0:cS 2 r.aOD=0
 ·omega
 ·have eI:=jc5 h.st _ (aPD _)
  change cS 1 _+cS 2 _+cS 3 _+cS 4 _+cS 5 _+cS 6 _=_ at eI;have aJ:=h.aOG;have hl:=h.live
  have h1:r.aOG=1:=by
   rw [aJ] at hl⊢;unfold jgd at hl⊢;rw [if_neg (by omega),if_neg (by omega),if_neg (by omega)] at hl⊢
   split at hl
   ·rename_i h;rw [if_pos h]
   ·exact absurd rfl hl
  rw [kL,if_pos h1];omega
theorem jef:∀{rs:List Rn},(∀r∈rs,RunOkP r)->zd rs<=vh kL rs
 |[],_=>by simp [zd,vh]
 |r::rs,h=>by
  have h1:=jbS (h r (by simp))
  have h2:=jef (rs:=rs) λx hx=>h x (by simp [hx])
  simp only [zd,vh,aQX,aRV] at h2⊢;omega
theorem YdI.ok {y:Yd} (h:YdI y) (hq:y.seq<=1000000000):YardOkP y:=by
 have hf:=zA h.rns.eight h.rns.ids h.ens;have cH:=jef h.rns.right;have bE:=h.room;have aC:y.aOE.flatten.length<=40:=by omega
 refine ⟨h.now,⟨h.seq,hq⟩,h.four,h.rns.eight,λl hl=>⟨?_,(h.sorted l hl).ahead⟩,⟨h.ens.range,h.ens.apart⟩,h.rns.right,λk r hr=>jnr h.rns.eight h.rns.ids hr,λr hr t x hx=>⟨λhs=>⟨λe he h1 h2=>?_,h.ens.one r hr t x hx hs⟩,h.rns.til r hr t x hx⟩,?_⟩
 ·have:l.length<=y.aOE.flatten.length:=(List.sublist_flatten_of_mem hl).length_le
  omega
 ·obtain ⟨r',bN,t',x',h3,h4,h5,h6⟩:=h.ens.own e he
  have:r=r':=jor h.rns.ids hr bN (h1.symm.trans h3);subst this;obtain rfl:t=t':=by omega
  rw [hx] at h5;obtain rfl:=aPJ h5;rcases h6 with h6|h6
  ·exact h6.2
  ·omega
 ·have aJ:qi y (zY y)+(y.aOE.flatten.filter (jJ y)).length=y.aOE.flatten.length:=by
   simp only [qi,zY,aRA];have:=List.length_eq_countP_add_countP (jJ y) (l:=y.aOE.flatten);simp only [aRA] at this;have e:y.aOE.flatten.filter (λe=>!jJ y e)=y.aOE.flatten.filter (λa=>decide ¬jJ y a=true):=List.filter_congr λa _=>by cases jJ y a<;>rfl
   rw [e];omega
  simp only [kG];omega
def jqH:C:=iS [iA 2 (.box 27 4 (.t 0)),iA 3 (.box 60 11 (.t 1)),iA 4 wAL,iA 5 wAO] (.seq (iS [aT 8 11 3,iA 9 (iK 30 [8]),aU 10 9] (iD 10 (iS [aT 11 4 2,iA 12 (iK 61 [11]),iA 13 (wAT [(0,1,oI 5)]),wAA 4 12,wAB 5 13] .ret) .skip)) (iS [iA 6 wAL] (iS [iA 7 wAO] (.seq (iS [aF 14 0 3,aL 15 14] (.blk 0 (iS [aQ 23 .eql 3 15 1,aM 22 23] (iD 22 (.reg [aT 25 4 2,aF 26 1 3,aL 27 26,aF 28 2 3,aT 29 5 28,iA 30 (iK 44 [25,27,29]),aM 24 30,aE 31 24 0,aE 32 24 1,wAA 6 31,aF 33 0 7,wAD 33 32]) (iS [aQ 35 .eql 3 15 2,aM 34 35] (iD 34 (iS [aT 36 4 2,aF 37 9 3,aL 38 37,aF 39 10 3,aL 40 39,iA 41 (iK 14 [36,38,40]),aE 42 41 0,aE 43 41 1,wAA 4 42,wAB 5 43] .ret) (iS [aQ 45 .eql 3 15 3,aM 44 45] (iD 44 (.reg [aT 47 4 2,aF 48 1 3,aL 49 48,aF 50 7 3,aL 51 50,aF 52 8 3,aL 53 52,iA 54 (iK 55 [47,49,51,53]),aM 46 54,aE 55 46 0,aE 56 46 1,wAA 6 55,aF 57 0 7,wAD 57 56]) (iS [aQ 59 .eql 3 15 4,aM 58 59] (iD 58 (.reg [aT 61 4 2,aF 62 1 3,aL 63 62,aF 64 7 3,aL 65 64,aF 66 8 3,aL 67 66,iA 68 (iK 56 [61,63,65,67]),aM 60 68,aE 69 60 0,aE 70 60 1,wAA 6 69,aF 71 0 7,wAD 71 70]) (iS [aQ 73 .eql 3 15 5,aM 72 73] (iD 72 (.reg [aT 75 4 2,iA 76 (iK 51 [75]),aM 74 76,aE 77 74 0,aE 78 74 1,wAA 6 77,aF 79 0 7,wAD 79 78]) (iS [aQ 81 .eql 3 15 6,aM 80 81] (iD 80 (.reg [aT 83 4 2,aF 84 1 3,aL 85 84,iA 86 (iK 90 [83,85]),aM 82 86,aE 87 82 0,aE 88 82 1,wAA 6 87,aF 89 0 7,wAD 89 88]) (iS [aQ 91 .eql 3 15 7,aM 90 91] (iD 90 (.reg [aT 93 4 2,aF 94 1 3,aL 95 94,iA 96 (iK 91 [93,95]),aM 92 96,aE 97 92 0,aE 98 92 1,wAA 6 97,aF 99 0 7,wAD 99 98]) (iS [aT 16 4 2,iA 17 (iK 48 [16]),wAA 6 17] (iS [aT 18 4 2,iA 19 (iK 18 [18]),aU 20 19] (iD 20 (.reg [aF 21 0 7,iC (.st 1 [none] (.t 21) (oI 8))]) .skip))))))))))))))))))) (.seq (.dreg (tA 0 100 (iT 4 6) (tA 1 101 (iT 4 7) (.alt (wAA 4 100) [1] (.alt (wAB 5 101) [] .done .stop) .stop)))) .ret)))))
theorem jqw:fnC Tryz.prog Tryz.f29=some (jqH,[.cell 4 true 4,.cell 5 true 4],102):=by kernel_rfl
def jqF:C:=iS [iA 2 (.box 27 4 (.t 0)),iA 3 (.box 60 11 (.t 1)),iA 4 wAL,iA 5 wAO] (iS [aN 6 0] (iS [iA 8 (wAU []),iA 7 wAL,wAA 7 8] (.seq (iS [aT 9 11 3,iA 10 (iK 147 [9]),aU 11 10] (iD 11 (iS [aT 12 4 2,iA 13 (iK 67 [12]),iA 14 (wAT [(0,1,oI 5)]),wAA 4 13,wAB 5 14] .ret) .skip)) (.seq (iS [aF 15 0 3,aL 16 15] (.blk 0 (iS [aQ 23 .eql 3 16 1,aM 22 23] (iD 22 (.reg [aT 25 4 2,aF 26 1 3,aL 27 26,aF 28 2 3,aT 29 5 28,iA 30 (iK 45 [25,27,29]),aM 24 30,aE 31 24 0,aE 32 24 1,wAA 7 31,aM 6 32]) (iS [aQ 34 .eql 3 16 2,aM 33 34] (iD 33 (iS [aT 35 4 2,aF 36 9 3,aL 37 36,aF 38 10 3,aL 39 38,iA 40 (iK 15 [35,37,39]),aE 41 40 0,aE 42 40 1,wAA 4 41,wAB 5 42] .ret) (iS [aQ 44 .eql 3 16 3,aM 43 44] (iD 43 (.reg [aT 46 4 2,aF 47 1 3,aL 48 47,aF 49 7 3,aL 50 49,aF 51 8 3,aL 52 51,iA 53 (iK 148 [46,48,50,52]),aM 45 53,aE 54 45 0,aE 55 45 1,wAA 7 54,aM 6 55]) (iS [aQ 57 .eql 3 16 4,aM 56 57] (iD 56 (.reg [aT 59 4 2,aF 60 1 3,aL 61 60,aF 62 7 3,aL 63 62,aF 64 8 3,aL 65 64,iA 66 (iK 149 [59,61,63,65]),aM 58 66,aE 67 58 0,aE 68 58 1,wAA 7 67,aM 6 68]) (iS [aQ 70 .eql 3 16 5,aM 69 70] (iD 69 (.reg [aT 72 4 2,iA 73 (iK 52 [72]),aM 71 73,aE 74 71 0,aE 75 71 1,wAA 7 74,aM 6 75]) (iS [aQ 77 .eql 3 16 6,aM 76 77] (iD 76 (.reg [aT 79 4 2,aF 80 1 3,aL 81 80,iA 82 (iK 150 [79,81]),aM 78 82,aE 83 78 0,aE 84 78 1,wAA 7 83,aM 6 84]) (iS [aQ 86 .eql 3 16 7,aM 85 86] (iD 85 (.reg [aT 88 4 2,aF 89 1 3,aL 90 89,iA 91 (iK 151 [88,90]),aM 87 91,aE 92 87 0,aE 93 87 1,wAA 7 92,aM 6 93]) (iS [aT 17 4 2,iA 18 (iK 49 [17]),wAA 7 18] (iS [aT 19 4 2,iA 20 (iK 66 [19]),aU 21 20] (iD 21 (.reg [aN 6 8]) .skip))))))))))))))))))) (iS [aT 94 4 7,aM 95 6,iA 96 (wAT [(0,1,.t 95)]),wAA 4 94,wAB 5 96] .ret)))))
theorem jqv:fnC Tryz.prog Tryz.f95=some (jqF,[.cell 4 true 4,.cell 5 true 4],97):=by kernel_rfl
theorem jEZ (y:Yd) (d:Dd) (ht:jB y<=1900000) (hd:jjr d<=2000000):jZ Tryz.prog 29 [.agg (jb y),.agg (kN d)] (.tup [(true,jb (doY y d)),(true,jex (doQ y d))]):=by
 refine pf_ jqw ?_;unfold jqH;have eN:jB y<=2000000:=by omega
 have oR:jB y<=1990000:=by omega
 have gL:d.aOF.aOI.length<=4000000:=by simp only [jjr,jf9] at hd;omega
 simp only [go_sem,jb,kN,je];intro b2 b3 b4 b5;refine jw (joe d hd) (by simp only [go_sem,kN,je,aRE,aQG]) λη=>?_
 simp only [go_sem,aQG];cases hk:kg d
 ·have hy:doY y d=y:=by rw [doY,if_pos hk]
  have hq:doQ y d=⟨5,0,0,0⟩:=by rw [doQ,if_pos hk]
  rw [hy,hq];simp only [go_sem,Bool.not_false];refine jk (kj y eN) λη=>?_
  simp only [go_sem,jb];simp only [vl]
  apply ji
  simp only [go_sem,jA,true_or]
  apply ji
  simp only [go_sem,jA,jS,jI,true_or]
 have cI:¬kg d=false:=by rw [hk];decide
 simp only [go_sem,Bool.not_true];intro b6 b7;by_cases h1:d.aON=1
 ·have hy:doY y d=jaS y d.run d.aOF:=by rw [doY,if_neg cI,if_pos h1]
  have hq:doQ y d=⟨jbu y d.run d.aOF,0,0,0⟩:=by rw [doQ,if_neg cI,if_pos h1]
  have e1:(d.aON==1)=true:=by simp [h1]
  rw [hy,hq];simp only [go_sem,e1];refine jk (zu y d.run d.aOF eN gL) λη=>?_
  simp only [go_sem,jb];simp only [vl]
  apply ji
  simp only [go_sem,jA,true_or]
  apply ji
  simp only [go_sem,jA,jS,jI,true_or]
 have e1:(d.aON==1)=false:=by simp [h1]
 by_cases h2:d.aON=2
 ·have hy:doY y d=qu y d.aOJ d.aOM:=by rw [doY,if_neg cI,if_neg h1,if_pos h2]
  have hq:doQ y d=jbw y d.aOJ d.aOM:=by rw [doQ,if_neg cI,if_neg h1,if_pos h2]
  have e2:(d.aON==2)=true:=by simp [h2]
  rw [hy,hq];simp only [go_sem,e1,e2];refine jk (jk1 y d.aOJ d.aOM eN) λη=>?_
  simp only [go_sem,jb,jex];simp only [vl]
  apply ji
  simp only [go_sem,jA,true_or]
  apply ji
  simp only [go_sem,jA,jS,jI,true_or]
 have e2:(d.aON==2)=false:=by simp [h2]
 by_cases h3:d.aON=3
 ·have hy:doY y d=jc0 y d.run d.aOK d.tri:=by rw [doY,if_neg cI,if_neg h1,if_neg h2,if_pos h3]
  have hq:doQ y d=⟨jbt y d.run d.aOK d.tri,0,0,0⟩:=by rw [doQ,if_neg cI,if_neg h1,if_neg h2,if_pos h3]
  have e3:(d.aON==3)=true:=by simp [h3]
  rw [hy,hq];simp only [go_sem,e1,e2,e3];refine jk (jk2 y d.run d.aOK d.tri eN) λη=>?_
  simp only [go_sem,jb];simp only [vl]
  apply ji
  simp only [go_sem,jA,true_or]
  apply ji
  simp only [go_sem,jA,jS,jI,true_or]
 have e3:(d.aON==3)=false:=by simp [h3]
 by_cases h4:d.aON=4
 ·have hy:doY y d=jcZ y d.run d.aOK d.tri:=by rw [doY,if_neg cI,if_neg h1,if_neg h2,if_neg h3,if_pos h4]
  have hq:doQ y d=⟨jbt y d.run d.aOK d.tri,0,0,0⟩:=by rw [doQ,if_neg cI,if_neg h1,if_neg h2,if_neg h3,if_pos h4]
  have e4:(d.aON==4)=true:=by simp [h4]
  rw [hy,hq];simp only [go_sem,e1,e2,e3,e4];refine jk (jru y d.run d.aOK d.tri eN) λη=>?_
  simp only [go_sem,jb];simp only [vl]
  apply ji
  simp only [go_sem,jA,true_or]
  apply ji
  simp only [go_sem,jA,jS,jI,true_or]
 have e4:(d.aON==4)=false:=by simp [h4]
 by_cases h5:d.aON=5
 ·have hy:doY y d=jbH y:=by rw [doY,if_neg cI,if_neg h1,if_neg h2,if_neg h3,if_neg h4,if_pos h5]
  have hq:doQ y d=⟨jbI y,0,0,0⟩:=by rw [doQ,if_neg cI,if_neg h1,if_neg h2,if_neg h3,if_neg h4,if_pos h5]
  have e5:(d.aON==5)=true:=by simp [h5]
  rw [hy,hq];simp only [go_sem,e1,e2,e3,e4,e5];refine jk (jrt y oR) λη=>?_
  simp only [go_sem,jb];simp only [vl]
  apply ji
  simp only [go_sem,jA,true_or]
  apply ji
  simp only [go_sem,jA,jS,jI,true_or]
 have e5:(d.aON==5)=false:=by simp [h5]
 by_cases h6:d.aON=6
 ·have hy:doY y d=kT y d.run:=by rw [doY,if_neg cI,if_neg h1,if_neg h2,if_neg h3,if_neg h4,if_neg h5,if_pos h6]
  have hq:doQ y d=⟨qp y d.run,0,0,0⟩:=by rw [doQ,if_neg cI,if_neg h1,if_neg h2,if_neg h3,if_neg h4,if_neg h5,if_pos h6]
  have e6:(d.aON==6)=true:=by simp [h6]
  rw [hy,hq];simp only [go_sem,e1,e2,e3,e4,e5,e6];refine jk (jof y d.run eN) λη=>?_
  simp only [go_sem,jb];simp only [vl]
  apply ji
  simp only [go_sem,jA,true_or]
  apply ji
  simp only [go_sem,jA,jS,jI,true_or]
 have e6:(d.aON==6)=false:=by simp [h6]
 by_cases h7:d.aON=7
 ·have hy:doY y d=jaL y d.run:=by rw [doY,if_neg cI,if_neg h1,if_neg h2,if_neg h3,if_neg h4,if_neg h5,if_neg h6,if_pos h7]
  have hq:doQ y d=⟨ja3 y d.run,0,0,0⟩:=by rw [doQ,if_neg cI,if_neg h1,if_neg h2,if_neg h3,if_neg h4,if_neg h5,if_neg h6,if_pos h7]
  have e7:(d.aON==7)=true:=by simp [h7]
  rw [hy,hq];simp only [go_sem,e1,e2,e3,e4,e5,e6,e7];refine jk (jod y d.run eN) λη=>?_
  simp only [go_sem,jb];simp only [vl]
  apply ji
  simp only [go_sem,jA,true_or]
  apply ji
  simp only [go_sem,jA,jS,jI,true_or]
 have e7:(d.aON==7)=false:=by simp [h7]
 have hy:doY y d=jcX y:=by rw [doY,if_neg cI,if_neg h1,if_neg h2,if_neg h3,if_neg h4,if_neg h5,if_neg h6,if_neg h7]
 rw [hy];simp only [go_sem,e1,e2,e3,e4,e5,e6,e7];refine jk (jmi y oR) λη=>?_
 simp only [go_sem,jb];refine jk (kn y eN) λη=>?_
 simp only [go_sem];cases aR:jt y
 ·have hq:doQ y d=⟨8,0,0,0⟩:=by rw [doQ,if_neg cI,if_neg h1,if_neg h2,if_neg h3,if_neg h4,if_neg h5,if_neg h6,if_neg h7,if_neg (by rw [aR];decide)]
  rw [hq];simp only [go_sem,Bool.not_false];simp only [vl]
  apply ji
  simp only [go_sem,jA,true_or]
  apply ji
  simp only [go_sem,jA,jS,jI,true_or]
 ·have hq:doQ y d=⟨0,0,0,0⟩:=by rw [doQ,if_neg cI,if_neg h1,if_neg h2,if_neg h3,if_neg h4,if_neg h5,if_neg h6,if_neg h7,if_pos aR]
  rw [hq];simp only [go_sem,Bool.not_true];simp only [vl]
  apply ji
  simp only [go_sem,jA,true_or]
  apply ji
  simp only [go_sem,jA,jS,jI,true_or]
theorem jwH (y:Yd) (d:Dd) (ht:jB y<=1900000) (hd:jjr d<=2000000):jZ Tryz.prog 95 [.agg (jb y),.agg (kN d)] (.tup [(true,jb (doY y d)),(true,jex (doQ y d))]):=by
 refine pf_ jqv ?_;unfold jqF;have eN:jB y<=2000000:=by omega
 have oR:jB y<=1990000:=by omega
 have gL:d.aOF.aOI.length<=4000000:=by simp only [jjr,jf9] at hd;omega
 simp only [go_sem,jb,kN,je];intro b2 b3 b4 b5 b7;refine jw (jn4 d hd) (by simp only [go_sem,kN,je,aRE,aQG]) λη=>?_
 simp only [go_sem,aQG];cases hk:kg d
 ·have hy:doY y d=y:=by rw [doY,if_pos hk]
  have hq:doQ y d=⟨5,0,0,0⟩:=by rw [doQ,if_pos hk]
  rw [hy,hq];simp only [go_sem,Bool.not_false];refine jk (kp y eN) λη=>?_
  simp only [go_sem,jb];simp only [vl]
  apply ji
  simp only [go_sem,jA,true_or]
  apply ji
  simp only [go_sem,jA,jS,jI,true_or]
 have cI:¬kg d=false:=by rw [hk];decide
 simp only [go_sem,Bool.not_true];by_cases h1:d.aON=1
 ·have hy:doY y d=jaS y d.run d.aOF:=by rw [doY,if_neg cI,if_pos h1]
  have hq:doQ y d=⟨jbu y d.run d.aOF,0,0,0⟩:=by rw [doQ,if_neg cI,if_pos h1]
  have e1:(d.aON==1)=true:=by simp [h1]
  rw [hy,hq];simp only [go_sem,e1];refine jk (jgr y d.run d.aOF eN gL) λη=>?_
  simp only [go_sem,jb];simp only [vl]
  apply ji
  simp only [go_sem,jA,true_or]
  apply ji
  simp only [go_sem,jA,jS,jI,true_or]
 have e1:(d.aON==1)=false:=by simp [h1]
 by_cases h2:d.aON=2
 ·have hy:doY y d=qu y d.aOJ d.aOM:=by rw [doY,if_neg cI,if_neg h1,if_pos h2]
  have hq:doQ y d=jbw y d.aOJ d.aOM:=by rw [doQ,if_neg cI,if_neg h1,if_pos h2]
  have e2:(d.aON==2)=true:=by simp [h2]
  rw [hy,hq];simp only [go_sem,e1,e2];refine jk (jkU y d.aOJ d.aOM eN) λη=>?_
  simp only [go_sem,jb,jex];simp only [vl]
  apply ji
  simp only [go_sem,jA,true_or]
  apply ji
  simp only [go_sem,jA,jS,jI,true_or]
 have e2:(d.aON==2)=false:=by simp [h2]
 by_cases h3:d.aON=3
 ·have hy:doY y d=jc0 y d.run d.aOK d.tri:=by rw [doY,if_neg cI,if_neg h1,if_neg h2,if_pos h3]
  have hq:doQ y d=⟨jbt y d.run d.aOK d.tri,0,0,0⟩:=by rw [doQ,if_neg cI,if_neg h1,if_neg h2,if_pos h3]
  have e3:(d.aON==3)=true:=by simp [h3]
  rw [hy,hq];simp only [go_sem,e1,e2,e3];refine jk (jkW y d.run d.aOK d.tri eN) λη=>?_
  simp only [go_sem,jb];simp only [vl]
  apply ji
  simp only [go_sem,jA,true_or]
  apply ji
  simp only [go_sem,jA,jS,jI,true_or]
 have e3:(d.aON==3)=false:=by simp [h3]
 by_cases h4:d.aON=4
 ·have hy:doY y d=jcZ y d.run d.aOK d.tri:=by rw [doY,if_neg cI,if_neg h1,if_neg h2,if_neg h3,if_pos h4]
  have hq:doQ y d=⟨jbt y d.run d.aOK d.tri,0,0,0⟩:=by rw [doQ,if_neg cI,if_neg h1,if_neg h2,if_neg h3,if_pos h4]
  have e4:(d.aON==4)=true:=by simp [h4]
  rw [hy,hq];simp only [go_sem,e1,e2,e3,e4];refine jk (jrp y d.run d.aOK d.tri eN) λη=>?_
  simp only [go_sem,jb];simp only [vl]
  apply ji
  simp only [go_sem,jA,true_or]
  apply ji
  simp only [go_sem,jA,jS,jI,true_or]
 have e4:(d.aON==4)=false:=by simp [h4]
 by_cases h5:d.aON=5
 ·have hy:doY y d=jbH y:=by rw [doY,if_neg cI,if_neg h1,if_neg h2,if_neg h3,if_neg h4,if_pos h5]
  have hq:doQ y d=⟨jbI y,0,0,0⟩:=by rw [doQ,if_neg cI,if_neg h1,if_neg h2,if_neg h3,if_neg h4,if_pos h5]
  have e5:(d.aON==5)=true:=by simp [h5]
  rw [hy,hq];simp only [go_sem,e1,e2,e3,e4,e5];refine jk (jro y oR) λη=>?_
  simp only [go_sem,jb];simp only [vl]
  apply ji
  simp only [go_sem,jA,true_or]
  apply ji
  simp only [go_sem,jA,jS,jI,true_or]
 have e5:(d.aON==5)=false:=by simp [h5]
 by_cases h6:d.aON=6
 ·have hy:doY y d=kT y d.run:=by rw [doY,if_neg cI,if_neg h1,if_neg h2,if_neg h3,if_neg h4,if_neg h5,if_pos h6]
  have hq:doQ y d=⟨qp y d.run,0,0,0⟩:=by rw [doQ,if_neg cI,if_neg h1,if_neg h2,if_neg h3,if_neg h4,if_neg h5,if_pos h6]
  have e6:(d.aON==6)=true:=by simp [h6]
  rw [hy,hq];simp only [go_sem,e1,e2,e3,e4,e5,e6];refine jk (jn5 y d.run eN) λη=>?_
  simp only [go_sem,jb];simp only [vl]
  apply ji
  simp only [go_sem,jA,true_or]
  apply ji
  simp only [go_sem,jA,jS,jI,true_or]
 have e6:(d.aON==6)=false:=by simp [h6]
 by_cases h7:d.aON=7
 ·have hy:doY y d=jaL y d.run:=by rw [doY,if_neg cI,if_neg h1,if_neg h2,if_neg h3,if_neg h4,if_neg h5,if_neg h6,if_pos h7]
  have hq:doQ y d=⟨ja3 y d.run,0,0,0⟩:=by rw [doQ,if_neg cI,if_neg h1,if_neg h2,if_neg h3,if_neg h4,if_neg h5,if_neg h6,if_pos h7]
  have e7:(d.aON==7)=true:=by simp [h7]
  rw [hy,hq];simp only [go_sem,e1,e2,e3,e4,e5,e6,e7];refine jk (jn3 y d.run eN) λη=>?_
  simp only [go_sem,jb];simp only [vl]
  apply ji
  simp only [go_sem,jA,true_or]
  apply ji
  simp only [go_sem,jA,jS,jI,true_or]
 have e7:(d.aON==7)=false:=by simp [h7]
 have hy:doY y d=jcX y:=by rw [doY,if_neg cI,if_neg h1,if_neg h2,if_neg h3,if_neg h4,if_neg h5,if_neg h6,if_neg h7]
 rw [hy];simp only [go_sem,e1,e2,e3,e4,e5,e6,e7];refine jk (jmf y oR) λη=>?_
 simp only [go_sem,jb];refine jk (qb y eN) λη=>?_
 simp only [go_sem];cases aR:jt y
 ·have hq:doQ y d=⟨8,0,0,0⟩:=by rw [doQ,if_neg cI,if_neg h1,if_neg h2,if_neg h3,if_neg h4,if_neg h5,if_neg h6,if_neg h7,if_neg (by rw [aR];decide)]
  rw [hq];simp only [go_sem,Bool.not_false];simp only [vl]
  apply ji
  simp only [go_sem,jA,true_or]
  apply ji
  simp only [go_sem,jA,jS,jI,true_or]
 ·have hq:doQ y d=⟨0,0,0,0⟩:=by rw [doQ,if_neg cI,if_neg h1,if_neg h2,if_neg h3,if_neg h4,if_neg h5,if_neg h6,if_neg h7,if_pos aR]
  rw [hq];simp only [go_sem,Bool.not_true];simp only [vl]
  apply ji
  simp only [go_sem,jA,true_or]
  apply ji
  simp only [go_sem,jA,jS,jI,true_or]
