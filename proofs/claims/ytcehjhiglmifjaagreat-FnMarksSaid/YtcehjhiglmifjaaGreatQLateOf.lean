/- Parts. -/
import Derived.Test.YtcehjhiglmifjaaGreatQChange
import Derived.Test.YtcehjhiglmifjaaGreatQFam
import Derived.Test.YtcehjhiglmifjaaGreatQPoll
import Derived.Test.YtcehjhiglmifjaaGreatQReadY
set_option linter.all false
set_option maxHeartbeats 8000000
set_option maxRecDepth 100000
namespace Go.Proofs.YtcehjhiglmifjaaGreat
open Go.RowKit Go.Sort
def jfk:C:=iS [iA 1 (.box 52 8 (.t 0)),iA 2 wAN] (iS [aT 4 8 1,iA 5 (iK 133 [4]),iA 3 wAN,wAC 3 5] (.seq (iS [aT 6 8 1,iA 7 (iK 130 [6]),aU 8 7,aM 9 8,iB 10 9 false (iF 6 1),iB 11 9 false (iL 10),iB 12 9 false (iQ .neq 3 11 1),iA 13 (iY 9 (oT) (.t 12))] (iD 13 (iS [aT 14 8 3,wAC 2 14] .ret) .skip)) (iS [aT 15 8 3,iA 16 (.call 173 [.t 15,oI 4]),wAC 2 16] .ret)))
theorem jiG:fnC Tryz.prog Tryz.f191=some (jfk,[.cell 2 true 8],17):=by kernel_rfl
def jfw:C:=iS [iA 1 (.box 52 8 (.t 0)),iA 2 wAN] (iS [aT 4 8 1,iA 5 (iK 127 [4]),iA 3 wAN,wAC 3 5] (.seq (iS [aT 6 8 1,iA 7 (iK 81 [6]),aM 8 7,iB 9 8 true (iF 6 1),iB 10 8 true (iL 9),iB 11 8 true (iQ .eql 3 10 1),iA 12 (iY 8 (.t 11) (oF))] (iD 12 (iS [iA 13 (.call 171 [.t 3,.c (.int .i64 (-1))])] (.reg [aF 14 6 3,iC (.st 1 [none] (.t 14) (oI 4))])) .skip)) (iS [aT 15 8 3,wAC 2 15] .ret)))
theorem jiS:fnC Tryz.prog Tryz.f143=some (jfw,[.cell 2 true 8],16):=by kernel_rfl
def jhr:C:=iS [iA 2 (.box 27 4 (.t 0)),iA 4 wAM,aN 5 0] (iS [aT 8 4 2,iA 9 (iK 67 [8]),iA 6 wAM,wAA 6 9] (iS [aT 10 4 2,aM 11 1,iA 12 (iK 26 [10,11]),aM 7 12] (.seq (.blk 0 (iS [aT 14 4 2,iA 15 (iK 66 [14]),aU 16 15,aM 13 16] (iD 13 (iS [aT 17 4 6,wAA 4 17,aN 5 8] .ret) (iS [aM 19 7,aQ 20 .lss 3 19 0,aM 18 20] (iD 18 (iS [aT 21 4 6,wAA 4 21,aN 5 10] .ret) (iS [aF 23 3 2,aL 24 23,aM 25 7,aI 26 8 24 25,aF 27 6 26,aL 28 27,aQ 29 .neq 3 28 1,aM 22 29] (iD 22 (iS [aT 30 4 6,wAA 4 30,aN 5 12] .ret) .skip))))))) (.seq (.dreg (tA 0 31 (iF 3 6) (tA 1 32 (iL 31) (tA 2 33 (iM 7) (tA 3 34 (iF 3 6) (tA 4 35 (iL 34) (tA 5 36 (iM 7) (tA 6 37 (iI 8 35 36) (tA 7 38 (iT 8 37) (tC 39 (iK 191 [38]) [2,1,0] (tA 9 40 (iI 8 32 33) (.alt (wAC 40 39) [] .done .stop)) .stop)))))))))) (iS [aT 41 4 6,wAA 4 41,aN 5 0] .ret)))))
theorem jjR:fnC Tryz.prog Tryz.f150=some (jhr,[.cell 4 true 4,.t 5],42):=by kernel_rfl
def jhI:C:=iS [iA 2 (.box 27 4 (.t 0)),iA 4 wAM,aN 5 0] (iS [aT 8 4 2,iA 9 (iK 61 [8]),iA 6 wAM,wAA 6 9] (iS [aT 10 4 2,aM 11 1,iA 12 (iK 25 [10,11]),aM 7 12] (.seq (.blk 0 (iS [aT 14 4 2,iA 15 (iK 18 [14]),aU 16 15,aM 13 16] (iD 13 (iS [aT 17 4 6,wAA 4 17,aN 5 8] .ret) (iS [aM 19 7,aQ 20 .lss 3 19 0,aM 18 20] (iD 18 (iS [aT 21 4 6,wAA 4 21,aN 5 10] .ret) (iS [aF 23 3 2,aL 24 23,aM 25 7,aI 26 8 24 25,aF 27 6 26,aL 28 27,aQ 29 .neq 3 28 1,aM 22 29] (iD 22 (iS [aT 30 4 6,wAA 4 30,aN 5 12] .ret) .skip))))))) (.seq (.dreg (tA 0 31 (iF 3 6) (tA 1 32 (iL 31) (tA 2 33 (iM 7) (tA 3 34 (iF 3 2) (tA 4 35 (iL 34) (tA 5 36 (iM 7) (tA 6 37 (iI 8 35 36) (tA 7 38 (iT 8 37) (tC 39 (iK 143 [38]) [2,1,0] (tA 9 40 (iI 8 32 33) (.alt (wAC 40 39) [] .done .stop)) .stop)))))))))) (iS [aT 41 4 6,wAA 4 41,aN 5 0] .ret)))))
theorem jj9:fnC Tryz.prog Tryz.f90=some (jhI,[.cell 4 true 4,.t 5],42):=by kernel_rfl
theorem jmc (r:Rn) (cP:r.aNB.aNF.length<=4000000) (ht:r.aNA.length<=4000000):jW Tryz.prog 191 [.agg (je r)] (.agg (je (jaB r))):=by
 refine pf_ jiG ?_;unfold jfk;simp only [go_sem,je,jd];intro b1 b2;refine jm (vI r cP ht) λbD=>?_
 simp only [go_sem,je,jd];intro b3;refine jm (jdl r) λη=>?_
 simp only [go_sem];cases h:kH r
 ·have hb:jaB r=r:=jko (by simp [h])
  simp only [go_sem,hb]
 cases h1:r.aND !=1;rotate_left
 ·have cW:(r.aND==1)=false:=by have:=h1;simp only [bne,Bool.not_eq_true'] at this;exact this
  have hb:jaB r=r:=jko (by simp [h,cW])
  simp only [go_sem,h1,hb]
 have cW:(r.aND==1)=true:=by have:=h1;simp only [bne,Bool.not_eq_false'] at this;exact this
 have hb:jaB r=⟨r.id,r.aNB,4,vq jA r.aNA r.aNA.length⟩:=jqg (by simp [h,cW])
 rw [hb];simp only [go_sem,h1];generalize gB:r.aNA=ts0 at*;refine kZ (qo (β:=7000000) Tryz.func173 jbj (by simp) ?_)
 unfold jaY;simp only [go_sem];intro b72 b74;refine qY (λi:Nat=>St.of [(1,Ni 4),(2,Bx 2 b72),(4,Bx 4 b74),(5,Ni i)] [(200,ZRn b2 tRn),(2,ja1 b72 tRn ⟨r.id,r.aNB,r.aND,vq jA ts0 i⟩ (bD 5) (bD 7)),(4,ZRn b74 tRn)]) (λi=>i<=ts0.length) (λi=>ts0.length-i) 0 (jt [200,700000200,700000400] (by simp only [go_sem,jtx]<;>trivial)) ?_
 rintro j hj;have eA:=vT (f:=jA) (ts:=ts0) (k:=j);by_cases aB:j<ts0.length
 ·have aA:(j:Int)<ts0.length:=by omega
  have dX:=qX j;obtain ⟨y,hy⟩:=ja aB;have fI:=jgt (f:=jA) hy;have cQ:=jgs (f:=jA) hy;generalize vq jA ts0 j=M at*;have lC:j<M.length:=by omega
  have hw:=kx j;simp only [go_sem,eA,aA,dX,aB,jvR fI,jjA fI,jH];intro b6;cases gG:y.aND !=4
  ·have lK:y.aND=4:=by simpa using gG
   have nH:jA j y=y:=by simp [jA,lK]
   have hg:jA j y=⟨y.aND,y.aNL,y.tri,y.til⟩:=nH;rw [hg] at cQ;simp only [go_sem,eA,dX,aB,jcc y.aND y.aNL y.tri y.til lC,cQ,jjA fI,hw];exact qf (j+1) (jt [200,2,4])
  cases rS:y.aND !=5
  ·have tV:y.aND=5:=by simpa using rS
   have nH:jA j y=y:=by simp [jA,tV]
   have hg:jA j y=⟨y.aND,y.aNL,y.tri,y.til⟩:=nH;rw [hg] at cQ;simp only [go_sem,aOO,eA,dX,aB,rS,jcc y.aND y.aNL y.tri y.til lC,cQ,jjA fI,hw];exact qf (j+1) (jt [200,2,4])
  ·have hg:jA j y=⟨6,y.aNL,y.tri,0⟩:=by
    have h1:¬y.aND=4:=by simpa using gG
    have h2:¬y.aND=5:=by simpa using rS
    simp [jA,h1,h2]
   rw [hg] at cQ;simp only [go_sem,aOO,eA,dX,aB,rS,jcc 6 y.aNL y.tri 0 lC,cQ,jjA fI,hw];exact qf (j+1) (jt [200,2,4])
 have aA:¬(j:Int)<ts0.length:=by omega
 obtain rfl:j=ts0.length:=by omega
 generalize vq jA ts0 ts0.length=M at*;simp only [go_sem,eA,aA]
theorem jmi (r:Rn) (cP:r.aNB.aNF.length<=4000000) (ht:r.aNA.length<=4000000):jW Tryz.prog 143 [.agg (je r)] (.agg (je (jaB r))):=by
 refine pf_ jiS ?_;unfold jfw;simp only [go_sem,je,jd];intro b1 b2;refine jm (jeW r cP ht) λbD=>?_
 simp only [go_sem,je,jd];intro b3;refine jm (ji9 r cP) λη=>?_
 simp only [go_sem];cases h:kH r
 ·have hb:jaB r=r:=jko (by simp [h])
  simp only [go_sem,hb]
 cases h1:r.aND==1
 ·have hb:jaB r=r:=jko (by simp [h,h1])
  simp only [go_sem,h1,hb]
 have hb:jaB r=⟨r.id,r.aNB,4,vq jA r.aNA r.aNA.length⟩:=jqg (by simp [h,h1])
 have h5:=jGn (runOk_iff.1 h) (by simpa using h1)
 rw [hb,<-jvl h5];simp only [go_sem,h1];generalize gB:r.aNA=ts0 at*;refine kZ (qo (β:=8000000) Tryz.func171 jdE (by simp) ?_)
 unfold jdV;simp only [go_sem,aOO];refine qY (λi:Nat=>St.of [(0,Bx 300 b3),(1,Ni (-1)),(10,Ni ts0.length),(11,Ni i)] [(200,ZRn b2 tRn),(300,ja1 b3 tRn ⟨r.id,r.aNB,r.aND,vq (qw (-1)) ts0 i⟩ (bD 5) (bD 7))]) (λi=>i<=ts0.length) (λi=>ts0.length-i) 0 (jt [200,300] (by simp only [go_sem,jtx]<;>trivial)) ?_
 rintro j hj;have eA:=vT (f:=qw (-1)) (ts:=ts0) (k:=j);by_cases aB:j<ts0.length
 ·have aA:(j:Int)<ts0.length:=by omega
  have dX:=qX j;obtain ⟨y,hy⟩:=ja aB;have fI:=jgt (f:=qw (-1)) hy;have cQ:=jgs (f:=qw (-1)) hy;have mN:=jqc (f:=qw (-1)) hy;generalize vq (qw (-1)) ts0 j=M at*;have hw:=kx j;have lC:j<M.length:=by omega
  have bO:¬(j:Int)=-1:=by omega
  have aJ:((j:Int) !=-1)=true:=by simp only [bne,Bool.not_eq_true',beq_eq_false_iff_ne];exact bO
  cases gG:y.aND !=4
  ·have hg:qw (-1) j y=y:=by have:y.aND=4:=by simpa using gG
                             simp [qw,this]
   have hq:=mN hg;simp only [go_sem,aOO,eA,aA,dX,aB,aJ,jhL fI,vL fI,gG,hw];exact qf (j+1) (jt [200,300] (by simp only [go_sem,hq]<;>trivial))
  ·have hg:qw (-1) j y=⟨6,y.aNL,y.tri,0⟩:=by
    have h1:¬y.aND=4:=by simpa using gG
    simp [qw,h1,bO]
   rw [hg] at cQ;have mZ:(M.set j ⟨6,y.aNL,y.tri,y.til⟩)[j]?=some ⟨6,y.aNL,y.tri,y.til⟩:=aNX lC;simp only [go_sem,aOO,eA,aA,dX,aB,aJ,jhL fI,vL fI,gG,jcd fI,jfG mZ,jlg mZ,aPE,cQ,hw];exact qf (j+1) (jt [200,300])
 have aA:¬(j:Int)<ts0.length:=by omega
 obtain rfl:j=ts0.length:=by omega
 generalize vq (qw (-1)) ts0 ts0.length=M at*;simp only [go_sem,aA]
theorem jn9 (y:Yd) (id:Int) (ht:jn y<=2000000):jW Tryz.prog 150 [.agg (jc y),.c (.val (.int .i64 id))] (.tup [(true,jc (kF y id)),(false,[.val (.int .i64 (kW y id))])]):=by
 refine pf_ jjR ?_;unfold jhr;simp only [go_sem,jc];intro b2 b4;refine jm (km y ht) λbD=>?_
 simp only [go_sem,jc];intro b6;refine jm (qs y id) λη=>?_
 simp only [go_sem];refine jm (qr y ht) λη=>?_
 simp only [go_sem];cases aR:ju y
 ·have hc:kW y id=8:=by simp [kW,aR]
  have hy:kF y id=y:=by simp [kF,hc]
  simp only [go_sem,hc,hy]
  apply kV
  simp only [go_sem]
 by_cases aK:runAt y id<0
 ·have hc:kW y id=10:=by simp [kW,aR,aK]
  have hy:kF y id=y:=by simp [kF,hc]
  simp only [go_sem,aK,hc,hy]
  apply kV
  simp only [go_sem]
 obtain ⟨k,r,bZ,hr,hid,h8⟩:=kP aK;have hk:=(aNP.1 hr).1;have bJ:=qX k;have cB:¬(k:Int)<0:=by omega
 have eF:(y.aNE[(runAt y id).toNat]?).getD default=r:=by rw [bZ,aNW,hr];rfl
 cases aH:r.aND !=1;rotate_left
 ·have eO:¬r.aND=1:=by simpa using aH
  have hc:kW y id=12:=by unfold kW;rw [if_neg (by simp [aR]),if_neg aK,eF,if_neg eO]
  have hy:kF y id=y:=by simp [kF,hc]
  simp only [go_sem,bZ,cB,bJ,hk,jT hr,je,jd,aH,hc,hy]
  apply kV
  simp only [go_sem]
 have eO:r.aND=1:=by simpa using aH
 have hc:kW y id=0:=by unfold kW;rw [if_neg (by simp [aR]),if_neg aK,eF,if_pos eO]
 have hy:kF y id=jeQ y k (jaB r):=by rw [kF,if_pos hc,eF,bZ,aNW]
 have fK:=jdh ht (aNQ hr);rw [hc,hy,jeQ];simp only [go_sem,bZ,cB,bJ,hk,jT hr,jmz hr,jih hr,je,jd,aH];refine jG (jmc r fK.1 fK.2) (by simp only [go_sem,je,jd,zw hr,zu hr]) λη=>?_
 simp only [go_sem,je,jd];simp only [go_sem,hk,jrG (jaB r) hk];refine ⟨jih hr,λaC hη=>kV _ _ _ _ _ ?_⟩
 simp only [go_sem]
theorem jol (y:Yd) (id:Int) (ht:jn y<=2000000):jW Tryz.prog 90 [.agg (jc y),.c (.val (.int .i64 id))] (.tup [(true,jc (kF y id)),(false,[.val (.int .i64 (kW y id))])]):=by
 refine pf_ jj9 ?_;unfold jhI;simp only [go_sem,jc];intro b2 b4;refine jm (jY y ht) λbD=>?_
 simp only [go_sem,jc];intro b6;refine jm (qv y id) λη=>?_
 simp only [go_sem];refine jm (kK y ht) λη=>?_
 simp only [go_sem];cases aR:ju y
 ·have hc:kW y id=8:=by simp [kW,aR]
  have hy:kF y id=y:=by simp [kF,hc]
  simp only [go_sem,hc,hy]
  apply kV
  simp only [go_sem]
 by_cases aK:runAt y id<0
 ·have hc:kW y id=10:=by simp [kW,aR,aK]
  have hy:kF y id=y:=by simp [kF,hc]
  simp only [go_sem,aK,hc,hy]
  apply kV
  simp only [go_sem]
 obtain ⟨k,r,bZ,hr,hid,h8⟩:=kP aK;have hk:=(aNP.1 hr).1;have bJ:=qX k;have cB:¬(k:Int)<0:=by omega
 have eF:(y.aNE[(runAt y id).toNat]?).getD default=r:=by rw [bZ,aNW,hr];rfl
 cases aH:r.aND !=1;rotate_left
 ·have eO:¬r.aND=1:=by simpa using aH
  have hc:kW y id=12:=by unfold kW;rw [if_neg (by simp [aR]),if_neg aK,eF,if_neg eO]
  have hy:kF y id=y:=by simp [kF,hc]
  simp only [go_sem,bZ,cB,bJ,hk,jT hr,je,jd,aH,hc,hy]
  apply kV
  simp only [go_sem]
 have eO:r.aND=1:=by simpa using aH
 have hc:kW y id=0:=by unfold kW;rw [if_neg (by simp [aR]),if_neg aK,eF,if_pos eO]
 have hy:kF y id=jeQ y k (jaB r):=by rw [kF,if_pos hc,eF,bZ,aNW]
 have fK:=jdh ht (aNQ hr);rw [hc,hy,jeQ];simp only [go_sem,bZ,cB,bJ,hk,jT hr,je,jd,aH];refine jm (jmi r fK.1 fK.2) λη=>?_
 simp only [go_sem,je,jd];simp only [go_sem,hk,jrG (jaB r) hk];refine ⟨jih hr,λaC hη=>kV _ _ _ _ _ ?_⟩
 simp only [go_sem]
def jhn:C:=iS [iA 1 (.box 27 4 (.t 0)),iA 2 (.mov (.c (.slice none 0 0)))] (iS [iA 7 (.bsl 29 1 0 [] []),aM 3 7] (.seq (iS [aN 4 0] (.blk 0 (.loop (.seq (iS [aM 8 4,aF 9 3 1,aL 10 9,aG 11 10,aP 12 .lss 3 8 11] (iD 12 .skip (.exit 0))) (.seq (.blk 1 (iS [aN 5 0] (.blk 2 (.loop (.seq (iS [aM 15 5,aF 16 3 1,aL 17 16,aM 18 4,aI 19 8 17 18,aF 20 7 19,aL 21 20,aG 22 21,aP 23 .lss 3 15 22] (iD 23 .skip (.exit 2))) (.seq (.blk 3 (iS [aF 26 3 1,aL 27 26,aM 28 4,aI 29 8 27 28,aF 30 7 29,aL 31 30,aM 32 5,aI 33 4 31 32,aT 34 4 33,iA 6 wAO,wAB 6 34] (iS [aF 35 0 6,aL 36 35,aQ 37 .eql 3 36 3,aM 38 37,iB 39 38 true (iF 3 6),iB 40 38 true (iL 39),iB 41 38 true (iF 0 1),iB 42 38 true (iL 41),iB 43 38 true (iP .leq 3 40 42),iB 44 38 true (iM 43),iB 45 44 false (iF 3 6),iB 46 44 false (iL 45),iB 47 44 false (iQ .sub 3 46 1),iB 48 44 false (iF 0 1),iB 49 44 false (iL 48),iB 50 44 false (iP .leq 3 47 49),iB 51 38 true (iY 44 (oT) (.t 50)),iA 52 (iY 38 (.t 51) (oF))] (iD 52 (.dreg (tA 0 53 (iM 3) (tA 1 54 (iF 3 1) (tA 2 55 (iL 54) (tA 3 56 (iM 4) (tA 4 57 (iI 8 55 56) (tA 5 58 (iF 0 57) (tA 6 59 (iL 58) (tA 7 60 (iM 5) (tA 8 61 (iF 2 6) (tA 9 62 (iL 61) (tC 63 (wA7 [(0,1,.t 59),(1,1,.t 60),(2,1,.t 62)]) [0] (tC 64 (.bsl 29 1 1 [some (1,3)] [(0,1,.t 63)]) [0] (tC 65 (.app 29 1 24 (.t 53) (.t 64)) [] (tA 13 3 (iM 65) .done) .stop) .stop) .stop)))))))))))) .skip)))) (.reg [aM 24 5,aQ 25 .add 3 24 1,aM 5 25]))))))) (.reg [aM 13 4,aQ 14 .add 3 13 1,aM 4 14])))))) (iS [aM 66 3,aM 2 66] .ret)))
theorem jjN:fnC Tryz.prog Tryz.f54=some (jhn,[.t 2],67):=by kernel_rfl
def jhD:C:=iS [iA 1 (.box 27 4 (.t 0)),iA 2 (.mov (.c (.slice none 0 0)))] (iS [iA 3 (.mov (.c (.slice none 0 0)))] (.seq (iS [aF 8 3 1,aL 9 8,aG 10 9,aN 11 0] (.blk 0 (.loop (iS [aP 12 .lss 3 11 10] (.seq (iD 12 .skip (.exit 0)) (.seq (.blk 1 (iS [aI 13 8 9 11,aT 14 8 13,iA 5 wAN,wAC 5 14] (iS [aF 15 7 5,aL 16 15,aG 17 16,aN 18 0] (.blk 2 (.loop (iS [aP 19 .lss 3 18 17] (.seq (iD 19 .skip (.exit 2)) (.seq (.blk 3 (iS [aM 20 18,aI 21 4 16 18,aT 22 4 21,iA 7 wAO,aM 6 20,wAB 7 22] (iS [aF 23 0 7,aL 24 23,aQ 25 .eql 3 24 3,aM 26 25,iB 27 26 true (iF 3 7),iB 28 26 true (iL 27),iB 29 26 true (iF 0 1),iB 30 26 true (iL 29),iB 31 26 true (iP .leq 3 28 30),iB 32 26 true (iM 31),iB 33 32 false (iF 3 7),iB 34 32 false (iL 33),iB 35 32 false (iQ .sub 3 34 1),iB 36 32 false (iF 0 1),iB 37 32 false (iL 36),iB 38 32 false (iP .eql 3 35 37),iB 39 26 true (iY 32 (oT) (.t 38)),iA 40 (iY 26 (.t 39) (oF))] (iD 40 (.reg [aM 41 3,aF 42 0 5,aL 43 42,aM 44 6,aF 45 2 7,aL 46 45,iA 47 (wA7 [(0,1,.t 43),(1,1,.t 44),(2,1,.t 46)]),iA 48 (.bsl 29 1 1 [some (1,3)] [(0,1,.t 47)]),iA 49 (.app 29 1 24 (.t 41) (.t 48)),aM 3 49]) .skip)))) (.reg [aQ 50 .add 3 18 1,aM 18 50]))))))))) (.reg [aQ 51 .add 3 11 1,aM 11 51]))))))) (iS [aM 52 3,aM 2 52] .ret)))
theorem jj3:fnC Tryz.prog Tryz.f50=some (jhD,[.t 2],53):=by kernel_rfl
def wfL (y:Yd):Prop:=inR y.now/\∀r∈y.aNE,∀x∈r.aNA,inR x.til
theorem jgA (l:List (List Int)) (a b c:Int):D.sl 1 tIs (l.flatMap (λes=>[jb es])++[D.sl 1 jeP [iv a,iv b,iv c]])=qQ (l++[[a,b,c]]):=by simp [qQ,jb]
theorem jn5 (y:Yd) (ht:jn y<=2000000) (wf:wfL y):jW Tryz.prog 54 [.agg (jc y)] (.c (qQ (kq y))):=by
 refine pf_ jjN ?_;unfold jhn;have hl:=jhW ht;have iV:qh kz y.aNE<=2000000:=by simp only [jn,zn] at ht;omega
 rw [jtC];simp only [go_sem,jc];intro b fB;refine kg (λi:Nat×jf=>St.of [(1,Bx 100 b),(3,Hd 700 i.2),(4,Ni i.1)] [(100,Bi b _ (jc y)),(700,.loose (qQ ((y.aNE.take i.1).flatMap (jlc y.now))) i.2)]) (λi=>i.1<=y.aNE.length) (λi=>y.aNE.length-i.1) (0,fB) (aOL _) (jt [100,700] (by simp only [go_sem,jc]<;>and_intros<;>rfl)) ?_
 rintro ⟨i,η⟩ hi;dsimp only at hi;by_cases aB:i<y.aNE.length
 ·have aA:(i:Int)<y.aNE.length:=by omega
  obtain ⟨r,hr⟩:=ja aB;have hrw:=wf.2 r (aNQ hr);have gA:=kx i;have hbi:=jxZ y.now (y.aNE.take i);have gB:=vd (tot:=kz) hr;have dB:=zm kz y.aNE (i+1);have v8:r.aNA.length<=kz r:=by simp only [kz];omega
  have cH:=jqh (now:=y.now) hr;simp only [go_sem,jc,aA];generalize hL:(y.aNE.take i).flatMap (jlc y.now)=L at*;refine kg (λk:Nat×jf=>St.of [(1,Bx 100 b),(3,Hd 700 k.2),(4,Ni i),(5,Ni k.1)] [(100,Bi b _ (jc y)),(700,.loose (qQ (L++jag y.now r 0 (r.aNA.take k.1))) k.2)]) (λk=>k.1<=r.aNA.length) (λk=>r.aNA.length-k.1) (0,η) (aOL _) (jt [100,700] (by simp only [go_sem,jc,aOW,jag,aOP]<;>and_intros<;>rfl)) ?_
  rintro ⟨j,eH⟩ hj;dsimp only at hj;by_cases dU:j<r.aNA.length
  ·have bB:(j:Int)<r.aNA.length:=by omega
   obtain ⟨x,hx⟩:=ja dU;have hxw:=hrw x (aNQ hx);have dF:=kx j;have hlr:=jgz y.now r (r.aNA.take j) 0;have hn:=jm6 (now:=y.now) (r:=r) hx;rw [aNV] at hlr;obtain ⟨bL,cG⟩:=hxw;obtain ⟨⟨sH,hy2⟩,-⟩:=wf;simp only [go_sem,jc,aB,dU,bB,jT hr,je,jd,jP hx,jH];generalize hM:jag y.now r 0 (r.aNA.take j)=M at*;have eX:1<=maxLen:=zy;have h3m:3<=maxLen:=zy;have dI:(L++M).length+1<=maxLen:=by rw [aNR];unfold maxLen;omega
   have eB:((L++M).length+1)*24<=140737488355328:=by rw [aNR];omega
   intro b2;by_cases hs:x.aND=3
   ·by_cases cE:x.til<=y.now
    ·have dE:jaC y.now r.id x j=some [r.id,j,x.tri]:=by simp [jaC,hs,cE]
     rw [dE] at hn;simp only [go_sem,hs,cE,aQC,jT hr,aB,je,jd,dI,eB,jgA,dF];intro aS cI dP;exact ⟨(j+1,dP),by dsimp only;omega,jt [100,6500] (by simp only [go_sem,hn,Option.toList,aOB]<;>and_intros<;>rfl),by dsimp only;omega⟩
    ·by_cases eR:x.til-1=y.now
     ·have dE:jaC y.now r.id x j=some [r.id,j,x.tri]:=by simp [jaC,hs,eR]
      have bA:IntKind.i64.wrap (x.til-1)=x.til-1:=vF;have oR:x.til-1<=y.now:=by omega
      rw [dE] at hn;simp only [go_sem,hs,cE,bA,oR,aQC,jT hr,aB,je,jd,dI,eB,jgA,dF];intro aS cI dP;exact ⟨(j+1,dP),by dsimp only;omega,jt [100,6500] (by simp only [go_sem,hn,Option.toList,aOB]<;>and_intros<;>rfl),by dsimp only;omega⟩
     ·have dE:jaC y.now r.id x j=none:=by simp [jaC,cE,eR]
      have bA:IntKind.i64.wrap (x.til-1)=x.til-1:=vF;have oR:¬x.til-1<=y.now:=by omega
      rw [dE] at hn;simp only [go_sem,hs,cE,bA,oR,aQC,dF];exact ⟨(j+1,eH),by dsimp only;omega,jt [100,700] (by simp only [go_sem,hn,Option.toList,aOP]<;>and_intros<;>rfl),by dsimp only;omega⟩
   ·have dE:jaC y.now r.id x j=none:=by simp [jaC,hs]
    have mO:(x.aND==3)=false:=by simpa using hs
    rw [dE] at hn;simp only [go_sem,mO,dF];exact ⟨(j+1,eH),by dsimp only;omega,jt [100,700] (by simp only [go_sem,hn,Option.toList,aOP]<;>and_intros<;>rfl),by dsimp only;omega⟩
  ·have bB:¬(j:Int)<r.aNA.length:=by omega
   rw [aNU (by omega)]
   simp only [go_sem,jc,aB,jT hr,je,jd,bB,gA];exact ⟨(i+1,eH),by dsimp only;omega,jt [100,700] (by simp only [go_sem,cH]<;>and_intros<;>rfl),by dsimp only;omega⟩
 ·have aA:¬(i:Int)<y.aNE.length:=by omega
  rw [aNU (by omega)]
  simp only [go_sem,jc,aA]
theorem jog (y:Yd) (ht:jn y<=2000000) (wf:wfL y):jW Tryz.prog 50 [.agg (jc y)] (.c (qQ (kq y))):=by
 refine pf_ jj3 ?_;unfold jhD;have hl:=jhW ht;have iV:qh kz y.aNE<=2000000:=by simp only [jn,zn] at ht;omega
 rw [jtC];simp only [go_sem,jc];intro b;refine qY (λi:Nat×jf=>St.of [(1,Bx 100 b),(3,Hd 7 i.2),(9,Ro (jE y.aNE)),(10,Ni y.aNE.length),(11,Ni i.1)] [(100,Bi b _ (jc y)),(7,.loose (qQ ((y.aNE.take i.1).flatMap (jlc y.now))) i.2)]) (λi=>i.1<=y.aNE.length) (λi=>y.aNE.length-i.1) (0,jbL) (ze [some 100,none] (by simp only [go_sem,jc]<;>trivial)) ?_
 rintro ⟨i0,η⟩ hi;dsimp only at hi;by_cases aB:i0<y.aNE.length
 ·have aA:(i0:Int)<y.aNE.length:=by omega
  obtain ⟨r,hr⟩:=ja aB;have hrw:=wf.2 r (aNQ hr);have gA:=kx i0;have hbi:=jxZ y.now (y.aNE.take i0);have gB:=vd (tot:=kz) hr;have dB:=zm kz y.aNE (i0+1);have v8:r.aNA.length<=kz r:=by simp only [kz];omega
  have cH:=jqh (now:=y.now) hr;simp only [go_sem,jc,aB,aA,jT hr,je,jd];generalize hL:(y.aNE.take i0).flatMap (jlc y.now)=L at*;intro b2;refine qY (λi:Nat×jf=>St.of [(1,Bx 100 b),(3,Hd 7 i.2),(5,Bx 500 b2),(9,Ro (jE y.aNE)),(10,Ni y.aNE.length),(11,Ni i0),(16,Ro (jx r.aNA)),(17,Ni r.aNA.length),(18,Ni i.1)] [(100,Bi b _ (jc y)),(500,Bi b2 _ (je r)),(7,.loose (qQ (L++jag y.now r 0 (r.aNA.take i.1))) i.2)]) (λi=>i.1<=r.aNA.length) (λi=>r.aNA.length-i.1) (0,η) (jt [100,500,7] (by simp only [go_sem,jc,je,jd,aOW,jag,aOP]<;>trivial)) ?_
  rintro ⟨j,eH⟩ hj;dsimp only at hj;by_cases dU:j<r.aNA.length
  ·have bB:(j:Int)<r.aNA.length:=by omega
   obtain ⟨x,hx⟩:=ja dU;have hxw:=hrw x (aNQ hx);have dF:=kx j;have hlr:=jgz y.now r (r.aNA.take j) 0;have hn:=jm6 (now:=y.now) (r:=r) hx;rw [aNV] at hlr;obtain ⟨bL,cG⟩:=hxw;obtain ⟨⟨sH,hy2⟩,-⟩:=wf;simp only [go_sem,jc,dU,bB,jP hx,jH];generalize hM:jag y.now r 0 (r.aNA.take j)=M at*;have dI:(L++M).length+1<=maxLen:=by rw [aNR];unfold maxLen;omega
   have eB:((L++M).length+1)*24<=140737488355328:=by rw [aNR];omega
   intro b3;by_cases hs:x.aND=3
   ·by_cases cE:x.til<=y.now
    ·have dE:jaC y.now r.id x j=some [r.id,j,x.tri]:=by simp [jaC,hs,cE]
     rw [dE] at hn;simp only [go_sem,je,jd,hs,cE,aQC,dI,eB,jgA,dF];intro aS cI dP;exact qf (j+1,dP) (jt [100,500,4900] (by simp only [go_sem,hn,Option.toList,aOB]<;>trivial))
    ·by_cases eR:x.til-1=y.now
     ·have dE:jaC y.now r.id x j=some [r.id,j,x.tri]:=by simp [jaC,hs,eR]
      have uJ:(x.til-1==y.now)=true:=by simpa using eR
      have bA:IntKind.i64.wrap (x.til-1)=x.til-1:=vF;rw [dE] at hn;simp only [go_sem,je,jd,hs,cE,bA,uJ,aQC,dI,eB,jgA,dF];intro aS cI dP;exact qf (j+1,dP) (jt [100,500,4900] (by simp only [go_sem,hn,Option.toList,aOB]<;>trivial))
     ·have dE:jaC y.now r.id x j=none:=by simp [jaC,cE,eR]
      have bA:IntKind.i64.wrap (x.til-1)=x.til-1:=vF;have uJ:(x.til-1==y.now)=false:=by simpa using eR
      rw [dE] at hn;simp only [go_sem,hs,cE,bA,uJ,aQC,dF];exact qf (j+1,eH) (jt [100,500,7] (by simp only [go_sem,je,jd,hn,Option.toList,aOP]<;>trivial))
   ·have dE:jaC y.now r.id x j=none:=by simp [jaC,hs]
    have mO:(x.aND==3)=false:=by simpa using hs
    rw [dE] at hn;simp only [go_sem,mO,dF];exact qf (j+1,eH) (jt [100,500,7] (by simp only [go_sem,je,jd,hn,Option.toList,aOP]<;>trivial))
  ·have bB:¬(j:Int)<r.aNA.length:=by omega
   rw [aNU (by omega)]
   simp only [go_sem,bB,gA];exact qf (i0+1,eH) (jt [100,7] (by simp only [go_sem,jc,cH,jlc]<;>trivial))
 ·have aA:¬(i0:Int)<y.aNE.length:=by omega
  rw [aNU (by omega)]
  simp only [go_sem,jc,aA]
theorem jqi (now:Int) (r:Rn):∀(ts:List Tk) (k:Nat) (l:List Int),l∈jag now r k ts->∃(t:Nat) (x:Tk),ts[t]?=some x/\x.aND=3/\l=[r.id,((k+t:Nat):Int),x.tri]
 |[],_,_,h=>by simp [jag] at h
 |z::ts,k,l,h=>by
  rw [jag] at h;rcases aNT.1 h with h|h
  ·unfold jaC at h
   split at h
   ·rename_i hc
    simp at h;simp only [aOF,aPV] at hc;exact ⟨0,z,rfl,hc.1,by rw [h];rfl⟩
   ·simp at h
  ·obtain ⟨t,x,h1,h2,h3⟩:=jqi now r ts (k+1) l h
   exact ⟨t+1,x,by simpa using h1,h2,by rw [h3,Nat.add_right_comm,aRC]⟩
theorem jtB {y:Yd} (hP:YardOkP y) {l:List Int} (h:l∈kq y):∃(k t:Nat) (r:Rn) (x:Tk),y.aNE[k]?=some r/\r.aNA[t]?=some x/\runAt y r.id=k/\x.aND=3/\l=[r.id,(t:Int),x.tri]:=by
 obtain ⟨r,hr,hl⟩:=aQQ.1 h;obtain ⟨k,hk,rfl⟩:=aOZ hr;have pW:y.aNE[k]?=some y.aNE[k]:=aNS hk;obtain ⟨t,x,h1,h2,h3⟩:=jqi _ _ _ _ _ hl;exact ⟨k,t,_,x,pW,h1,hP.place k _ pW,h2,by rw [h3,aPH]⟩
theorem jos {y:Yd} (hP:YardOkP y):(kq y).length<=96:=by
 have h:∀l:List Rn,(∀r∈l,r.aNA.length<=12)->(l.flatMap λr=>jag y.now r 0 r.aNA).length<=12*l.length:=by
  intro l
  induction l with
  |nil=>intro;simp
  |cons r l ih=>
   intro h;have h1:=h r (by simp)
   have h2:=ih λr hr=>h r (by simp [hr])
   have h3:=jgz y.now r r.aNA 0;simp only [aOM,aNR,aOD] at h2⊢;omega
 have h1:=h y.aNE λr hr=>(hP.right r hr).le12
 have h2:=hP.eight;have e:(kq y).length=(y.aNE.flatMap λr=>jag y.now r 0 r.aNA).length:=rfl
 omega
noncomputable def jnJ (z:Yd) (l:List Int):Yd:=failK z (runAt z (l.headD 0)).toNat (l.tail.headD 0).toNat
noncomputable def tickI (y:Yd) (i:Nat):Yd:=((kq y).take i).foldl jnJ y
noncomputable def ja5 (y:Yd):Int:=if ju y=false then 8 else if y.now+1>999999980 then 7 else 0
noncomputable def ja4 (y:Yd):Yd:=if ja5 y=0 then ⟨y.now+1,(tickI y (kq y).length).seq,(tickI y (kq y).length).aNC,(tickI y (kq y).length).aNE⟩ else y
theorem jc7 {y:Yd} {i:Nat} {l:List Int} (h:(kq y)[i]?=some l):tickI y (i+1)=jnJ (tickI y i) l:=by
 rw [tickI,aOA,h,List.foldl_append];rfl
theorem jed {y:Yd} (hP:YardOkP y):∀i,StepI y (tickI y i) i
 |0=>.refl hP
 |i+1=>by
  have ih:=jed hP i;cases h:(kq y)[i]? with
  |none=>
   have:tickI y (i+1)=tickI y i:=by rw [tickI,tickI,aOA,h];simp
   rw [this];exact ih.mono (Nat.le_succ i)
  |some l=>rw [jc7 h];exact ih.fail _ _
section
variable {L:List (List Int)} {i:Nat} {l:List Int}
theorem jsk (h:L[i]?=some l):D.get [i] (qQ L)=some (jb l):=by
 have e:L.flatMap (λes=>[jb es])=L.map jb:=by clear h;induction L<;>simp_all
 simp [qQ,D.get,e,h]
theorem jzj (h:L[i]?=some l):((L.flatMap λes=>[jb es]).drop i).take 1=[jb l]:=by have:=jzk h;rwa [aOG] at this
theorem jyb (h:L[i]?=some l):i+1<=(L.flatMap λes=>[jb es]).length:=by have:=jyc (aNP.1 h).1;rwa [aOG] at this
end
theorem jo9 {y:Yd} (h:YardOkP y):wfL y:=by
 refine ⟨by have:=h.now;simp only [inR];omega,λr hr x hx=>?_⟩
 obtain ⟨k,hk,rfl⟩:=aOZ hx;have h1:=taskB_iff.1 ((h.right r hr).aNA k _ (aNS hk));have h2:=h1.2.2.2.1;unfold jbv at h2;split at h2
 ·simp only [inB,aOJ] at h2;simp only [inR];omega
 ·have:r.aNA[k].til=0:=by simpa using h2
  simp only [inR];omega
def jlM:C:=iS [iA 1 (.box 27 4 (.t 0)),iA 2 wAM,aN 3 0] (iS [aT 8 4 1,iA 9 (iK 67 [8]),iA 4 wAM,wAA 4 9] (.seq (iS [aT 10 4 1,iA 11 (iK 66 [10]),aU 12 11] (iD 12 (iS [aT 13 4 4,wAA 2 13,aN 3 8] .ret) .skip)) (.seq (iS [aF 14 0 1,aL 15 14,aQ 16 .add 3 15 1,aQ 17 .gtr 3 16 999999980] (iD 17 (iS [aT 18 4 4,wAA 2 18,aN 3 7] .ret) .skip)) (iS [aT 19 4 1,iA 20 (iK 54 [19]),aM 5 20] (.seq (iS [aN 6 0] (.blk 0 (.loop (.seq (iS [aM 21 6,aM 22 5,aG 23 22,aP 24 .lss 3 21 23] (iD 24 .skip (.exit 0))) (.seq (.blk 1 (.seq (.dreg (tA 0 27 (iT 4 4) (tA 1 28 (iM 5) (tA 2 29 (iM 6) (tA 3 30 (iI 1 28 29) (tA 4 31 (iL 30) (tA 5 32 (.ia 1 (.t 31) (oI 0)) (tA 6 33 (iL 32) (tC 34 (iK 26 [27,33]) [] (tA 8 7 (iM 34) .done) .stop))))))))) (.seq (.dreg (tA 0 35 (iF 3 4) (tA 1 36 (iL 35) (tA 2 37 (iM 7) (tA 3 38 (iI 8 36 37) (tA 4 39 (iF 7 38) (tA 5 40 (iL 39) (tA 6 41 (iM 5) (tA 7 42 (iM 6) (tA 8 43 (iI 1 41 42) (tA 9 44 (iL 43) (tA 10 45 (.ia 1 (.t 44) (oI 1)) (tA 11 46 (iL 45) (tA 12 47 (iI 4 40 46) (tA 13 48 (iF 0 47) (tA 14 49 (iL 48) (tA 15 50 (iQ .eql 3 49 3) .done))))))))))))))))) (iD 50 (.dreg (tA 0 51 (iT 4 4) (tA 1 52 (iM 7) (tA 2 53 (iF 3 4) (tA 3 54 (iL 53) (tA 4 55 (iM 7) (tA 5 56 (iI 8 54 55) (tA 6 57 (iT 8 56) (tA 7 58 (iM 5) (tA 8 59 (iM 6) (tA 9 60 (iI 1 58 59) (tA 10 61 (iL 60) (tA 11 62 (.ia 1 (.t 61) (oI 1)) (tA 12 63 (iL 62) (tC 64 (iK 120 [57,63]) [1,0] (tC 65 (iK 119 [51,52,64]) [] (.alt (wAA 4 65) [] .done .stop) .stop) .stop))))))))))))))) .skip)))) (.reg [aM 25 6,aQ 26 .add 3 25 1,aM 6 26])))))) (iS [aF 66 0 4,aL 67 66,aQ 68 .add 3 67 1,aF 69 0 4,wAD 69 68] (iS [aT 70 4 4,wAA 2 70,aN 3 0] .ret)))))))
theorem jmp:fnC Tryz.prog Tryz.f52=some (jlM,[.cell 2 true 4,.t 3],71):=by kernel_rfl
def jlR:C:=iS [iA 1 (.box 27 4 (.t 0)),iA 2 wAM,aN 3 0] (iS [aT 7 4 1,iA 8 (iK 61 [7]),iA 4 wAM,wAA 4 8] (.seq (.blk 0 (iS [aT 10 4 1,iA 11 (iK 18 [10]),aU 12 11,aM 9 12] (iD 9 (iS [aT 13 4 4,wAA 2 13,aN 3 8] .ret) (iS [aF 15 0 1,aL 16 15,aQ 17 .add 3 16 1,aQ 18 .gtr 3 17 999999980,aM 14 18] (iD 14 (iS [aT 19 4 4,wAA 2 19,aN 3 7] .ret) .skip))))) (iS [aF 20 0 4,aL 21 20,aQ 22 .add 3 21 1,aF 23 0 4,wAD 23 22] (.seq (iS [aT 24 4 1,iA 25 (iK 50 [24]),aG 26 25,aN 27 0] (.blk 1 (.loop (iS [aP 28 .lss 3 27 26] (.seq (iD 28 .skip (.exit 1)) (.seq (.blk 2 (iS [aI 29 1 25 27,aL 30 29,iA 6 (.alloc 29 [.slice none 0 0]),iC (.st 1 [some (1,3)] (.t 6) (.t 30))] (.seq (.dreg (tA 0 31 (iT 4 4) (tA 1 32 (iL 6) (tA 2 33 (.ia 1 (.t 32) (oI 0)) (tA 3 34 (iL 33) (tA 4 35 (iL 6) (tA 5 36 (.ia 1 (.t 35) (oI 1)) (tA 6 37 (iL 36) (tA 7 38 (iL 6) (tA 8 39 (.ia 1 (.t 38) (oI 2)) (tA 9 40 (iL 39) (tC 41 (iK 53 [31,34,37,40]) [] .done .stop)))))))))))) (iD 41 (.dreg (tA 0 42 (iT 4 4) (tA 1 43 (iL 6) (tA 2 44 (.ia 1 (.t 43) (oI 0)) (tA 3 45 (iL 44) (tA 5 47 (.mkf 121 [.t 6]) (tC 46 (iK 25 [42,45]) [5] (tC 48 (iK 116 [4,46,47]) [] .done .stop) .stop))))))) .skip)))) (.reg [aQ 49 .add 3 27 1,aM 27 49]))))))) (iS [aT 50 4 4,wAA 2 50,aN 3 0] .ret)))))
theorem jmv:fnC Tryz.prog Tryz.f51=some (jlR,[.cell 2 true 4,.t 3],51):=by kernel_rfl
def jhy:C:=.reg [aM 3 0,aL 4 1,iA 5 (.ia 1 (.t 4) (oI 1)),aL 6 5,iA 7 (iK 118 [3,6])]
theorem jjY:fnC Tryz.prog Tryz.f121=some (jhy,[],8):=by kernel_rfl
theorem jrN (y:Yd) (ht:jn y<=1990000):jW Tryz.prog 52 [.agg (jc y)] (.tup [(true,jc (ja4 y)),(false,[.val (.int .i64 (ja5 y))])]):=by
 refine pf_ jmp ?_;unfold jlM;have dW:jn y<=2000000:=by omega
 simp only [go_sem,jc];intro b1 b2;refine jm (km y dW) λbD=>?_
 simp only [go_sem,jc];intro b4;refine jm (qr y dW) λη=>?_
 simp only [go_sem];cases aR:ju y
 ·have hc:ja5 y=8:=by simp [ja5,aR]
  have hy:ja4 y=y:=by rw [ja4,if_neg (by rw [hc];decide)]
  simp only [go_sem,hc,hy]
  apply kV
  simp only [go_sem]
 have hP:=yard_iff.1 aR;have gQ:=hP.now;have e9:IntKind.i64.wrap (y.now+1)=y.now+1:=vF;by_cases i8:y.now+1>999999980
 ·have hc:ja5 y=7:=by rw [ja5,if_neg (by rw [aR];decide),if_pos i8]
  have hy:ja4 y=y:=by rw [ja4,if_neg (by rw [hc];decide)]
  simp only [go_sem,e9,i8,hc,hy]
  apply kV
  simp only [go_sem]
 have hc:ja5 y=0:=by rw [ja5,if_neg (by rw [aR];decide),if_neg i8]
 rw [hc,ja4,if_pos hc];simp only [go_sem,e9,i8];refine jm (jn5 y dW (jo9 hP)) λv5=>?_
 simp only [go_sem];have h96:=jos hP;refine qY (λi:Nat×jf×jf=>St.of [(2,Bx 92 b2),(4,Bx 90 b4),(5,Hd 93 (v5 0)),(6,Ni i.1)] [(92,ZYd b2 tYd),(90,kb b4 tYd (tickI y i.1).now (tickI y i.1).seq (tickI y i.1).aNC i.2.1 (tickI y i.1).aNE i.2.2),(93,.loose (qQ (kq y)) (v5 0))]) (λi=>i.1<=(kq y).length) (λi=>(kq y).length-i.1) (0,bD 2,bD 3) (jt [200,400,2000] (by simp only [go_sem,show tickI y 0=y from rfl]<;>trivial)) ?_
 rintro ⟨i,f2,f3⟩ hi;dsimp only at hi;have hJ:=jed hP i;by_cases aB:i<(kq y).length
 ·have aA:(i:Int)<(kq y).length:=by omega
  have f6:=qX i;obtain ⟨l,hl⟩:=ja aB;obtain ⟨k,t,r0,x0,l4,mI,nY,hs0,eQ⟩:=jtB hP (aNQ hl);have hw:=kx i;have gP:tickI y (i+1)=failK (tickI y i) k t:=by rw [jc7 hl,eQ,jnJ];simp only [List.headD_cons,List.tail_cons,hJ.later.runAt,nY,aNW]
  generalize tickI y i=z at*;obtain ⟨r,hr,hid,gD,hR,bR,pO⟩:=hJ.later.aNE k r0 l4;have dG:=(aNP.1 hr).1;have bJ:=qX k;have cF:=hR.le12;have dB:=(aNP.1 mI).1;have fZ:t<r.aNA.length:=by omega
  have fF:=qX t;obtain ⟨x,hx⟩:=ja fZ;have i9:failK z k t=if x.aND==3 then kN z k (jB r t) else z:=by rw [failK,hr,aNZ,kt hx]
  have mP:runAt z r0.id=(k:Int):=by rw [hJ.later.runAt,nY]
  subst eQ;simp only [go_sem,aA,aB,f6,aOG,jzj hl,jyb hl,jsk hl];refine jm (qs z r0.id) λη=>?_
  simp only [go_sem];rw [mP];simp only [go_sem,aB,aOG,jzj hl,jyb hl,jsk hl,aOO,dG,bJ,jav hr,jaW hr,ko hr,fZ,fF,jhL hx,vL hx];cases hs:x.aND==3
  ·rw [hs,if_neg (by decide)] at i9
   rw [i9] at gP;simp only [go_sem,hw];exact qf (i+1,f2,f3) (jt [92,90,93] (by simp only [go_sem,gP]<;>trivial))
  ·rw [hs,if_pos rfl] at i9
   rw [i9] at gP;simp only [go_sem,aB,f6,aOG,jzj hl,jyb hl,jsk hl,dG,bJ,jmz hr,jih hr,je,jd];refine jG (jaO r t (by have:=jbJ hR.aNB;obtain ⟨n,_,_,_,dH,_⟩:=this;omega) (by omega)) (by simp only [go_sem,je,jd,zw hr,zu hr]) λeM=>?_
   simp only [go_sem,je,jd];have nD:=kO r t;generalize jB r t=r2 at*;refine jaM [some 90,some 92,some 93,some 6405,some 6407] [(90,kb b4 tYd z.now z.seq z.aNC f2 z.aNE f3),(92,ZYd b2 tYd),(93,.loose (qQ (kq y)) (v5 0)),(97,.loose (js r2.aNB.aNF) (eM 5)),(98,.loose (jx r2.aNA) (eM 7))] [.agg [.v (.int .i64 z.now),.v (.int .i64 z.seq),.h 90 2 [] (f2 []),.h 90 3 [] (f3 [])],Ni k,.agg [.v (.int .i64 r2.id),.v (.int .i64 r2.aNB.aNI),.v (.int .i64 r2.aNB.aNN),.v (.int .i64 r2.aNB.aNM),.v (.int .i64 r2.aNB.aNA),.h 97 0 [] (eM 5 []),.v (.int .i64 r2.aND),.h 98 0 [] (eM 7 [])]] (by simp only [go_sem]<;>and_intros<;>rfl) (by simp only [go_sem]<;>and_intros<;>rfl) (jgB hr nD cF hJ.four (by have:=hJ.seq;omega) (by have:=hJ.tot;omega) rfl rfl rfl) ?_
   rintro _ o1 ⟨c,g2,g3,x2,x3,rfl,j99,j90,j91,j92,j93,j94,j95,j96⟩;have j92':o1 92=ZYd b2 tYd:=j92;have j93':o1 93=.loose (qQ (kq y)) (v5 0):=j93;generalize kN z k r2=z2 at*;simp only [go_sem,j99,j90,hw];exact qf (i+1,g2,g3) (jt [92,90,93] (by simp only [go_sem,gP,j92',j93']<;>trivial))
 have aA:¬(i:Int)<(kq y).length:=by omega
 obtain rfl:i=(kq y).length:=by omega
 have hzn:=hJ.now;generalize tickI y (kq y).length=z at*;have aBL:IntKind.i64.wrap (z.now+1)=y.now+1:=by rw [hzn,e9]
 simp only [go_sem,aA,aBL]
 apply kV
 simp only [go_sem]
section
variable {L:List (List Int)} {i:Nat} {d:D}
theorem jr9 (L:List (List Int)):(L.flatMap λes=>[jb es]).length=L.length:=by rw [jC (enc:=λes=>[jb es]) (size:=1) (λ_=>rfl),aOG]
theorem jfL:((L.flatMap λes=>[jb es]).set i d).length=L.length:=by rw [aOE,jr9]
theorem jqm:(D.sl 1 tIs ((L.flatMap λes=>[jb es]).set i d)).len=L.length:=by
 simp only [D.len,D.cells,D.size,jfL,Nat.div_one]
theorem jvo (h:i<L.length):(((L.flatMap λes=>[jb es]).set i d).drop i).take 1=[d]:=by
 have hl:i<((L.flatMap λes=>[jb es]).set i d).length:=by rw [jfL];exact h
 rw [aPG hl,List.take_succ_cons,aOW,List.getElem_set_self]
theorem jsa {l:List Int} (h:L[i]?=some l):(L.flatMap λes=>[jb es])[i]?=some (jb l):=by
 have e:L.flatMap (λes=>[jb es])=L.map jb:=by clear h;induction L<;>simp_all
 simp [e,h]
end
theorem jyZ {k t b6:Nat} {y:Yd} {r:Rn} {id tri:Int} {y1:jf} (hr:y.aNE[k]?=some r) (aV:vH r t=true):jzy Tryz.prog 121 [.bp 91 0 b6] (.box b6 tIs [.own (jb [id,(t:Int),tri]) y1]) k y (jB r t):=by
 intro o b e2 e3 mX nR;refine jkd (β:=6000000) Tryz.func121 jjY (by simp) ?_
 unfold jhy;simp only [go_sem,nR,aOG];refine kr (vs:=[.c (.ep 90 3 [] (k*8) (e3 [])),Ni t]) (by simp only [go_sem]) (joI hr aV _ b e2 e3 (by simp only [go_sem];exact mX)) ?_
 rintro _ o1 ⟨rfl,j90,j91,j92,j93,j94,j95,j96,j97⟩;simp only [go_sem] at j91 j92 j93 j94 j95 j96 j97;rw [nR] at j91;exact ⟨.tup [],⟨by decide,rfl⟩,rfl,rfl,j90,j91,j92,j93,j94,j95,j96,j97⟩
theorem jrT (y:Yd) (ht:jn y<=1990000):jW Tryz.prog 51 [.agg (jc y)] (.tup [(true,jc (ja4 y)),(false,[.val (.int .i64 (ja5 y))])]):=by
 refine vr [[1,1,1,1,0,1,0,0,1,1,0,0,0],[1,1,1,1,0,1,0,0,1,1,0,0,1,0],[1,1,1,1,0,1,0,0,1,1,1]] Tryz.func51 jmv (by simp) ?_
 unfold jlR;simp only [C.ghs,C.ghAt,List.foldr];have dW:jn y<=2000000:=by omega
 simp only [go_sem,jc];intro b1 b2;refine jm (jY y dW) λbD=>?_
 simp only [go_sem,jc];intro b4;refine jm (kK y dW) λη=>?_
 simp only [go_sem];cases aR:ju y
 ·have hc:ja5 y=8:=by simp [ja5,aR]
  have hy:ja4 y=y:=by rw [ja4,if_neg (by rw [hc];decide)]
  simp only [go_sem,hc,hy]
  apply kV
  simp only [go_sem]
 have hP:=yard_iff.1 aR;have gQ:=hP.now;have e9:IntKind.i64.wrap (y.now+1)=y.now+1:=vF;by_cases i8:y.now+1>999999980
 ·have hc:ja5 y=7:=by rw [ja5,if_neg (by rw [aR];decide),if_pos i8]
  have hy:ja4 y=y:=by rw [ja4,if_neg (by rw [hc];decide)]
  simp only [go_sem,e9,i8,hc,hy]
  apply kV
  simp only [go_sem]
 have hc:ja5 y=0:=by rw [ja5,if_neg (by rw [aR];decide),if_neg i8]
 rw [hc,ja4,if_pos hc];simp only [go_sem,e9,i8];refine jm (jog y dW (jo9 hP)) λv5=>?_
 simp only [go_sem];have h96:=jos hP;refine qY (λi:Nat×jf×jf×jf=>St.of [(2,Bx 92 b2),(4,Bx 90 b4),(25,Hd 93 i.2.2.2),(26,Ni (kq y).length),(27,Ni i.1)] [(92,ZYd b2 tYd),(90,kb b4 tYd (y.now+1) (tickI y i.1).seq (tickI y i.1).aNC i.2.1 (tickI y i.1).aNE i.2.2.1),(93,.loose (qQ (kq y)) i.2.2.2)]) (λi=>i.1<=(kq y).length) (λi=>(kq y).length-i.1) (0,bD 2,bD 3,v5 0) (jt [200,400,2500] (by simp only [go_sem,show tickI y 0=y from rfl]<;>trivial)) ?_
 rintro ⟨i,f2,f3,f9⟩ hi;dsimp only at hi;have hJ:=jed hP i;by_cases aB:i<(kq y).length
 ·have aA:(i:Int)<(kq y).length:=by omega
  have f6:=qX i;obtain ⟨l,hl⟩:=ja aB;obtain ⟨k,t,r0,x0,l4,mI,nY,hs0,eQ⟩:=jtB hP (aNQ hl);have hw:=kx i;have gP:tickI y (i+1)=failK (tickI y i) k t:=by rw [jc7 hl,eQ,jnJ];simp only [List.headD_cons,List.tail_cons,hJ.later.runAt,nY,aNW]
  generalize tickI y i=z at*;obtain ⟨r,hr,hid,gD,hR,bR,pO⟩:=hJ.later.aNE k r0 l4;have cF:=hR.le12;have dB:=(aNP.1 mI).1;have fZ:t<r.aNA.length:=by omega
  obtain ⟨x,hx⟩:=ja fZ;have i9:failK z k t=if x.aND==3 then kN z k (jB r t) else z:=by rw [failK,hr,aNZ,kt hx]
  have hho:vo z r0.id t x0.tri=(x.aND==3):=by rw [jne hJ.later l4 nY mI,hr,aNZ,kt hx]
  have mP:runAt z r0.id=(k:Int):=by rw [hJ.later.runAt,nY]
  subst eQ;simp only [go_sem,aA];refine kv ?_;refine jc1 93 0 i 94 (η:=f9) (sz:=1) (tyo:=tIs) (ds0:=(kq y).flatMap λes=>[jb es]) (cs:=[r0.id,(t:Int),x0.tri].flatMap λn=>[iv n]) rfl (jsa hl) rfl (by decide) λbC dA pC iH lY=>?_
  rw [<-iH];rw [<-iH] at lY;refine WkK.wk (s':=St.of [(2,Bx 92 b2),(4,Bx 90 b4),(25,Hd 93 dA),(26,Ni (kq y).length),(27,Ni i)] [(92,ZYd b2 tYd),(90,kb b4 tYd (y.now+1) z.seq z.aNC f2 z.aNE f3),(93,.loose (.sl 1 tIs (((kq y).flatMap λes=>[jb es]).set i (.val (bC [])))) dA),(94,.loose (jb [r0.id,(t:Int),x0.tri]) bC)]) (jt [92,90,93,94] (by simp only [go_sem,pC]<;>trivial)) ?_
  refine WkK.of ?_;have gS:i+1<=(kq y).length:=aB;simp only [go_sem,aB,f6,aOG,jqm,jfL,jvo aB,lY,gS];intro b6;refine kv ?_;refine WkK.wk (s':=St.of [(2,Bx 92 b2),(4,Bx 90 b4),(6,Bx 91 b6),(25,Hd 93 dA),(26,Ni (kq y).length),(27,Ni i)] [(92,ZYd b2 tYd),(90,kb b4 tYd (y.now+1) z.seq z.aNC f2 z.aNE f3),(93,.loose (.sl 1 tIs (((kq y).flatMap λes=>[jb es]).set i (.val (bC [])))) dA),(94,.loose (jb [r0.id,(t:Int),x0.tri]) bC),(91,.box b6 tIs [.a (.v (bC []))])]) (jt [92,90,93,94,600]) ?_
  refine qI 91 0 94 (d:=jb [r0.id,(t:Int),x0.tri]) (η:=bC) rfl rfl rfl ?_;refine WkK.wk (s':=St.of [(2,Bx 92 b2),(4,Bx 90 b4),(6,Bx 91 b6),(25,Hd 93 dA),(26,Ni (kq y).length),(27,Ni i)] [(92,ZYd b2 tYd),(90,kb b4 tYd (y.now+1) z.seq z.aNC f2 z.aNE f3),(93,.loose (.sl 1 tIs (((kq y).flatMap λes=>[jb es]).set i (.val (bC [])))) dA),(91,.box b6 tIs [.own (jb [r0.id,(t:Int),x0.tri]) bC])]) (jt [92,90,93,91]) ?_
  refine WkK.of ?_;simp only [go_sem,aOG];refine jm (jdq ⟨y.now+1,z.seq,z.aNC,z.aNE⟩ r0.id t x0.tri) λη=>?_
  simp only [go_sem];rw [show vo ⟨y.now+1,z.seq,z.aNC,z.aNE⟩ r0.id t x0.tri=(x.aND==3) from hho]
  cases hs:x.aND==3
  ·rw [hs,if_neg (by decide)] at i9
   rw [i9] at gP;simp only [go_sem];refine kv ?_;refine WkK.wk (s':=St.of [(2,Bx 92 b2),(4,Bx 90 b4),(25,Hd 93 dA),(26,Ni (kq y).length),(27,Ni i)] [(92,ZYd b2 tYd),(90,kb b4 tYd (y.now+1) z.seq z.aNC f2 z.aNE f3),(93,.loose (.sl 1 tIs (((kq y).flatMap λes=>[jb es]).set i (.val (bC [])))) dA),(91,.box b6 tIs [.own (jb [r0.id,(t:Int),x0.tri]) bC])]) (jt [92,90,93,91]) ?_
   refine qA 91 0 94 (d:=jb [r0.id,(t:Int),x0.tri]) (η:=bC) rfl rfl (by decide) λ_=>?_
   refine qi 93 0 i 94 (η:=dA) (aS:=bC) (sz:=1) (tyo:=tIs) (ds0:=((kq y).flatMap λes=>[jb es]).set i (.val (bC []))) (cs:=[r0.id,(t:Int),x0.tri].flatMap λn=>[iv n]) rfl (aNX (by rw [jr9];exact aB)) (.inl rfl) rfl (by decide) λsG hE=>?_
   rw [aPE,show D.sl 1 jeP ([r0.id,(t:Int),x0.tri].flatMap λn=>[iv n])=jb [r0.id,(t:Int),x0.tri] from rfl,jax (jsa hl)]
   refine WkK.of ?_;simp only [go_sem,hw];exact qf (i+1,f2,f3,sG) (jt [92,90,93] (by simp only [go_sem,gP,hE,qQ]<;>trivial))
  ·rw [hs,if_pos rfl] at i9
   rw [i9] at gP;have mO:x.aND=3:=by simpa using hs
   simp only [go_sem,aOG];refine jm (qv ⟨y.now+1,z.seq,z.aNC,z.aNE⟩ r0.id) λη=>?_
   simp only [go_sem];rw [show runAt ⟨y.now+1,z.seq,z.aNC,z.aNE⟩ r0.id=(k:Int) from mP]
   have hq:=hJ.seq;have htz:=hJ.tot
   have hte:jn ⟨y.now+1,z.seq,z.aNC,z.aNE⟩<=2000000:=by
    have e:jn ⟨y.now+1,z.seq,z.aNC,z.aNE⟩=jn z:=rfl;rw [e];omega
   refine kr (vs:=[Bx 90 b4,Ni k,.fn 121 [.bp 91 0 b6]]) (by simp only [go_sem]) (jet (y:=⟨y.now+1,z.seq,z.aNC,z.aNE⟩) (H:=.box b6 tIs [.own (jb [r0.id,(t:Int),x0.tri]) bC]) hr (kO r t) cF hJ.four (by dsimp only;omega) hte (jyZ hr (jhV hR hx mO)) (e2:=f2) (e3:=f3) (by simp only [go_sem]) (by simp only [go_sem])) ?_
   rintro _ o1 ⟨rfl,⟨g2,g3,j90⟩,j91,j92,j93,j94,j95,j96⟩;have j92':o1 92=ZYd b2 tYd:=j92;have j93':o1 93=.loose (.sl 1 tIs (((kq y).flatMap λes=>[jb es]).set i (.val (bC [])))) dA:=j93
   have j90':o1 90=kb b4 tYd (y.now+1) (kN z k (jB r t)).seq (kN z k (jB r t)).aNC g2 (kN z k (jB r t)).aNE g3:=j90;generalize kN z k (jB r t)=z2 at*;refine kv ?_;refine WkK.wk (s':=St.of [(2,Bx 92 b2),(4,Bx 90 b4),(25,Hd 93 dA),(26,Ni (kq y).length),(27,Ni i)] [(92,ZYd b2 tYd),(90,kb b4 tYd (y.now+1) z2.seq z2.aNC g2 z2.aNE g3),(93,.loose (.sl 1 tIs (((kq y).flatMap λes=>[jb es]).set i (.val (bC [])))) dA),(91,.box b6 tIs [.own (jb [r0.id,(t:Int),x0.tri]) bC])]) (jt [92,90,93,91] (by simp only [go_sem,j90',j91,j92',j93']<;>trivial)) ?_
   refine qA 91 0 94 (d:=jb [r0.id,(t:Int),x0.tri]) (η:=bC) rfl rfl (by decide) λ_=>?_
   refine qi 93 0 i 94 (η:=dA) (aS:=bC) (sz:=1) (tyo:=tIs) (ds0:=((kq y).flatMap λes=>[jb es]).set i (.val (bC []))) (cs:=[r0.id,(t:Int),x0.tri].flatMap λn=>[iv n]) rfl (aNX (by rw [jr9];exact aB)) (.inl rfl) rfl (by decide) λsG hE=>?_
   rw [aPE,show D.sl 1 jeP ([r0.id,(t:Int),x0.tri].flatMap λn=>[iv n])=jb [r0.id,(t:Int),x0.tri] from rfl,jax (jsa hl)]
   refine WkK.of ?_;simp only [go_sem,hw];exact qf (i+1,g2,g3,sG) (jt [92,90,93] (by simp only [go_sem,gP,hE,qQ]<;>trivial))
 have aA:¬(i:Int)<(kq y).length:=by omega
 obtain rfl:i=(kq y).length:=by omega
 generalize tickI y (kq y).length=z at*;simp only [go_sem,aA]
 apply kV
 simp only [go_sem]
theorem jfC {α:Type} (f:α->Nat) (m:Nat):∀l:List α,(∀x∈l,f x<=m)->qh f l<=m*l.length
 |[],_=>by simp [qh]
 |x::l,h=>by
  have h1:=h x (by simp)
  have h2:=jfC f m l λx hx=>h x (by simp [hx])
  simp only [qh,aPB,aQD,aOD,Nat.mul_succ] at h2⊢;omega
theorem YardOkP.small {y:Yd} (h:YardOkP y):jn y<=700:=by
 have h1:=jfC vh 80 y.aNC λl hl=>(h.shelves l hl).aNN
 have h2:=jfC kz 42 y.aNE λr hr=>by
  have hR:=h.right r hr;obtain ⟨n,hn,_,cF,dH,_⟩:=jbJ hR.aNB;have:=hR.len;have aLL:r.aNB.aNF.length<=30:=dH;simp only [kz,jc4];omega
 have h3:=h.four;have h4:=h.eight;simp only [jn,jbp,zn];omega
theorem jrn {T:Nat} (y:Yd) (id:Int) (ht:jn y<=T):jn (kF y id)<=T:=by
 unfold kF;split
 ·rename_i h
  have aK:¬runAt y id<0:=λhn=>by
   unfold kW at h;split at h
   ·cases h
   ·omega
  obtain ⟨k,r,bZ,hr,-,-⟩:=kP aK;rw [bZ,aNW,hr];exact (juF hr (jxT _)).symm▸ht
 ·exact ht
theorem jwp {T:Nat} (y:Yd) (id:Int) (ht:jn y<=T):jn (jah y id)<=T:=by
 unfold jah;split
 ·have h1:=jga kz y.aNE (runAt y id).toNat
  have h2:=List.length_eraseIdx_le y.aNE (runAt y id).toNat
  have h3:∀l:List (List En),qh vh (l.map λl=>l.filter (jcC id))<=qh vh l:=by
   intro l
   induction l with
   |nil=>exact aOC _
   |cons a l ih=>
    have h4:vh (a.filter (jcC id))<=vh a:=aOT _ _;simp only [qh,aPB,aQD] at ih⊢;omega
  have h5:=h3 y.aNC;simp only [jn,jbp,zn,aPA] at ht⊢;omega
 ·exact ht
theorem jwn {T:Nat} (y:Yd) (aNG aNJ:Int) (ht:jn y<=T):jn (zp y aNG aNJ)<=T:=by
 unfold zp;split
 ·exact ht
 ·rename_i hc
  have aR:ju y=true:=by
   cases h:ju y with
   |true=>rfl
   |false=>exact absurd (.inl h) hc
  have hw:0<=aNG/\aNG<=99:=by
   refine aPQ λh=>hc (.inr h)
  have g9:(aNG.tmod 4).toNat<4:=by rw [aPT hw.1];omega
  have hI:=jrJ (yard_iff.1 aR) g9 aNJ;have hIt:=hI.tot;split
  ·omega
  ·rename_i e l he
   generalize (aNG.tmod 4).toNat=h at*
   have ha:(pollZ y h aNJ).aNC[h]?=some (e::l):=by
    rw [jh4] at he;cases hs:(pollZ y h aNJ).aNC[h]? with
    |none=>rw [hs] at he;simp at he
    |some x=>rw [hs,aNZ] at he;rw [he]
   generalize pollZ y h aNJ=Z at*;obtain ⟨k,t,r,x,bZ,hr,lE,hx,m8⟩:=jks (hI.frs _ ha e (by simp))
   rw [<-hI.aNE] at hr;have iW:runAt Z e.run=(k:Int):=by rw [<-bZ];unfold runAt;rw [hI.aNE]
   have hH:jjB Z h e l=⟨Z.now,Z.seq,Z.aNC.set h l,Z.aNE.set k (kG r t x Z.now)⟩:=by
    simp only [jjB,iW,lE,aNW,hr,hx,aNZ]
   have h1:=jgb (l2:=l) ha;have h2:=qU (f:=kz) (kG r t x Z.now) hr;have h3:kz (kG r t x Z.now)=kz r:=by simp [kz,kG,jsV]
   rw [hH];simp only [jn,zn,aOE,aOD] at*;omega
theorem jwr {T:Nat} (y:Yd) (id aNH tri:Int) (ht:jn y<=T):jn (jbV y id aNH tri)<=T+2000:=by
 unfold jbV;split
 ·rename_i h
  obtain ⟨aR,aK⟩:=jka h;obtain ⟨k,r,bZ,hr,hid,h8⟩:=kP aK;rw [bZ,aNW,hr,aNZ];have cF:=(aR.right r (aNQ hr)).le12;have:=jnD (r2:=qa r aNH) hr (jrx r aNH) (by rw [jca];exact cF)
  omega
 ·omega
theorem jwq {T:Nat} (y:Yd) (id aNH tri:Int) (ht:jn y<=T):jn (jbR y id aNH tri)<=T+2000:=by
 unfold jbR;split
 ·rename_i h
  obtain ⟨aR,aK⟩:=jka h;obtain ⟨k,r,bZ,hr,hid,h8⟩:=kP aK;rw [bZ,aNW,hr,aNZ];have cF:=(aR.right r (aNQ hr)).le12;have:=jnD (r2:=jB r aNH) hr (ji3 r aNH) (by rw [kO];exact cF)
  omega
 ·omega
theorem jwm {T:Nat} (y:Yd) (ht:jn y<=T):jn (jbG y)<=T+2000:=by
 unfold jbG;split
 ·rename_i h
  have hP:=yard_iff.1 h;have:=(StepI.restR hP y.aNE.length).tot;have:=hP.eight;omega
 ·omega
theorem jwl {T:Nat} (y:Yd) (ht:jn y<=T):jn (ja4 y)<=T+2000:=by
 unfold ja4;split
 ·rename_i h
  have aR:ju y=true:=by
   unfold ja5 at h;split at h
   ·cases h
   ·rename_i h1;simpa using h1
  have hP:=yard_iff.1 aR;have h1:=(jed hP (kq y).length).tot;have h2:=jos hP;have e:jn ⟨y.now+1,(tickI y (kq y).length).seq,(tickI y (kq y).length).aNC,(tickI y (kq y).length).aNE⟩=jn (tickI y (kq y).length):=rfl;rw [e];omega
 ·omega
theorem jzO {T:Nat} (y:Yd) (id:Int) (p:Pl) (ht:jn y<=T):jn (jee y id p)<=T+2000:=by
 unfold jee;split
 ·rename_i hc
  have uB:jo p=0:=by
   unfold jc8 at hc;split at hc
   ·cases hc
   split at hc
   ·cases hc
   split at hc
   ·cases hc
   split at hc
   ·exact hc
   ·rename_i h;omega
  obtain ⟨t0,ht0,-,cF,dH,-⟩:=jbJ uB;have h1:=jwo (y:=⟨y.now,y.seq,y.aNC,y.aNE++[jN id p]⟩) (r:=jN id p) (ids:=qV 2 (jN id p).aNA);have h2:(qV 2 (jN id p).aNA).length<=12:=aPC (vx _ _ _) (by rw [jN,jaS];omega)
  have h3:kz (jN id p)<=42:=by
   have h5:(jN id p).aNA.length<=12:=by rw [jN,jaS];omega
   have h6:(jN id p).aNB.aNF.length<=30:=dH;simp only [kz,jc4];omega
  have h4:jn ⟨y.now,y.seq,y.aNC,y.aNE++[jN id p]⟩=jn y+1+kz (jN id p):=by
   simp only [jn,zn,jaJ,aNR,aOD,aOR];simp only [qh,aPB,List.map_nil,aQD,List.sum_nil];omega
  omega
 ·omega
noncomputable def doY (y:Yd) (d:Dd):Yd:=
 if kf d=false then y else if d.aNK=1 then jee y d.run d.aNB else if d.aNK=2 then zp y d.aNG d.aNJ else if d.aNK=3 then jbV y d.run d.aNH d.tri
 else if d.aNK=4 then jbR y d.run d.aNH d.tri else if d.aNK=5 then ja4 y else if d.aNK=6 then kF y d.run else if d.aNK=7 then jah y d.run else jbG y
noncomputable def doQ (y:Yd) (d:Dd):Rp:=
 if kf d=false then ⟨5,0,0,0⟩ else if d.aNK=1 then ⟨jc8 y d.run d.aNB,0,0,0⟩ else if d.aNK=2 then jrK y d.aNG d.aNJ else if d.aNK=3 then ⟨ja2 y d.run d.aNH d.tri,0,0,0⟩
 else if d.aNK=4 then ⟨ja2 y d.run d.aNH d.tri,0,0,0⟩ else if d.aNK=5 then ⟨ja5 y,0,0,0⟩ else if d.aNK=6 then ⟨kW y d.run,0,0,0⟩ else if d.aNK=7 then ⟨jaE y d.run,0,0,0⟩
 else if ju y=true then ⟨0,0,0,0⟩ else ⟨8,0,0,0⟩
theorem jGX {T:Nat} (y:Yd) (d:Dd) (h:jn y<=T):jn (doY y d)<=T+2000:=by
 have h1:=jzO y d.run d.aNB h;have h2:=jwn y d.aNG d.aNJ h;have h3:=jwr y d.run d.aNH d.tri h;have h4:=jwq y d.run d.aNH d.tri h;have h5:=jwl y h;have h6:=jrn y d.run h;have h7:=jwp y d.run h;have h8:=jwm y h;unfold doY
 repeat' split
 all_goals omega
theorem jGY (y:Yd) (d:Dd) (h:ju y=false):doY y d=y:=by
 unfold doY
 repeat' split
 ·rfl
 ·simp [jee,jc8,h]
 ·simp [zp,h]
 ·simp [jbV,ja2,h]
 ·simp [jbR,ja2,h]
 ·simp [ja4,ja5,h]
 ·simp [kF,kW,h]
 ·simp [jah,jaE,h]
 ·simp [jbG,h]
theorem jtW (y:Yd) (d:Dd) (h:jn y<=1100000):jn (doY y d)<=1100000:=by
 cases hk:ju y
 ·rw [jGY y d hk];exact h
 ·have h1:=(yard_iff.1 hk).small
  have:=jGX y d h1;omega
theorem zN {sh:List (List En)} {n:Nat} {l:List En} (h:sh[n]?=some l) (l':List En):∃rest,sh.flatten.Perm (l++rest)/\(sh.set n l').flatten.Perm (l'++rest):=by
 have hn:=(aNP.1 h).1
 have key:∀m:List En,(sh.set n m).flatten.Perm (m++((sh.take n).flatten++(sh.drop (n+1)).flatten)):=λm=>by
  rw [List.set_eq_take_append_cons_drop,if_pos hn,List.flatten_append,aQY];exact List.perm_append_comm_assoc _ _ _
 have e:sh.set n l=sh:=by
  obtain ⟨h1,rfl⟩:=aNP.1 h;exact List.set_getElem_self h1
 exact ⟨_,by have:=key l;rwa [e] at this,key l'⟩
theorem jlY {a b c:En} (h1:kn a b=true) (h2:kn b c=true):kn a c=true:=by
 simp only [kn,aOJ] at*;omega
theorem jBB {a b:En} (h:a.seq≠b.seq) (h1:kn a b=false):kn b a=true:=by
 simp only [kn,aOJ,aOV] at*;omega
def SrtP (l:List En):Prop:=l.Pairwise λa b=>kn a b=true
theorem SrtP.ahead {l:List En} (h:SrtP l) (k:Nat) (a b:En) (ha:l[k]?=some a) (hb:l[k+1]?=some b):kn a b=true:=by
 obtain ⟨h1,rfl⟩:=aNP.1 ha;obtain ⟨h2,rfl⟩:=aNP.1 hb;exact List.pairwise_iff_getElem.1 h k (k+1) h1 h2 (by omega)
theorem jkT (l:List En) (e:En):(jcW l e).Perm (e::l):=by
 rw [jcW,jna];have:=List.perm_middle (a:=e) (l₁:=l.take (jl2 l e)) (l₂:=l.drop (jl2 l e))
 rwa [aPF] at this
theorem jtf {l:List En} {e:En} (h:SrtP l) (hs:∀x∈l,x.seq≠e.seq):SrtP (jcW l e):=by
 have hd:(∀x∈l.take (jl2 l e),kn x e=true)/\∀x∈l.drop (jl2 l e),kn e x=true:=by
  rcases zO (λx=>!kn x e) l with ⟨hf,hn⟩|⟨k,x,hk,hx,hp,hn⟩
  ·have hK:jl2 l e=l.length:=by rw [jl2,if_pos (by omega)]
   rw [hK,aPP,List.drop_length];exact ⟨λx hx=>by have:=hn x hx;simpa using this,by simp⟩
  ·have hK:jl2 l e=k:=by rw [jl2,if_neg (by omega),hk];simp
   rw [hK];refine ⟨λz hz=>by have:=hn z hz;simpa using this,?_⟩
   have nT:kn e x=true:=jBB (hs x (aNQ hx)) (by simpa using hp)
   have dG:=(aNP.1 hx).1
   have e1:l.drop k=x::l.drop (k+1):=by
    rw [aPG dG];congr 1;exact (aNP.1 hx).2
   intro z hz;have uC:SrtP (l.drop k):=h.sublist (List.drop_sublist _ _);rw [e1] at hz uC;rcases aOK.1 hz with rfl|hz
   ·exact nT
   ·exact jlY nT ((List.pairwise_cons.1 uC).1 z hz)
 rw [jcW,jna];refine List.pairwise_append.2 ⟨h.sublist (List.take_sublist _ _),List.pairwise_cons.2 ⟨hd.2,h.sublist (List.drop_sublist _ _)⟩,λa ha b hb=>?_⟩
 rcases aOK.1 hb with rfl|hb
 ·exact hd.1 a ha
 ·exact jlY (hd.1 a ha) (hd.2 b hb)
theorem jkU:∀(b a:List En),(b.foldl jcW a).Perm (a++b)
 |[],a=>by simp
 |e::b,a=>by
  rw [aQI];exact (jkU b (jcW a e)).trans (((jkT a e).append_right b).trans (by simpa using (List.perm_middle (a:=e) (l₁:=a) (l₂:=b)).symm))
theorem jtj:∀{b a:List En},SrtP a->((a++b).map (·.seq)).Nodup->SrtP (b.foldl jcW a)
 |[],a,h,_=>h
 |e::b,a,h,hn=>by
  rw [aQI]
  have hp:((jcW a e++b).map (·.seq)).Nodup:=by
   refine ((List.Perm.map _ (((jkT a e).append_right b).trans ?_)).nodup_iff).2 hn;simpa using (List.perm_middle (a:=e) (l₁:=a) (l₂:=b)).symm
  refine jtj (jtf h λx hx nT=>?_) hp
  rw [aPZ,aPB] at hn;exact (aNY.1 hn).2.2 _ (List.mem_map_of_mem hx) _ (by rw [nT];simp) rfl
def jm3 (aNI id:Int):Int->List Int->List En
 |_,[]=>[]
 |q,t::ids=>⟨aNI,q,id,t⟩::jm3 aNI id (q+1) ids
theorem jop (aNI id:Int):∀(ids:List Int) (q:Int),(jm3 aNI id q ids).length=ids.length
 |[],_=>rfl
 |_::ids,q=>by simp [jm3,jop aNI id ids]
theorem jci {aNI id:Int}:∀{ids:List Int} {q:Int} {e:En},e∈jm3 aNI id q ids->e.aNI=aNI/\e.run=id/\e.aNH∈ids/\q<=e.seq/\e.seq<q+ids.length
 |[],_,_,h=>by simp [jm3] at h
 |t::ids,q,e,h=>by
  rcases aOK.1 h with rfl|h
  ·refine ⟨rfl,rfl,by simp,?_,?_⟩<;>(try dsimp only)<;>(try simp only [aOD])<;>omega
  ·obtain ⟨h1,h2,h3,h4,h5⟩:=jci h
   refine ⟨h1,h2,by simp [h3],?_,?_⟩<;>(try simp only [aOD])<;>omega
theorem jm2 (aNI id:Int):∀(ids:List Int) (q:Int),((jm3 aNI id q ids).map (·.seq)).Nodup
 |[],_=>by simp [jm3]
 |t::ids,q=>by
  simp only [jm3,aPB];refine aPX.2 ⟨λh=>?_,jm2 aNI id ids (q+1)⟩
  obtain ⟨e,he,hq⟩:=aPS.1 h;have:=(jci he).2.2.2.1;omega
theorem jtv (aNI id:Int) (t:Int):∀(ids:List Int) (q:Int),jaj id t (jm3 aNI id q ids)=ids.count t
 |[],_=>by simp [jm3,jaj]
 |u::ids,q=>by
  have ih:=jtv aNI id t ids (q+1);simp only [jaj] at ih;simp only [jm3,jaj,aQV,aQC,Bool.true_and,List.count_cons];cases h:u==t<;>simp [ih]
theorem jgx (aNI id:Int):∀(ids:List Int) (l:List En) (q:Int),(zk aNI id ids (l,q)).1.Perm (jm3 aNI id q ids++l)
 |[],l,q=>by simp [zk,jm3]
 |t::ids,l,q=>by
  have ih:=jgx aNI id ids (jcW l ⟨aNI,q,id,t⟩) (q+1);simp only [zk,aQI,jm3] at ih⊢;refine ih.trans (((jkT l ⟨aNI,q,id,t⟩).append_left _).trans ?_);exact List.perm_middle
theorem jor (aNI id:Int):∀(ids:List Int) {l:List En} {q:Int},SrtP l->(∀x∈l,x.seq<q)->SrtP (zk aNI id ids (l,q)).1
 |[],_,_,h,_=>h
 |t::ids,l,q,h,hq=>by
  have:=jor aNI id ids (l:=jcW l ⟨aNI,q,id,t⟩) (q:=q+1) (jtf h λx hx=>by have:=hq x hx;dsimp only;omega) (λx hx=>by
   rcases jtg hx with hx|rfl
   ·have:=hq x hx;omega
   ·dsimp only;omega)
  simpa only [zk,aQI] using this
structure RnsI (now:Int) (rs:List Rn):Prop where
 eight:rs.length<=8
 right:∀r∈rs,RunOkP r
 ids:(rs.map (·.id)).Nodup
 til:∀r∈rs,∀(t:Nat) (x:Tk),r.aNA[t]?=some x->x.aND=3->now+1<=x.til/\x.til<=now+r.aNB.aNM
 tri:∀r∈rs,∀x∈r.aNA,x.aND=1->x.tri=0
structure EnsI (rs:List Rn) (q:Int) (L:List En):Prop where
 range:∀e∈L,1<=e.seq/\e.seq<=q-1
 apart:(L.map (·.seq)).Nodup
 own:∀e∈L,∃r∈rs,∃(t:Nat) (x:Tk),e.run=r.id/\e.aNH=t/\r.aNA[t]?=some x/\(x.aND=2/\e.aNI=r.aNB.aNI\/x.aND=6)
 one:∀r∈rs,∀(t:Nat) (x:Tk),r.aNA[t]?=some x->x.aND=2->jaj r.id t L=1
def jcw (rs:List Rn):Nat:=qh (λr=>cS 2 r.aNA) rs
structure YdI (y:Yd):Prop where
 now:0<=y.now/\y.now<=999999980
 seq:1<=y.seq
 four:y.aNC.length=4
 sorted:∀l∈y.aNC,SrtP l
 rns:RnsI y.now y.aNE
 ens:EnsI y.aNE y.seq y.aNC.flatten
 room:qh kQ y.aNE+y.aNC.flatten.length<=40+jcw y.aNE
theorem jyX {L M:List En} (h:L.Perm M) (id t:Int):jaj id t L=jaj id t M:=by
 simp only [jaj];exact (h.filter _).length_eq
theorem EnsI.perm {rs:List Rn} {q:Int} {L M:List En} (h:EnsI rs q L) (hp:L.Perm M):EnsI rs q M:=
 ⟨λe he=>h.range e (hp.mem_iff.2 he),((hp.map _).nodup_iff).1 h.apart,λe he=>h.own e (hp.mem_iff.2 he),λr hr t x hx hs=>by rw [<-jyX hp];exact h.one r hr t x hx hs⟩
theorem jEw {L:List En} {e:En} {id t:Int} (he:e∈L) (h1:e.run=id) (h2:e.aNH=t):1<=jaj id t L:=by
 have:e∈L.filter λe=>e.run==id&&e.aNH==t:=aPM.2 ⟨he,by simp [h1,h2]⟩
 exact List.length_pos_of_mem this
theorem joS {L:List En} {id t:Int} (h:∀e∈L,¬(e.run=id/\e.aNH=t)):jaj id t L=0:=by
 have:L.filter (λe=>e.run==id&&e.aNH==t)=[]:=List.filter_eq_nil_iff.2 λe he=>by
  have:=h e he;simp;intro h1 h2;exact this ⟨h1,h2⟩
 simp [jaj,this]
theorem jiV (id t:Int) (L M:List En):jaj id t (L++M)=jaj id t L+jaj id t M:=by simp [jaj]
theorem jtI {rs:List Rn} (h:(rs.map (·.id)).Nodup) {j k:Nat} {r r':Rn} (h1:rs[j]?=some r) (h2:rs[k]?=some r') (he:r.id=r'.id):j=k:=by
 have hj:=(aNP.1 h1).1;have hk:=(aNP.1 h2).1;refine aPQ λaJ=>?_
 have e1:(rs.map (·.id))[j]?=some r.id:=by rw [aQK,h1];rfl
 have e2:(rs.map (·.id))[k]?=some r.id:=by rw [aQK,h2,he];rfl
 exact aJ ((List.getElem?_inj (by simpa using hj) h).1 (e1.trans e2.symm))
theorem joy {rs:List Rn} (h:(rs.map (·.id)).Nodup) {r r':Rn} (h1:r∈rs) (h2:r'∈rs) (he:r.id=r'.id):r=r':=by
 obtain ⟨j,hj⟩:=aPJ h1;obtain ⟨k,hk⟩:=aPJ h2;have:=jtI h hj hk he;subst this;rw [hj] at hk;exact aOH hk
theorem juf {y:Yd} (h8:y.aNE.length<=8) (h:(y.aNE.map (·.id)).Nodup) {k:Nat} {r:Rn} (hr:y.aNE[k]?=some r):runAt y r.id=k:=by
 unfold runAt;rw [if_neg (by omega)]
 refine jb9 hr rfl λj hj z hz he=>?_
 have:=jtI h hz hr he;omega
theorem jkr {y:Yd} (h8:y.aNE.length<=8) (h:(y.aNE.map (·.id)).Nodup) {e:En} {r:Rn} {t:Nat} {x:Tk} (hr:r∈y.aNE) (h1:e.run=r.id) (h2:e.aNH=t) (hx:r.aNA[t]?=some x):jU y e=(x.aND==2):=by
 obtain ⟨k,hk⟩:=aPJ hr;have:=juf h8 h hk;rw [<-h1] at this
 have ht:jaK y e.run e.aNH=some x:=by
  unfold jaK;simp only [this,h2,aNW,hk];simp [hx]
 simp [jU,ht]
theorem tinL_mem {s:Int} {ts:List Tk} {v:Int}:v∈qV s ts↔∃(t:Nat) (x:Tk),v=t/\ts[t]?=some x/\x.aND=s:=by
 simp only [qV,zi,aPS,aPM,aQX];constructor
 ·rintro ⟨j,⟨hj,hs⟩,rfl⟩
  have hx:ts[j]?=some ts[j]:=aNS hj;rw [kt hx] at hs;exact ⟨j,_,rfl,hx,by simpa using hs⟩
 ·rintro ⟨t,x,rfl,hx,hs⟩
  exact ⟨t,⟨(aNP.1 hx).1,by rw [kt hx,hs];simp⟩,rfl⟩
theorem jcx (p:Nat->Bool) (n:Nat):(((List.range n).filter p).map λ(j:Nat)=>(j:Int)).Nodup:=by
 have h:((List.range n).filter p).Pairwise (· ≠ ·):=List.Pairwise.filter _ (List.nodup_range (n:=n))
 exact List.pairwise_map.2 (h.imp λnP e=>nP (by omega))
theorem jmF (s:Int) (ts:List Tk):(qV s ts).Nodup:=jcx _ _
def jeR (rs:List Rn):List (Int×Int):=rs.flatMap λr=>(qV 2 r.aNA).map λt=>(r.id,t)
theorem juO (rs:List Rn):(jeR rs).length=jcw rs:=by
 induction rs with
 |nil=>rfl
 |cons r rs ih=>simp only [jeR,jcw,qh,aOM,aNR,aPA,aPB,aQD,cS] at ih⊢;rw [ih]
theorem readyK_mem {rs:List Rn} {a b:Int}:(a,b)∈jeR rs↔∃r∈rs,∃(t:Nat) (x:Tk),a=r.id/\b=t/\r.aNA[t]?=some x/\x.aND=2:=by
 simp only [jeR,aQQ,aPS,tinL_mem,Prod.mk.injEq];constructor
 ·rintro ⟨r,hr,v,⟨t,x,rfl,hx,hs⟩,rfl,rfl⟩;exact ⟨r,hr,t,x,rfl,rfl,hx,hs⟩
 ·rintro ⟨r,hr,t,x,rfl,rfl,hx,hs⟩;exact ⟨r,hr,_,⟨t,x,rfl,hx,hs⟩,rfl,rfl⟩
theorem ji4:∀{rs:List Rn},(rs.map (·.id)).Nodup->(jeR rs).Nodup
 |[],_=>by simp [jeR]
 |r::rs,h=>by
  obtain ⟨h1,h2⟩:=aPX.1 h;have ih:=ji4 h2;simp only [jeR,aOM] at ih⊢;refine aNY.2 ⟨?_,ih,λa ha b hb e=>?_⟩
  ·have:(qV 2 r.aNA).Pairwise (· ≠ ·):=jmF 2 r.aNA
   exact List.pairwise_map.2 (this.imp λnP e=>nP (by simpa using e))
  ·subst e
   obtain ⟨t,_,rfl⟩:=aPS.1 ha;obtain ⟨r',bH,_,_,he,_⟩:=readyK_mem.1 hb;exact h1 (aPS.2 ⟨r',bH,he.symm⟩)
theorem jqw {y:Yd} {q:Int} {L:List En} (h8:y.aNE.length<=8) (hi:(y.aNE.map (·.id)).Nodup) (h:EnsI y.aNE q L):(L.filter (jU y)).length=jcw y.aNE:=by
 have iZ:∀a b:Int,(a,b)∈(L.filter (jU y)).map (λe=>(e.run,e.aNH))↔(a,b)∈jeR y.aNE:=by
  intro a b;rw [readyK_mem];constructor
  ·intro hm
   obtain ⟨e,he,nP⟩:=aPS.1 hm;obtain ⟨mU,cC⟩:=aPM.1 he;simp only [Prod.mk.injEq] at nP;obtain ⟨rfl,rfl⟩:=nP;obtain ⟨r,hr,t,x,h1,h2,h3,h4⟩:=h.own e mU;rw [jkr h8 hi hr h1 h2 h3] at cC;exact ⟨r,hr,t,x,h1,h2,h3,by simpa using cC⟩
  ·rintro ⟨r,hr,t,x,rfl,rfl,hx,hs⟩
   have h1:=h.one r hr t x hx hs;have:0<(L.filter λe=>e.run==r.id&&e.aNH==(t:Int)).length:=by simp only [jaj] at h1;omega
   obtain ⟨e,he⟩:=List.exists_mem_of_length_pos this;obtain ⟨mU,cC⟩:=aPM.1 he;simp only [aOF,aPV] at cC;refine aPS.2 ⟨e,aPM.2 ⟨mU,?_⟩,by simp [cC.1,cC.2]⟩
   rw [jkr h8 hi hr cC.1 cC.2 hx,hs];rfl
 have aW:((L.filter (jU y)).map λe=>(e.run,e.aNH)).Nodup:=by
  rw [List.nodup_iff_count];rintro ⟨a,b⟩;by_cases hm:(a,b)∈jeR y.aNE
  ·obtain ⟨r,hr,t,x,rfl,rfl,hx,hs⟩:=readyK_mem.1 hm
   have h1:=h.one r hr t x hx hs;rw [List.count_eq_countP,List.countP_map,List.countP_filter,aQJ];refine aPC (Nat.le_of_eq ?_) (Nat.le_of_eq h1);simp only [jaj]
   congr 1
   refine List.filter_congr λe he=>?_
   simp only [Function.comp];by_cases h2:e.run=r.id/\e.aNH=t
   ·have:jU y e=true:=by rw [jkr h8 hi hr h2.1 h2.2 hx,hs];rfl
    simp [h2.1,h2.2,this]
   ·have e1:((e.run,e.aNH)==(r.id,(t:Int)))=false:=by
     simp only [beq_eq_false_iff_ne,ne_eq,Prod.mk.injEq];exact h2
    have e2:(e.run==r.id&&e.aNH==(t:Int))=false:=by
     simp only [Bool.and_eq_false_iff,beq_eq_false_iff_ne,ne_eq];by_cases h3:e.run=r.id
     ·exact .inr λh4=>h2 ⟨h3,h4⟩
     ·exact .inl h3
    rw [e1,e2];rfl
  ·rw [List.count_eq_zero.2 λeB=>hm ((iZ a b).1 eB)];omega
 have hp:((L.filter (jU y)).map λe=>(e.run,e.aNH)).Perm (jeR y.aNE):=
  (List.perm_ext_iff_of_nodup aW (ji4 hi)).2 λ⟨a,b⟩=>iZ a b
 have:=hp.length_eq;rw [aPA,juO] at this;exact this
theorem jbM {r:Rn} (h:RunOkP r):cS 2 r.aNA<=kQ r:=by
 by_cases h0:cS 2 r.aNA=0
 ·omega
 ·have eC:=jc5 h.st _ (aOC _)
  change cS 1 _+cS 2 _+cS 3 _+cS 4 _+cS 5 _+cS 6 _=_ at eC;have aH:=h.aND;have hl:=h.live
  have h1:r.aND=1:=by
   rw [aH] at hl⊢;unfold jgf at hl⊢;rw [if_neg (by omega),if_neg (by omega),if_neg (by omega)] at hl⊢
   split at hl
   ·rename_i h;rw [if_pos h]
   ·exact absurd rfl hl
  rw [kQ,if_pos h1];omega
theorem jej:∀{rs:List Rn},(∀r∈rs,RunOkP r)->jcw rs<=qh kQ rs
 |[],_=>by simp [jcw,qh]
 |r::rs,h=>by
  have h1:=jbM (h r (by simp))
  have h2:=jej (rs:=rs) λx hx=>h x (by simp [hx])
  simp only [jcw,qh,aPB,aQD] at h2⊢;omega
theorem YdI.ok {y:Yd} (h:YdI y) (hq:y.seq<=1000000000):YardOkP y:=by
 have hf:=jqw h.rns.eight h.rns.ids h.ens;have bR:=jej h.rns.right;have bY:=h.room;have aD:y.aNC.flatten.length<=40:=by omega
 refine ⟨h.now,⟨h.seq,hq⟩,h.four,h.rns.eight,λl hl=>⟨?_,(h.sorted l hl).ahead⟩,⟨h.ens.range,h.ens.apart⟩,h.rns.right,λk r hr=>juf h.rns.eight h.rns.ids hr,λr hr t x hx=>⟨λhs=>⟨λe he h1 h2=>?_,h.ens.one r hr t x hx hs⟩,h.rns.til r hr t x hx⟩,?_⟩
 ·have:l.length<=y.aNC.flatten.length:=(List.sublist_flatten_of_mem hl).length_le
  omega
 ·obtain ⟨r',bH,t',x',h3,h4,h5,h6⟩:=h.ens.own e he
  have:r=r':=joy h.rns.ids hr bH (h1.symm.trans h3);subst this;obtain rfl:t=t':=by omega
  rw [hx] at h5;obtain rfl:=aOH h5;rcases h6 with h6|h6
  ·exact h6.2
  ·omega
 ·have aH:qE y (jaH y)+(y.aNC.flatten.filter (jU y)).length=y.aNC.flatten.length:=by
   simp only [qE,jaH,aQJ];have:=List.length_eq_countP_add_countP (jU y) (l:=y.aNC.flatten);simp only [aQJ] at this;have e:y.aNC.flatten.filter (λe=>!jU y e)=y.aNC.flatten.filter (λa=>decide ¬jU y a=true):=List.filter_congr λa _=>by cases jU y a<;>rfl
   rw [e];omega
  simp only [qj];omega
theorem jzC {t:ByteArray} (h:(jb6 t).2=true):jl1 t (jb6 t).1:=by
 unfold jb6 at h⊢;split
 ·rename_i hx;exact hx.choose_spec
 ·rename_i hx;rw [dif_neg hx] at h;cases h
theorem jv5 (t:ByteArray):jn (jb6 t).1<=700:=by
 cases h:(jb6 t).2 with
 |true=>exact (jzC h).ok.small
 |false=>
  unfold jb6 at h⊢;split
  ·rename_i hx;rw [dif_pos hx] at h;cases h
  ·decide
theorem jjz (t:ByteArray) (ht:t.size<=1048576):jW Tryz.prog 40 [.c (.val (.string t))] (.tup [(true,jc (jb6 t).1),(false,[.val (.bool (jb6 t).2)])]):=by
 rw [<-jpH];exact jk4 t ht
