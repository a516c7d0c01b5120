/- Parts. -/
import Derived.Test.YtcehjhiglmifjaaGreatQRunD
set_option linter.all false
set_option maxHeartbeats 8000000
set_option maxRecDepth 100000
namespace Go.Proofs.YtcehjhiglmifjaaGreat
open Go.RowKit Go.Sort
def jeW:C:=iS [iA 3 (.box 49 5 (.t 1)),iA 4 (.mov (.c (.slice none 0 0)))] (iS [aM 6 0,aF 7 0 3,aL 8 7,aF 9 1 3,aL 10 9,aF 11 2 3,aL 12 11,aF 13 3 3,aL 14 13,aF 15 4 3,aL 16 15,aG 17 16,iA 18 (.bsl 3 1 5 [none,none,none,none,none] [(0,1,.t 8),(1,1,.t 10),(2,1,.t 12),(3,1,.t 14),(4,1,.t 17)]),iA 19 (wA7 6 18),aM 0 19] (.seq (iS [aN 5 0] (.blk 0 (.loop (.seq (iS [aM 20 5,aF 21 4 3,aL 22 21,aG 23 22,aP 24 .lss 3 20 23] (iD 24 .skip (.exit 0))) (.seq (.blk 1 (.dreg (tA 0 27 (iM 0) (tA 1 28 (iF 4 3) (tA 2 29 (iL 28) (tA 3 30 (iM 5) (tA 4 31 (iI 2 29 30) (tA 5 32 (iF 0 31) (tA 6 33 (iL 32) (tA 7 34 (iF 4 3) (tA 8 35 (iL 34) (tA 9 36 (iM 5) (tA 10 37 (iI 2 35 36) (tA 11 38 (iF 1 37) (tA 12 39 (iL 38) (tC 40 (wA2 [(0,1,.t 33),(1,1,.t 39)]) [0] (tC 41 (wA7 27 40) [] (tA 15 0 (iM 41) .done) .stop) .stop)))))))))))))))) (.reg [aM 25 5,aQ 26 .add 3 25 1,aM 5 26])))))) (iS [aM 42 0,aM 4 42] .ret)))
theorem jil:fnC Tryz.prog Tryz.f106=some (jeW,[.t 4],43):=by kernel_rfl
def jbp:C:=iS [iA 1 (.box 49 5 (.t 0)),iA 2 (.mov (.c (.slice none 0 0)))] (iS [aF 6 0 1,aL 7 6,aF 8 1 1,aL 9 8,aF 10 2 1,aL 11 10,aF 12 3 1,aL 13 12,aF 14 4 1,aL 15 14,aG 16 15,iA 17 (.bsl 3 1 5 [none,none,none,none,none] [(0,1,.t 7),(1,1,.t 9),(2,1,.t 11),(3,1,.t 13),(4,1,.t 16)]),aM 3 17] (.seq (iS [aF 18 4 1,aL 19 18,aG 20 19,aN 21 0] (.blk 0 (.loop (iS [aP 22 .lss 3 21 20] (.seq (iD 22 .skip (.exit 0)) (.seq (.blk 1 (iS [aI 23 2 19 21,aT 24 2 23,iA 5 wAQ,wAH 5 24] (.reg [aM 25 3,aF 26 0 5,aL 27 26,aF 28 1 5,aL 29 28,iA 30 (wA2 [(0,1,.t 27),(1,1,.t 29)]),iA 31 (wA7 25 30),aM 3 31]))) (.reg [aQ 32 .add 3 21 1,aM 21 32]))))))) (iS [aM 33 3,aM 2 33] .ret)))
theorem jdB:fnC Tryz.prog Tryz.f100=some (jbp,[.t 2],34):=by kernel_rfl
def jdI:C:=iS [iA 1 (.box 27 4 (.t 0)),iA 2 (.mov (.c (.string ⟨⟨[]⟩⟩)))] (.seq (iS [aT 11 4 1,iA 12 (iK 66 [11]),aU 13 12] (iD 13 (iS [iA 2 (.mov (.c (.string ⟨⟨[]⟩⟩)))] .ret) .skip)) (iS [aF 14 0 1,aL 15 14,aF 16 1 1,aL 17 16,iA 18 (wA2 [(0,1,.t 15),(1,1,.t 17)]),aM 3 18] (.seq (iS [aN 4 0] (.blk 0 (.loop (.seq (iS [aM 19 4,aF 20 2 1,aL 21 20,aG 22 21,aP 23 .lss 3 19 22] (iD 23 .skip (.exit 0))) (.seq (.blk 1 (iS [aM 26 3,aF 27 2 1,aL 28 27,aM 29 4,aI 30 1 28 29,aL 31 30,aG 32 31,iA 33 (wAY [(0,1,.t 32)]),iA 34 (wA7 26 33),aM 3 34] (iS [aN 5 0] (.blk 2 (.loop (.seq (iS [aM 35 5,aF 36 2 1,aL 37 36,aM 38 4,aI 39 1 37 38,aL 40 39,aG 41 40,aP 42 .lss 3 35 41] (iD 42 .skip (.exit 2))) (.seq (.blk 3 (iS [aF 45 2 1,aL 46 45,aM 47 4,aI 48 1 46 47,aL 49 48,aM 50 5,aI 51 4 49 50,aT 52 4 51,iA 6 wAP,wAB 6 52] (.reg [aM 53 3,aF 54 0 6,aL 55 54,aF 56 1 6,aL 57 56,aF 58 2 6,aL 59 58,aF 60 3 6,aL 61 60,iA 62 (wA4 [(0,1,.t 55),(1,1,.t 57),(2,1,.t 59),(3,1,.t 61)]),iA 63 (wA7 53 62),aM 3 63]))) (.reg [aM 43 5,aQ 44 .add 3 43 1,aM 5 44])))))))) (.reg [aM 24 4,aQ 25 .add 3 24 1,aM 4 25])))))) (iS [aM 64 3,aF 65 3 1,aL 66 65,aG 67 66,iA 68 (wAY [(0,1,.t 67)]),iA 69 (wA7 64 68),aM 3 69] (.seq (iS [aN 7 0] (.blk 4 (.loop (.seq (iS [aM 70 7,aF 71 3 1,aL 72 71,aG 73 72,aP 74 .lss 3 70 73] (iD 74 .skip (.exit 4))) (.seq (.blk 5 (iS [aF 77 3 1,aL 78 77,aM 79 7,aI 80 8 78 79,aT 81 8 80,iA 8 wAM,wAC 8 81] (.seq (.dreg (tA 0 82 (iM 3) (tA 1 83 (iF 0 8) (tA 2 84 (iL 83) (tA 5 87 (iF 1 8) (tA 6 88 (iT 5 87) (tC 85 (wAY [(0,1,.t 84)]) [6,5,0] (tC 86 (wA7 82 85) [6,5] (tC 89 (iK 106 [86,88]) [] (tA 8 3 (iM 89) .done) .stop) .stop) .stop))))))) (iS [aM 90 3,aF 91 6 8,aL 92 91,iA 93 (wAY [(0,1,.t 92)]),iA 94 (wA7 90 93),aM 3 94] (iS [aN 9 0] (.blk 6 (.loop (.seq (iS [aM 95 9,aF 96 7 8,aL 97 96,aG 98 97,aP 99 .lss 3 95 98] (iD 99 .skip (.exit 6))) (.seq (.blk 7 (iS [aF 102 7 8,aL 103 102,aM 104 9,aI 105 4 103 104,aT 106 4 105,iA 10 wAN,wAB 10 106] (.reg [aM 107 3,aF 108 0 10,aL 109 108,aF 110 1 10,aL 111 110,aF 112 2 10,aL 113 112,aF 114 3 10,aL 115 114,iA 116 (wA4 [(0,1,.t 109),(1,1,.t 111),(2,1,.t 113),(3,1,.t 115)]),iA 117 (wA7 107 116),aM 3 117]))) (.reg [aM 100 9,aQ 101 .add 3 100 1,aM 9 101])))))))))) (.reg [aM 75 7,aQ 76 .add 3 75 1,aM 7 76])))))) (iS [aM 118 3,iA 119 (iK 107 [118]),aM 2 119] .ret))))))
theorem jgZ:fnC Tryz.prog Tryz.f42=some (jdI,[.t 2],120):=by kernel_rfl
def jdY:C:=iS [iA 1 (.box 27 4 (.t 0)),iA 2 (.mov (.c (.string ⟨⟨[]⟩⟩)))] (.seq (iS [aT 12 4 1,iA 13 (iK 18 [12]),aU 14 13] (iD 14 (iS [iA 2 (.mov (.c (.string ⟨⟨[]⟩⟩)))] .ret) .skip)) (iS [aF 15 0 1,aL 16 15,aF 17 1 1,aL 18 17,iA 19 (wA2 [(0,1,.t 16),(1,1,.t 18)]),aM 3 19] (.seq (iS [aF 20 2 1,aL 21 20,aG 22 21,aN 23 0] (.blk 0 (.loop (iS [aP 24 .lss 3 23 22] (.seq (iD 24 .skip (.exit 0)) (.seq (.blk 1 (iS [aI 25 1 21 23,aL 26 25,aM 5 26] (iS [aM 27 3,aM 28 5,aG 29 28,iA 30 (wAY [(0,1,.t 29)]),iA 31 (wA7 27 30),aM 3 31] (iS [aM 32 5,aG 33 32,aN 34 0] (.blk 2 (.loop (iS [aP 35 .lss 3 34 33] (.seq (iD 35 .skip (.exit 2)) (.seq (.blk 3 (iS [aI 36 4 32 34,aT 37 4 36,iA 7 wAP,wAB 7 37] (.reg [aM 38 3,aF 39 0 7,aL 40 39,aF 41 1 7,aL 42 41,aF 43 2 7,aL 44 43,aF 45 3 7,aL 46 45,iA 47 (wA4 [(0,1,.t 40),(1,1,.t 42),(2,1,.t 44),(3,1,.t 46)]),iA 48 (wA7 38 47),aM 3 48]))) (.reg [aQ 49 .add 3 34 1,aM 34 49])))))))))) (.reg [aQ 50 .add 3 23 1,aM 23 50]))))))) (iS [aM 51 3,aF 52 3 1,aL 53 52,aG 54 53,iA 55 (wAY [(0,1,.t 54)]),iA 56 (wA7 51 55),aM 3 56] (.seq (iS [aF 57 3 1,aL 58 57,aG 59 58,aN 60 0] (.blk 4 (.loop (iS [aP 61 .lss 3 60 59] (.seq (iD 61 .skip (.exit 4)) (.seq (.blk 5 (iS [aI 62 8 58 60,aT 63 8 62,iA 9 wAM,wAC 9 63] (.seq (.dreg (tA 0 64 (iM 3) (tA 1 65 (iF 0 9) (tA 2 66 (iL 65) (tA 5 69 (iF 1 9) (tA 6 70 (iT 5 69) (tC 67 (wAY [(0,1,.t 66)]) [6,5,0] (tC 68 (wA7 64 67) [6,5] (tC 71 (iK 100 [70]) [] (tC 72 (wA7 68 71) [] (tA 9 3 (iM 72) .done) .stop) .stop) .stop) .stop))))))) (iS [aM 73 3,aF 74 6 9,aL 75 74,iA 76 (wAY [(0,1,.t 75)]),iA 77 (wA7 73 76),aM 3 77] (iS [aF 78 7 9,aL 79 78,aG 80 79,aN 81 0] (.blk 6 (.loop (iS [aP 82 .lss 3 81 80] (.seq (iD 82 .skip (.exit 6)) (.seq (.blk 7 (iS [aI 83 4 79 81,aT 84 4 83,iA 11 wAN,wAB 11 84] (.reg [aM 85 3,aF 86 0 11,aL 87 86,aF 88 1 11,aL 89 88,aF 90 2 11,aL 91 90,aF 92 3 11,aL 93 92,iA 94 (wA4 [(0,1,.t 87),(1,1,.t 89),(2,1,.t 91),(3,1,.t 93)]),iA 95 (wA7 85 94),aM 3 95]))) (.reg [aQ 96 .add 3 81 1,aM 81 96]))))))))))) (.reg [aQ 97 .add 3 60 1,aM 60 97]))))))) (iS [aM 98 3,iA 99 (iK 101 [98]),aM 2 99] .ret))))))
theorem jhc:fnC Tryz.prog Tryz.f39=some (jdY,[.t 2],100):=by kernel_rfl
theorem jA9 (a b:Int):D.sl 1 jes [.val (.int .i64 a),.val (.int .i64 b)]=jc [a,b]:=rfl
theorem jFl (a b c d e:Int):D.sl 1 jes [.val (.int .i64 a),.val (.int .i64 b),.val (.int .i64 c),.val (.int .i64 d),.val (.int .i64 e)]=jc [a,b,c,d,e]:=rfl
theorem jen (l:List Int) (a b c d:Int):D.sl 1 jes (l.flatMap (λn=>[iv n])++[.val (.int .i64 a),.val (.int .i64 b),.val (.int .i64 c),.val (.int .i64 d)])=jc (l++[a,b,c,d]):=by simp [jc]
theorem juS (l:List Int) (a b c d e:Int):D.sl 1 jes (l.flatMap (λn=>[iv n])++[.val (.int .i64 a),.val (.int .i64 b),.val (.int .i64 c),.val (.int .i64 d),.val (.int .i64 e)])=jc (l++[a,b,c,d,e]):=by simp [jc]
theorem jCV (l m:List Int):l.flatMap (λn=>[iv n])++m.flatMap (λn=>[iv n])=(l++m).flatMap (λn=>[iv n]):=aQO.symm
def jmW (L:List Int) (p:Pl) (k:Nat):List Int:=L++[p.aOL,p.aOQ,p.aOP,p.aOD,(p.aOI.length:Int)]++(p.aOI.take k).flatMap edI
def jt8 (L:List Int) (l:List En) (k:Nat):List Int:=L++[(l.length:Int)]++(l.take k).flatMap enI
def yI1 (y:Yd) (k:Nat):List Int:=[y.now,y.seq]++(y.aOE.take k).flatMap shI
def juh (L:List Int) (r:Rn) (k:Nat):List Int:=L++[r.aOG]++(r.aOD.take k).flatMap tkI
def yI2 (L:List Int) (y:Yd) (k:Nat):List Int:=L++[(y.aOH.length:Int)]++(y.aOH.take k).flatMap rnI
theorem jEW (L:List Int) (p:Pl):jmW L p 0=L++[p.aOL,p.aOQ,p.aOP,p.aOD,(p.aOI.length:Int)]:=by simp [jmW]
theorem jAN (L:List Int) (l:List En):jt8 L l 0=L++[(l.length:Int)]:=by simp [jt8]
theorem jDK (y:Yd):yI1 y 0=[y.now,y.seq]:=by simp [yI1]
theorem jAV (L:List Int) (r:Rn):juh L r 0=L++[r.aOG]:=by simp [juh]
theorem jDI (L:List Int) (y:Yd):yI2 L y 0=L++[(y.aOH.length:Int)]:=by simp [yI2]
theorem jA1 {L:List Int} {p:Pl} {k:Nat} {x:Ed} (h:p.aOI[k]?=some x):jmW L p (k+1)=jmW L p k++[x.src,x.dst]:=by simp only [jmW,jln h,edI,aPH]
theorem jAM {L:List Int} {l:List En} {k:Nat} {x:En} (h:l[k]?=some x):jt8 L l (k+1)=jt8 L l k++[x.aOL,x.seq,x.run,x.aOK]:=by simp only [jt8,jln h,enI,aPH]
theorem jAU {L:List Int} {r:Rn} {k:Nat} {x:Tk} (h:r.aOD[k]?=some x):juh L r (k+1)=juh L r k++[x.aOG,x.aOO,x.tri,x.til]:=by simp only [juh,jln h,tkI,aPH]
theorem jDJ {y:Yd} {k:Nat} {l:List En} (h:y.aOE[k]?=some l):yI1 y (k+1)=jt8 (yI1 y k) l l.length:=by simp [yI1,jln h,jt8,shI]
theorem jDH {L:List Int} {y:Yd} {k:Nat} {r:Rn} (h:y.aOH[k]?=some r):yI2 L y (k+1)=juh (jmW (yI2 L y k++[r.id]) r.aOF r.aOF.aOI.length) r r.aOD.length:=by simp [yI2,jln h,juh,rnI,jmW,plI]
theorem jEV (p:Pl):jmW [] p p.aOI.length=plI p:=by simp [jmW,plI]
theorem jET (p:Pl):jmW [] p 0=[p.aOL,p.aOQ,p.aOP,p.aOD,(p.aOI.length:Int)]:=by simp [jmW]
theorem jEU (L:List Int) (p:Pl):jmW L p p.aOI.length=L++plI p:=by simp [jmW,plI]
theorem yI_e (y:Yd):yI2 (yI1 y y.aOE.length) y y.aOH.length=zM y:=by simp [yI2,yI1,zM]
theorem jwG (L:List Int) (p:Pl) (k:Nat):(jmW L p k).length<=L.length+5+2*p.aOI.length:=by
 have:=jbV (f:=edI) (c:=2) (L:=p.aOI) (λ_ _=>aPD 2) k
 simp only [jmW,aOU,aPI,aPU];omega
theorem jv3 (L:List Int) (l:List En) (k:Nat):(jt8 L l k).length<=L.length+1+4*l.length:=by
 have:=jbV (f:=enI) (c:=4) (L:=l) (λ_ _=>aPD 4) k
 simp only [jt8,aOU,aPI,aPU];omega
theorem jwj (L:List Int) (r:Rn) (k:Nat):(juh L r k).length<=L.length+1+4*r.aOD.length:=by
 have:=jbV (f:=tkI) (c:=4) (L:=r.aOD) (λ_ _=>aPD 4) k
 simp only [juh,aOU,aPI,aPU];omega
theorem jAA {y:Yd} (h:YardOkP y) (k:Nat):(yI1 y k).length<=1400:=by
 have:=jbV (f:=shI) (c:=330) (L:=y.aOE) (λl hl=>jAL (h.shelves l hl)) k
 have:=h.four;simp only [yI1,aOU,aPI,aPU];omega
theorem jAz {L:List Int} {y:Yd} (h:YardOkP y) (k:Nat):(yI2 L y k).length<=L.length+1000:=by
 have:=jbV (f:=rnI) (c:=120) (L:=y.aOH) (λr hr=>jAT (h.right r hr)) k
 have:=h.eight;simp only [yI2,aOU,aPI,aPU];omega
theorem jgs (p:Pl) (hb:p.aOI.length<=4000000):jZ Tryz.prog 100 [.agg (je p)] (.c (jc (plI p))):=by
 refine pf_ jdB ?_;unfold jbp;simp only [go_sem,je,jFl];intro b1 bY;refine qP (λi:Nat×jg=>St.of [(3,Hd 3 i.2),(19,Ro (jn p.aOI)),(20,Ni p.aOI.length),(21,Ni i.1)] [(3,.loose (jc (jmW [] p i.1)) i.2)]) (λi=>i.1<=p.aOI.length) (λi=>p.aOI.length-i.1) (0,bY) (js [1700] (by simp only [go_sem,jET]<;>trivial)) ?_
 rintro ⟨k,η⟩ hk;dsimp only at hk;by_cases aB:k<p.aOI.length
 ·have aA:(k:Int)<p.aOI.length:=by omega
  obtain ⟨x,hx⟩:=ja aB;have hw:=kw k;have fE:=jA1 (L:=[]) hx;have cR:=jwG [] p k;rw [aPU] at cR;generalize jmW [] p k=L at*;have dG:L.length+2<=maxLen:=vT;have bP:(L.length+2)*8<=140737488355328:=by omega
  simp only [go_sem,aB,aA,jE hx,kb,dG,bP,jih,hw];intro b5 w7 oL;exact qc (k+1,oL) (js [3100] (by simp only [go_sem,fE]<;>trivial))
 have aA:¬(k:Int)<p.aOI.length:=by omega
 obtain rfl:k=p.aOI.length:=by omega
 simp only [go_sem,aA,jEV]
theorem jdl (y:Yd) (ht:jB y<=2000000):jZ Tryz.prog 39 [.agg (jb y)] (.c (.val (.string (qh y)))):=by
 refine pf_ jhc ?_;unfold jdY;simp only [go_sem,jb];intro b1;refine jk (kn y ht) λη=>?_
 simp only [go_sem];cases aR:jt y
 ·have hb:qh y=⟨⟨[]⟩⟩:=by simp [qh,aR]
  simp only [go_sem,hb]
 have hY:=yard_iff.1 aR;have hb:qh y=jkr (zM y):=by simp [qh,aR]
 have h4:=hY.four;have h8:=hY.eight;simp only [go_sem,jA9];intro mF;refine qP (λi:Nat×jg=>St.of [(1,Bx 100 b1),(3,Hd 3 i.2),(21,Ro (ke y.aOE)),(22,Ni y.aOE.length),(23,Ni i.1)] [(100,Bi b1 _ (jb y)),(3,.loose (jc (yI1 y i.1)) i.2)]) (λi=>i.1<=y.aOE.length) (λi=>y.aOE.length-i.1) (0,mF) (js [100,1900] (by simp only [go_sem,jb,jDK]<;>trivial)) ?_
 rintro ⟨k,η⟩ hk;dsimp only at hk;have pQ:=jAA hY k;by_cases aB:k<y.aOE.length
 ·have aA:(k:Int)<y.aOE.length:=by omega
  obtain ⟨l,hl⟩:=ja aB;have z6:=(hY.shelves l (aOT hl)).aOQ;have hw:=kw k;have fE:=jDJ hl;generalize yI1 y k=L at*;have m1:L.length+1<=maxLen:=vT;have m2:(L.length+1)*8<=140737488355328:=by omega
  simp only [go_sem,jb,aB,aA,kC hl,m1,m2,ko];intro w7 oL;refine qP (λi:Nat×jg=>St.of [(1,Bx 100 b1),(3,Hd 3 i.2),(21,Ro (ke y.aOE)),(22,Ni y.aOE.length),(23,Ni k),(32,Ro (jf l)),(33,Ni l.length),(34,Ni i.1)] [(100,Bi b1 _ (jb y)),(3,.loose (jc (jt8 L l i.1)) i.2)]) (λi=>i.1<=l.length) (λi=>l.length-i.1) (0,oL) (js [100,3100] (by simp only [go_sem,jb,jAN]<;>trivial)) ?_
  rintro ⟨j,mW⟩ hj;dsimp only at hj;by_cases bJ:j<l.length
  ·have aX:(j:Int)<l.length:=by omega
   obtain ⟨e,he⟩:=ja bJ;have cZ:=kw j;have rV:=jAM (L:=L) he;have hMl:=jv3 L l j;generalize jt8 L l j=M at*;have p1:M.length+4<=maxLen:=vT;have p2:(M.length+4)*8<=140737488355328:=by omega
   simp only [go_sem,jb,bJ,aX,jU he,jj,p1,p2,jen,cZ];intro b7 aBN rJ;exact qc (j+1,rJ) (js [100,4800] (by simp only [go_sem,rV]<;>trivial))
  have aX:¬(j:Int)<l.length:=by omega
  obtain rfl:j=l.length:=by omega
  rw [<-fE];simp only [go_sem,jb,aX,hw];exact qc (k+1,mW) (js [100,3])
 have aA:¬(k:Int)<y.aOE.length:=by omega
 obtain rfl:k=y.aOE.length:=by omega
 have hye:=yI_e y;generalize yI1 y y.aOE.length=L1 at*;have m1:L1.length+1<=maxLen:=vT;have m2:(L1.length+1)*8<=140737488355328:=by omega
 simp only [go_sem,jb,aA,m1,m2,ko];intro aBK tZ;refine qP (λi:Nat×jg=>St.of [(3,Hd 3 i.2),(58,Ro (jG y.aOH)),(59,Ni y.aOH.length),(60,Ni i.1)] [(3,.loose (jc (yI2 L1 y i.1)) i.2)]) (λi=>i.1<=y.aOH.length) (λi=>y.aOH.length-i.1) (0,tZ) (js [5600] (by simp only [go_sem,jDI]<;>trivial)) ?_
 rintro ⟨m,ηm⟩ hm;dsimp only at hm;have mM:=jAz (L:=L1) hY m;by_cases dX:m<y.aOH.length
 ·have dS:(m:Int)<y.aOH.length:=by omega
  obtain ⟨r,hr⟩:=ja dX;obtain ⟨n,hn,eB,cC,dI,-⟩:=ja8 (hY.right r (aOT hr)).aOF;have aC:=(hY.right r (aOT hr)).len;have hw:=kw m;have uL:=jDH (L:=L1) hr;rw [jEU] at uL;generalize yI2 L1 y m=L2 at*;have gL:=jA0 dI;have q1:L2.length+1<=maxLen:=vT;have q2:(L2.length+1)*8<=140737488355328:=by omega
  obtain ⟨L2',hs⟩:∃L2',L2++[r.id]=L2':=⟨_,rfl⟩;have fH:L2'.length=L2.length+1:=by rw [<-hs];simp
  rw [hs] at uL;have q3:L2'.length+(plI r.aOF).length<=maxLen:=vT;have q4:(L2'.length+(plI r.aOF).length)*8<=140737488355328:=by omega
  simp only [go_sem,dX,dS,jR hr,jd,je,q1,q2,ko,hs];intro b9 aHU aHT;obtain ⟨L3,hL3⟩:∃L3,L2'++plI r.aOF=L3:=⟨_,rfl⟩;have aLT:L3.length=L2'.length+(plI r.aOF).length:=by rw [<-hL3];simp
  rw [hL3] at uL;have q5:L3.length+1<=maxLen:=vT;have q6:(L3.length+1)*8<=140737488355328:=by omega
  refine jk (jgs r.aOF (by omega)) λη=>?_
  simp only [go_sem,q3,q4,jCV,hL3,q5,q6,ko];intro aHS aHR aBJ;refine qP (λi:Nat×jg=>St.of [(3,Hd 3 i.2),(58,Ro (jG y.aOH)),(59,Ni y.aOH.length),(60,Ni m),(79,Ro (ju r.aOD)),(80,Ni r.aOD.length),(81,Ni i.1)] [(3,.loose (jc (juh L3 r i.1)) i.2)]) (λi=>i.1<=r.aOD.length) (λi=>r.aOD.length-i.1) (0,aBJ) (js [7700] (by simp only [go_sem,jAV]<;>trivial)) ?_
  rintro ⟨j,mW⟩ hj;dsimp only at hj;by_cases bJ:j<r.aOD.length
  ·have aX:(j:Int)<r.aOD.length:=by omega
   obtain ⟨e,he⟩:=ja bJ;have cZ:=kw j;have rV:=jAU (L:=L3) he;have hMl:=jwj L3 r j;generalize juh L3 r j=M at*;have p1:M.length+4<=maxLen:=vT;have p2:(M.length+4)*8<=140737488355328:=by omega
   simp only [go_sem,bJ,aX,jL he,jz,p1,p2,jen,cZ];intro b7 tY tX;exact qc (j+1,tX) (js [9500] (by simp only [go_sem,rV]<;>trivial))
  have aX:¬(j:Int)<r.aOD.length:=by omega
  obtain rfl:j=r.aOD.length:=by omega
  rw [<-uL];simp only [go_sem,aX,hw];exact qc (m+1,mW) (js [3])
 have dS:¬(m:Int)<y.aOH.length:=by omega
 obtain rfl:m=y.aOH.length:=by omega
 rw [hye] at mM⊢;simp only [go_sem,dS];refine jk (jrs (zM y) (by omega)) λη=>?_
 simp only [go_sem];simp only [go_sem,hb]
theorem jkS (y:Yd) (ht:jB y<=2000000):jZ Tryz.prog 42 [.agg (jb y)] (.c (.val (.string (qh y)))):=by
 refine pf_ jgZ ?_;unfold jdI;simp only [go_sem,jb];intro b1;refine jk (qb y ht) λη=>?_
 simp only [go_sem];cases aR:jt y
 ·have hb:qh y=⟨⟨[]⟩⟩:=by simp [qh,aR]
  simp only [go_sem,hb]
 have hY:=yard_iff.1 aR;have hb:qh y=jkr (zM y):=by simp [qh,aR]
 have h4:=hY.four;have h8:=hY.eight;simp only [go_sem,jA9];intro mF;refine qP (λi:Nat×jg=>St.of [(1,Bx 100 b1),(3,Hd 3 i.2),(4,Ni i.1)] [(100,Bi b1 _ (jb y)),(3,.loose (jc (yI1 y i.1)) i.2)]) (λi=>i.1<=y.aOE.length) (λi=>y.aOE.length-i.1) (0,mF) (js [100,1800] (by simp only [go_sem,jb,jDK]<;>trivial)) ?_
 rintro ⟨k,η⟩ hk;dsimp only at hk;have pQ:=jAA hY k;by_cases aB:k<y.aOE.length
 ·have aA:(k:Int)<y.aOE.length:=by omega
  have bL:=qN k;obtain ⟨l,hl⟩:=ja aB;have z6:=(hY.shelves l (aOT hl)).aOQ;have hw:=kw k;have fE:=jDJ hl;generalize yI1 y k=L at*;have m1:L.length+1<=maxLen:=vT;have m2:(L.length+1)*8<=140737488355328:=by omega
  simp only [go_sem,jb,aB,aA,bL,kC hl,m1,m2,ko];intro w7 oL;refine qP (λi:Nat×jg=>St.of [(1,Bx 100 b1),(3,Hd 3 i.2),(4,Ni k),(5,Ni i.1)] [(100,Bi b1 _ (jb y)),(3,.loose (jc (jt8 L l i.1)) i.2)]) (λi=>i.1<=l.length) (λi=>l.length-i.1) (0,oL) (js [100,3400] (by simp only [go_sem,jb,jAN]<;>trivial)) ?_
  rintro ⟨j,mW⟩ hj;dsimp only at hj;by_cases bJ:j<l.length
  ·have aX:(j:Int)<l.length:=by omega
   have dK:=qN j;obtain ⟨e,he⟩:=ja bJ;have cZ:=kw j;have rV:=jAM (L:=L) he;have hMl:=jv3 L l j;generalize jt8 L l j=M at*;have p1:M.length+4<=maxLen:=vT;have p2:(M.length+4)*8<=140737488355328:=by omega
   simp only [go_sem,jb,aB,bL,kC hl,bJ,aX,dK,jU he,jj,p1,p2,jen,cZ];intro b7 aBN rJ;exact qc (j+1,rJ) (js [100,6300] (by simp only [go_sem,rV]<;>trivial))
  have aX:¬(j:Int)<l.length:=by omega
  obtain rfl:j=l.length:=by omega
  rw [<-fE];simp only [go_sem,jb,aB,bL,kC hl,aX,hw];exact qc (k+1,mW) (js [100,3])
 have aA:¬(k:Int)<y.aOE.length:=by omega
 obtain rfl:k=y.aOE.length:=by omega
 have hye:=yI_e y;generalize yI1 y y.aOE.length=L1 at*;have m1:L1.length+1<=maxLen:=vT;have m2:(L1.length+1)*8<=140737488355328:=by omega
 simp only [go_sem,jb,aA,m1,m2,ko];intro aBK tZ;refine qP (λi:Nat×jg=>St.of [(1,Bx 100 b1),(3,Hd 3 i.2),(7,Ni i.1)] [(100,Bi b1 _ (jb y)),(3,.loose (jc (yI2 L1 y i.1)) i.2)]) (λi=>i.1<=y.aOH.length) (λi=>y.aOH.length-i.1) (0,tZ) (js [100,6900] (by simp only [go_sem,jb,jDI]<;>trivial)) ?_
 rintro ⟨m,ηm⟩ hm;dsimp only at hm;have mM:=jAz (L:=L1) hY m;by_cases dX:m<y.aOH.length
 ·have dS:(m:Int)<y.aOH.length:=by omega
  have wU:=qN m;obtain ⟨r,hr⟩:=ja dX;obtain ⟨n,hn,eB,cC,dI,-⟩:=ja8 (hY.right r (aOT hr)).aOF;have aC:=(hY.right r (aOT hr)).len;have hw:=kw m;have uL:=jDH (L:=L1) hr;generalize yI2 L1 y m=L2 at*;have q1:L2.length+1<=maxLen:=vT;have q2:(L2.length+1)*8<=140737488355328:=by omega
  obtain ⟨L2',hs⟩:∃L2',L2++[r.id]=L2':=⟨_,rfl⟩;have fH:L2'.length=L2.length+1:=by rw [<-hs];simp
  rw [hs] at uL;have q3:L2'.length+5<=maxLen:=vT;have q4:(L2'.length+5)*8<=140737488355328:=by omega
  simp only [go_sem,jb,dX,dS,wU,jR hr,jd,je,q1,q2,ko,hs];intro b8 aHQ aHP;refine kW (qm (β:=7000000) Tryz.func106 jil (by simp) ?_)
  unfold jeW;simp only [go_sem,q3,q4,juS];intro bp t6 mF;refine qP (λi:Nat×jg=>St.of [(0,Hd 0 i.2),(3,Bx 3 bp),(5,Ni i.1)] [(100,Bi b1 _ (jb y)),(800,Bi b8 _ (jd r)),(3,Bi bp _ (je r.aOF)),(0,.loose (jc (jmW L2' r.aOF i.1)) i.2)]) (λi=>i.1<=r.aOF.aOI.length) (λi=>r.aOF.aOI.length-i.1) (0,mF) (js [100,800,700000300,700001900] (by simp only [go_sem,jb,jd,je,jEW]<;>trivial)) ?_
  rintro ⟨j,mW⟩ hj;dsimp only at hj;have hMl:=jwG L2' r.aOF j;by_cases bJ:j<r.aOF.aOI.length
  ·have aX:(j:Int)<r.aOF.aOI.length:=by omega
   have dK:=qN j;obtain ⟨e,he⟩:=ja bJ;have cZ:=kw j;have rV:=jA1 (L:=L2') he;generalize jmW L2' r.aOF j=M at*;have p1:M.length+2<=maxLen:=vT;have p2:(M.length+2)*8<=140737488355328:=by omega
   simp only [go_sem,jb,jd,je,bJ,aX,dK,jE he,kb,p1,p2,jih,cZ];intro rK i8;exact qc (j+1,i8) (js [100,800,3,700004100] (by simp only [go_sem,rV]<;>trivial))
  have aX:¬(j:Int)<r.aOF.aOI.length:=by omega
  obtain rfl:j=r.aOF.aOI.length:=by omega
  generalize jmW L2' r.aOF r.aOF.aOI.length=L3 at*;have q5:L3.length+1<=maxLen:=vT;have q6:(L3.length+1)*8<=140737488355328:=by omega
  simp only [go_sem,jb,jd,je,aX,q5,q6,ko];intro aHO tY;refine qP (λi:Nat×jg=>St.of [(1,Bx 100 b1),(3,Hd 3 i.2),(7,Ni m),(8,Bx 800 b8),(9,Ni i.1)] [(100,Bi b1 _ (jb y)),(800,Bi b8 _ (jd r)),(3,.loose (jc (juh L3 r i.1)) i.2)]) (λi=>i.1<=r.aOD.length) (λi=>r.aOD.length-i.1) (0,tY) (js [100,800,9400] (by simp only [go_sem,jb,jd,je,jAV]<;>trivial)) ?_
  rintro ⟨j,mW⟩ hj;dsimp only at hj;by_cases bJ:j<r.aOD.length
  ·have aX:(j:Int)<r.aOD.length:=by omega
   have dK:=qN j;obtain ⟨e,he⟩:=ja bJ;have cZ:=kw j;have rV:=jAU (L:=L3) he;have hMl:=jwj L3 r j;generalize juh L3 r j=M at*;have p1:M.length+4<=maxLen:=vT;have p2:(M.length+4)*8<=140737488355328:=by omega
   simp only [go_sem,jb,jd,je,bJ,aX,dK,jL he,jz,p1,p2,jen,cZ];intro b7 tY tX;exact qc (j+1,tX) (js [100,800,11700] (by simp only [go_sem,rV]<;>trivial))
  have aX:¬(j:Int)<r.aOD.length:=by omega
  obtain rfl:j=r.aOD.length:=by omega
  rw [<-uL];simp only [go_sem,jb,jd,je,aX,hw];exact qc (m+1,mW) (js [100,3])
 have dS:¬(m:Int)<y.aOH.length:=by omega
 obtain rfl:m=y.aOH.length:=by omega
 rw [hye] at mM⊢;simp only [go_sem,jb,dS];refine jk (jl8 (zM y) (by omega)) λη=>?_
 simp only [go_sem];simp only [go_sem,hb]
