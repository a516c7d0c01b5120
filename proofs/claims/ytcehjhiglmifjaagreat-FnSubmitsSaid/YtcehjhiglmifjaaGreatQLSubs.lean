/- Parts. -/
import Derived.Test.YtcehjhiglmifjaaGreatQDrawK
import Derived.Test.YtcehjhiglmifjaaGreatQSubsP
set_option linter.all false
set_option maxHeartbeats 16000000
set_option maxRecDepth 100000
namespace Go.Proofs.YtcehjhiglmifjaaGreat
open Go.RowKit Go.Sort
theorem juj {rs:List Rn} (h:∀r∈rs,RunOkP r) (h8:rs.length<=8):zd rs<=96:=by
 have h1:=jcc (λr=>cS 2 r.aOD) 12 rs λr hr=>by
  obtain ⟨n,hn,_,cC,_⟩:=ja8 (h r hr).aOF;have:=va 2 r.aOD r.aOD.length;have h2:=(h r hr).len;simp only [cS,qG];omega
 simp only [zd];omega
def jcP:C:=iS [aO 2 false] (.seq (iS [aM 17 0,iA 18 (iK 11 [17])] (iD 18 (iS [aO 2 true] .ret) .skip)) (iS [aM 19 0,iA 20 (iK 12 [19]),iA 3 wAL,wAA 3 20] (iS [aM 21 0,iA 22 (iK 12 [21]),iA 4 wAL,wAA 4 22] (iS [aM 23 0,iA 24 (iK 43 [23]),iA 5 wAR,wAF 5 24] (iS [aT 26 4 3,aT 27 5 5,iA 28 (.call 44 [.t 26,oI 77,.t 27]),aM 25 28,aE 29 25 0,aE 30 25 1,iA 6 wAL,wAA 6 29,aM 7 30] (iS [aT 32 4 4,aT 33 5 5,iA 34 (.call 45 [.t 32,oI 77,.t 33]),aM 31 34,aE 35 31 0,aE 36 31 1,iA 8 wAL,wAA 8 35,aM 9 36] (.seq (iS [aM 37 7,aM 38 9,aP 39 .neq 3 37 38,aM 40 39,iB 41 40 false (iT 4 6),iB 42 40 false (iT 4 8),iB 43 40 false (iK 17 [41,42]),iB 44 40 false (iU 43),iA 45 (iY 40 (oT) (.t 44)),aM 46 45,iB 47 46 false (iM 7),iB 48 46 false (iQ .eql 3 47 0),iB 49 46 false (iT 4 3),iB 50 46 false (iT 5 5),iB 51 46 false (iK 46 [49,50]),iB 52 46 false (.beq true (.t 48) (.t 51)),iA 53 (iY 46 (oT) (.t 52))] (iD 53 (iS [aO 2 false] .ret) .skip)) (.seq (iS [aM 54 7,aQ 55 .neq 3 54 0] (iD 55 (iS [aM 56 7,aQ 57 .eql 3 56 7,aM 58 57,iB 59 58 true (iT 4 6),iB 60 58 true (iT 4 4),iB 61 58 true (iK 17 [59,60]),iA 62 (iY 58 (.t 61) (oF)),aM 2 62] .ret) .skip)) (iS [aT 63 4 6,iA 64 (.call 25 [.t 63,oI 77]),aM 10 64] (iS [aT 66 4 6,aT 67 5 5,iA 68 (.call 44 [.t 66,oI 77,.t 67]),aM 65 68,aE 69 65 0,aE 70 65 1,iA 11 wAL,wAA 11 69,aM 12 70] (iS [aT 72 4 3,aT 73 5 5,iA 74 (.call 44 [.t 72,oI 0,.t 73]),aM 71 74,aE 75 71 0,aE 76 71 1,iA 13 wAL,wAA 13 75,aM 14 76] (iS [aT 78 4 3,iA 79 (wAX []),iA 80 (.call 44 [.t 78,oI 78,.t 79]),aM 77 80,aE 81 77 0,aE 82 77 1,iA 15 wAL,wAA 15 81,aM 16 82] (.seq (.dreg (tA 0 83 (iM 10) (tA 1 84 (iF 3 4) (tA 2 85 (iL 84) (tA 3 86 (iG 85) (tA 4 87 (iP .eql 3 83 86) (tA 5 88 (iM 87) (tB 6 89 88 true (iM 12) (tB 7 90 88 true (iQ .eql 3 89 6) (tA 8 91 (iY 88 (.t 90) (oF)) (tA 9 92 (iM 91) (tB 10 93 92 true (iM 14) (tB 11 94 92 true (iQ .eql 3 93 5) (tA 12 95 (iY 92 (.t 94) (oF)) (tA 13 96 (iM 95) (tB 14 97 96 true (iM 16) (tB 15 98 96 true (iQ .eql 3 97 1) (tA 16 99 (iY 96 (.t 98) (oF)) (tA 17 100 (iM 99) (tB 18 101 100 true (iT 4 6) (.alt (iB 102 100 true (iK 18 [101])) [] (tA 20 103 (iY 100 (.t 102) (oF)) (tA 21 104 (iM 103) (tB 22 105 104 true (iT 4 6) (tB 25 108 104 true (iT 4 3) (tB 28 111 104 true (iF 3 6) (tB 29 112 104 true (iL 111) (tB 30 113 104 true (iM 10) (tB 31 114 104 true (iI 8 112 113) (tB 32 115 104 true (iT 8 114) (.alt (iB 106 104 true (iK 22 [105])) [32,31,30,29,28,25] (tB 24 107 104 true (iG 106) (.alt (iB 109 104 true (iK 22 [108])) [24,32,31,30,29,28] (tB 27 110 104 true (iG 109) (.alt (iB 116 104 true (.call 47 [.t 115,oI 2])) [27,24] (tB 34 117 104 true (iG 116) (tB 35 118 104 true (iP .add 3 110 117) (tB 36 119 104 true (iP .eql 3 107 118) (tA 37 120 (iY 104 (.t 119) (oF)) (tA 38 2 (iM 120) .done))))) .stop)) .stop)) .stop)))))))))) .stop))))))))))))))))))))) .ret)))))))))))))
theorem jfW:fnC Tryz.prog Tryz.f7=some (jcP,[.t 2],121):=by kernel_rfl
theorem jpL (c:List UInt8):jZ Tryz.prog 7 [.c (zE c)] (.c (.val (.bool true))):=by
 refine pf_ jfW ?_;unfold jcP;simp only [go_sem];have d9:(zE c).toRo=.ro (zE c):=rfl;refine jw (jCy c) (by simp only [go_sem,d9]) λeP=>?_
 simp only [go_sem,d9];by_cases gZ:(1048576:Int)<(c.length:Int)
 ·simp only [go_sem,gZ]
 have hc:c.length<=1048576:=by omega
 simp only [go_sem,gZ];obtain ⟨hI,hq⟩:=dY_I c;have fF:=jFT c;have pD:=jaX c hc;change jZ _ _ _ (.agg (jb (dY c))) at pD;generalize dY c=y at*;have pP:=jkV c hc;have tE:=jFU c;generalize dPl c=p at*;have aR:=hI.ok (by omega)
 have sS:=aR.small;have ht:jB y<=2000000:=by omega
 have hS:=subs hI hq fF tE;have nM:=hS.ok.small;have t8:jB (jaS y 77 p)<=2000000:=by omega
 have hpe:p.aOI.length<=4000000:=by obtain ⟨n,_,_,_,dI,_⟩:=ja8 tE;omega
 have iZ:=hS.code;refine jw (pD) (by simp only [go_sem,d9]) λdF=>?_
 simp only [go_sem,d9];simp only [go_sem,jb];intro b3;refine jw (pD) (by simp only [go_sem,d9]) λaS=>?_
 simp only [go_sem,d9];simp only [go_sem,jb];intro b4;refine jw (pP) (by simp only [go_sem,d9]) λbY=>?_
 simp only [go_sem,d9];simp only [go_sem,je];intro b5;refine jk (zu y 77 p ht hpe) λeO=>?_
 simp only [go_sem,jb,je];intro b6;refine jk (jgr y 77 p ht hpe) λbR=>?_
 simp only [go_sem,jb,je];intro b8;cases bE:kX y p
 ·rw [if_neg (by rw [bE];decide)] at iZ
  have hyy:=hS.no bE;rw [hyy,iZ];simp only [go_sem,aRI];have hyt:jB y<=2000000:=ht;have h70:((7:Int)==0)=false:=rfl;have h7n:((7:Int) !=0)=true:=rfl;have hff:(false !=false)=false:=rfl;refine jk (vW y ht) λbM=>?_
  simp only [go_sem,jb];refine jk (jby y p ht) λcO=>?_
  simp only [go_sem,jb,je];simp only [go_sem,bE,hff,h7n,aQD];refine jk (vW y ht) λbI=>?_
  simp only [go_sem,jb]
 rw [if_pos bE] at iZ;have fB:=hS.at_ bE;have bD:=hS.row bE;have uY:=hS.again bE;have mJ:=hS.ready bE;have nN:=hS.ok;have hR8:=nN.eight;rw [iZ];generalize hz:jaS y 77 p=z at*;have htt:(true !=true)=false:=rfl;have hk:=(aOS.1 bD).1;have bL:(y.aOH.length:Int)>=0:=by omega
 have dD:(jO 77 p).aOD.length<=2000000:=by
  have:=nN.right _ (aOT bD);obtain ⟨n,hn,_,cC,_⟩:=ja8 this.aOF;have:=this.len;omega
 simp only [go_sem,aRI];refine jw (vW z t8) (by simp only [go_sem,jb,aQD]) λbM=>?_
 simp only [go_sem,jb,aQD];refine jk (jby y p ht) λcO=>?_
 simp only [go_sem,jb,je];simp only [go_sem,bE,htt,aRI,aQD];refine jk (kQ z 77) λbI=>?_
 simp only [go_sem,jb];rw [fB];refine jk (zu z 77 p t8 hpe) ληd=>?_
 simp only [go_sem,jb,je];intro b11;refine jk (zu y 0 p ht hpe) λi7=>?_
 simp only [go_sem,jb,je];intro b13;refine jw (zu y 78 ⟨0,0,0,0,[]⟩ ht (by decide)) (by simp only [go_sem,jb,je,jn]) ληf=>?_
 simp only [go_sem,jb,je,jn];intro b15;have n1:=hS.none_;have n2:=hS.bad;simp only [go_sem,fB,uY,n1,n2,aQD];refine jk (kn z t8) ληg=>?_
 simp only [go_sem,jb];generalize sV:jO 77 p=r at*
 have gM:(ql y).length<=96:=by
  have h1:=zA hI.rns.eight hI.rns.ids hI.ens;have h2:=juj aR.right aR.eight;simp only [ql];omega
 have mC:(qG 2 r.aOD).length<=2000000:=by have:=va 2 r.aOD r.aOD.length;simp only [qG];omega
 have rM:IntKind.i64.wrap (((ql y).length:Int)+((qG 2 r.aOD).length:Int))=((ql y).length:Int)+((qG 2 r.aOD).length:Int):=zm;have dJ:(((ql z).length:Int)==((ql y).length:Int)+((qG 2 r.aOD).length:Int))=true:=by rw [mJ];simp
 simp only [go_sem,qX nN,hk,jgE bD,jlV bD,jd,je];refine jk (jaf z t8) ληh=>?_
 simp only [go_sem,jb];refine jk (jaf y ht) λsK=>?_
 simp only [go_sem,jb];refine jw (qg r 2 dD) (by simp only [go_sem,jd,je,jgJ bD,jY bD,vB bD,vA bD]) λmW=>?_
 simp only [go_sem,jd,je,jgJ bD,jY bD,vB bD,vA bD];simp only [go_sem,zU,jk9,rM,dJ]
