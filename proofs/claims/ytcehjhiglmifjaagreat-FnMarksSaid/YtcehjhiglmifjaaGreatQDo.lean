/- Parts. -/
import Derived.Test.YtcehjhiglmifjaaGreatQDrawB
set_option linter.all false
set_option maxHeartbeats 16000000
set_option maxRecDepth 100000
namespace Go.Proofs.YtcehjhiglmifjaaGreat
open Go.RowKit Go.Sort
def jqY:C:=iS [iA 2 (.box 27 4 (.t 0)),iA 3 (.box 60 11 (.t 1)),iA 4 wAM,iA 5 wAR] (.seq (iS [aT 8 11 3,iA 9 (iK 30 [8]),aU 10 9] (iD 10 (iS [aT 11 4 2,iA 12 (iK 61 [11]),iA 13 (wAV [(0,1,oI 5)]),wAA 4 12,wAB 5 13] .ret) .skip)) (iS [iA 6 wAM] (iS [iA 7 wAR] (.seq (iS [aF 14 0 3,aL 15 14] (.blk 0 (iS [aQ 23 .eql 3 15 1,aM 22 23] (iD 22 (.reg [aT 25 4 2,aF 26 1 3,aL 27 26,aF 28 2 3,aT 29 5 28,iA 30 (iK 44 [25,27,29]),aM 24 30,aE 31 24 0,aE 32 24 1,wAA 6 31,aF 33 0 7,wAD 33 32]) (iS [aQ 35 .eql 3 15 2,aM 34 35] (iD 34 (iS [aT 36 4 2,aF 37 9 3,aL 38 37,aF 39 10 3,aL 40 39,iA 41 (iK 14 [36,38,40]),aE 42 41 0,aE 43 41 1,wAA 4 42,wAB 5 43] .ret) (iS [aQ 45 .eql 3 15 3,aM 44 45] (iD 44 (.reg [aT 47 4 2,aF 48 1 3,aL 49 48,aF 50 7 3,aL 51 50,aF 52 8 3,aL 53 52,iA 54 (iK 55 [47,49,51,53]),aM 46 54,aE 55 46 0,aE 56 46 1,wAA 6 55,aF 57 0 7,wAD 57 56]) (iS [aQ 59 .eql 3 15 4,aM 58 59] (iD 58 (.reg [aT 61 4 2,aF 62 1 3,aL 63 62,aF 64 7 3,aL 65 64,aF 66 8 3,aL 67 66,iA 68 (iK 56 [61,63,65,67]),aM 60 68,aE 69 60 0,aE 70 60 1,wAA 6 69,aF 71 0 7,wAD 71 70]) (iS [aQ 73 .eql 3 15 5,aM 72 73] (iD 72 (.reg [aT 75 4 2,iA 76 (iK 51 [75]),aM 74 76,aE 77 74 0,aE 78 74 1,wAA 6 77,aF 79 0 7,wAD 79 78]) (iS [aQ 81 .eql 3 15 6,aM 80 81] (iD 80 (.reg [aT 83 4 2,aF 84 1 3,aL 85 84,iA 86 (iK 90 [83,85]),aM 82 86,aE 87 82 0,aE 88 82 1,wAA 6 87,aF 89 0 7,wAD 89 88]) (iS [aQ 91 .eql 3 15 7,aM 90 91] (iD 90 (.reg [aT 93 4 2,aF 94 1 3,aL 95 94,iA 96 (iK 91 [93,95]),aM 92 96,aE 97 92 0,aE 98 92 1,wAA 6 97,aF 99 0 7,wAD 99 98]) (iS [aT 16 4 2,iA 17 (iK 48 [16]),wAA 6 17] (iS [aT 18 4 2,iA 19 (iK 18 [18]),aU 20 19] (iD 20 (.reg [aF 21 0 7,iC (.st 1 [none] (.t 21) (oI 8))]) .skip))))))))))))))))))) (.seq (.dreg (tA 0 100 (iT 4 6) (tA 1 101 (iT 4 7) (.alt (wAA 4 100) [1] (.alt (wAB 5 101) [] .done .stop) .stop)))) .ret)))))
theorem jqM:fnC Tryz.prog Tryz.f29=some (jqY,[.cell 4 true 4,.cell 5 true 4],102):=by kernel_rfl
def jqW:C:=iS [iA 2 (.box 27 4 (.t 0)),iA 3 (.box 60 11 (.t 1)),iA 4 wAM,iA 5 wAR] (iS [aN 6 0] (iS [iA 8 (wAW []),iA 7 wAM,wAA 7 8] (.seq (iS [aT 9 11 3,iA 10 (iK 147 [9]),aU 11 10] (iD 11 (iS [aT 12 4 2,iA 13 (iK 67 [12]),iA 14 (wAV [(0,1,oI 5)]),wAA 4 13,wAB 5 14] .ret) .skip)) (.seq (iS [aF 15 0 3,aL 16 15] (.blk 0 (iS [aQ 23 .eql 3 16 1,aM 22 23] (iD 22 (.reg [aT 25 4 2,aF 26 1 3,aL 27 26,aF 28 2 3,aT 29 5 28,iA 30 (iK 45 [25,27,29]),aM 24 30,aE 31 24 0,aE 32 24 1,wAA 7 31,aM 6 32]) (iS [aQ 34 .eql 3 16 2,aM 33 34] (iD 33 (iS [aT 35 4 2,aF 36 9 3,aL 37 36,aF 38 10 3,aL 39 38,iA 40 (iK 15 [35,37,39]),aE 41 40 0,aE 42 40 1,wAA 4 41,wAB 5 42] .ret) (iS [aQ 44 .eql 3 16 3,aM 43 44] (iD 43 (.reg [aT 46 4 2,aF 47 1 3,aL 48 47,aF 49 7 3,aL 50 49,aF 51 8 3,aL 52 51,iA 53 (iK 148 [46,48,50,52]),aM 45 53,aE 54 45 0,aE 55 45 1,wAA 7 54,aM 6 55]) (iS [aQ 57 .eql 3 16 4,aM 56 57] (iD 56 (.reg [aT 59 4 2,aF 60 1 3,aL 61 60,aF 62 7 3,aL 63 62,aF 64 8 3,aL 65 64,iA 66 (iK 149 [59,61,63,65]),aM 58 66,aE 67 58 0,aE 68 58 1,wAA 7 67,aM 6 68]) (iS [aQ 70 .eql 3 16 5,aM 69 70] (iD 69 (.reg [aT 72 4 2,iA 73 (iK 52 [72]),aM 71 73,aE 74 71 0,aE 75 71 1,wAA 7 74,aM 6 75]) (iS [aQ 77 .eql 3 16 6,aM 76 77] (iD 76 (.reg [aT 79 4 2,aF 80 1 3,aL 81 80,iA 82 (iK 150 [79,81]),aM 78 82,aE 83 78 0,aE 84 78 1,wAA 7 83,aM 6 84]) (iS [aQ 86 .eql 3 16 7,aM 85 86] (iD 85 (.reg [aT 88 4 2,aF 89 1 3,aL 90 89,iA 91 (iK 151 [88,90]),aM 87 91,aE 92 87 0,aE 93 87 1,wAA 7 92,aM 6 93]) (iS [aT 17 4 2,iA 18 (iK 49 [17]),wAA 7 18] (iS [aT 19 4 2,iA 20 (iK 66 [19]),aU 21 20] (iD 21 (.reg [aN 6 8]) .skip))))))))))))))))))) (iS [aT 94 4 7,aM 95 6,iA 96 (wAV [(0,1,.t 95)]),wAA 4 94,wAB 5 96] .ret)))))
theorem jqL:fnC Tryz.prog Tryz.f95=some (jqW,[.cell 4 true 4,.cell 5 true 4],97):=by kernel_rfl
theorem jp0 (y:Yd) (d:Dd) (ht:jn y<=1900000) (hd:jbq d<=2000000):jW Tryz.prog 29 [.agg (jc y),.agg (jR d)] (.tup [(true,jc (doY y d)),(true,jcY (doQ y d))]):=by
 refine pf_ jqM ?_;unfold jqY;have dW:jn y<=2000000:=by omega
 have oE:jn y<=1990000:=by omega
 have gD:d.aNB.aNF.length<=4000000:=by simp only [jbq,jc4] at hd;omega
 simp only [go_sem,jc,jR,jd];intro b2 b3 b4 b5;refine jG (jok d hd) (by simp only [go_sem,jR,jd,aOU,aOQ]) λη=>?_
 simp only [go_sem,aOQ];cases hk:kf d
 ·have hy:doY y d=y:=by rw [doY,if_pos hk]
  have hq:doQ y d=⟨5,0,0,0⟩:=by rw [doQ,if_pos hk]
  rw [hy,hq];simp only [go_sem,Bool.not_false];refine jm (jY y dW) λη=>?_
  simp only [go_sem,jc];simp only [qF]
  apply ji
  simp only [go_sem,jy,true_or]
  apply ji
  simp only [go_sem,jy,jJ,jz,true_or]
 have cB:¬kf d=false:=by rw [hk];decide
 simp only [go_sem,Bool.not_true];intro b6 b7;by_cases h1:d.aNK=1
 ·have hy:doY y d=jee y d.run d.aNB:=by rw [doY,if_neg cB,if_pos h1]
  have hq:doQ y d=⟨jc8 y d.run d.aNB,0,0,0⟩:=by rw [doQ,if_neg cB,if_pos h1]
  have e1:(d.aNK==1)=true:=by simp [h1]
  rw [hy,hq];simp only [go_sem,e1];refine jm (jod y d.run d.aNB dW gD) λη=>?_
  simp only [go_sem,jc];simp only [qF]
  apply ji
  simp only [go_sem,jy,true_or]
  apply ji
  simp only [go_sem,jy,jJ,jz,true_or]
 have e1:(d.aNK==1)=false:=by simp [h1]
 by_cases h2:d.aNK=2
 ·have hy:doY y d=zp y d.aNG d.aNJ:=by rw [doY,if_neg cB,if_neg h1,if_pos h2]
  have hq:doQ y d=jrK y d.aNG d.aNJ:=by rw [doQ,if_neg cB,if_neg h1,if_pos h2]
  have e2:(d.aNK==2)=true:=by simp [h2]
  rw [hy,hq];simp only [go_sem,e1,e2];refine jm (jrU y d.aNG d.aNJ dW) λη=>?_
  simp only [go_sem,jc,jcY];simp only [qF]
  apply ji
  simp only [go_sem,jy,true_or]
  apply ji
  simp only [go_sem,jy,jJ,jz,true_or]
 have e2:(d.aNK==2)=false:=by simp [h2]
 by_cases h3:d.aNK=3
 ·have hy:doY y d=jbV y d.run d.aNH d.tri:=by rw [doY,if_neg cB,if_neg h1,if_neg h2,if_pos h3]
  have hq:doQ y d=⟨ja2 y d.run d.aNH d.tri,0,0,0⟩:=by rw [doQ,if_neg cB,if_neg h1,if_neg h2,if_pos h3]
  have e3:(d.aNK==3)=true:=by simp [h3]
  rw [hy,hq];simp only [go_sem,e1,e2,e3];refine jm (jk6 y d.run d.aNH d.tri dW) λη=>?_
  simp only [go_sem,jc];simp only [qF]
  apply ji
  simp only [go_sem,jy,true_or]
  apply ji
  simp only [go_sem,jy,jJ,jz,true_or]
 have e3:(d.aNK==3)=false:=by simp [h3]
 by_cases h4:d.aNK=4
 ·have hy:doY y d=jbR y d.run d.aNH d.tri:=by rw [doY,if_neg cB,if_neg h1,if_neg h2,if_neg h3,if_pos h4]
  have hq:doQ y d=⟨ja2 y d.run d.aNH d.tri,0,0,0⟩:=by rw [doQ,if_neg cB,if_neg h1,if_neg h2,if_neg h3,if_pos h4]
  have e4:(d.aNK==4)=true:=by simp [h4]
  rw [hy,hq];simp only [go_sem,e1,e2,e3,e4];refine jm (jrV y d.run d.aNH d.tri dW) λη=>?_
  simp only [go_sem,jc];simp only [qF]
  apply ji
  simp only [go_sem,jy,true_or]
  apply ji
  simp only [go_sem,jy,jJ,jz,true_or]
 have e4:(d.aNK==4)=false:=by simp [h4]
 by_cases h5:d.aNK=5
 ·have hy:doY y d=ja4 y:=by rw [doY,if_neg cB,if_neg h1,if_neg h2,if_neg h3,if_neg h4,if_pos h5]
  have hq:doQ y d=⟨ja5 y,0,0,0⟩:=by rw [doQ,if_neg cB,if_neg h1,if_neg h2,if_neg h3,if_neg h4,if_pos h5]
  have e5:(d.aNK==5)=true:=by simp [h5]
  rw [hy,hq];simp only [go_sem,e1,e2,e3,e4,e5];refine jm (jrT y oE) λη=>?_
  simp only [go_sem,jc];simp only [qF]
  apply ji
  simp only [go_sem,jy,true_or]
  apply ji
  simp only [go_sem,jy,jJ,jz,true_or]
 have e5:(d.aNK==5)=false:=by simp [h5]
 by_cases h6:d.aNK=6
 ·have hy:doY y d=kF y d.run:=by rw [doY,if_neg cB,if_neg h1,if_neg h2,if_neg h3,if_neg h4,if_neg h5,if_pos h6]
  have hq:doQ y d=⟨kW y d.run,0,0,0⟩:=by rw [doQ,if_neg cB,if_neg h1,if_neg h2,if_neg h3,if_neg h4,if_neg h5,if_pos h6]
  have e6:(d.aNK==6)=true:=by simp [h6]
  rw [hy,hq];simp only [go_sem,e1,e2,e3,e4,e5,e6];refine jm (jol y d.run dW) λη=>?_
  simp only [go_sem,jc];simp only [qF]
  apply ji
  simp only [go_sem,jy,true_or]
  apply ji
  simp only [go_sem,jy,jJ,jz,true_or]
 have e6:(d.aNK==6)=false:=by simp [h6]
 by_cases h7:d.aNK=7
 ·have hy:doY y d=jah y d.run:=by rw [doY,if_neg cB,if_neg h1,if_neg h2,if_neg h3,if_neg h4,if_neg h5,if_neg h6,if_pos h7]
  have hq:doQ y d=⟨jaE y d.run,0,0,0⟩:=by rw [doQ,if_neg cB,if_neg h1,if_neg h2,if_neg h3,if_neg h4,if_neg h5,if_neg h6,if_pos h7]
  have e7:(d.aNK==7)=true:=by simp [h7]
  rw [hy,hq];simp only [go_sem,e1,e2,e3,e4,e5,e6,e7];refine jm (joj y d.run dW) λη=>?_
  simp only [go_sem,jc];simp only [qF]
  apply ji
  simp only [go_sem,jy,true_or]
  apply ji
  simp only [go_sem,jy,jJ,jz,true_or]
 have e7:(d.aNK==7)=false:=by simp [h7]
 have hy:doY y d=jbG y:=by rw [doY,if_neg cB,if_neg h1,if_neg h2,if_neg h3,if_neg h4,if_neg h5,if_neg h6,if_neg h7]
 rw [hy];simp only [go_sem,e1,e2,e3,e4,e5,e6,e7];refine jm (jmk y oE) λη=>?_
 simp only [go_sem,jc];refine jm (kK y dW) λη=>?_
 simp only [go_sem];cases aR:ju y
 ·have hq:doQ y d=⟨8,0,0,0⟩:=by rw [doQ,if_neg cB,if_neg h1,if_neg h2,if_neg h3,if_neg h4,if_neg h5,if_neg h6,if_neg h7,if_neg (by rw [aR];decide)]
  rw [hq];simp only [go_sem,Bool.not_false];simp only [qF]
  apply ji
  simp only [go_sem,jy,true_or]
  apply ji
  simp only [go_sem,jy,jJ,jz,true_or]
 ·have hq:doQ y d=⟨0,0,0,0⟩:=by rw [doQ,if_neg cB,if_neg h1,if_neg h2,if_neg h3,if_neg h4,if_neg h5,if_neg h6,if_neg h7,if_pos aR]
  rw [hq];simp only [go_sem,Bool.not_true];simp only [qF]
  apply ji
  simp only [go_sem,jy,true_or]
  apply ji
  simp only [go_sem,jy,jJ,jz,true_or]
theorem jpS (y:Yd) (d:Dd) (ht:jn y<=1900000) (hd:jbq d<=2000000):jW Tryz.prog 95 [.agg (jc y),.agg (jR d)] (.tup [(true,jc (doY y d)),(true,jcY (doQ y d))]):=by
 refine pf_ jqL ?_;unfold jqW;have dW:jn y<=2000000:=by omega
 have oE:jn y<=1990000:=by omega
 have gD:d.aNB.aNF.length<=4000000:=by simp only [jbq,jc4] at hd;omega
 simp only [go_sem,jc,jR,jd];intro b2 b3 b4 b5 b7;refine jG (jn8 d hd) (by simp only [go_sem,jR,jd,aOU,aOQ]) λη=>?_
 simp only [go_sem,aOQ];cases hk:kf d
 ·have hy:doY y d=y:=by rw [doY,if_pos hk]
  have hq:doQ y d=⟨5,0,0,0⟩:=by rw [doQ,if_pos hk]
  rw [hy,hq];simp only [go_sem,Bool.not_false];refine jm (km y dW) λη=>?_
  simp only [go_sem,jc];simp only [qF]
  apply ji
  simp only [go_sem,jy,true_or]
  apply ji
  simp only [go_sem,jy,jJ,jz,true_or]
 have cB:¬kf d=false:=by rw [hk];decide
 simp only [go_sem,Bool.not_true];by_cases h1:d.aNK=1
 ·have hy:doY y d=jee y d.run d.aNB:=by rw [doY,if_neg cB,if_pos h1]
  have hq:doQ y d=⟨jc8 y d.run d.aNB,0,0,0⟩:=by rw [doQ,if_neg cB,if_pos h1]
  have e1:(d.aNK==1)=true:=by simp [h1]
  rw [hy,hq];simp only [go_sem,e1];refine jm (jn2 y d.run d.aNB dW gD) λη=>?_
  simp only [go_sem,jc];simp only [qF]
  apply ji
  simp only [go_sem,jy,true_or]
  apply ji
  simp only [go_sem,jy,jJ,jz,true_or]
 have e1:(d.aNK==1)=false:=by simp [h1]
 by_cases h2:d.aNK=2
 ·have hy:doY y d=zp y d.aNG d.aNJ:=by rw [doY,if_neg cB,if_neg h1,if_pos h2]
  have hq:doQ y d=jrK y d.aNG d.aNJ:=by rw [doQ,if_neg cB,if_neg h1,if_pos h2]
  have e2:(d.aNK==2)=true:=by simp [h2]
  rw [hy,hq];simp only [go_sem,e1,e2];refine jm (jrO y d.aNG d.aNJ dW) λη=>?_
  simp only [go_sem,jc,jcY];simp only [qF]
  apply ji
  simp only [go_sem,jy,true_or]
  apply ji
  simp only [go_sem,jy,jJ,jz,true_or]
 have e2:(d.aNK==2)=false:=by simp [h2]
 by_cases h3:d.aNK=3
 ·have hy:doY y d=jbV y d.run d.aNH d.tri:=by rw [doY,if_neg cB,if_neg h1,if_neg h2,if_pos h3]
  have hq:doQ y d=⟨ja2 y d.run d.aNH d.tri,0,0,0⟩:=by rw [doQ,if_neg cB,if_neg h1,if_neg h2,if_pos h3]
  have e3:(d.aNK==3)=true:=by simp [h3]
  rw [hy,hq];simp only [go_sem,e1,e2,e3];refine jm (jk0 y d.run d.aNH d.tri dW) λη=>?_
  simp only [go_sem,jc];simp only [qF]
  apply ji
  simp only [go_sem,jy,true_or]
  apply ji
  simp only [go_sem,jy,jJ,jz,true_or]
 have e3:(d.aNK==3)=false:=by simp [h3]
 by_cases h4:d.aNK=4
 ·have hy:doY y d=jbR y d.run d.aNH d.tri:=by rw [doY,if_neg cB,if_neg h1,if_neg h2,if_neg h3,if_pos h4]
  have hq:doQ y d=⟨ja2 y d.run d.aNH d.tri,0,0,0⟩:=by rw [doQ,if_neg cB,if_neg h1,if_neg h2,if_neg h3,if_pos h4]
  have e4:(d.aNK==4)=true:=by simp [h4]
  rw [hy,hq];simp only [go_sem,e1,e2,e3,e4];refine jm (jrP y d.run d.aNH d.tri dW) λη=>?_
  simp only [go_sem,jc];simp only [qF]
  apply ji
  simp only [go_sem,jy,true_or]
  apply ji
  simp only [go_sem,jy,jJ,jz,true_or]
 have e4:(d.aNK==4)=false:=by simp [h4]
 by_cases h5:d.aNK=5
 ·have hy:doY y d=ja4 y:=by rw [doY,if_neg cB,if_neg h1,if_neg h2,if_neg h3,if_neg h4,if_pos h5]
  have hq:doQ y d=⟨ja5 y,0,0,0⟩:=by rw [doQ,if_neg cB,if_neg h1,if_neg h2,if_neg h3,if_neg h4,if_pos h5]
  have e5:(d.aNK==5)=true:=by simp [h5]
  rw [hy,hq];simp only [go_sem,e1,e2,e3,e4,e5];refine jm (jrN y oE) λη=>?_
  simp only [go_sem,jc];simp only [qF]
  apply ji
  simp only [go_sem,jy,true_or]
  apply ji
  simp only [go_sem,jy,jJ,jz,true_or]
 have e5:(d.aNK==5)=false:=by simp [h5]
 by_cases h6:d.aNK=6
 ·have hy:doY y d=kF y d.run:=by rw [doY,if_neg cB,if_neg h1,if_neg h2,if_neg h3,if_neg h4,if_neg h5,if_pos h6]
  have hq:doQ y d=⟨kW y d.run,0,0,0⟩:=by rw [doQ,if_neg cB,if_neg h1,if_neg h2,if_neg h3,if_neg h4,if_neg h5,if_pos h6]
  have e6:(d.aNK==6)=true:=by simp [h6]
  rw [hy,hq];simp only [go_sem,e1,e2,e3,e4,e5,e6];refine jm (jn9 y d.run dW) λη=>?_
  simp only [go_sem,jc];simp only [qF]
  apply ji
  simp only [go_sem,jy,true_or]
  apply ji
  simp only [go_sem,jy,jJ,jz,true_or]
 have e6:(d.aNK==6)=false:=by simp [h6]
 by_cases h7:d.aNK=7
 ·have hy:doY y d=jah y d.run:=by rw [doY,if_neg cB,if_neg h1,if_neg h2,if_neg h3,if_neg h4,if_neg h5,if_neg h6,if_pos h7]
  have hq:doQ y d=⟨jaE y d.run,0,0,0⟩:=by rw [doQ,if_neg cB,if_neg h1,if_neg h2,if_neg h3,if_neg h4,if_neg h5,if_neg h6,if_pos h7]
  have e7:(d.aNK==7)=true:=by simp [h7]
  rw [hy,hq];simp only [go_sem,e1,e2,e3,e4,e5,e6,e7];refine jm (jn7 y d.run dW) λη=>?_
  simp only [go_sem,jc];simp only [qF]
  apply ji
  simp only [go_sem,jy,true_or]
  apply ji
  simp only [go_sem,jy,jJ,jz,true_or]
 have e7:(d.aNK==7)=false:=by simp [h7]
 have hy:doY y d=jbG y:=by rw [doY,if_neg cB,if_neg h1,if_neg h2,if_neg h3,if_neg h4,if_neg h5,if_neg h6,if_neg h7]
 rw [hy];simp only [go_sem,e1,e2,e3,e4,e5,e6,e7];refine jm (jmf y oE) λη=>?_
 simp only [go_sem,jc];refine jm (qr y dW) λη=>?_
 simp only [go_sem];cases aR:ju y
 ·have hq:doQ y d=⟨8,0,0,0⟩:=by rw [doQ,if_neg cB,if_neg h1,if_neg h2,if_neg h3,if_neg h4,if_neg h5,if_neg h6,if_neg h7,if_neg (by rw [aR];decide)]
  rw [hq];simp only [go_sem,Bool.not_false];simp only [qF]
  apply ji
  simp only [go_sem,jy,true_or]
  apply ji
  simp only [go_sem,jy,jJ,jz,true_or]
 ·have hq:doQ y d=⟨0,0,0,0⟩:=by rw [doQ,if_neg cB,if_neg h1,if_neg h2,if_neg h3,if_neg h4,if_neg h5,if_neg h6,if_neg h7,if_pos aR]
  rw [hq];simp only [go_sem,Bool.not_true];simp only [qF]
  apply ji
  simp only [go_sem,jy,true_or]
  apply ji
  simp only [go_sem,jy,jJ,jz,true_or]
theorem jkY:jW Tryz.prog 33 [] (.agg (jc newYd)):=jkV ⟨_,Tryz.func33,by kernel_rfl,by kernel_rfl⟩ λw=>jmQ w
section
variable {s:St} {K:St->Prop}
theorem jCE {o':Nat->Ob} (h:jBE o' s.o) (hk:WkK ⟨s.t,o'⟩ K):WkK s K:=λB N w0 w a F hr=>by
 obtain ⟨F',h1,_⟩:=hr.less h;exact hk B N w0 w a F' h1
theorem jzI (g:Nat) (hk:WkK ⟨s.t,λj=>if j=g then .none else s.o j⟩ K):WkK s K:=jCE (λj=>by
 by_cases e:j=g
 ·rw [if_pos e];exact .inr rfl
 ·rw [if_neg e];exact .inl rfl) hk
theorem jDr {a n k g c b ty:Nat} {x:A0} {cs:List Cell} {K:AV->(Nat->Ob)->Prop} (ha:s.t a=.c x) (hn:s.t n=.c (.bp g c b)) (ho:s.o g=.box b ty cs) (hl:c+k<=cs.length) (h:K (.tup [(false,[x]),(true,jez g c ((cs.drop c).take k))]) s.o):jv3 [.t a,.cell n true k] K s:=by
 simp only [jv3,jju,ha,hn];exact ⟨_,⟨ty,cs,ho,hl,rfl⟩,.inl trivial,h⟩
end
abbrev ddH (d:Dd) (x:Value):List D:=[.val (.int .i64 d.aNK),.val (.int .i64 d.run),.val (.int .i64 d.aNB.aNI),.val (.int .i64 d.aNB.aNN),.val (.int .i64 d.aNB.aNM),.val (.int .i64 d.aNB.aNA),jre (some (2,tEd)) x,.val (.int .i64 d.aNH),.val (.int .i64 d.tri),.val (.int .i64 d.aNG),.val (.int .i64 d.aNJ)]
abbrev DdRH (b ty:Nat) (d:Dd) (x:Value):Ob:=.box b ty [.a (.v (.int .i64 d.aNK)),.a (.v (.int .i64 d.run)),.a (.v (.int .i64 d.aNB.aNI)),.a (.v (.int .i64 d.aNB.aNN)),.a (.v (.int .i64 d.aNB.aNM)),.a (.v (.int .i64 d.aNB.aNA)),.a (.v x),.a (.v (.int .i64 d.aNH)),.a (.v (.int .i64 d.tri)),.a (.v (.int .i64 d.aNG)),.a (.v (.int .i64 d.aNJ))]
theorem joM (l:List Dd):(l.flatMap jR).length=l.length*11:=jC (enc:=jR) (size:=11) (λ_=>rfl) l
theorem jG2 (l:List Dd) (row:List D) (j:Nat):(l.flatMap jR++row)[l.length*11+j]?=row[j]?:=by
 rw [aPL (by rw [joM];omega),joM,aPI]
theorem jEr (l:List Dd) (row:List D) (j:Nat) (d:D):(l.flatMap jR++row).set (l.length*11+j) d=l.flatMap jR++row.set j d:=by
 rw [aRA _ _ (by rw [joM];omega),joM,aPI]
theorem jyP (l:List Dd) (d:Dd):D.sl 11 tDd (l.flatMap jR++jR d)=qJ (l++[d]):=by simp [qJ]
def jdH:C:=iS [iA 4 (.mov (.c (.slice none 0 0))),iA 5 wAM] (iS [iA 10 (.call 33 []),iA 6 wAM,wAA 6 10] (iS [iA 11 (.bsl 60 11 0 [] []),aM 7 11] (.seq (iS [aN 8 0] (.blk 0 (.loop (.seq (iS [aM 12 8,aM 13 1,aP 14 .lss 3 12 13] (iD 14 .skip (.exit 0))) (.seq (.blk 1 (iS [aM 17 0,aT 18 4 6,iA 19 (iK 142 [17,18]),iA 9 wAT,wAE 9 19] (iS [aM 20 7,aT 21 11 9,iA 22 (.bsl 60 11 1 [none,none,none,none,none,none,some (2,161),none,none,none,none] [(0,11,.t 21)]),iA 23 (.app 60 11 104 (.t 20) (.t 22)),aM 7 23] (.reg [aT 25 4 6,aT 26 11 9,iA 27 (iK 95 [25,26]),aM 24 27,aE 28 24 0,aE 29 24 1,wAA 6 28])))) (.reg [aM 15 8,aQ 16 .add 3 15 1,aM 8 16])))))) (.seq (.dreg (tA 0 30 (iM 7) (tA 1 31 (iT 4 6) (tA 2 4 (iM 30) (.alt (wAA 5 31) [] .done .stop))))) .ret))))
theorem jgO:fnC Tryz.prog Tryz.f89=some (jdH,[.t 4,.cell 5 true 4],32):=by kernel_rfl
theorem jqp (c:List UInt8) (hc:c.length<=1048576) (m:Nat) (hm:m<=1000) (s:Cu) (b:Nat) (o:Nat->Ob) (hs:s.1<=c.length) (ho:o 89=qm b 146 c s) (pE:o 86=.none) (tJ:o 94=.none) (mW:o 95=.none):
 Inl Tryz.prog 89 [Bx 89 b,Ni m] o λav o2=>∃(e e2 e3:jf) (b5:Nat),av=.tup [(false,[.h 600000700 0 [] (e [])]),(true,[.v (.int .i64 (vP c m ([],newYd,s)).2.1.now),.v (.int .i64 (vP c m ([],newYd,s)).2.1.seq),.h 600000500 2 [] (e2 []),.h 600000500 3 [] (e3 [])])]/\o2 600000700=.loose (qJ (vP c m ([],newYd,s)).1) e/\
  o2 600000500=kb b5 tYd (vP c m ([],newYd,s)).2.1.now (vP c m ([],newYd,s)).2.1.seq (vP c m ([],newYd,s)).2.1.aNC e2 (vP c m ([],newYd,s)).2.1.aNE e3/\o2 89=qm b 146 c (vP c m ([],newYd,s)).2.2/\∀g,g<600000000->g≠89->o2 g=o g:=by
 refine jlf (β:=6000000) [[1,1,1,0,1,0,0,1,0,0,0],[1,1,1,0,1,0,0,1,0,0,1],[1,1,1,0,1,0,0,1,0,0,1,1],[1,1,1,0,1,0,0,1,1],[1,1,1,1,0]] Tryz.func89 jgO (by simp) ?_
 unfold jdH;simp only [C.ghs,C.ghAt,List.foldr];simp only [go_sem];intro b5;refine jm jkY ληn=>?_
 simp only [go_sem,jc];intro b6 aBC;generalize hX:vP c m ([],newYd,s)=X at*;refine kg (λi:(Nat×(List Dd×Yd×Cu))×jf×jf×jf=>St.ofB [(0,Bx 89 b),(1,Ni m),(5,Bx 600000500 b5),(6,Bx 600000600 b6),(7,Hd 600000700 i.2.1),(8,Ni i.1.1)] [(600000500,ZYd b5 tYd),(600000600,kb b6 tYd i.1.2.2.1.now i.1.2.2.1.seq i.1.2.2.1.aNC i.2.2.1 i.1.2.2.1.aNE i.2.2.2),(600000700,.loose (qJ i.1.2.1) i.2.1)] 600000000 (λj=>if j=89 then qm b 146 c i.1.2.2.2 else if j=94 then .none else if j=95 then .none else if j=86 then .none else o j)) (λi=>i.1.1<=m/\DdsI c i.1.1 i.1.2/\X=vP c (m-i.1.1) i.1.2) (λi=>m-i.1.1) ((0,([],newYd,s)),aBC,ηn 2,ηn 3) (⟨aOL _,.start hs,hX.symm⟩) (kM [some 600000500,some 600000600,some 600001100] (by simp only [go_sem,jm1]<;>trivial) (λj hj=>by by_cases e89:j=89<;>by_cases e94:j=94<;>by_cases e95:j=95<;>by_cases e86:j=86<;>simp only [go_sem,e89,e94,e95,e86,jV hj 600000500 (by omega),jV hj 600000600 (by omega),jV hj 600001100 (by omega),jV hj 600001002 (by omega),jV hj 600001003 (by omega),jm1,ho,pE,tJ,mW]) (by decide)) ?_
 rintro ⟨⟨i,l,y,u⟩,e,e2,e3⟩ ⟨hi,hD,wD⟩;dsimp only at hi hD wD;by_cases aB:i<m;rotate_left
 ·have aA:¬(i:Int)<(m:Int):=by omega
  have h0:m-i=0:=by omega
  rw [h0,vP] at wD;subst wD;simp only [go_sem,aA];refine kv (WkK.of ?_);simp only [go_sem];refine jDr (x:=.h 600000700 0 [] (e [])) (g:=600000500) (c:=0) (b:=b5) (ty:=tYd) (cs:=[.a (.v (.int .i64 y.now)),.a (.v (.int .i64 y.seq)),.own (ki y.aNC) e2,.own (jE y.aNE) e3]) (by simp only [go_sem]) (by simp only [go_sem]) (by simp only [go_sem]) (by simp) ?_
  simp only [go_sem];refine ⟨e,e2,e3,b5,rfl,rfl,rfl,λg g1 g2=>?_⟩
  by_cases e94:g=94
  ·subst e94;simp only [go_sem,tJ]
  by_cases e95:g=95
  ·subst e95;simp only [go_sem,mW]
  by_cases e86:g=86
  ·subst e86;simp only [go_sem,pE]
  simp only [go_sem,g1,g2,e94,e95,e86,jV g1 600000500 (by omega),jV g1 600000600 (by omega)]
 have aA:(i:Int)<(m:Int):=by omega
 obtain ⟨f,hf⟩:∃f,m-i=f+1:=⟨m-i-1,by omega⟩
 rw [hf,vP] at wD;dsimp only at wD;have hDn:=hD.next;have fP:=hD.at_;have hyI:=hD.yd;have eQ:=hD.len;have tE:=jlt c y u;dsimp only at hDn fP hyI eQ;have hyt:=(hyI.ok (by have:=hD.seq;dsimp only at this;omega)).small
 simp only [go_sem,aA];refine kv ?_;refine jfA 600000600 2 94 rfl rfl rfl (by decide) (Nat.zero_lt_succ 0) ?_
 refine jfA 600000600 3 95 rfl rfl rfl (by decide) (Nat.zero_lt_succ 7) ?_
 refine WkK.wk (s':=St.ofB [(0,Bx 89 b),(1,Ni m),(5,Bx 600000500 b5),(6,Bx 600000600 b6),(7,Hd 600000700 e),(8,Ni i)] [(600000500,ZYd b5 tYd),(600000600,.box b6 tYd [.a (.v (.int .i64 y.now)),.a (.v (.int .i64 y.seq)),.a (.hs 94 0 [] (e2 []) 1 0 y.aNC.length),.a (.hs 95 0 [] (e3 []) 8 0 y.aNE.length)]),(600000700,.loose (qJ l) e)] 600000000 (λj=>if j=89 then qm b 146 c u else if j=94 then .loose (ki y.aNC) e2 else if j=95 then .loose (jE y.aNE) e3 else if j=86 then .none else o j)) (kM [some 600000500,some 600000600,some 600000700] (by simp only [go_sem]<;>trivial) (λj hj=>by by_cases e89:j=89<;>by_cases e94:j=94<;>by_cases e95:j=95<;>by_cases e86:j=86<;>simp only [go_sem,e89,e94,e95,e86,hj,jV hj 600000600 (by omega)]) (by decide)) ?_
 refine WkK.of ?_;simp only [go_sem];refine kr (by simp only [go_sem]) (jAT c hc y hyI u b _ e2 e3 fP (by simp only [go_sem]) (by simp only [go_sem]) (by simp only [go_sem]) (by simp only [go_sem])) λav o' ⟨ed,b4,gV,ho4,o2,hk⟩=>?_
 subst gV;have k5:=hk 600000500 (by decide) (by decide) (by decide)
 have k6:=hk 600000600 (by decide) (by decide) (by decide)
 have k7:=hk 600000700 (by decide) (by decide) (by decide)
 have kall:∀g,g<600000000->g≠86->o' g=if g=89 then qm b 146 c (qK c y u).2 else if g=94 then .loose (ki y.aNC) e2 else if g=95 then .loose (jE y.aNE) e3 else o g:=λg hg h2=>by
  by_cases h1:g=89
  ·subst h1;rw [o2];rfl
  ·rw [hk g (by omega) h2 h1,if_neg h1]
   simp only [go_sem,hg,h1,h2]
 simp only [go_sem] at k5 k6 k7;simp only [go_sem,ho4];intro b9;refine kv ?_;refine jzI 86 ?_;generalize yH:(qK c y u).1=d at*;refine WkK.wk (s':=St.ofB [(0,Bx 89 b),(1,Ni m),(5,Bx 600000500 b5),(6,Bx 600000600 b6),(7,Hd 600000700 e),(8,Ni i),(9,Bx 600000900 b9)] [(600000500,ZYd b5 tYd),(600000600,.box b6 tYd [.a (.v (.int .i64 y.now)),.a (.v (.int .i64 y.seq)),.a (.hs 94 0 [] (e2 []) 1 0 y.aNC.length),.a (.hs 95 0 [] (e3 []) 8 0 y.aNE.length)]),(600000700,.loose (qJ l) e),(600000900,DdR b9 60 d ed)] 600000000 (λj=>if j=89 then qm b 146 c (qK c y u).2 else if j=94 then .loose (ki y.aNC) e2 else if j=95 then .loose (jE y.aNE) e3 else if j=86 then .none else o j)) (kM [some 600000500,some 600000600,some 600000700,some 600000900] (by simp only [go_sem,k5,k6,k7,ho4]<;>trivial) (λj hj=>by by_cases e89:j=89<;>by_cases e94:j=94<;>by_cases e95:j=95<;>by_cases e86:j=86<;>simp only [go_sem,e89,e94,e95,e86,hj,jV hj 600000900 (by omega),jV hj 700000400 (by omega),kall]) (by decide)) ?_
 refine qA 600000900 6 600090100 (d:=js d.aNB.aNF) (η:=ed) (by simp only [go_sem]) (by simp only [go_sem]) (by decide) λhx6=>?_
 refine WkK.of ?_;have m1:l.length+1<=maxLen:=zy;have m2:(l.length+1)*104<=140737488355328:=by omega
 simp only [go_sem,hx6];intro aHF;refine jo2 (λeG=>St.ofB [(0,Bx 89 b),(1,Ni m),(5,Bx 600000500 b5),(6,Bx 600000600 b6),(7,Hd 600000700 eG),(8,Ni i),(9,Bx 600000900 b9)] [(600000500,ZYd b5 tYd),(600000600,.box b6 tYd [.a (.v (.int .i64 y.now)),.a (.v (.int .i64 y.seq)),.a (.hs 94 0 [] (e2 []) 1 0 y.aNC.length),.a (.hs 95 0 [] (e3 []) 8 0 y.aNE.length)]),(600000700,.loose (.sl 11 tDd (l.flatMap jR++ddH d (ed []))) eG),(600000900,DdRH b9 60 d (ed [])),(600090100,.loose (js d.aNB.aNF) ed)] 600000000 (λj=>if j=89 then qm b 146 c (qK c y u).2 else if j=94 then .loose (ki y.aNC) e2 else if j=95 then .loose (jE y.aNE) e3 else if j=86 then .none else o j)) m1 m2 ?_ (λeG=>(kM [some 600000500,some 600000600,some 600002300,some 600000900,some 600090100] (by simp only [go_sem]<;>trivial) (λj hj=>by by_cases e89:j=89<;>by_cases e94:j=94<;>by_cases e95:j=95<;>by_cases e86:j=86<;>simp only [go_sem,e89,e94,e95,e86,hj,jV hj 600002300 (by omega),jV hj 600000900 (by omega),jV hj 600090100 (by omega),jV hj 600000700 (by omega),jV hj 600002200 (by omega)]) (by decide))) (λeG=>(kM [some 600000500,some 600000600,some 600002300,some 600000900,some 600090100] (by simp only [go_sem]<;>trivial) (λj hj=>by by_cases e89:j=89<;>by_cases e94:j=94<;>by_cases e95:j=95<;>by_cases e86:j=86<;>simp only [go_sem,e89,e94,e95,e86,hj,jV hj 600002300 (by omega),jV hj 600000900 (by omega),jV hj 600090100 (by omega),jV hj 600000700 (by omega),jV hj 600002200 (by omega)]) (by decide))) ?_
 ·simp only [jic _ hx6,jkn];rfl
 intro eG;refine jbx 600000600 2 94 (d:=ki y.aNC) (η:=e2) rfl rfl rfl rfl (jaU _).symm rfl (Nat.zero_lt_succ 0) ?_;refine jbx 600000600 3 95 (d:=jE y.aNE) (η:=e3) rfl rfl rfl rfl (vA _).symm rfl (Nat.zero_lt_succ 7) ?_;refine qI 600000900 6 600090100 (d:=js d.aNB.aNF) (η:=ed) rfl rfl rfl ?_;generalize pZ:D.sl 11 tDd (l.flatMap jR++ddH d (ed []))=dR;refine WkK.wk (s':=St.ofB [(0,Bx 89 b),(1,Ni m),(5,Bx 600000500 b5),(6,Bx 600000600 b6),(7,Hd 600000700 eG),(8,Ni i),(9,Bx 600000900 b9)] [(600000500,ZYd b5 tYd),(600000600,kb b6 tYd y.now y.seq y.aNC e2 y.aNE e3),(600000700,.loose dR eG),(600000900,DdR b9 60 d ed)] 600000000 (λj=>if j=89 then qm b 146 c (qK c y u).2 else if j=94 then .none else if j=95 then .none else if j=86 then .none else o j)) (kM [some 600000500,some 600000600,some 600000700,some 600000900] (by simp only [go_sem]<;>trivial) (λj hj=>by by_cases e89:j=89<;>by_cases e94:j=94<;>by_cases e95:j=95<;>by_cases e86:j=86<;>simp only [go_sem,e89,e94,e95,e86,hj,jV hj 600000600 (by omega),jV hj 600000900 (by omega),jV hj 600090100 (by omega)]) (by decide)) ?_
 refine WkK.of ?_;simp only [go_sem];refine jm (jpS y d (by omega) (by simp only [jbq,jc4];omega)) λu9=>?_
 simp only [go_sem,jc,jcY];generalize hy':doY y d=y' at*;refine kv ?_;subst pZ;refine WkK.wk (s':=St.ofB [(0,Bx 89 b),(1,Ni m),(5,Bx 600000500 b5),(6,Bx 600000600 b6),(7,Hd 600000700 eG),(8,Ni i)] [(600000500,ZYd b5 tYd),(600000600,kb b6 tYd y'.now y'.seq y'.aNC (u9 2) y'.aNE (u9 3)),(600000700,.loose (.sl 11 tDd (l.flatMap jR++ddH d (ed []))) eG),(600000900,DdR b9 60 d ed)] 600000000 (λj=>if j=89 then qm b 146 c (qK c y u).2 else if j=94 then .none else if j=95 then .none else if j=86 then .none else o j)) (kM [some 600000500,some 600000600,some 600000700,some 600000900] (by simp only [go_sem]<;>trivial) (λj hj=>by by_cases e89:j=89<;>by_cases e94:j=94<;>by_cases e95:j=95<;>by_cases e86:j=86<;>simp only [go_sem,e89,e94,e95,e86,hj,jV hj 600000600 (by omega),jV hj 600002702 (by omega),jV hj 600002703 (by omega)]) (by decide)) ?_
 refine qA 600000900 6 600090100 (d:=js d.aNB.aNF) (η:=ed) (by simp only [go_sem]) (by simp only [go_sem]) (by decide) λ_=>?_
 refine qi 600000700 0 (l.length*11+6) 600090100 (η:=eG) (aS:=ed) (cs:=d.aNB.aNF.flatMap jK) rfl (jG2 _ _ 6) (.inr rfl) rfl (by decide) λdA hηA=>?_
 rw [jEr];refine WkK.of ?_;have fR:D.sl 11 tDd (l.flatMap jR++(ddH d (ed [])).set 6 (.sl 2 tEd (d.aNB.aNF.flatMap jK)))=qJ (l++[d]):=jyP l d;have hw:=kx i;simp only [go_sem,hw];exact ⟨((i+1,(l++[d],y',(qK c y u).2)),dA,u9 2,u9 3),⟨by dsimp only;omega,hDn,by rw [show m-(i+1)=f by omega];exact wD⟩,(kM [some 600000500,some 600000600,some 600000700] (by simp only [go_sem,hηA]<;>trivial) (λj hj=>by by_cases e89:j=89<;>by_cases e94:j=94<;>by_cases e95:j=95<;>by_cases e86:j=86<;>simp only [go_sem,e89,e94,e95,e86,hj,jV hj 600000700 (by omega),jV hj 600000900 (by omega),jV hj 600090100 (by omega)]) (by decide)),by (try dsimp only);omega⟩
def jEJ (h:Int) (u:UInt8):Int:=jui (IntKind.i64.wrap (IntKind.i64.wrap (IntKind.i64.wrap (h*131)+(u.toNat:Int))+7)) 1073741823
theorem jGl (c:List UInt8):jHo c=(c.take 4000).foldl jEJ (94701+(c.length:Int)):=rfl
theorem jyo {α β:Type} {f:β->α->β} {l:List α} {k:Nat} {x:α} (h:l[k]?=some x) (a:β):(l.take (k+1)).foldl f a=f ((l.take k).foldl f a) x:=by
 rw [aOA,h,List.foldl_append];rfl
theorem jse (c:List UInt8) (hc:c.length<=1048576) (o:Nat->Ob):Inl Tryz.prog 58 [.c (.ro (ja9 c))] o λav o2=>∃b,av=Bx 800003100 b/\o2 800003100=qm b 146 c (jhP c)/\∀g,g<800000000->o2 g=o g:=by
 refine qo (β:=8000000) Tryz.func58 jjI (by simp) ?_
 unfold jhi;have hw:IntKind.i64.wrap (94701+(c.length:Int))=94701+(c.length:Int):=vF;simp only [go_sem,jaV,hw];refine kg (λi:Nat=>St.ofB [(0,.c (.ro (ja9 c))),(3,Ni ((c.take i).foldl jEJ (94701+(c.length:Int)))),(4,Ni i)] [] 800000000 (λj=>o j)) (λi=>i<=c.length/\i<=4000) (λi=>c.length-i) 0 (⟨aOL _,aOL _⟩) (kM [] (by simp only [go_sem,aOW,List.foldl_nil]<;>trivial) (λj hj=>by simp only [go_sem]) (by decide)) ?_
 rintro k ⟨hk,hk4⟩;by_cases aB:k<c.length;rotate_left
 ·have aA:¬(k:Int)<(c.length:Int):=by omega
  have hf:(c.take k).foldl jEJ (94701+(c.length:Int))=jHo c:=by
   rw [jGl,aNU (by omega),aNU (by omega)]
  rw [hf];simp only [go_sem,jaV,aA]
  exact λb=>⟨b,rfl,rfl,λg hg=>by
   have cU:¬g=800003100:=by omega
   simp only [cU,hg,if_true,if_false]⟩
 have aA:(k:Int)<(c.length:Int):=by omega
 have bJ:=qX k;by_cases hl4:k<4000;rotate_left
 ·have uF:¬(k:Int)<4000:=by omega
  have hf:(c.take k).foldl jEJ (94701+(c.length:Int))=jHo c:=by
   rw [show k=4000 by omega,jGl]
  rw [hf];simp only [go_sem,jaV,aA,uF]
  exact λb=>⟨b,rfl,rfl,λg hg=>by
   have cU:¬g=800003100:=by omega
   simp only [cU,hg,if_true,if_false]⟩
 have uF:(k:Int)<4000:=by omega
 obtain ⟨u,hu⟩:=ja aB;have aH:=jyo (f:=jEJ) hu (94701+(c.length:Int));have gK:=kx k;simp only [go_sem,jaV,aA,uF,aB,bJ,jni hu,jyT];exact qf (k+1) (kM [] (by simp only [go_sem,gK,aH,jEJ]<;>trivial) (λj hj=>by simp only [go_sem,hj,gK]) (by decide))
def je0:C:=iS [iA 2 wAM] (iS [aM 6 0,aM 7 0,iA 8 (.call 60 [.t 7,oI 26]),iA 9 (iK 89 [6,8]),aM 5 9,aE 10 5 0,aE 11 5 1,iA 4 wAM,aM 3 10,wAA 4 11] (iS [aT 12 4 4,wAA 2 12] .ret))
theorem jim:fnC Tryz.prog Tryz.f57=some (je0,[.cell 2 true 4],13):=by kernel_rfl
theorem jAR (c:List UInt8) (hc:c.length<=1048576) (s:Cu) (b:Nat) (o:Nat->Ob) (hs:s.1<=c.length) (ho:o 89=qm b 146 c s) (pE:o 86=.none) (tJ:o 94=.none) (mW:o 95=.none):
 Inl Tryz.prog 57 [Bx 89 b] o λav o2=>∃(e2 e3:jf) (b2:Nat),av=.agg [.v (.int .i64 (jlo c s).1.now),.v (.int .i64 (jlo c s).1.seq),.h 500000200 2 [] (e2 []),.h 500000200 3 [] (e3 [])]/\
  o2 500000200=kb b2 tYd (jlo c s).1.now (jlo c s).1.seq (jlo c s).1.aNC e2 (jlo c s).1.aNE e3/\∀g,g<500000000->g≠89->o2 g=o g:=by
 refine qo (β:=5000000) Tryz.func57 jim (by simp) ?_
 unfold je0;simp only [go_sem];intro b2;refine jv (kp c hc 26 s b _ hs (by simp only [go_sem,ho])) (by simp only [go_sem]) ?_
 have s1:=jj (n:=26) hs;have x1:=jO c (n:=26) s (by omega)
 have hY:jlo c s=(vP c (jh c 26 s).1.toNat ([],newYd,(jh c 26 s).2)).2:=rfl;generalize gC:jh c 26 s=q1 at*;obtain ⟨m,hm⟩:∃m:Nat,q1.1=(m:Int):=⟨q1.1.toNat,by omega⟩
 rw [show q1.1.toNat=m by omega] at hY
 simp only [go_sem,hm];refine kr (by simp only [go_sem]) (jqp c hc m (by omega) q1.2 b _ s1 (by simp only [go_sem]) (by simp only [go_sem,pE]) (by simp only [go_sem,tJ]) (by simp only [go_sem,mW])) λav o' ⟨e,e2,e3,b5,gV,hl,hy,o2,hk⟩=>?_
 subst gV;have k2:=hk 500000200 (by decide) (by decide)
 simp only [go_sem] at k2;generalize hX:vP c m ([],newYd,q1.2)=X at*;simp only [go_sem,k2,hy];refine λb1=>⟨e2,e3,b2,by rw [hY],by rw [hY],λg g1 g2=>?_⟩
 simp only [jV g1 500000200 (by omega),jV g1 500000400 (by omega),jV g1 600000500 (by omega),if_false]
 rw [hk g (by omega) g2]
 simp only [go_sem,g2,jV g1 500000200 (by omega)]
def jdN:C:=iS [iA 2 wAM] (iS [aM 3 0,iA 4 (iK 58 [3]),iA 5 (iK 57 [4]),wAA 2 5] .ret)
theorem jgT:fnC Tryz.prog Tryz.f12=some (jdN,[.cell 2 true 4],6):=by kernel_rfl
theorem jkZ (c:List UInt8) (hc:c.length<=1048576):jW Tryz.prog 12 [.c (ja9 c)] (.agg (jc (jlo c (jhP c)).1)):=by
 refine pf_ jgT ?_;unfold jdN;simp only [go_sem];intro b2;have fS:(ja9 c).toRo=.ro (ja9 c):=rfl;rw [fS];refine kr (by simp only [go_sem]) (jse c hc _) λav o' ⟨b,gV,ho,hk⟩=>?_
 subst gV;have k2:=hk 200 (by decide)
 simp only [go_sem] at k2;refine jaM [some 800003100,some 200] [(89,qm b 146 c (jhP c)),(200,ZYd b2 tYd)] [Bx 89 b] (by simp only [go_sem]<;>and_intros<;>rfl) (by simp only [go_sem]<;>and_intros<;>first|rfl|(rw [ho];exact of_eq_true (jM _))|(rw [k2];exact of_eq_true (jM _))) (jAR c hc (jhP c) b _ (aOL _) rfl rfl rfl rfl) ?_
 rintro av o2 ⟨e2,e3,b3,gV,sQ,pW⟩;subst gV;have q2:=pW 200 (by decide) (by decide)
 simp only [go_sem] at q2;generalize (jlo c (jhP c)).1=y at*;simp only [go_sem,q2,sQ,jc]
def jno:C:=iS [aO 2 false] (iS [aM 3 0,aG 4 3,aQ 5 .gtr 3 4 1048576,aM 2 5] .ret)
theorem joR:fnC Tryz.prog Tryz.f11=some (jno,[.t 2],6):=by kernel_rfl
theorem p_big (c:List UInt8):jW Tryz.prog 11 [.c (ja9 c)] (.c (.val (.bool (decide ((1048576:Int)<(c.length:Int)))))):=by
 refine pf_ joR ?_;unfold jno;have fS:(ja9 c).toRo=.ro (ja9 c):=rfl;simp only [go_sem,fS,jaV]
def jbk:C:=iS [aO 4 false] (.seq (iS [aM 6 0,aG 7 6,aM 8 1,aG 9 8,aP 10 .neq 3 7 9] (iD 10 (iS [aO 4 false] .ret) .skip)) (.seq (iS [aN 5 0] (.blk 0 (.loop (.seq (iS [aM 11 5,aM 12 0,aG 13 12,aP 14 .lss 3 11 13] (iD 14 .skip (.exit 0))) (.seq (.blk 1 (.seq (.dreg (tA 0 17 (iM 0) (tA 1 18 (iM 5) (tA 2 19 (iI 4 17 18) (tA 3 20 (iT 4 19) (tA 4 21 (iM 1) (tA 5 22 (iM 5) (tA 6 23 (iI 4 21 22) (tA 7 24 (iT 4 23) (tA 8 25 (iP .neq 44 20 24) .done)))))))))) (iD 25 (iS [aO 4 false] .ret) .skip))) (.reg [aM 15 5,aQ 16 .add 3 15 1,aM 5 16])))))) (iS [aO 4 true] .ret)))
theorem jdB:fnC Tryz.prog Tryz.f136=some (jbk,[.t 4],26):=by kernel_rfl
theorem jxw (xs:List En) (hl:xs.length<=2000000):jW Tryz.prog 136 [.c (jg xs),.c (jg xs)] (.c (.val (.bool true))):=by
 refine pf_ jdB ?_;unfold jbk;simp only [go_sem,jpC,jep,aQP];refine kg (λi:Nat=>St.of [(0,.c (.ro (jg xs))),(1,.c (.ro (jg xs))),(5,Ni i)] []) (λi=>i<=xs.length) (λi=>xs.length-i) 0 ((aOL _)) (ze [] (by simp only [go_sem]<;>trivial)) ?_
 rintro k hk;by_cases aB:k<xs.length;rotate_left
 ·have aA:¬(k:Int)<(xs.length:Int):=by omega
  simp only [go_sem,aA,jep]
 have aA:(k:Int)<(xs.length:Int):=by omega
 obtain ⟨x,hx⟩:=ja aB;have hw:=kx k;simp only [go_sem,aA,aB,jZ hx,jep,jk,hw];exact qf (k+1) (ze [] (by simp only [go_sem]<;>trivial))
def jcP:C:=iS [aO 4 false] (.seq (iS [aM 6 0,aG 7 6,aM 8 1,aG 9 8,aP 10 .neq 3 7 9] (iD 10 (iS [aO 4 false] .ret) .skip)) (.seq (iS [aN 5 0] (.blk 0 (.loop (.seq (iS [aM 11 5,aM 12 0,aG 13 12,aP 14 .lss 3 11 13] (iD 14 .skip (.exit 0))) (.seq (.blk 1 (.seq (.dreg (tA 0 17 (iM 0) (tA 1 18 (iM 5) (tA 2 19 (iI 2 17 18) (tA 3 20 (iT 2 19) (tA 4 21 (iM 1) (tA 5 22 (iM 5) (tA 6 23 (iI 2 21 22) (tA 7 24 (iT 2 23) (tA 8 25 (iP .neq 161 20 24) .done)))))))))) (iD 25 (iS [aO 4 false] .ret) .skip))) (.reg [aM 15 5,aQ 16 .add 3 15 1,aM 5 16])))))) (iS [aO 4 true] .ret)))
theorem jfX:fnC Tryz.prog Tryz.f198=some (jcP,[.t 4],26):=by kernel_rfl
theorem jpV (xs:List Ed) (hl:xs.length<=2000000):jW Tryz.prog 198 [.c (js xs),.c (js xs)] (.c (.val (.bool true))):=by
 refine pf_ jfX ?_;unfold jcP;have fS:(js xs).toRo=.ro (js xs):=rfl;simp only [go_sem,fS,jeq,aQP];refine kg (λi:Nat=>St.of [(0,.c (.ro (js xs))),(1,.c (.ro (js xs))),(5,Ni i)] []) (λi=>i<=xs.length) (λi=>xs.length-i) 0 ((aOL _)) (ze [] (by simp only [go_sem]<;>trivial)) ?_
 rintro k hk;by_cases aB:k<xs.length;rotate_left
 ·have aA:¬(k:Int)<(xs.length:Int):=by omega
  simp only [go_sem,aA,jeq]
 have aA:(k:Int)<(xs.length:Int):=by omega
 obtain ⟨x,hx⟩:=ja aB;have hw:=kx k;simp only [go_sem,aA,aB,jD hx,jeq,jK,hw];exact qf (k+1) (ze [] (by simp only [go_sem]<;>trivial))
def jcN:C:=iS [aO 4 false] (.seq (iS [aM 6 0,aG 7 6,aM 8 1,aG 9 8,aP 10 .neq 3 7 9] (iD 10 (iS [aO 4 false] .ret) .skip)) (.seq (iS [aN 5 0] (.blk 0 (.loop (.seq (iS [aM 11 5,aM 12 0,aG 13 12,aP 14 .lss 3 11 13] (iD 14 .skip (.exit 0))) (.seq (.blk 1 (.seq (.dreg (tA 0 17 (iM 0) (tA 1 18 (iM 5) (tA 2 19 (iI 4 17 18) (tA 3 20 (iT 4 19) (tA 4 21 (iM 1) (tA 5 22 (iM 5) (tA 6 23 (iI 4 21 22) (tA 7 24 (iT 4 23) (tA 8 25 (iP .neq 46 20 24) .done)))))))))) (iD 25 (iS [aO 4 false] .ret) .skip))) (.reg [aM 15 5,aQ 16 .add 3 15 1,aM 5 16])))))) (iS [aO 4 true] .ret)))
theorem jfV:fnC Tryz.prog Tryz.f182=some (jcN,[.t 4],26):=by kernel_rfl
theorem jpT (xs:List Tk) (hl:xs.length<=2000000):jW Tryz.prog 182 [.c (jx xs),.c (jx xs)] (.c (.val (.bool true))):=by
 refine pf_ jfV ?_;unfold jcN;have fS:(jx xs).toRo=.ro (jx xs):=rfl;simp only [go_sem,fS,jeo,aQP];refine kg (λi:Nat=>St.of [(0,.c (.ro (jx xs))),(1,.c (.ro (jx xs))),(5,Ni i)] []) (λi=>i<=xs.length) (λi=>xs.length-i) 0 ((aOL _)) (ze [] (by simp only [go_sem]<;>trivial)) ?_
 rintro k hk;by_cases aB:k<xs.length;rotate_left
 ·have aA:¬(k:Int)<(xs.length:Int):=by omega
  simp only [go_sem,aA,jeo]
 have aA:(k:Int)<(xs.length:Int):=by omega
 obtain ⟨x,hx⟩:=ja aB;have hw:=kx k;simp only [go_sem,aA,aB,jP hx,jeo,jH,hw];exact qf (k+1) (ze [] (by simp only [go_sem]<;>trivial))
def jdS:C:=iS [iA 2 (.box 49 5 (.t 0)),iA 3 (.box 49 5 (.t 1)),aO 4 false] (iS [aF 5 0 2,aL 6 5,aF 7 0 3,aL 8 7,aP 9 .eql 3 6 8,aM 10 9,iB 11 10 true (iF 1 2),iB 12 10 true (iL 11),iB 13 10 true (iF 1 3),iB 14 10 true (iL 13),iB 15 10 true (iP .eql 3 12 14),iA 16 (iY 10 (.t 15) (oF)),aM 17 16,iB 18 17 true (iF 2 2),iB 19 17 true (iL 18),iB 20 17 true (iF 2 3),iB 21 17 true (iL 20),iB 22 17 true (iP .eql 3 19 21),iA 23 (iY 17 (.t 22) (oF)),aM 24 23,iB 25 24 true (iF 3 2),iB 26 24 true (iL 25),iB 27 24 true (iF 3 3),iB 28 24 true (iL 27),iB 29 24 true (iP .eql 3 26 28),iA 30 (iY 24 (.t 29) (oF)),aM 31 30,iB 32 31 true (iF 4 2),iB 33 31 true (iL 32),iB 34 31 true (iF 4 3),iB 35 31 true (iL 34),iB 36 31 true (iK 198 [33,35]),iA 37 (iY 31 (.t 36) (oF)),aM 4 37] .ret)
theorem jgY:fnC Tryz.prog Tryz.f181=some (jdS,[.t 4],38):=by kernel_rfl
theorem jrR (p:Pl) (hl:p.aNF.length<=2000000):jW Tryz.prog 181 [.agg (jd p),.agg (jd p)] (.c (.val (.bool true))):=by
 refine pf_ jgY ?_;unfold jdS;simp only [go_sem,jd,aQC];intro b2 b3;refine jm (jpV p.aNF hl) λfB=>?_
 simp only [go_sem]
def jfo:C:=iS [iA 2 (.box 52 8 (.t 0)),iA 3 (.box 52 8 (.t 1)),aO 4 false] (iS [aF 5 0 2,aL 6 5,aF 7 0 3,aL 8 7,aP 9 .eql 3 6 8,aM 10 9,iB 11 10 true (iF 1 2),iB 12 10 true (iT 5 11),iB 13 10 true (iF 1 3),iB 14 10 true (iT 5 13),iB 15 10 true (iK 181 [12,14]),iA 16 (iY 10 (.t 15) (oF)),aM 17 16,iB 18 17 true (iF 6 2),iB 19 17 true (iL 18),iB 20 17 true (iF 6 3),iB 21 17 true (iL 20),iB 22 17 true (iP .eql 3 19 21),iA 23 (iY 17 (.t 22) (oF)),aM 24 23,iB 25 24 true (iF 7 2),iB 26 24 true (iL 25),iB 27 24 true (iF 7 3),iB 28 24 true (iL 27),iB 29 24 true (iK 182 [26,28]),iA 30 (iY 24 (.t 29) (oF)),aM 4 30] .ret)
theorem jiK:fnC Tryz.prog Tryz.f137=some (jfo,[.t 4],31):=by kernel_rfl
theorem juV (r:Rn) (he:r.aNB.aNF.length<=2000000) (ht:r.aNA.length<=2000000):jW Tryz.prog 137 [.agg (je r),.agg (je r)] (.c (.val (.bool true))):=by
 refine pf_ jiK ?_;unfold jfo;simp only [go_sem,je,jd,aQC];intro b2 b3;refine jm (jrR r.aNB he) λfB=>?_
 simp only [go_sem];simp only [go_sem,aQC];refine jm (jpT r.aNA ht) λeH=>?_
 simp only [go_sem]
def jdR:C:=iS [aO 4 false] (.seq (iS [aM 6 0,aG 7 6,aM 8 1,aG 9 8,aP 10 .neq 3 7 9] (iD 10 (iS [aO 4 false] .ret) .skip)) (.seq (iS [aN 5 0] (.blk 0 (.loop (.seq (iS [aM 11 5,aM 12 0,aG 13 12,aP 14 .lss 3 11 13] (iD 14 .skip (.exit 0))) (.seq (.blk 1 (.seq (.dreg (tA 0 17 (iM 0) (tA 1 18 (iM 5) (tA 2 19 (iI 8 17 18) (tA 3 20 (iT 8 19) (tA 4 21 (iM 1) (tA 5 22 (iM 5) (tA 6 23 (iI 8 21 22) (tA 7 24 (iT 8 23) (tC 25 (iK 137 [20,24]) [] (tA 9 26 (iU 25) .done) .stop)))))))))) (iD 26 (iS [aO 4 false] .ret) .skip))) (.reg [aM 15 5,aQ 16 .add 3 15 1,aM 5 16])))))) (iS [aO 4 true] .ret)))
theorem jgX:fnC Tryz.prog Tryz.f77=some (jdR,[.t 4],27):=by kernel_rfl
theorem jrQ (xs:List Rn) (ht:zn xs<=2000000):jW Tryz.prog 77 [.c (jE xs),.c (jE xs)] (.c (.val (.bool true))):=by
 refine pf_ jgX ?_;unfold jdR;have eQ:xs.length<=2000000:=aPC (aQR _ _) ht;have fS:(jE xs).toRo=.ro (jE xs):=rfl;simp only [go_sem,fS,vA,aQP];refine kg (λi:Nat=>St.of [(0,.c (.ro (jE xs))),(1,.c (.ro (jE xs))),(5,Ni i)] []) (λi=>i<=xs.length) (λi=>xs.length-i) 0 ((aOL _)) (ze [] (by simp only [go_sem]<;>trivial)) ?_
 rintro k hk;by_cases aB:k<xs.length;rotate_left
 ·have aA:¬(k:Int)<(xs.length:Int):=by omega
  simp only [go_sem,aA,vA]
 have aA:(k:Int)<(xs.length:Int):=by omega
 obtain ⟨x,hx⟩:=ja aB;have hw:=kx k
 have cG:kz x<=2000000:=by
  have h1:=vd (tot:=kz) hx;have h2:=zm kz xs (k+1);simp only [zn] at ht;omega
 simp only [go_sem,aA,aB,jT hx,vA,je,jd];refine jm (juV x (by simp only [kz,jc4] at cG;omega) (by simp only [kz,jc4] at cG;omega)) λfB=>?_
 simp only [go_sem];simp only [go_sem,hw];exact qf (k+1) (ze [] (by simp only [go_sem]<;>trivial))
def jcO:C:=iS [aO 4 false] (.seq (iS [aM 6 0,aG 7 6,aM 8 1,aG 9 8,aP 10 .neq 3 7 9] (iD 10 (iS [aO 4 false] .ret) .skip)) (.seq (iS [aN 5 0] (.blk 0 (.loop (.seq (iS [aM 11 5,aM 12 0,aG 13 12,aP 14 .lss 3 11 13] (iD 14 .skip (.exit 0))) (.seq (.blk 1 (.seq (.dreg (tA 0 17 (iM 0) (tA 1 18 (iM 5) (tA 2 19 (iI 1 17 18) (tA 3 20 (iL 19) (tA 4 21 (iM 1) (tA 5 22 (iM 5) (tA 6 23 (iI 1 21 22) (tA 7 24 (iL 23) (tC 25 (iK 136 [20,24]) [] (tA 9 26 (iU 25) .done) .stop)))))))))) (iD 26 (iS [aO 4 false] .ret) .skip))) (.reg [aM 15 5,aQ 16 .add 3 15 1,aM 5 16])))))) (iS [aO 4 true] .ret)))
theorem jfW:fnC Tryz.prog Tryz.f76=some (jcO,[.t 4],27):=by kernel_rfl
theorem jpU (xs:List (List En)) (ht:jbp xs<=2000000):jW Tryz.prog 76 [.c (ki xs),.c (ki xs)] (.c (.val (.bool true))):=by
 refine pf_ jfW ?_;unfold jcO;have eQ:xs.length<=2000000:=aPC (aQR _ _) ht;have fS:(ki xs).toRo=.ro (ki xs):=rfl;simp only [go_sem,fS,jaU,aQP];refine kg (λi:Nat=>St.of [(0,.c (.ro (ki xs))),(1,.c (.ro (ki xs))),(5,Ni i)] []) (λi=>i<=xs.length) (λi=>xs.length-i) 0 ((aOL _)) (ze [] (by simp only [go_sem]<;>trivial)) ?_
 rintro k hk;by_cases aB:k<xs.length;rotate_left
 ·have aA:¬(k:Int)<(xs.length:Int):=by omega
  simp only [go_sem,aA,jaU]
 have aA:(k:Int)<(xs.length:Int):=by omega
 obtain ⟨x,hx⟩:=ja aB;have hw:=kx k
 have cG:vh x<=2000000:=by
  have h1:=vd (tot:=vh) hx;have h2:=zm vh xs (k+1);simp only [jbp] at ht;omega
 simp only [go_sem,aA,aB,qg hx,jaU];refine jm (jxw x (by simp only [vh] at cG;omega)) λfB=>?_
 simp only [go_sem];simp only [go_sem,hw];exact qf (k+1) (ze [] (by simp only [go_sem]<;>trivial))
def jdQ:C:=iS [iA 2 (.box 27 4 (.t 0)),iA 3 (.box 27 4 (.t 1)),aO 4 false] (iS [aF 5 0 2,aL 6 5,aF 7 0 3,aL 8 7,aP 9 .eql 3 6 8,aM 10 9,iB 11 10 true (iF 1 2),iB 12 10 true (iL 11),iB 13 10 true (iF 1 3),iB 14 10 true (iL 13),iB 15 10 true (iP .eql 3 12 14),iA 16 (iY 10 (.t 15) (oF)),aM 17 16,iB 18 17 true (iF 2 2),iB 19 17 true (iL 18),iB 20 17 true (iF 2 3),iB 21 17 true (iL 20),iB 22 17 true (iK 76 [19,21]),iA 23 (iY 17 (.t 22) (oF)),aM 24 23,iB 25 24 true (iF 3 2),iB 26 24 true (iL 25),iB 27 24 true (iF 3 3),iB 28 24 true (iL 27),iB 29 24 true (iK 77 [26,28]),iA 30 (iY 24 (.t 29) (oF)),aM 4 30] .ret)
theorem jgW:fnC Tryz.prog Tryz.f17=some (jdQ,[.t 4],31):=by kernel_rfl
theorem jfJ (y:Yd) (ht:jn y<=2000000):jW Tryz.prog 17 [.agg (jc y),.agg (jc y)] (.c (.val (.bool true))):=by
 refine pf_ jgW ?_;unfold jdQ;simp only [go_sem,jc,aQC];intro b2 b3;refine jm (jpU y.aNC (by simp only [jn] at ht;omega)) λfB=>?_
 simp only [go_sem];refine jm (jrQ y.aNE (by simp only [jn] at ht;omega)) λeH=>?_
 simp only [go_sem]
theorem jzD {t:ByteArray} {y:Yd} (h:jl1 t y):jb6 t=(y,true):=by rw [<-jpH];exact yd_I h
def prioI (y:Yd):Prop:=∀e∈y.aNC.flatten,0<=e.aNI/\e.aNI<=9
theorem jgI {sh:List (List En)} {k:Nat} {l:List En} {e:En} (h:e∈(sh.set k l).flatten):e∈sh.flatten\/e∈l:=by
 obtain ⟨m,hm,he⟩:=aQS.1 h;rcases List.mem_or_eq_of_mem_set hm with hm|rfl
 ·exact .inl (aQS.2 ⟨m,hm,he⟩)
 ·exact .inr he
theorem jik {sh:List (List En)} {k:Nat} {e:En} (h:e∈(sh[k]?).getD []):e∈sh.flatten:=by
 cases hl:sh[k]? with
 |none=>rw [hl] at h;simp at h
 |some l=>rw [hl,aNZ] at h;exact aQS.2 ⟨l,aNQ hl,h⟩
theorem jxW {y:Yd} {r:Rn} {ids:List Int} {e:En} (h:e∈(jtA y r ids).aNC.flatten):e∈y.aNC.flatten\/e.aNI=r.aNB.aNI:=by
 rcases jgI h with h|h
 ·exact .inl h
 ·have h2:=(jgx r.aNB.aNI r.id ids ((y.aNC[shN r.id]?).getD default) y.seq).mem_iff.1 h
  rcases aNT.1 h2 with h2|h2
  ·exact .inr (jci h2).1
  ·exact .inl (jik h2)
theorem prioI.turn {y:Yd} (h:prioI y) {k:Nat} {r:Rn} (hr:0<=r.aNB.aNI/\r.aNB.aNI<=9):prioI (kN y k r):=λe he=>by
 rcases jxW he with he|he
 ·exact h e he
 ·rw [he];exact hr
theorem jrI {y:Yd} (hI:YdI y) {k:Nat} {r:Rn} (hr:y.aNE[k]?=some r):0<=r.aNB.aNI/\r.aNB.aNI<=9:=by
 obtain ⟨n,_,_,_,_,_,_,hp,_,_⟩:=jbJ (hI.rns.right r (aNQ hr)).aNB;exact hp
theorem jpy (r:Rn) (t:Int):(qa r t).aNB=r.aNB:=by unfold qa;split<;>rfl
theorem prioI.failK {y:Yd} (hI:YdI y) (h:prioI y) (k t:Nat):prioI (failK y k t):=by
 unfold Go.Proofs.YtcehjhiglmifjaaGreat.failK;split
 ·rename_i hs
  cases hk:y.aNE[k]? with
  |none=>rw [hk] at hs;simp [stT] at hs;cases hs
  |some r=>
   rw [aNZ];exact h.turn (by rw [(jaN r t).2];exact jrI hI hk)
 ·exact h
theorem prioI.restT {z:Yd} (hI:YdI z) (h:prioI z) (k:Nat):∀t,prioI (restT z k t)
 |0=>h
 |t+1=>(prioI.restT hI h k t).failK (hI.restT k t) k t
theorem prioI.restR {y:Yd} (hI:YdI y) (h:prioI y):∀k,prioI (restR y k)
 |0=>h
 |k+1=>(prioI.restR hI h k).restT (hI.restR k) k _
theorem prioI.swept {y:Yd} (h:prioI y) (k:Int):prioI (za y k):=by
 unfold za;split
 ·intro e he
  rcases jgI he with he|he
  ·exact h e he
  ·exact h e (jik (aPM.1 he).1)
 ·exact h
theorem prioI.pollV {z:Yd} (h:prioI z) (hm v:Nat):prioI (pollV z hm v):=by
 have hs:=h.swept v;intro e he;rcases jgI he with he|he
 ·rcases jgI he with he|he
  ·exact hs e he
  ·exact hs e (jik (aQT he))
 ·have:e∈((za z v).aNC[hm]?).getD []\/e∈vu (((za z v).aNC[v]?).getD []):=by
   unfold qc at he;split at he
   ·exact .inl he
   ·exact jnY he
  rcases this with g|g
  ·exact hs e (jik g)
  ·exact hs e (jik (aQM g))
theorem prioI.pollF (hm:Nat):∀(vs:List Int) {z:Yd},prioI z->prioI (pollF hm vs z)
 |[],z,h=>h
 |v::vs,z,h=>by
  unfold Go.Proofs.YtcehjhiglmifjaaGreat.pollF;split
  ·exact prioI.pollF hm vs (h.pollV hm _)
  ·exact h
theorem prioI.poll {y:Yd} (h:prioI y) (w d:Int):prioI (zp y w d):=by
 unfold zp;split
 ·exact h
 ·have hZ:prioI (pollZ y (w.tmod 4).toNat d):=prioI.pollF _ _ (h.swept _)
  split
  ·exact hZ
  ·rename_i e l he
   intro x hx;rcases jgI hx with hx|hx
   ·exact hZ x hx
   ·refine hZ x (jik (k:=(w.tmod 4).toNat) ?_)
    rw [jh4] at he;rw [he];exact List.mem_cons_of_mem _ hx
theorem prioI.stepF {y:Yd} (hI:YdI y) (h:prioI y):∀i,i<=(kq y).length->prioI (tickI y i)
 |0,_=>h
 |i+1,hi=>by
  obtain ⟨l,hl⟩:=ja (show i<(kq y).length by omega)
  rw [jc7 hl,jnJ];exact (prioI.stepF hI h i (by omega)).failK (hI.tickI i (by omega)).1 _ _
theorem prioI.do {y:Yd} (hI:YdI y) (h:prioI y) (d:Dd):prioI (doY y d):=by
 unfold doY;split
 ·exact h
 split
 ·unfold jee
  split
  ·rename_i hc
   have hp:jo d.aNB=0:=by
    refine aPQ λhp=>?_
    unfold jc8 at hc
    repeat' split at hc
    all_goals first|(cases hc;done)|exact hp hc|contradiction|omega
   obtain ⟨n,_,_,_,_,_,_,xI,_,_⟩:=jbJ hp;intro e he;rcases jxW he with he|he
   ·exact h e he
   ·rw [he];exact xI
  ·exact h
 split
 ·exact h.poll _ _
 split
 ·unfold jbV
  split
  ·rename_i hc
   obtain ⟨_,aK⟩:=jka hc;obtain ⟨k,r,bZ,hr,_,_⟩:=kP aK;rw [bZ,aNW,hr,aNZ];exact h.turn (by rw [jpy];exact jrI hI hr)
  ·exact h
 split
 ·unfold jbR
  split
  ·rename_i hc
   obtain ⟨_,aK⟩:=jka hc;obtain ⟨k,r,bZ,hr,_,_⟩:=kP aK;rw [bZ,aNW,hr,aNZ];exact h.turn (by rw [(jaN r _).2];exact jrI hI hr)
  ·exact h
 split
 ·unfold ja4
  split
  ·exact prioI.stepF hI h _ (aOC _)
  ·exact h
 split
 ·unfold kF
  split
  ·exact h
  ·exact h
 split
 ·unfold jah
  split
  ·intro e he
   obtain ⟨l,hl,he⟩:=aQS.1 he;obtain ⟨m,hm,rfl⟩:=aPS.1 hl;exact h e (aQS.2 ⟨m,hm,(aPM.1 he).1⟩)
  ·exact h
 ·unfold jbG
  split
  ·exact h.restR hI _
  ·exact h
theorem jls (c:List UInt8):∀(n:Nat) {x:List Dd×Yd×Cu},YdI x.2.1->prioI x.2.1->prioI (vP c n x).2.1
 |0,x,_,h=>h
 |n+1,x,hI,h=>jls c n (hI.do _) (h.do hI _)
theorem jCA {y:Yd} (h:YdI y) (hP:prioI y) (hq:y.seq<=1000000000):∀n∈jb7 y,jfK n:=by
 have hR:∀r∈y.aNE,∀n∈rnI r,jfK n:=λr hr n hn=>by
  have hO:=h.rns.right r hr;have hid:=aOY hO.id;obtain ⟨m,hm,dI,cF,dH,bU,_,hp,pV,hw⟩:=jbJ hO.aNB;have aH:=hO.aND;simp only [rnI,aNT,aOK,plI,aQQ,List.not_mem_nil,or_false] at hn;rcases hn with (rfl|(rfl|rfl|rfl|rfl|rfl)|⟨e,he,hn⟩)|rfl|⟨t,ht,hn⟩
  ·exact ⟨by omega,by omega⟩
  ·exact ⟨by omega,by omega⟩
  ·exact ⟨by omega,by omega⟩
  ·exact ⟨by omega,by omega⟩
  ·exact ⟨by omega,by omega⟩
  ·exact ⟨by omega,by omega⟩
  ·have cC:=bU e he
   simp only [okE] at cC;simp only [edI,aOK,List.not_mem_nil,or_false] at hn;rcases hn with rfl|rfl
   ·exact ⟨by omega,by omega⟩
   ·exact ⟨by omega,by omega⟩
  ·rw [aH];unfold jgf
   repeat' split
   all_goals exact ⟨by omega,by omega⟩
  ·obtain ⟨k,hk⟩:=aPJ ht
   have hT:=taskB_iff.1 (hO.aNA k t hk)
   have xM:0<=t.aNL/\t.aNL<=1000000000:=by
    rw [hT.2.1,jaT];have h1:=aOT (λb=>stT r.aNA b !=4) (zG r.aNB k)
    have h2:=jo0 hm cF dH (k:Int);omega
   have nA:0<=t.til/\t.til<=1000000000:=by
    have:=hT.2.2.2.1;unfold jbv at this;split at this
    ·have:=aOY this;omega
    ·simp at this;omega
   simp only [tkI,aOK,List.not_mem_nil,or_false] at hn;rcases hn with rfl|rfl|rfl|rfl
   ·exact ⟨by omega,by omega⟩
   ·exact xM
   ·exact ⟨by omega,by omega⟩
   ·exact nA
 have hE:∀e∈y.aNC.flatten,∀n∈enI e,jfK n:=λe he n hn=>by
  obtain ⟨r,hr,t,x,h1,h2,h3,h4⟩:=h.ens.own e he;have hO:=h.rns.right r hr;have hid:=aOY hO.id;obtain ⟨m,hm,dI,cF,dH,bU,_,hp,pV,hw⟩:=jbJ hO.aNB;have hs:=h.ens.range e he;have hl:=(aNP.1 h3).1;have aD:=hO.len;have xI:0<=e.aNI/\e.aNI<=1000000000:=by have:=hP e he;omega
  simp only [enI,aOK,List.not_mem_nil,or_false] at hn;rcases hn with rfl|rfl|rfl|rfl
  ·exact xI
  ·exact ⟨by omega,by omega⟩
  ·exact ⟨by omega,by omega⟩
  ·exact ⟨by omega,by omega⟩
 intro n hn;have h8:=h.rns.eight;have hf:=h.flat_le;have gQ:=h.now;have hs:=h.seq;simp only [jb7,aNT,aOK,aQQ,List.not_mem_nil,or_false] at hn;rcases hn with ((rfl|rfl)|⟨l,hl,hn⟩)|rfl|⟨r,hr,hn⟩
 ·exact ⟨by omega,by omega⟩
 ·exact ⟨by omega,by omega⟩
 ·simp only [shI,aOK,aQQ] at hn
  rcases hn with rfl|⟨e,he,hn⟩
  ·have:=(List.sublist_flatten_of_mem hl).length_le
   exact ⟨by omega,by omega⟩
  ·exact hE e (aQS.2 ⟨l,hl,he⟩) n hn
 ·exact ⟨by omega,by omega⟩
 ·exact hR r hr n hn
abbrev tRp:TypeId:=32
def jbS (l:List Rp):D:=.sl 4 tRp (l.flatMap (jcY))
section
variable {P:Program} {β:Nat} {s:St}
theorem jwI (l:List Rp):(jbS l).isSl=true:=(rfl)
theorem ju7 (l:List Rp) (g:Nat) (η:jf):(jbS l).obj g η=[(g,.loose (jbS l) η)]:=(rfl)
theorem juY (l:List Rp) (g c:Nat) (p:List Nat) (η:jf):(jbS l).toOwn g c p η=.h g c p (η p):=(rfl)
theorem jqP (l:List Rp):(jbS l).cells=l.flatMap (jcY):=(rfl)
theorem jux (l:List Rp) (e:Nat) (k:List D->Prop):slK (jbS l) e 4 k=(tRp=e/\k (l.flatMap (jcY))):=by rw [show jbS l=.sl 4 tRp (l.flatMap (jcY)) from rfl,jvZ];simp
theorem jvF (l:List Rp):(l.flatMap (jcY)).length/4=l.length:=by rw [jC (enc:=jcY) (size:=4) (λ_=>rfl)];exact aOS _ (by decide)
theorem jnu (l:List Rp) (x:Rp):D.sl 4 tRp (l.flatMap (jcY)++jcY x)=jbS (l++[x]):=by simp [jbS]
attribute [go_sem] jwI ju7 juY jqP jux jvF
end
noncomputable def doF (y:Yd) (l:List Dd):Yd:=l.foldl doY y
noncomputable def jo6:Yd->List Dd->List Rp
 |_,[]=>[]
 |y,d::l=>doQ y d::jo6 (doY y d) l
theorem jGZ {y:Yd} {l:List Dd} {k:Nat} {d:Dd} (h:l[k]?=some d):doF y (l.take (k+1))=doY (doF y (l.take k)) d:=by
 rw [aOA,h];simp [doF]
theorem jyL (l:List Dd) (d:Dd):∀y:Yd,jo6 y (l++[d])=jo6 y l++[doQ (doF y l) d]:=by
 induction l with
 |nil=>intro y;simp [jo6,doF]
 |cons a l ih=>intro y;simp [jo6,doF,ih]
theorem jCj {y:Yd} {l:List Dd} {k:Nat} {d:Dd} (h:l[k]?=some d):jo6 y (l.take (k+1))=jo6 y (l.take k)++[doQ (doF y (l.take k)) d]:=by
 rw [aOA,h];exact jyL _ _ _
theorem joL:∀(l:List Dd) (y:Yd),(jo6 y l).length=l.length
 |[],_=>rfl
 |d::l,y=>by simp [jo6,joL l]
theorem jln:∀(l:List Dd) (y:Yd),jn y<=1100000->jn (doF y l)<=1100000
 |[],_,h=>h
 |d::l,y,h=>jln l (doY y d) (jtW y d h)
theorem jtY {l:List Dd} {k:Nat} {d:Dd} (h:l[k]?=some d) (ht:ji0 l<=2000000):jbq d<=2000000:=by
 have h1:=vd (tot:=jbq) h;have h2:=zm jbq l (k+1);simp only [ji0] at ht;omega
def jjq:C:=iS [iA 2 (.box 27 4 (.t 0)),iA 4 wAM,iA 5 (.mov (.c (.slice none 0 0)))] (iS [aT 12 4 2,iA 13 (iK 61 [12]),iA 6 wAM,wAA 6 13] (iS [iA 7 (.mov (.c (.slice none 0 0)))] (.seq (iS [aM 14 1,aG 15 14,aN 16 0] (.blk 0 (.loop (iS [aP 17 .lss 3 16 15] (.seq (iD 17 .skip (.exit 0)) (.seq (.blk 1 (iS [aI 18 11 14 16,aT 19 11 18,iA 9 wAT,wAE 9 19] (iS [aT 21 4 6,aT 22 11 9,iA 23 (iK 29 [21,22]),aM 20 23,aE 24 20 0,aE 25 20 1,iA 10 wAM,iA 11 wAR,wAA 10 24,wAB 11 25] (iS [aT 26 4 10,wAA 6 26] (.reg [aM 27 7,aT 28 4 11,iA 29 (.bsl 32 4 1 [none,none,none,none] [(0,4,.t 28)]),iA 30 (.app 32 4 32 (.t 27) (.t 29)),aM 7 30]))))) (.reg [aQ 31 .add 3 16 1,aM 16 31]))))))) (iS [aT 32 4 6,aM 33 7,wAA 4 32,aM 5 33] .ret))))
theorem jlK:fnC Tryz.prog Tryz.f31=some (jjq,[.cell 4 true 4,.t 5],34):=by kernel_rfl
def jji:C:=iS [iA 2 (.box 27 4 (.t 0)),iA 4 wAM,iA 5 (.mov (.c (.slice none 0 0)))] (iS [aT 10 4 2,iA 11 (iK 67 [10]),iA 6 wAM,wAA 6 11] (iS [iA 12 (.bsl 32 4 0 [] []),aM 7 12] (.seq (iS [aN 8 0] (.blk 0 (.loop (.seq (iS [aM 13 8,aM 14 1,aG 15 14,aP 16 .lss 3 13 15] (iD 16 .skip (.exit 0))) (.seq (.blk 1 (iS [iA 19 (wAV []),iA 9 wAR,wAB 9 19] (.seq (.dreg (tA 0 21 (iT 4 6) (tA 1 22 (iM 1) (tA 2 23 (iM 8) (tA 3 24 (iI 11 22 23) (tA 4 25 (iT 11 24) (tC 26 (iK 95 [21,25]) [] (tA 6 20 (iM 26) (tA 7 27 (iE 20 0) (tA 8 28 (iE 20 1) (.alt (wAA 6 27) [8] (.alt (wAB 9 28) [] .done .stop) .stop)))) .stop))))))) (.reg [aM 29 7,aT 30 4 9,iA 31 (.bsl 32 4 1 [none,none,none,none] [(0,4,.t 30)]),iA 32 (.app 32 4 32 (.t 29) (.t 31)),aM 7 32])))) (.reg [aM 17 8,aQ 18 .add 3 17 1,aM 8 18])))))) (iS [aT 33 4 6,aM 34 7,wAA 4 33,aM 5 34] .ret))))
theorem jlB:fnC Tryz.prog Tryz.f32=some (jji,[.cell 4 true 4,.t 5],35):=by kernel_rfl
theorem jB5 (y:Yd) (l:List Dd) (ht:jn y<=1100000) (hd:ji0 l<=2000000):jW Tryz.prog 31 [.agg (jc y),.c (qJ l)] (.tup [(true,jc (doF y l)),(false,[jbS (jo6 y l)])]):=by
 refine pf_ jlK ?_;unfold jjq;have dW:jn y<=2000000:=by omega
 have hl:l.length<=2000000:=aPC (aQR _ _) hd;simp only [go_sem,jc];intro b2 b4;refine jm (jY y dW) λbD=>?_
 simp only [go_sem,jc];intro b6;refine qY (λi:Nat×jf×jf×jf=>St.of [(4,Bx 400 b4),(6,Bx 600 b6),(7,Hd 7 i.2.2.2),(14,Ro (qJ l)),(15,Ni l.length),(16,Ni i.1)] [(400,ZYd b4 tYd),(600,kb b6 tYd (doF y (l.take i.1)).now (doF y (l.take i.1)).seq (doF y (l.take i.1)).aNC i.2.1 (doF y (l.take i.1)).aNE i.2.2.1),(7,.loose (jbS (jo6 y (l.take i.1))) i.2.2.2)]) (λi=>i.1<=l.length) (λi=>l.length-i.1) (0,bD 2,bD 3,jbL) (ze [some 400,some 600,none] (by simp only [go_sem,aOW,show doF y []=y from rfl,show jo6 y []=[] from rfl]<;>trivial)) ?_
 rintro ⟨n,f2,f3,f7⟩ hn;dsimp only at hn;have hz:=jln (l.take n) y ht;have bR:=joL (l.take n) y;rw [aNV,aPD hn] at bR;by_cases aB:n<l.length
 ·have aA:(n:Int)<l.length:=by omega
  have bJ:=qX n;obtain ⟨d,hx⟩:=ja aB;have hw:=kx n;have hF:=jGZ (y:=y) hx;have hR:=jCj (y:=y) hx;have tE:=jtY hx hd;generalize doF y (l.take n)=z at*;generalize jo6 y (l.take n)=rs at*;have fR:=jnu rs (doQ z d);simp only [jcY] at fR;have cW:rs.length+1<=maxLen:=zy;have bI:(rs.length+1)*32<=140737488355328:=by omega
  simp only [go_sem,aB,aA,bJ,jlm hx,jR,jd,aOU,aOQ];intro b9;refine jG (jp0 z d (by omega) tE) (by simp only [go_sem,jc,jR,jd,aOU,aOQ]) λrB=>?_
  simp only [go_sem,jc,aOU,aOQ];intro b10 b11;simp only [go_sem,cW,bI,fR,hw];intro aHE tN;exact qf (n+1,rB 2,rB 3,tN) (jt [400,600,3000] (by simp only [go_sem,hF,hR,jM]<;>trivial))
 ·have aA:¬(n:Int)<l.length:=by omega
  obtain rfl:n=l.length:=by omega
  rw [aPP];simp only [go_sem,aA]
  apply kV
  simp only [go_sem]
theorem jpR (y:Yd) (l:List Dd) (ht:jn y<=1100000) (hd:ji0 l<=2000000):jW Tryz.prog 32 [.agg (jc y),.c (qJ l)] (.tup [(true,jc (doF y l)),(false,[jbS (jo6 y l)])]):=by
 refine pf_ jlB ?_;unfold jji;have dW:jn y<=2000000:=by omega
 have hl:l.length<=2000000:=aPC (aQR _ _) hd;simp only [go_sem,jc];intro b2 b4;refine jm (km y dW) λbD=>?_
 simp only [go_sem,jc];intro b6 aBB;refine qY (λi:Nat×jf×jf×jf=>St.of [(1,Ro (qJ l)),(4,Bx 400 b4),(6,Bx 600 b6),(7,Hd 7 i.2.2.2),(8,Ni i.1)] [(400,ZYd b4 tYd),(600,kb b6 tYd (doF y (l.take i.1)).now (doF y (l.take i.1)).seq (doF y (l.take i.1)).aNC i.2.1 (doF y (l.take i.1)).aNE i.2.2.1),(7,.loose (jbS (jo6 y (l.take i.1))) i.2.2.2)]) (λi=>i.1<=l.length) (λi=>l.length-i.1) (0,bD 2,bD 3,aBB) (jt [400,600,1200] (by simp only [go_sem,aOW,show doF y []=y from rfl,show jo6 y []=[] from rfl]<;>trivial)) ?_
 rintro ⟨n,f2,f3,f7⟩ hn;dsimp only at hn;have hz:=jln (l.take n) y ht;have bR:=joL (l.take n) y;rw [aNV,aPD hn] at bR;by_cases aB:n<l.length
 ·have aA:(n:Int)<l.length:=by omega
  have bJ:=qX n;obtain ⟨d,hx⟩:=ja aB;have hw:=kx n;have hF:=jGZ (y:=y) hx;have hR:=jCj (y:=y) hx;have tE:=jtY hx hd;generalize doF y (l.take n)=z at*;generalize jo6 y (l.take n)=rs at*;have fR:=jnu rs (doQ z d);simp only [jcY] at fR;have cW:rs.length+1<=maxLen:=zy;have bI:(rs.length+1)*32<=140737488355328:=by omega
  simp only [go_sem,aB,aA,bJ,jlm hx,jR,jd,aOU,aOQ];intro b9;refine jG (jpS z d (by omega) tE) (by simp only [go_sem,jc,jR,jd,aOU,aOQ]) λrB=>?_
  simp only [go_sem,jc,aOU,aOQ];simp only [go_sem,cW,bI,fR,hw];intro rC aAZ;exact qf (n+1,rB 2,rB 3,aAZ) (jt [400,600,3200] (by simp only [go_sem,hF,hR,jM]<;>trivial))
 ·have aA:¬(n:Int)<l.length:=by omega
  obtain rfl:n=l.length:=by omega
  rw [aPP];simp only [go_sem,aA]
  apply kV
  simp only [go_sem]
theorem jEm:∀(l:List Dd) {y:Yd},YdI y->YdI (doF y l)/\(doF y l).seq<=y.seq+2000*l.length
 |[],y,h=>⟨h,by simp [doF]⟩
 |d::l,y,h=>by
  obtain ⟨h1,h2⟩:=jEm l (h.do d);have h3:=jBS h d;refine ⟨h1,?_⟩;change (doF (doY y d) l).seq<=_;rw [aOD];push_cast;omega
theorem jEl (y:Yd) (l m:List Dd):doF y (l++m)=doF (doF y l) m:=by simp [doF]
noncomputable def dD (c:List UInt8):List Dd:=(vP c (6+(jh c 24 (jhP c)).1.toNat) ([],newYd,(jh c 24 (jhP c)).2)).1
theorem dD_ok (c:List UInt8):(dD c).length<=29/\(∀d∈dD c,kf d=true/\d.aNB.aNF.length<=9):=by
 have s1:=jj (c:=c) (n:=24) (s:=jhP c) (aOL _);have x1:=jO c (n:=24) (jhP c) (by omega)
 have h:=joN (c:=c) (6+(jh c 24 (jhP c)).1.toNat) 0 (.start s1);have h1:=h.ok;have h2:=h.aNF;have h3:=h.len;exact ⟨by simp only [dD];omega,λd hd=>⟨h1 d hd,h2 d hd⟩⟩
def jcM:C:=iS [iA 2 (.mov (.c (.slice none 0 0)))] (iS [aM 6 0,iA 7 (iK 58 [6]),aM 3 7] (iS [aM 9 3,aM 10 3,iA 11 (.call 60 [.t 10,oI 24]),iA 12 (.bin .add 3 (oI 6) (.t 11)),iA 13 (iK 89 [9,12]),aM 8 13,aE 14 8 0,aE 15 8 1,iA 5 wAM,aM 4 14,wAA 5 15] (iS [aM 16 4,aM 2 16] .ret)))
theorem jfU:fnC Tryz.prog Tryz.f27=some (jcM,[.t 2],17):=by kernel_rfl
theorem jjx (c:List UInt8) (hc:c.length<=1048576):jW Tryz.prog 27 [.c (ja9 c)] (.c (qJ (dD c))):=by
 refine vr [[1,1,0]] Tryz.func27 jfU (by simp) ?_
 unfold jcM;simp only [C.ghs,C.ghAt,List.foldr];simp only [go_sem];have fS:(ja9 c).toRo=.ro (ja9 c):=rfl;rw [fS];refine kr (by simp only [go_sem]) (jse c hc _) λav o' ⟨b,gV,ho,hk⟩=>?_
 subst gV;simp only [go_sem];refine kv ?_;refine WkK.wk (s':=St.of [(3,Bx 89 b)] [(89,qm b 146 c (jhP c))]) (jt [800003100] (by simp only [go_sem,ho,jM]<;>trivial)) ?_
 refine WkK.of ?_;simp only [go_sem];refine jv (kp c hc 24 (jhP c) b _ (aOL _) (by simp only [go_sem])) (by simp only [go_sem]) ?_
 have s1:=jj (c:=c) (n:=24) (s:=jhP c) (aOL _);have x1:=jO c (n:=24) (jhP c) (by omega)
 have hD:dD c=(vP c (6+(jh c 24 (jhP c)).1.toNat) ([],newYd,(jh c 24 (jhP c)).2)).1:=rfl;generalize jh c 24 (jhP c)=q1 at*;obtain ⟨m,hm⟩:∃m:Nat,q1.1=(m:Int):=⟨q1.1.toNat,by omega⟩
 rw [show q1.1.toNat=m by omega] at hD
 have hw:IntKind.i64.wrap (6+(m:Int))=((6+m:Nat):Int):=vF;simp only [go_sem,hm,hw];refine kr (by simp only [go_sem]) (jqp c hc (6+m) (by omega) q1.2 b _ s1 (by simp only [go_sem]) (by simp only [go_sem]) (by simp only [go_sem]) (by simp only [go_sem])) λav o' ⟨e,e2,e3,b5,gV,hl,hy,o2,hk⟩=>?_
 subst gV;rw [<-hD] at hl;generalize dD c=l at*;simp only [go_sem,hy,hl]
noncomputable def jrL (c:List UInt8):Nat->List Int×Cu->List Int×Cu
 |0,x=>x
 |n+1,x=>let y:=jrL c n x;(y.1++[(jh c 10000 y.2).1],(jh c 10000 y.2).2)
noncomputable def jkW (c:List UInt8):List Int:=(jrL c 12 ([],(kE c (jhP c)).2)).1
theorem jxv (c:List UInt8):∀(n:Nat) {x:List Int×Cu},x.2.1<=c.length->(jrL c n x).2.1<=c.length
 |0,x,h=>h
 |n+1,x,h=>jj (jxv c n h)
theorem jnZ (c:List UInt8):∀(n:Nat) (x:List Int×Cu),(jrL c n x).1.length=x.1.length+n
 |0,x=>rfl
 |n+1,x=>by
  have:=jnZ c n x;simp only [jrL,aNR,List.length_singleton];omega
theorem jxu (c:List UInt8):∀(n:Nat) (x:List Int×Cu),(∀v∈x.1,0<=v/\v<10000)->∀v∈(jrL c n x).1,0<=v/\v<10000
 |0,x,h=>h
 |n+1,x,h=>λv hv=>by
  rcases aNT.1 hv with hv|hv
  ·exact jxu c n x h v hv
  ·rw [aQL.1 hv]
   exact jO c (n:=10000) _ (by omega)
theorem jpN (c:List UInt8) {k:Nat} (h:k<12):∃v:Nat,(jkW c)[k]?=some (v:Int)/\v<10000:=by
 have hl:(jkW c).length=12:=by rw [jkW,jnZ];rfl
 obtain ⟨v,hv⟩:=ja (show k<(jkW c).length by omega)
 have:=jxu c 12 ([],(kE c (jhP c)).2) (by simp) v (aNQ hv)
 exact ⟨v.toNat,by rw [hv];congr 1;omega,by omega⟩
def jb0:C:=iS [iA 2 (.mov (.c (.slice none 0 0)))] (iS [aM 6 0,iA 7 (iK 58 [6]),aM 3 7] (iS [aM 8 3,iA 9 (iK 59 [8])] (iS [iA 10 (wA3 []),aM 4 10] (.seq (iS [aN 5 0] (.blk 0 (.loop (.seq (iS [aM 11 5,aQ 12 .lss 3 11 12] (iD 12 .skip (.exit 0))) (.seq (.blk 1 (.reg [aM 15 4,aM 16 3,iA 17 (.call 60 [.t 16,oI 10000]),iA 18 (wA1 [(0,1,.t 17)]),iA 19 (wBA 15 18),aM 4 19])) (.reg [aM 13 5,aQ 14 .add 3 13 1,aM 5 14])))))) (iS [aM 20 4,aM 2 20] .ret)))))
theorem jeF:fnC Tryz.prog Tryz.f13=some (jb0,[.t 2],21):=by kernel_rfl
theorem jia (c:List UInt8) (hc:c.length<=1048576):jW Tryz.prog 13 [.c (ja9 c)] (.c (jb (jkW c))):=by
 refine vr [[1,1,0]] Tryz.func13 jeF (by simp) ?_
 unfold jb0;simp only [C.ghs,C.ghAt,List.foldr];simp only [go_sem];have fS:(ja9 c).toRo=.ro (ja9 c):=rfl;rw [fS];refine kr (by simp only [go_sem]) (jse c hc _) λav o' ⟨b,gV,ho,hk⟩=>?_
 subst gV;simp only [go_sem];refine kv ?_;refine WkK.wk (s':=St.of [(3,Bx 89 b)] [(89,qm b 146 c (jhP c))]) (jt [800003100] (by simp only [go_sem,ho,jM]<;>trivial)) ?_
 refine WkK.of ?_;simp only [go_sem];refine jv (jeu c hc (jhP c) b _ (aOL _) (by simp only [go_sem])) (by simp only [go_sem]) ?_
 have s1:=jaG (c:=c) (s:=jhP c) (aOL _);have hP:jkW c=(jrL c 12 ([],(kE c (jhP c)).2)).1:=rfl;generalize (kE c (jhP c)).2=s0 at*;intro fB;refine kg (λi:Nat×jf=>St.of [(3,Bx 89 b),(4,Hd 1000 i.2),(5,Ni i.1)] [(89,qm b 146 c (jrL c i.1 ([],s0)).2),(1000,.loose (jb (jrL c i.1 ([],s0)).1) i.2)]) (λi=>i.1<=12) (λi=>12-i.1) (0,fB) ((aOL _)) (jt [89,1000] (by simp only [go_sem,jrL]<;>trivial)) ?_
 rintro ⟨i,η⟩ hi;dsimp only at hi;have fP:=jxv c i (x:=([],s0)) s1;have aD:=jnZ c i ([],s0);by_cases aB:i<12;rotate_left
 ·have aA:¬(i:Int)<12:=by omega
  obtain rfl:i=12:=by omega
  rw [hP];simp only [go_sem]
 have aA:(i:Int)<12:=by omega
 have hw:=kx i;have cZ:jrL c (i+1) ([],s0)=((jrL c i ([],s0)).1++[(jh c 10000 (jrL c i ([],s0)).2).1],(jh c 10000 (jrL c i ([],s0)).2).2):=rfl;generalize jrL c i ([],s0)=z at*;simp only [go_sem,aA];refine jv (kp c hc 10000 z.2 b _ fP (by simp only [go_sem])) (by simp only [go_sem]) ?_
 have dI:z.1.length+1<=maxLen:=by rw [aD];unfold maxLen;simp;omega
 have eB:(z.1.length+1)*8<=140737488355328:=by rw [aD];simp;omega
 simp only [go_sem,dI,eB,kT,hw];intro wO tO;exact qf (i+1,tO) (jt [89,1900] (by simp only [go_sem,cZ]<;>trivial))
noncomputable def dY (c:List UInt8):Yd:=(jlo c (jhP c)).1
theorem dY_I (c:List UInt8):YdI (dY c)/\(dY c).seq<=100000:=by
 have s1:=jj (c:=c) (n:=26) (s:=jhP c) (aOL _);have x1:=jO c (n:=26) (jhP c) (by omega)
 have h:=joN (c:=c) (jh c 26 (jhP c)).1.toNat 0 (.start s1);refine ⟨h.yd,?_⟩;have:=h.seq;simp only [dY,jlo];omega
theorem jqH:∀l:List Dd,(∀d∈l,d.aNB.aNF.length<=9)->ji0 l<=40*l.length
 |[],_=>by simp [ji0,qh]
 |d::l,h=>by
  have ih:=jqH l λx hx=>h x (by simp [hx])
  have hd:=h d (by simp)
  simp only [ji0,qh,aPB,aQD,aOD,jbq,jc4] at ih⊢;omega
