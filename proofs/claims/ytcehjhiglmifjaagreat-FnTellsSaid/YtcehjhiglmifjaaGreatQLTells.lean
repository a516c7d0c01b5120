/- Parts. -/
import Derived.Test.YtcehjhiglmifjaaGreatQDrawI
import Derived.Test.YtcehjhiglmifjaaGreatQTellsP
set_option linter.all false
set_option maxHeartbeats 16000000
set_option maxRecDepth 100000
namespace Go.Proofs.YtcehjhiglmifjaaGreat
open Go.RowKit Go.Sort
def jeJ:C:=iS [aO 2 false] (.seq (iS [aM 20 0,iA 21 (iK 11 [20])] (iD 21 (iS [aO 2 true] .ret) .skip)) (iS [aM 22 0,iA 23 (iK 12 [22]),iA 3 wAK,wAA 3 23] (iS [aT 25 4 3,iA 26 (.call 14 [.t 25,oI 1,oI 0]),aM 24 26,aE 27 24 0,aE 28 24 1,iA 4 wAK,iA 5 wAM,wAA 4 27,wAB 5 28] (.seq (iS [aF 29 0 5,aL 30 29,aQ 31 .neq 3 30 0] (iD 31 (iS [aT 33 4 3,iA 34 (.call 55 [.t 33,oI 123,oI 0,oI 1]),aM 32 34,aE 35 32 0,aE 36 32 1,iA 6 wAK,wAA 6 35,aM 7 36] (iS [aM 37 7,aQ 38 .eql 3 37 10,aM 2 38] .ret)) .skip)) (iS [aT 39 4 4,aF 40 1 5,aL 41 40,aF 42 2 5,aL 43 42,aF 44 3 5,aL 45 44,iA 46 (iK 53 [39,41,43,45]),aM 8 46] (iS [aT 48 4 4,aF 49 1 5,aL 50 49,aF 51 2 5,aL 52 51,aF 53 3 5,aL 54 53,aQ 55 .add 3 54 1,iA 56 (iK 55 [48,50,52,55]),aM 47 56,aE 57 47 0,aE 58 47 1,iA 9 wAK,wAA 9 57,aM 10 58] (iS [aT 60 4 4,aF 61 1 5,aL 62 61,aF 63 3 5,aL 64 63,iA 65 (.call 56 [.t 60,.t 62,oI 99,.t 64]),aM 59 65,aE 66 59 0,aE 67 59 1,iA 11 wAK,wAA 11 66,aM 12 67] (iS [aT 69 4 4,aF 70 1 5,aL 71 70,aF 72 2 5,aL 73 72,aF 74 3 5,aL 75 74,iA 76 (iK 55 [69,71,73,75]),aM 68 76,aE 77 68 0,aE 78 68 1,iA 13 wAK,wAA 13 77,aM 14 78] (iS [aT 80 4 4,aF 81 1 5,aL 82 81,aF 83 2 5,aL 84 83,aF 85 3 5,aL 86 85,iA 87 (iK 56 [80,82,84,86]),aM 79 87,aE 88 79 0,aE 89 79 1,iA 15 wAK,wAA 15 88,aM 16 89] (iS [aT 91 4 13,aF 92 1 5,aL 93 92,aF 94 2 5,aL 95 94,aF 96 3 5,aL 97 96,iA 98 (iK 55 [91,93,95,97]),aM 90 98,aE 99 90 0,aE 100 90 1,iA 17 wAK,wAA 17 99,aM 18 100] (iS [aT 101 4 13,aF 102 1 5,aL 103 102,iA 104 (iK 25 [101,103]),aM 19 104] (.seq (.seq (.dreg (tA 0 105 (iM 19) (tA 1 106 (iQ .lss 3 105 0) (tA 2 107 (iM 106) (tB 3 108 107 false (iF 3 15) (tB 4 109 107 false (iL 108) (tB 5 110 107 false (iG 109) (tB 6 111 107 false (iF 3 13) (tB 7 112 107 false (iL 111) (tB 8 113 107 false (iG 112) (tB 9 114 107 false (iP .neq 3 110 113) (tA 10 115 (iY 107 (oT) (.t 114)) (tA 11 116 (iM 115) (tB 12 117 116 false (iF 2 5) (tB 13 118 116 false (iL 117) (tB 14 119 116 false (iQ .lss 3 118 0) (tA 15 120 (iY 116 (oT) (.t 119)) (tA 16 121 (iM 120) (tB 17 122 121 false (iF 2 5) (tB 18 123 121 false (iL 122) (tB 19 124 121 false (iF 3 13) (tB 20 125 121 false (iL 124) (tB 21 126 121 false (iM 19) (tB 22 127 121 false (iI 8 125 126) (tB 23 128 121 false (iF 7 127) (tB 24 129 121 false (iL 128) (tB 25 130 121 false (iG 129) (tB 26 131 121 false (iP .geq 3 123 130) (tA 27 132 (iY 121 (oT) (.t 131)) (tA 28 133 (iM 132) (tB 29 134 133 false (iF 3 15) (tB 30 135 133 false (iL 134) (tB 31 136 133 false (iM 19) (tB 32 137 133 false (iI 8 135 136) (tB 33 138 133 false (iF 7 137) (tB 34 139 133 false (iL 138) (tB 35 140 133 false (iG 139) (tB 36 141 133 false (iF 3 13) (tB 37 142 133 false (iL 141) (tB 38 143 133 false (iM 19) (tB 39 144 133 false (iI 8 142 143) (tB 40 145 133 false (iF 7 144) (tB 41 146 133 false (iL 145) (tB 42 147 133 false (iG 146) (tB 43 148 133 false (iP .neq 3 140 147) (tA 44 149 (iY 133 (oT) (.t 148)) .done)))))))))))))))))))))))))))))))))))))))))))))) (iD 149 (iS [aO 2 false] .ret) .skip)) (.seq (.dreg (tA 0 150 (iM 8) (tA 1 151 (iM 150) (tB 2 152 151 true (iM 10) (tB 3 153 151 true (iQ .eql 3 152 11) (tA 4 154 (iY 151 (.t 153) (oF)) (tA 5 155 (iM 154) (tB 6 156 155 true (iM 12) (tB 7 157 155 true (iQ .eql 3 156 11) (tA 8 158 (iY 155 (.t 157) (oF)) (tA 9 159 (iM 158) (tB 10 160 159 true (iM 14) (tB 11 161 159 true (iQ .eql 3 160 0) (tA 12 162 (iY 159 (.t 161) (oF)) (tA 13 163 (iM 162) (tB 14 164 163 true (iM 16) (tB 15 165 163 true (iQ .eql 3 164 0) (tA 16 166 (iY 163 (.t 165) (oF)) (tA 17 167 (iM 166) (tB 18 168 167 true (iM 18) (tB 19 169 167 true (iQ .eql 3 168 11) (tA 20 170 (iY 167 (.t 169) (oF)) (tA 21 171 (iM 170) (tB 22 172 171 true (iT 4 17) (tB 23 173 171 true (iT 4 13) (.alt (iB 174 171 true (iK 17 [172,173])) [] (tA 25 175 (iY 171 (.t 174) (oF)) (tA 26 176 (iM 175) (tB 27 177 176 true (iT 4 13) (.alt (iB 178 176 true (iK 18 [177])) [] (tA 29 179 (iY 176 (.t 178) (oF)) (tA 30 180 (iM 179) (tB 31 181 180 true (iT 4 15) (.alt (iB 182 180 true (iK 18 [181])) [] (tA 33 183 (iY 180 (.t 182) (oF)) (tA 34 184 (iM 183) (tB 35 185 184 true (iF 3 13) (tB 36 186 184 true (iL 185) (tB 37 187 184 true (iM 19) (tB 38 188 184 true (iI 8 186 187) (tB 39 189 184 true (iF 7 188) (tB 40 190 184 true (iL 189) (tB 41 191 184 true (iF 2 5) (tB 42 192 184 true (iL 191) (tB 43 193 184 true (iI 4 190 192) (tB 44 194 184 true (iF 0 193) (tB 45 195 184 true (iL 194) (tB 46 196 184 true (iQ .eql 3 195 4) (tA 47 197 (iY 184 (.t 196) (oF)) (tA 48 198 (iM 197) (tB 49 199 198 true (iF 3 15) (tB 50 200 198 true (iL 199) (tB 51 201 198 true (iM 19) (tB 52 202 198 true (iI 8 200 201) (tB 53 203 198 true (iF 7 202) (tB 54 204 198 true (iL 203) (tB 55 205 198 true (iF 2 5) (tB 56 206 198 true (iL 205) (tB 57 207 198 true (iI 4 204 206) (tB 58 208 198 true (iF 0 207) (tB 59 209 198 true (iL 208) (tB 60 210 198 true (iQ .neq 3 209 3) (tA 61 211 (iY 198 (.t 210) (oF)) (tA 62 212 (iM 211) (tB 63 213 212 true (iT 4 15) (tB 64 214 212 true (iF 1 5) (tB 65 215 212 true (iL 214) (tB 66 216 212 true (iF 2 5) (tB 67 217 212 true (iL 216) (tB 68 218 212 true (iF 3 5) (tB 69 219 212 true (iL 218) (.alt (iB 220 212 true (iK 53 [213,215,217,219])) [] (tB 71 221 212 true (iU 220) (tA 72 222 (iY 212 (.t 221) (oF)) (tA 73 2 (iM 222) .done))) .stop)))))))))))))))))))))))))))))))))))))) .stop)))) .stop)))) .stop)))))))))))))))))))))))))) .ret)))))))))))))
theorem jhM:fnC Tryz.prog Tryz.f10=some (jeJ,[.t 2],223):=by kernel_rfl
theorem jsO (c:List UInt8):kg Tryz.prog 10 [.c (jaU c)] (.c (.val (.bool true))):=by
 refine pf_ jhM ?_;unfold jeJ;simp only [go_sem];have fJ:(jaU c).toRo=.ro (jaU c):=rfl;refine jn (jB7 c) (by simp only [go_sem,fJ]) λfG=>?_
 simp only [go_sem,fJ];by_cases l8:(1048576:Int)<(c.length:Int)
 ·simp only [go_sem,l8]
 have hc:c.length<=1048576:=by omega
 simp only [go_sem,l8];obtain ⟨hI,hq⟩:=dY_I c;have eT:=jC2 c;have pD:=jjR c hc;change kg _ _ _ (.agg (jb (dY c))) at pD;generalize dY c=y at*;have aC:=hI.ok (by omega)
 have aEQ:=aC.small;have ht:jt y<=2000000:=by omega
 have hP:=polls hI hq (w:=1) (d:=0) (by decide) (h:=1) (by decide)
 have pP:=jjU y 1 0 ht;have hZ:=hI.poll 1 0;have hzq:=jrj hI 1 0;have mW:=hP.ok.small;have sU:jt (qj y 1 0)<=2000000:=by omega
 have aDE:=jyq hI hq eT;have yE:=hP.hand;have aJO:=hP.ok;clear hP;generalize eJ:qj y 1 0=z at*;generalize hRR:ja5 y 1 0=R at*;refine jn (pD) (by simp only [go_sem,fJ]) λdB=>?_
 simp only [go_sem,fJ];simp only [go_sem,jb];intro b3;refine jn (pP) (by simp only [go_sem,jb,qO]) λaV=>?_
 simp only [go_sem,jb,qO];intro b4 b5;by_cases pO:R.code=0;rotate_left
 ·have hcn:(R.code !=0)=true:=by simp [pO]
  simp only [go_sem,hcn];refine jx (vq y 123 0 1 ht) λcT=>?_
  simp only [go_sem,jb];rw [aDE];rfl
 obtain ⟨k,t,r,x,rz,xz,hH,_⟩:=yE pO;have hT:=tells hZ (by omega) hH.atz hH.rowz hH.aMA hH.now hH.stz hH.triz
 have hcn:(R.code !=0)=false:=by simp [pO]
 have has:=hT.oka.small;have hbs:=hT.okb.small;have eD:jt (qz z R.run R.aMA R.tri)<=2000000:=by omega
 have u5:jt (vp z R.run R.aMA R.tri)<=2000000:=by omega
 have n7:=hH.small;have aHE:=hH.triz;obtain ⟨ra,rb,xa,xb,gE,aW,g8,x9,bM,ha4,y4⟩:=hT.rows;have pC:=vq z R.run R.aMA R.tri sU;have pF:=je7 z R.run R.aMA R.tri sU;have pCC:=vq (qz z R.run R.aMA R.tri) R.run R.aMA R.tri eD;have pSt:=vq z R.run R.aMA (R.tri+1) sU;have pAw:=je7 z R.run 99 R.tri sU;have lU:IntKind.i64.wrap (R.tri+1)=R.tri+1:=qE (by have:=hH.low;omega) (by omega)
 rw [hT.code] at pC pF;rw [hT.twice,hT.same] at pCC;have cZ:k<(qz z R.run R.aMA R.tri).aLX.length:=(aMI.1 gE).1;have f5:k<(vp z R.run R.aMA R.tri).aLX.length:=(aMI.1 aW).1;have hh:=hT.held;have rA:=hT.noth;have s9:=hT.stale;have x6:=hT.away;have aDD:=hT.ata;have xE:=hT.lens;have pZ:=hT.oka;have aBK:=hT.okb;have n9:=hT.aMA;rw [s9] at pSt;rw [x6] at pAw;simp only [go_sem,hcn];refine jx (jae z R.run R.aMA R.tri) λcT=>?_
 simp only [go_sem,jb];simp only [go_sem,hh,lU];refine jx pSt λfO=>?_
 simp only [go_sem,jb];intro b9;refine jx pAw λbP=>?_
 simp only [go_sem,jb];intro b11;refine jx pC λv9=>?_
 simp only [go_sem,jb];intro b13;refine jx pF λbF=>?_
 simp only [go_sem,jb];intro b15;generalize hA:qz z R.run R.aMA R.tri=a at*;generalize hB:vp z R.run R.aMA R.tri=bb at*;refine jx pCC λmF=>?_
 simp only [go_sem,jb];intro b17;refine jx (qg a R.run) λrT=>?_
 simp only [go_sem,jb];rw [aDD];have cD:¬(k:Int)<0:=by omega
 have bD:=qT k;have cP:=(aMI.1 x9).1;have lX:=(aMI.1 bM).1;have yS:¬(t:Int)<0:=by omega
 have eY:=qT t;have htg:¬(t:Int)>=(ra.aLT.length:Int):=by omega
 have aAZ:¬(t:Int)>=(rb.aLT.length:Int):=by omega
 have aAY:¬(rb.aLT.length:Int)<=(t:Int):=by omega
 have hlI:(bb.aLX.length:Int)=(a.aLX.length:Int):=by rw [xE]
 simp only [go_sem,cD,hlI,n9,yS,cZ,f5,bD,aMX,qL gE,qU gE,jW gE,qL aW,qU aW,jW aW,htg,aAZ,aAY,g8,aOU];have hx4:(xa.aLV==4)=true:=by simp [ha4]
 have nQ:(xb.aLV !=3)=true:=by simp [y4]
 refine jx (jaL a eD) λbH=>?_
 simp only [go_sem,jb];refine jx (kJ a eD) λcH=>?_
 simp only [go_sem,jb];simp only [go_sem,qF pZ];refine jx (kJ bb u5) λbC=>?_
 simp only [go_sem,jb];have htR:t<rb.aLT.length:=lX;have htA:t<ra.aLT.length:=cP;simp only [go_sem,qF aBK,cZ,f5,bD,eY,htR,htA,n9,aMX,qL gE,qU gE,jW gE,qL aW,qU aW,jW aW,zF x9,vi x9,zF bM,vi bM,hx4,nQ];rw [n9] at rA;refine jx (jae bb R.run (t:Int) R.tri) λsQ=>?_
 simp only [go_sem,jb];simp only [go_sem,rA]
