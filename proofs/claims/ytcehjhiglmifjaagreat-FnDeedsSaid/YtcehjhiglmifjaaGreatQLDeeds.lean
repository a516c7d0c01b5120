/- Parts. -/
import Derived.Test.YtcehjhiglmifjaaGreatQDeedsP
import Derived.Test.YtcehjhiglmifjaaGreatQDrawE
import Derived.Test.YtcehjhiglmifjaaGreatQLYardsN
import Derived.Test.YtcehjhiglmifjaaGreatQSameR
set_option linter.all false
set_option maxHeartbeats 16000000
set_option maxRecDepth 100000
namespace Go.Proofs.YtcehjhiglmifjaaGreat
open Go.RowKit Go.Sort
abbrev RpB (b:Nat) (r:Rp):Ob:=.box b 32 [.a (.v (.int .i64 r.code)),.a (.v (.int .i64 r.run)),.a (.v (.int .i64 r.aMA)),.a (.v (.int .i64 r.tri))]
theorem jAK {l:List Dd} {k:Nat} {n:Dd} (h:l[k]?=some n):(l.flatMap jj)[k*11+6]?=some (jv n.aLW.aLY):=by
 have h1:=qA (enc:=jj) (size:=11) jo2 h (j:=6) (n:=1) (by decide)
 have h2:=congrArg (·[0]?) h1
 simpa [aOG,aOF,jj,ja] using h2
theorem jbh {l:List Dd} {k:Nat} {n:Dd} (h:l[k]?=some n):D.get [k*11+6] (kv l)=some (jv n.aLW.aLY):=by
 have:=jAK h;simp [kv,D.get,this,jb8]
theorem jaT {l:List Dd} {k:Nat} {n:Dd} (h:l[k]?=some n):D.get [k*11+1+1+1+1+1+1] (kv l)=some (jv n.aLW.aLY):=jbh h
theorem jlt (l:List Dd) (a b:Nat):(kv l).sub a b=kv ((l.drop a).take (b-a)):=jmt (enc:=jj) jo2 l a b
theorem jgc:∀l:List Dd,(∀d∈l,d.aLW.aLY.length<=9)->jd9 l<=40*l.length
 |[],_=>by simp [jd9,qN]
 |d::l,h=>by
  have ih:=jgc l λx hx=>h x (by simp [hx])
  have hd:=h d (by simp)
  simp only [jd9,qN,aNQ,aOW,aNG,jbX,jeZ] at ih⊢;omega
def jeK:C:=iS [aO 2 false] (.seq (iS [aM 19 0,iA 20 (iK 11 [19])] (iD 20 (iS [aO 2 true] .ret) .skip)) (iS [aM 21 0,iA 22 (iK 27 [21]),aM 3 22] (iS [aM 23 0,iA 24 (iK 27 [23]),aM 4 24] (iS [iA 25 (.call 28 []),iA 5 wAK,wAA 5 25] (iS [iA 26 (.bsl 32 4 0 [] []),aM 6 26] (.seq (iS [aN 7 0] (.blk 0 (.loop (.seq (iS [aM 27 7,aM 28 4,aG 29 28,aP 30 .lss 3 27 29] (iD 30 .skip (.exit 0))) (.seq (.blk 1 (.seq (.dreg (tA 0 34 (iT 4 5) (tA 1 35 (iM 3) (tA 2 36 (iM 7) (tA 3 37 (iI 11 35 36) (tA 4 38 (iT 11 37) (tC 39 (iK 29 [34,38]) [] (tA 6 33 (iM 39) (tA 7 40 (iE 33 0) (tA 8 41 (iE 33 1) (tC 8 wAK [8,7,6,4,3,2,1,0] (tC 9 wAM [8,7,6,4,3,2,1,0] (.alt (wAA 8 40) [8] (.alt (wAB 9 41) [] .done .stop) .stop) .stop) (tC 9 wAM [8,7,6,4,3,2,1,0] (tC 8 wAK [8,7,6,4,3,2,1,0] (.alt (wAA 8 40) [8] (.alt (wAB 9 41) [] .done .stop) .stop) .stop) .stop))))) (tC 8 wAK [4,3,2,1,0] (tC 39 (iK 29 [34,38]) [] (tA 6 33 (iM 39) (tA 7 40 (iE 33 0) (tA 8 41 (iE 33 1) (tC 9 wAM [8,7,6,4,3,2,1,0] (.alt (wAA 8 40) [8] (.alt (wAB 9 41) [] .done .stop) .stop) .stop)))) (tC 9 wAM [4,3,2,1,0] (tC 39 (iK 29 [34,38]) [] (tA 6 33 (iM 39) (tA 7 40 (iE 33 0) (tA 8 41 (iE 33 1) (.alt (wAA 8 40) [8] (.alt (wAB 9 41) [] .done .stop) .stop)))) .stop) .stop)) (tC 9 wAM [4,3,2,1,0] (tC 39 (iK 29 [34,38]) [] (tA 6 33 (iM 39) (tA 7 40 (iE 33 0) (tA 8 41 (iE 33 1) (tC 8 wAK [8,7,6,4,3,2,1,0] (.alt (wAA 8 40) [8] (.alt (wAB 9 41) [] .done .stop) .stop) .stop)))) (tC 8 wAK [4,3,2,1,0] (tC 39 (iK 29 [34,38]) [] (tA 6 33 (iM 39) (tA 7 40 (iE 33 0) (tA 8 41 (iE 33 1) (.alt (wAA 8 40) [8] (.alt (wAB 9 41) [] .done .stop) .stop)))) .stop) .stop)) .stop))))))))) (.seq (iS [aM 42 3,aM 43 7,aI 44 11 42 43,aT 45 11 44,iA 46 (iK 30 [45]),aU 47 46,aM 48 47,iB 49 48 false (iT 4 8),iB 50 48 false (iK 18 [49]),iB 51 48 false (iU 50),iA 52 (iY 48 (oT) (.t 51)),aM 53 52,iB 54 53 false (iF 0 9),iB 55 53 false (iL 54),iB 56 53 false (iQ .neq 3 55 0),iB 57 53 false (iM 56),iB 58 57 true (iF 0 9),iB 59 57 true (iL 58),iB 60 57 true (iQ .neq 3 59 9),iB 61 53 false (iY 57 (.t 60) (oF)),iB 62 53 false (iM 61),iB 63 62 true (iT 4 8),iB 64 62 true (iT 4 5),iB 65 62 true (iK 17 [63,64]),iB 66 62 true (iU 65),iB 67 53 false (iY 62 (.t 66) (oF)),iA 68 (iY 53 (oT) (.t 67))] (iD 68 (iS [aO 2 false] .ret) .skip)) (iS [aT 69 4 8,wAA 5 69] (.reg [aM 70 6,aT 71 4 9,iA 72 (wA1 [(0,4,.t 71)]),iA 73 (.app 32 4 32 (.t 70) (.t 72)),aM 6 73]))))) (.reg [aM 31 7,aQ 32 .add 3 31 1,aM 7 32])))))) (iS [iA 75 (.call 28 []),aM 76 3,iA 77 (iK 31 [75,76]),aM 74 77,aE 78 74 0,aE 79 74 1,iA 10 wAK,wAA 10 78,aM 11 79] (iS [iA 81 (.call 33 []),aM 82 4,iA 83 (iK 32 [81,82]),aM 80 83,aE 84 80 0,aE 85 80 1,iA 12 wAK,wAA 12 84,aM 13 85] (iS [aM 86 4,aG 87 86,aQ 88 .quo 3 87 2,aM 14 88] (.seq (.dreg (tA 1 91 (iM 3) (tA 2 92 (iM 14) (tA 3 93 (.sl 11 (.t 91) none (some (.t 92))) (tC 90 (.call 28 []) [3,2,1] (tC 94 (iK 31 [90,93]) [] (tA 5 89 (iM 94) (tA 6 95 (iE 89 0) (tA 7 96 (iE 89 1) (tC 15 wAK [7,6,5,3,2,1] (.alt (wAA 15 95) [7] (tA 10 16 (iM 96) .done) .stop) .stop)))) (tC 15 wAK [3,2,1] (tC 94 (iK 31 [90,93]) [] (tA 5 89 (iM 94) (tA 6 95 (iE 89 0) (tA 7 96 (iE 89 1) (.alt (wAA 15 95) [7] (tA 10 16 (iM 96) .done) .stop)))) .stop) .stop)) (tC 15 wAK [3,2,1] (tC 90 (.call 28 []) [3,2,1] (tC 94 (iK 31 [90,93]) [] (tA 5 89 (iM 94) (tA 6 95 (iE 89 0) (tA 7 96 (iE 89 1) (.alt (wAA 15 95) [7] (tA 10 16 (iM 96) .done) .stop)))) .stop) .stop) .stop)))))) (.seq (.dreg (tA 0 98 (iT 4 15) (tA 1 99 (iM 3) (tA 2 100 (iM 14) (tA 3 101 (.sl 11 (.t 99) (some (.t 100)) none) (tC 102 (iK 31 [98,101]) [] (tA 5 97 (iM 102) (tA 6 103 (iE 97 0) (tA 7 104 (iE 97 1) (tC 17 wAK [7,6,5,3,2,1,0] (.alt (wAA 17 103) [7] (tA 10 18 (iM 104) .done) .stop) .stop)))) (tC 17 wAK [3,2,1,0] (tC 102 (iK 31 [98,101]) [] (tA 5 97 (iM 102) (tA 6 103 (iE 97 0) (tA 7 104 (iE 97 1) (.alt (wAA 17 103) [7] (tA 10 18 (iM 104) .done) .stop)))) .stop) .stop))))))) (iS [aT 105 4 5,aT 106 4 12,iA 107 (iK 17 [105,106]),aM 108 107,iB 109 108 true (iT 4 10),iB 110 108 true (iT 4 12),iB 111 108 true (iK 17 [109,110]),iA 112 (iY 108 (.t 111) (oF)),aM 113 112,iB 114 113 true (iT 4 17),iB 115 113 true (iT 4 12),iB 116 113 true (iK 17 [114,115]),iA 117 (iY 113 (.t 116) (oF)),aM 118 117,iB 119 118 true (iM 6),iB 120 118 true (iM 13),iB 121 118 true (iK 34 [119,120]),iA 122 (iY 118 (.t 121) (oF)),aM 123 122,iB 124 123 true (iM 11),iB 125 123 true (iM 13),iB 126 123 true (iK 34 [124,125]),iA 127 (iY 123 (.t 126) (oF)),aM 2 127] .ret))))))))))))
theorem jhN:fnC Tryz.prog Tryz.f4=some (jeK,[.t 2],128):=by kernel_rfl
theorem jsP (c:List UInt8):kg Tryz.prog 4 [.c (jaU c)] (.c (.val (.bool true))):=by
 refine vZ [[1,1,1,1,1,1,1,1,1,1],[1,1,1,1,1,1,1,1,1,1,1],[1,1,1,1,1,1,1,1,1,1,1,1],[1,1,1,1,1,1,0,1,0,0,1,0,0],[1,1,1,1,1,1,0,1,0,0,1,0,0,1]] Tryz.func4 jhN (by simp) ?_
 unfold jeK;simp only [C.ghs,C.ghAt,List.foldr];simp only [go_sem];have fJ:(jaU c).toRo=.ro (jaU c):=rfl;refine jn (jB7 c) (by simp only [go_sem,fJ]) λfG=>?_
 simp only [go_sem,fJ];by_cases l8:(1048576:Int)<(c.length:Int)
 ·simp only [go_sem,l8]
 have hc:c.length<=1048576:=by omega
 simp only [go_sem,l8];obtain ⟨aIJ,xW⟩:=dD_ok c;have pD:=jiv c hc;generalize dD c=l at*;refine jn (pD) (by simp only [go_sem,fJ]) λdB=>?_
 simp only [go_sem,fJ];refine jn (pD) (by simp only [go_sem,fJ]) λaV=>?_
 simp only [go_sem,fJ];refine jx jaM λv6=>?_
 simp only [go_sem];simp only [go_sem,jb];intro b5 aAE;have hI:=λk=>jCX (l.take k) YdI.new
 have hq:∀k,(doF newYd (l.take k)).seq<=100000:=λk=>by
  have h1:=(hI k).2;have h2:newYd.seq=1:=rfl;have h3:(l.take k).length<=29:=by rw [aMP];omega
  omega
 have aC:∀k,YardOkP (doF newYd (l.take k)):=λk=>(hI k).1.ok (by have:=hq k;omega)
 refine kN (λi:Nat×jm×jm×jm=>St.of [(3,Hd 2200 (dB 0)),(4,Hd 2400 (aV 0)),(5,Bx 500 b5),(6,Hd 2600 i.2.2.2),(7,Ni i.1)] [(2200,.loose (kv l) (dB 0)),(2400,.loose (kv l) (aV 0)),(500,ka b5 tYd (doF newYd (l.take i.1)).now (doF newYd (l.take i.1)).seq (doF newYd (l.take i.1)).aLU i.2.1 (doF newYd (l.take i.1)).aLX i.2.2.1),(2600,.loose (kV (jiB newYd (l.take i.1))) i.2.2.2)]) (λi=>i.1<=l.length) (λi=>l.length-i.1) (0,v6 2,v6 3,aAE) ((aNE _)) (jy [2200,2400,500,2600] (by simp only [go_sem,doF,jiB,aNM,List.foldl_nil]<;>trivial)) ?_
 rintro ⟨i,f2,f3,dL⟩ hi;dsimp only at hi;by_cases aB:i<l.length
 ·have aA:(i:Int)<(l.length:Int):=by omega
  have eK:=qT i;obtain ⟨d,hd⟩:=jd aB;have w7:=aC i;have p8:=aC (i+1);have eH:=w7.small;have fI:=p8.small;have y1:=jAH (y:=newYd) hd;have mU:=jv1 (y:=newYd) hd;obtain ⟨hdB,uZ⟩:=xW d (aMJ hd);rw [y1] at p8 fI;have d7:=do_no (qF w7) hdB;have sK:jbX d<=2000000:=by simp only [jbX,jeZ];omega
  have hRl:(jiB newYd (l.take i)).length<=29:=by rw [jgb,aMP];omega
  have pI:=joq (doF newYd (l.take i)) d (by omega) sK
  generalize doF newYd (l.take i)=z at*;generalize jiB newYd (l.take i)=rs at*;generalize yP:doY z d=z2 at*;generalize yU:doQ z d=r at*;simp only [go_sem,aA];refine qa (WkK.of ?_);refine jjF (λk:Nat×Nat×jm×jm=>St.of [(3,Hd 2200 (dB 0)),(4,Hd 2400 (aV 0)),(5,Bx 500 b5),(6,Hd 2600 dL),(7,Ni i),(8,Bx 800 k.1),(9,Bx 900 k.2.1)] [(2200,.loose (kv l) (dB 0)),(2400,.loose (kv l) (aV 0)),(500,ka b5 tYd z.now z.seq z.aLU f2 z.aLX f3),(2600,.loose (kV rs) dL),(800,ka k.1 tYd z2.now z2.seq z2.aLU k.2.2.1 z2.aLX k.2.2.2),(900,RpB k.2.1 r)]) ?_ ?_
  ·simp only [go_sem,jb,qO,jj,ja,aB,aA,eK,aMX,jaZ hd,jaR aB,jbh hd,jaT hd]
   repeat' first
   |refine And.intro ?_ ?_
   |intro _
   |((refine jn pI (by simp only [go_sem,jb,qO,jj,ja,aB,aA,eK,aMX,jaZ hd,jaR aB,jbh hd,jaT hd];done) λ_=>?_)<;>simp only [go_sem,jb,qO,jj,ja,aB,aA,eK,aMX,jaZ hd,jaR aB,jbh hd,jaT hd])
   all_goals exact ⟨(_,_,_,_),jy [2200,2400,500,2600,800,900] (by simp only [go_sem,jb,qO,jj,ja,aB,aA,eK,aMX,jaZ hd,jaR aB,jbh hd,jaT hd]<;>trivial)⟩
  rintro ⟨b8,b9,g2,g3⟩;have hw:=kX i;have eI:rs.length+1<=maxLen:=by unfold maxLen;omega
  have eC:(rs.length+1)*32<=140737488355328:=by omega
  have eU:=jh1 rs r;simp only [qO] at eU;simp only [go_sem,jb,qO,jj,ja,aB,aA,eK,aMX,jaZ hd,jaR aB,jbh hd,jaT hd];refine jn (jfN d (by omega)) (by simp only [go_sem,jb,qO,jj,ja,aB,aA,eK,aMX,jaZ hd,jaR aB,jbh hd,jaT hd]) λbH=>?_
  simp only [go_sem,jb,qO,jj,ja,aB,aA,eK,aMX,jaZ hd,jaR aB,jbh hd,jaT hd];simp only [go_sem,hdB];refine jx (kJ z2 (by omega)) λcH=>?_
  simp only [go_sem,jb];have fZ:=qF p8;by_cases c0:r.code=0
  ·have e0:(r.code !=0)=false:=by simp [c0]
   simp only [go_sem,fZ,e0,eI,eC,eU,hw,qO];intro v8 nY;exact ql (i+1,g2,g3,nY) (jy [2200,2400,500,7300] (by simp only [go_sem,hw,y1,mU,eU]<;>trivial))
  have e0:(r.code !=0)=true:=by simp [c0]
  by_cases c9:r.code=9
  ·have e9:(r.code !=9)=false:=by simp [c9]
   simp only [go_sem,fZ,e0,e9,eI,eC,eU,hw,qO];intro v8 nY;exact ql (i+1,g2,g3,nY) (jy [2200,2400,500,7300] (by simp only [go_sem,hw,y1,mU,eU]<;>trivial))
  have e9:(r.code !=9)=true:=by simp [c9]
  have eJ:=d7 c0 c9;subst eJ;simp only [go_sem,fZ,e0,e9];refine jx (jaL z2 (by omega)) λbC=>?_
  simp only [go_sem,jb];simp only [go_sem,eI,eC,eU,hw,qO];intro v8 nY;exact ql (i+1,g2,g3,nY) (jy [2200,2400,500,7300] (by simp only [go_sem,hw,y1,mU,eU]<;>trivial))
 have aA:¬(i:Int)<(l.length:Int):=by omega
 obtain rfl:i=l.length:=by omega
 have wZ:=aC l.length;have hsL:=wZ.small;have hF:=(rfl:doF newYd l=doF newYd l);have hT:jd9 l<=2000000:=by have:=jgc l λd hd=>(xW d hd).2;omega
 have hN:jt newYd<=1100000:=by decide
 have pA:=jcX newYd l hN hT;have pB:=joi newYd l hN hT;rw [aOI] at wZ hsL⊢;simp only [go_sem,aA];refine jx jaM λrR=>?_
 simp only [go_sem];refine jx pA λmE=>?_
 simp only [go_sem,jb];intro b10;refine jx jjP λuM=>?_
 simp only [go_sem,jb];refine jx pB λnO=>?_
 simp only [go_sem,jb];intro b12;have xP:((l.length:Int)).tdiv 2=((l.length/2:Nat):Int):=by rw [Int.tdiv_eq_ediv_of_nonneg (by omega)];omega
 have hwh:IntKind.i64.wrap ((l.length/2:Nat):Int)=((l.length/2:Nat):Int):=zy;have mO:l.length/2<=l.length:=by omega
 generalize hKK:l.length/2=K at*;simp only [go_sem,xP,hwh];have hH:=aC K;have hHs:=hH.small;have htH:jd9 (l.take K)<=2000000:=by have:=jgc (l.take K) λd hd=>(xW d (aPQ hd)).2;rw [aMP] at this;omega
 have pH:=jcX newYd (l.take K) hN htH;have aAU:=jAG newYd l K;have hRS:(jiB newYd l).length<=2000000:=by rw [jgb];omega
 generalize doF newYd (l.take K)=H at*;generalize jiB newYd (l.take K)=RH at*;generalize doF newYd l=Y at*;generalize jiB newYd l=RS at*;refine qa ?_;refine WkK.wk (s':=St.of [(3,Hd 2200 (dB 0)),(4,Hd 2400 (aV 0)),(5,Bx 500 b5),(6,Hd 2600 dL),(10,Bx 1000 b10),(11,Hd 7704 (mE 4)),(12,Bx 1200 b12),(13,Hd 8304 (nO 4)),(14,Ni K)] [(2200,.loose (kv l) (dB 0)),(2400,.loose (kv l) (aV 0)),(500,ka b5 tYd Y.now Y.seq Y.aLU f2 Y.aLX f3),(2600,.loose (kV RS) dL),(1000,ka b10 tYd Y.now Y.seq Y.aLU (mE 2) Y.aLX (mE 3)),(7704,.loose (kV RS) (mE 4)),(1200,ka b12 tYd Y.now Y.seq Y.aLU (nO 2) Y.aLX (nO 3)),(8304,.loose (kV RS) (nO 4))]) (jy [2200,2400,500,2600,1000,7704,1200,8304]) ?_;refine WkK.of ?_;have iH:(0:Int)<=(K:Int):=by omega
 refine jjF (λk:Nat×jm×jm=>St.of [(3,Hd 2200 (dB 0)),(4,Hd 2400 (aV 0)),(5,Bx 500 b5),(6,Hd 2600 dL),(10,Bx 1000 b10),(11,Hd 7704 (mE 4)),(12,Bx 1200 b12),(13,Hd 8304 (nO 4)),(14,Ni K),(15,Bx 1500 k.1)] [(2200,.loose (kv l) (dB 0)),(2400,.loose (kv l) (aV 0)),(500,ka b5 tYd Y.now Y.seq Y.aLU f2 Y.aLX f3),(2600,.loose (kV RS) dL),(1000,ka b10 tYd Y.now Y.seq Y.aLU (mE 2) Y.aLX (mE 3)),(7704,.loose (kV RS) (mE 4)),(1200,ka b12 tYd Y.now Y.seq Y.aLU (nO 2) Y.aLX (nO 3)),(8304,.loose (kV RS) (nO 4)),(1500,ka k.1 tYd H.now H.seq H.aLU k.2.1 H.aLX k.2.2)]) ?_ ?_
 ·simp only [go_sem,jb,mO,iH,aMQ,aNE]
  repeat' first
  |refine And.intro ?_ ?_
  |intro _
  |((refine jn jaM (by simp only [go_sem,jb];done) λ_=>?_)<;>simp only [go_sem,jb,mO,iH,aMQ,aNE])
  |((refine jn pH (by simp only [go_sem,jb,true_and,and_true];exact ⟨kv l,dB 0,kv l,by simp only [go_sem],rfl,rfl,rfl,rfl,by decide,by rw [jhl];omega,by rw [jlt];simp⟩) λ_=>?_)<;>simp only [go_sem,jb])
  all_goals exact ⟨(_,_,_),jy [2200,2400,500,2600,1000,7704,1200,8304,1500] (by simp only [go_sem,jb]<;>trivial)⟩
 rintro ⟨b15,g2,g3⟩;have htG:jd9 (l.drop K)<=2000000:=by have:=jgc (l.drop K) λd hd=>(xW d (aPK hd)).2;rw [aND] at this;omega
 have pG:=jcX H (l.drop K) (by omega) htG
 rw [aAU] at pG;generalize jiB H (l.drop K)=RG at*;refine jjF (λk:Nat×jm×jm=>St.of [(3,Hd 2200 (dB 0)),(4,Hd 2400 (aV 0)),(5,Bx 500 b5),(6,Hd 2600 dL),(10,Bx 1000 b10),(11,Hd 7704 (mE 4)),(12,Bx 1200 b12),(13,Hd 8304 (nO 4)),(14,Ni K),(17,Bx 1700 k.1)] [(2200,.loose (kv l) (dB 0)),(2400,.loose (kv l) (aV 0)),(500,ka b5 tYd Y.now Y.seq Y.aLU f2 Y.aLX f3),(2600,.loose (kV RS) dL),(1000,ka b10 tYd Y.now Y.seq Y.aLU (mE 2) Y.aLX (mE 3)),(7704,.loose (kV RS) (mE 4)),(1200,ka b12 tYd Y.now Y.seq Y.aLU (nO 2) Y.aLX (nO 3)),(8304,.loose (kV RS) (nO 4)),(1700,ka k.1 tYd Y.now Y.seq Y.aLU k.2.1 Y.aLX k.2.2)]) ?_ ?_
 ·simp only [go_sem,jb,mO,iH,aMQ,aNE]
  repeat' first
  |refine And.intro ?_ ?_
  |intro _
  |exact aMV _
  |((refine jn pG (by simp only [go_sem,jb,true_and,and_true];exact ⟨kv l,dB 0,kv l,by simp only [go_sem],rfl,rfl,rfl,rfl,by decide,by rw [jhl];omega,by rw [jlt,aMO (by rw [aND];omega)]⟩) λ_=>?_)<;>simp only [go_sem,jb])
  all_goals exact ⟨(_,_,_),jy [2200,2400,500,2600,1000,7704,1200,8304,1700] (by simp only [go_sem,jb]<;>trivial)⟩
 rintro ⟨b17,g4,g5⟩;have hYt:jt Y<=2000000:=by omega
 simp only [go_sem];refine jx (jaL Y hYt) λbH=>?_
 simp only [go_sem,jb];refine jx (jaL Y hYt) λcH=>?_
 simp only [go_sem,jb];refine jx (jaL Y hYt) λbC=>?_
 simp only [go_sem,jb];refine jx (jeg RS hRS) λsQ=>?_
 simp only [go_sem];refine jx (jeg RS hRS) λlP=>?_
 simp only [go_sem]
