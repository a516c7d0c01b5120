/- Parts. -/
import Derived.Test.YtekegiiikglhbaaGreatQPlanF
set_option linter.all false
set_option maxHeartbeats 8000000
set_option maxRecDepth 100000
namespace Go.Proofs.YtekegiiikglhbaaGreat
open Go.RowKit Go.Sort
def vZ:C:=iS [iA 2 (.box 109 5 (.t 0)),iA 4 (.mov (.c (.slice none 0 0)))] (iS [iA 8 (.bsl 3 1 0 [] []),aM 5 8] (.seq (iS [aN 6 0] (.blk 0 (.loop (.seq (iS [aM 9 6,aF 10 3 2,aL 11 10,aP 12 .lss 3 9 11] (iD 12 .skip (.exit 0))) (.seq (.blk 1 (iS [aN 7 0] (.blk 2 (.loop (.seq (iS [aM 15 7,aF 16 4 2,aL 17 16,aG 18 17,aP 19 .lss 3 15 18] (iD 19 .skip (.exit 2))) (.seq (.blk 3 (iS [aF 22 4 2,aL 23 22,aM 24 7,aI 25 2 23 24,aF 26 0 25,aL 27 26,aM 28 6,aP 29 .eql 3 27 28,aM 30 29,iB 31 30 true (iF 4 2),iB 32 30 true (iL 31),iB 33 30 true (iM 7),iB 34 30 true (iI 2 32 33),iB 35 30 true (iF 1 34),iB 36 30 true (iL 35),iB 37 30 true (iM 1),iB 38 30 true (iP .eql 3 36 37),iA 39 (iY 30 (.t 38) (oF))] (iD 39 (.reg [aM 40 5,aM 41 6,iA 42 (wAW [(0,1,.t 41)]),iA 43 (.app 3 1 8 (.t 40) (.t 42)),aM 5 43]) .skip))) (.reg [aM 20 7,aQ 21 .add 3 20 1,aM 7 21]))))))) (.reg [aM 13 6,aQ 14 .add 3 13 1,aM 6 14])))))) (iS [aM 44 5,aM 4 44] .ret)))
theorem jaU:fnC Tryz.prog Tryz.f127=some (vZ,[.t 4],45):=by kernel_rfl
def zS:C:=iS [iA 2 (.box 109 5 (.t 0)),iA 4 (.mov (.c (.slice none 0 0)))] (.seq (iS [aT 8 5 2,iA 9 (iK 114 [8]),aQ 10 .neq 3 9 0] (iD 10 (iS [iA 4 (.mov (.c (.slice none 0 0)))] .ret) .skip)) (iS [iA 5 (.mov (.c (.slice none 0 0)))] (.seq (iS [aF 11 4 2,aL 12 11,aG 13 12,aN 14 0] (.blk 0 (.loop (iS [aP 15 .lss 3 14 13] (.seq (iD 15 .skip (.exit 0)) (.seq (.blk 1 (iS [aI 16 2 12 14,aT 17 2 16,iA 7 wAN,wAF 7 17] (iS [aF 18 1 7,aL 19 18,aM 20 1,aP 21 .eql 3 19 20] (iD 21 (.reg [aM 22 5,aF 23 0 7,aL 24 23,iA 25 (wAW [(0,1,.t 24)]),iA 26 (.app 3 1 8 (.t 22) (.t 25)),aM 5 26]) .skip)))) (.reg [aQ 27 .add 3 14 1,aM 14 27]))))))) (iS [aM 28 5,iA 29 (iK 139 [28])] (iS [aM 30 5,aM 4 30] .ret)))))
theorem jbL:fnC Tryz.prog Tryz.f137=some (zS,[.t 4],31):=by kernel_rfl
theorem jhD (A:List Int):∀n:Nat,(jfb n A).length<=n*A.length
 |0=>by simp [jfb]
 |n+1=>by
  rw [zl,aBE,aDA,Nat.succ_mul];have:=jhD A n;have:=List.count_le_length (a:=(n:Int)) (l:=A);omega
def jhv (F:List Ed->List Int) (es:List Ed) (x j:Nat):List Int:=jfb x (F es)++List.replicate ((F (es.take j)).count (x:Int)) (x:Int)
section
variable {F:List Ed->List Int} {es:List Ed} {x j:Nat}
theorem jrr (h:F []=[]):jhv F es x 0=jfb x (F es):=by simp [jhv,h]
theorem jni:jhv F es x es.length=jfb (x+1) (F es):=by simp [jhv,zl]
theorem jng (h:(F (es.take (j+1))).count (x:Int)=(F (es.take j)).count (x:Int)+1):jhv F es x (j+1)=jhv F es x j++[(x:Int)]:=by simp only [jhv,h,List.replicate_succ',aAZ]
theorem jlb (h:(F (es.take (j+1))).count (x:Int)=(F (es.take j)).count (x:Int)):jhv F es x (j+1)=jhv F es x j:=by simp only [jhv,h]
theorem jnh (hF:∀l:List Ed,(F l).length<=l.length) (hx:x<=12) (he:es.length<=30):(jhv F es x j).length<=1000:=by
 have V:=jhD (F es) x;have Y:=List.count_le_length (a:=(x:Int)) (l:=F (es.take j));have h3:=hF es;have h4:=hF (es.take j);rw [aBA] at h4;have h5:x*(F es).length<=12*30:=Nat.mul_le_mul hx (by omega)
 simp only [jhv,aBE,aDA];omega
end
theorem jii (l:List Ed) (t:Int):(jca l t).length<=l.length:=by simp only [jca,List.length_map];exact aCU _ _
theorem jc7 (p:Pl) (t:Int) (n:Nat) (hn:p.aAB=n) (dN:n<=12) (fA:p.aAC.length<=30):jR Tryz.prog 127 [.agg (ja p),.c (.val (.int .i64 t))] (.c (jp (jad p t))):=by
 refine pf_ jaU ?_;unfold vZ;simp only [go_sem,ja];intro b eJ;refine vn (λi:Nat×jl=>St.of [(1,Ni t),(2,Bx 200 b),(5,Hd 5 i.2),(6,Ni i.1)] [(200,Bi b _ (ja p)),(5,.loose (jp (jfb i.1 (jca p.aAC t))) i.2)]) (λi=>i.1<=n) (λi=>n-i.1) (0,eJ) (jJ [200,800] (by simp only [go_sem,ja,jqY]<;>trivial)) ?_
 rintro ⟨x,eI⟩ hx;dsimp only at hx;by_cases aC:x<n
 ·have aA:(x:Int)<n:=by omega
  have hw:=qg x;have h0:=jrr (F:=λl=>jca l t) (es:=p.aAC) (x:=x) rfl
  have he:=jni (F:=λl=>jca l t) (es:=p.aAC) (x:=x)
  simp only [go_sem,ja,hn,aA];refine vn (λi:Nat×jl=>St.of [(1,Ni t),(2,Bx 200 b),(5,Hd 5 i.2),(6,Ni x),(7,Ni i.1)] [(200,Bi b _ (ja p)),(5,.loose (jp (jhv (λl=>jca l t) p.aAC x i.1)) i.2)]) (λi=>i.1<=p.aAC.length) (λi=>p.aAC.length-i.1) (0,eI) (jJ [200,5] (by simp only [go_sem,ja,hn,h0]<;>trivial)) ?_
  rintro ⟨j,bC⟩ hj;dsimp only at hj;by_cases eC:j<p.aAC.length
  ·have cA:(j:Int)<p.aAC.length:=by omega
   obtain ⟨e,gV⟩:=jd eC;have c9:=qg j;have hc:=jkc gV x t;have d2:=jnh (F:=λl=>jca l t) (es:=p.aAC) (x:=x) (j:=j) (λl=>jii l t) (by omega) fA
   have cZ:(jhv (λl=>jca l t) p.aAC x j).length+1<=maxLen:=jco
   have dC:((jhv (λl=>jca l t) p.aAC x j).length+1)*8<=140737488355328:=by omega
   by_cases V:e.src=x
   ·by_cases Y:e.dst=t
    ·have hs:=jng (F:=λl=>jca l t) (es:=p.aAC) (x:=x) (j:=j) (by rw [hc,if_pos ⟨V,Y⟩])
     have dD:(e.src==(x:Int))=true:=by simpa using V
     have bP:(e.dst==t)=true:=by simpa using Y
     generalize jhv (λl=>jca l t) p.aAC x j=R at*
     simp only [go_sem,ja,hn,eC,cA,js gV,jy,dD,bP,c9,cZ,dC,vz];intro dE bD;exact je1 (j+1,bD) (jJ [200,4300] (by simp only [go_sem,ja,hn,hs]<;>trivial))
    ·have hs:=jlb (F:=λl=>jca l t) (es:=p.aAC) (x:=x) (j:=j) (by rw [hc,if_neg (λh=>Y h.2)];rfl)
     have dD:(e.src==(x:Int))=true:=by simpa using V
     have bP:(e.dst==t)=false:=by simpa using Y
     simp only [go_sem,ja,hn,eC,cA,js gV,jy,dD,bP,c9];exact je1 (j+1,bC) (jJ [200,5] (by simp only [go_sem,ja,hn,hs]<;>trivial))
   ·have hs:=jlb (F:=λl=>jca l t) (es:=p.aAC) (x:=x) (j:=j) (by rw [hc,if_neg (λh=>V h.1)];rfl)
    have dD:(e.src==(x:Int))=false:=by simpa using V
    simp only [go_sem,ja,hn,eC,cA,js gV,jy,dD,c9];exact je1 (j+1,bC) (jJ [200,5] (by simp only [go_sem,ja,hn,hs]<;>trivial))
  ·have cA:¬(j:Int)<p.aAC.length:=by omega
   obtain rfl:j=p.aAC.length:=by omega
   simp only [go_sem,ja,hn,cA,hw];exact je1 (x+1,bC) (jJ [200,5] (by simp only [go_sem,ja,hn,he]<;>trivial))
 ·have aA:¬(x:Int)<n:=by omega
  obtain rfl:x=n:=by omega
  simp only [go_sem,ja,hn,aA,jad,aCI]
theorem jec (p:Pl) (t:Int) (h0:jx p=0):jR Tryz.prog 137 [.agg (ja p),.c (.val (.int .i64 t))] (.c (jp (jad p t))):=by
 obtain ⟨n,hn,dB,dN,fA,cI,aY,-⟩:=jpG h0;refine pf_ jbL ?_;unfold zS;simp only [go_sem,ja];intro b;refine kt (vW p (by omega)) λη=>?_
 simp only [go_sem,ja];simp only [go_sem,ja,h0,aBG];refine vn (λi:Nat×jl=>St.of [(1,Ni t),(5,Hd 5 i.2),(12,Ro (jL p.aAC)),(13,Ni p.aAC.length),(14,Ni i.1)] [(5,.loose (jp (jca (p.aAC.take i.1) t)) i.2)]) (λi=>i.1<=p.aAC.length) (λi=>p.aAC.length-i.1) (0,jjI) (qJ [none] (by simp only [go_sem,ja]<;>trivial)) ?_
 rintro ⟨j,bC⟩ hj;dsimp only at hj;by_cases eC:j<p.aAC.length
 ·have cA:(j:Int)<p.aAC.length:=by omega
  obtain ⟨e,gV⟩:=jd eC;have c9:=qg j;have hc:=jho gV t;have d2:=jii (p.aAC.take j) t;rw [aBA] at d2;generalize jca (p.aAC.take j) t=R at*;have cZ:R.length+1<=maxLen:=jco;have dC:(R.length+1)*8<=140737488355328:=by omega
  by_cases Y:e.dst=t
  ·have bP:(e.dst==t)=true:=by simpa using Y
   rw [if_pos Y] at hc;simp only [go_sem,ja,hn,eC,cA,js gV,jy];intro b2;simp only [go_sem,ja,hn,eC,cA,js gV,jy,bP,c9,cZ,dC,vz];intro dE bD;exact je1 (j+1,bD) (jJ [2600] (by simp only [go_sem,ja,hn,hc]<;>trivial))
  ·have bP:(e.dst==t)=false:=by simpa using Y
   rw [if_neg Y,aBO] at hc;simp only [go_sem,ja,hn,eC,cA,js gV,jy];intro b2;simp only [go_sem,ja,hn,eC,cA,js gV,jy,bP,c9];exact je1 (j+1,bC) (jJ [5] (by simp only [go_sem,ja,hn,hc]<;>trivial))
 ·have cA:¬(j:Int)<p.aAC.length:=by omega
  rw [aAW (by omega)]
  have hA:=jor aY cI t;simp only [go_sem,ja,hn,cA];refine jfy (jfT (jnY (jca p.aAC t) (by omega) _ 5 bC (by simp only [go_sem])) ?_)
  rintro av o' ⟨rfl,l,i,rfl,V,Y⟩;obtain rfl:=jqX (jms cI t) V (by rw [V.1.length_eq];exact Y)
  simp only [go_sem,jkt,jad,hn,aCI]
def jat:C:=iS [iA 2 (.box 112 8 (.t 0)),aO 4 false] (iS [aF 9 7 2,aL 10 9,aM 11 1,aI 12 4 10 11,aT 13 4 12,iA 5 wAO,wAD 5 13] (iS [aN 6 0] (iS [aF 14 1 2,aT 15 5 14,aM 16 1,iA 17 (iK 127 [15,16]),aM 7 17] (.seq (iS [aN 8 0] (.blk 0 (.loop (.seq (iS [aM 18 8,aM 19 7,aG 20 19,aP 21 .lss 3 18 20] (iD 21 .skip (.exit 0))) (.seq (.blk 1 (.seq (.dreg (tA 0 24 (iF 7 2) (tA 1 25 (iL 24) (tA 2 26 (iM 7) (tA 3 27 (iM 8) (tA 4 28 (iI 1 26 27) (tA 5 29 (iL 28) (tA 6 30 (iI 4 25 29) (tA 7 31 (iF 0 30) (tA 8 32 (iL 31) (tA 9 33 (iQ .neq 3 32 4) .done))))))))))) (iD 33 (.reg [aM 34 6,aQ 35 .add 3 34 1,aM 6 35]) .skip))) (.reg [aM 22 8,aQ 23 .add 3 22 1,aM 8 23])))))) (.seq (iS [aF 36 1 5,aL 37 36,aM 38 6,aP 39 .neq 3 37 38,aM 40 39,iB 41 40 false (iF 2 5),iB 42 40 false (iL 41),iB 43 40 false (iF 1 2),iB 44 40 false (iF 1 43),iB 45 40 false (iL 44),iB 46 40 false (.call 41 [.t 42,oI 0,.t 45]),iB 47 40 false (iU 46),iA 48 (iY 40 (oT) (.t 47))] (iD 48 (iS [aO 4 false] .ret) .skip)) (.seq (iS [aF 49 0 5,aL 50 49,aQ 51 .eql 3 50 3,aM 52 51,iB 53 52 true (iF 3 5),iB 54 52 true (iL 53),iB 55 52 true (.call 41 [.t 54,oI 1,oI 1000000000]),iB 56 52 true (iU 55),iA 57 (iY 52 (.t 56) (oF)),aM 58 57,iB 59 58 false (iF 0 5),iB 60 58 false (iL 59),iB 61 58 false (iQ .neq 3 60 3),iB 62 58 false (iM 61),iB 63 62 true (iF 3 5),iB 64 62 true (iL 63),iB 65 62 true (iQ .neq 3 64 0),iB 66 58 false (iY 62 (.t 65) (oF)),iA 67 (iY 58 (oT) (.t 66))] (iD 67 (iS [aO 4 false] .ret) .skip)) (.seq (iS [aF 68 0 5,aL 69 68] (.blk 2 (iS [aQ 71 .eql 3 69 1,aM 70 71] (iD 70 (iS [aM 72 6,aQ 73 .gtr 3 72 0,aM 4 73] .ret) (iS [aQ 75 .eql 3 69 2,aM 74 75] (iD 74 (iS [aM 76 6,aQ 77 .eql 3 76 0,aM 78 77,iB 79 78 true (iF 2 5),iB 80 78 true (iL 79),iB 81 78 true (iF 1 2),iB 82 78 true (iF 1 81),iB 83 78 true (iL 82),iB 84 78 true (iP .lss 3 80 83),iA 85 (iY 78 (.t 84) (oF)),aM 4 85] .ret) (.seq (iS [aQ 87 .eql 3 69 3,aM 86 87] (iD 86 .skip (iS [aQ 88 .eql 3 69 4,aM 86 88] (iD 86 .skip (.reg [aQ 89 .eql 3 69 5,aM 86 89]))))) (iD 86 (iS [aM 90 6,aQ 91 .eql 3 90 0,aM 92 91,iB 93 92 true (iF 2 5),iB 94 92 true (iL 93),iB 95 92 true (iQ .geq 3 94 1),iA 96 (iY 92 (.t 95) (oF)),aM 4 96] .ret) .skip)))))))) (iS [aF 97 0 5,aL 98 97,aQ 99 .eql 3 98 6,aM 4 99] .ret))))))))
theorem jcu:fnC Tryz.prog Tryz.f105=some (jat,[.t 4],100):=by kernel_rfl
def zB:C:=iS [iA 1 (.box 112 8 (.t 0)),aN 2 0] (iS [iA 6 (.bsl 3 1 7 [none,none,none,none,none,none,none] [(0,1,oI 0),(1,1,oI 0),(2,1,oI 0),(3,1,oI 0),(4,1,oI 0),(5,1,oI 0),(6,1,oI 0)]),aM 3 6] (.seq (iS [aN 4 0] (.blk 0 (.loop (.seq (iS [aM 7 4,aF 8 7 1,aL 9 8,aG 10 9,aP 11 .lss 3 7 10] (iD 11 .skip (.exit 0))) (.seq (.blk 1 (.reg [aM 14 3,aF 15 7 1,aL 16 15,aM 17 4,aI 18 4 16 17,aF 19 0 18,aL 20 19,aI 21 1 14 20,aL 22 21,aQ 23 .add 3 22 1,aI 24 1 14 20,wAA 24 23])) (.reg [aM 12 4,aQ 13 .add 3 12 1,aM 4 13])))))) (.seq (.dreg (tA 0 25 (iM 3) (tA 1 26 (.ia 1 (.t 25) (oI 1)) (tA 2 27 (iL 26) (tA 3 28 (iM 3) (tA 4 29 (.ia 1 (.t 28) (oI 2)) (tA 5 30 (iL 29) (tA 6 31 (iP .add 3 27 30) (tA 7 32 (iM 3) (tA 8 33 (.ia 1 (.t 32) (oI 3)) (tA 9 34 (iL 33) (tA 10 35 (iP .add 3 31 34) (tA 11 5 (iM 35) .done))))))))))))) (.seq (.blk 2 (.seq (.dreg (tA 0 37 (iM 3) (tA 1 38 (.ia 1 (.t 37) (oI 4)) (tA 2 39 (iL 38) (tA 3 40 (iF 7 1) (tA 4 41 (iL 40) (tA 5 42 (iG 41) (tA 6 43 (iP .eql 3 39 42) (tA 7 36 (iM 43) .done))))))))) (iD 36 (iS [aN 2 2] .ret) (iS [aM 45 3,iA 46 (.ia 1 (.t 45) (oI 5)),aL 47 46,aQ 48 .eql 3 47 1,aM 49 48,iB 50 49 true (iM 5),iB 51 49 true (iQ .eql 3 50 0),iA 52 (iY 49 (.t 51) (oF)),aM 44 52] (iD 44 (iS [aN 2 3] .ret) (iS [aM 54 3,iA 55 (.ia 1 (.t 54) (oI 5)),aL 56 55,aQ 57 .eql 3 56 0,aM 58 57,iB 59 58 true (iM 3),iB 60 58 true (.ia 1 (.t 59) (oI 6)),iB 61 58 true (iL 60),iB 62 58 true (iQ .gtr 3 61 0),iA 63 (iY 58 (.t 62) (oF)),aM 64 63,iB 65 64 true (iM 5),iB 66 64 true (iQ .eql 3 65 0),iA 67 (iY 64 (.t 66) (oF)),aM 53 67] (iD 53 (iS [aN 2 4] .ret) (iS [aM 69 3,iA 70 (.ia 1 (.t 69) (oI 5)),aL 71 70,aQ 72 .eql 3 71 0,aM 73 72,iB 74 73 true (iM 3),iB 75 73 true (.ia 1 (.t 74) (oI 6)),iB 76 73 true (iL 75),iB 77 73 true (iQ .eql 3 76 0),iA 78 (iY 73 (.t 77) (oF)),aM 68 78] (iD 68 (iS [aN 2 1] .ret) .skip))))))))) (iS [aN 2 0] .ret)))))
theorem jbv:fnC Tryz.prog Tryz.f106=some (zB,[.t 2],79):=by kernel_rfl
def jcZ:C:=iS [iA 1 (.box 112 8 (.t 0)),aO 2 false] (.seq (iS [aF 5 0 1,aL 6 5,iA 7 (.call 41 [.t 6,oI 1,oI 9999]),aU 8 7,aM 9 8,iB 10 9 false (iF 1 1),iB 11 9 false (iT 5 10),iB 12 9 false (iK 104 [11]),iB 13 9 false (iQ .neq 3 12 0),iA 14 (iY 9 (oT) (.t 13)),aM 15 14,iB 16 15 false (iF 7 1),iB 17 15 false (iL 16),iB 18 15 false (iG 17),iB 19 15 false (iF 1 1),iB 20 15 false (iF 3 19),iB 21 15 false (iL 20),iB 22 15 false (iP .neq 3 18 21),iA 23 (iY 15 (oT) (.t 22))] (iD 23 (iS [aO 2 false] .ret) .skip)) (.seq (iS [aN 3 0] (.blk 0 (.loop (.seq (iS [aM 24 3,aF 25 7 1,aL 26 25,aG 27 26,aP 28 .lss 3 24 27] (iD 28 .skip (.exit 0))) (.seq (.blk 1 (iS [aF 31 7 1,aL 32 31,aM 33 3,aI 34 4 32 33,aF 35 0 34,aL 36 35,iA 37 (.call 41 [.t 36,oI 1,oI 6]),aU 38 37] (iD 38 (iS [aO 2 false] .ret) .skip))) (.reg [aM 29 3,aQ 30 .add 3 29 1,aM 3 30])))))) (.seq (iS [aN 4 0] (.blk 2 (.loop (.seq (iS [aM 39 4,aF 40 7 1,aL 41 40,aG 42 41,aP 43 .lss 3 39 42] (iD 43 .skip (.exit 2))) (.seq (.blk 3 (iS [aT 46 8 1,aM 47 4,iA 48 (iK 105 [46,47]),aU 49 48] (iD 49 (iS [aO 2 false] .ret) .skip))) (.reg [aM 44 4,aQ 45 .add 3 44 1,aM 4 45])))))) (.seq (.dreg (tA 0 50 (iF 6 1) (tA 1 51 (iL 50) (tA 2 52 (iT 8 1) (tC 53 (iK 106 [52]) [1,0] (tA 4 54 (iP .eql 3 51 53) (tA 5 55 (iM 54) (tB 6 56 55 true (iF 6 1) (tB 7 57 55 true (iL 56) (tB 8 58 55 true (iQ .neq 3 57 0) (tA 9 59 (iY 55 (.t 58) (oF)) (tA 10 2 (iM 59) .done))))))) .stop))))) .ret))))
theorem jex:fnC Tryz.prog Tryz.f68=some (jcZ,[.t 2],60):=by kernel_rfl
def jfn (ts:List Tk) (l:List Int):Nat:=(l.filter λb=>stT ts b !=4).length
theorem jiS {ts:List Tk} {l:List Int} {k:Nat} {v:Int} {y:Tk} (hv:l[k]?=some v) (hy:ts[v.toNat]?=some y) (h:(y.aAD !=4)=true):jfn ts (l.take (k+1))=jfn ts (l.take k)+1:=by
 rw [aAX,hv];simp [jfn,aCZ,jkL hy,h]
theorem jmh {ts:List Tk} {l:List Int} {k:Nat} {v:Int} {y:Tk} (hv:l[k]?=some v) (hy:ts[v.toNat]?=some y) (h:(y.aAD !=4)=false):jfn ts (l.take (k+1))=jfn ts (l.take k):=by
 rw [aAX,hv];simp [jfn,aCZ,jkL hy,h]
theorem jmi (ts:List Tk) (l:List Int):jfn ts l<=l.length:=aCU _ _
theorem jmr {p:Pl} {n:Nat} (hn:p.aAB=n) {t v:Int} (h:v∈jad p t):0<=v/\v<n:=by
 have:=(jfv h).1;rw [hn,aCI] at this;exact this
theorem jiX {p:Pl} {n:Nat} (hn:p.aAB=n) (dN:n<=12) (fA:p.aAC.length<=30) (t:Int):(jad p t).length<=1000:=by
 have V:=jhD (jca p.aAC t) p.aAB.toNat;have h3:=jii p.aAC t;have h5:p.aAB.toNat*(jca p.aAC t).length<=12*30:=Nat.mul_le_mul (by omega) (by omega)
 unfold jad;omega
theorem jkI (s:Int):s=1\/s=2\/s=3\/s=4\/s=5\/s=6\/((s==1)=false/\(s==2)=false/\(s==3)=false/\(s==4)=false/\(s==5)=false/\(s==6)=false):=by
 by_cases V:s=1; · simp [V]
 by_cases Y:s=2; · simp [Y]
 by_cases h3:s=3; · simp [h3]
 by_cases h4:s=4; · simp [h4]
 by_cases h5:s=5; · simp [h5]
 by_cases h6:s=6; · simp [h6]
 simp [V,Y,h3,h4,h5,h6]
theorem jeP (r:Rn) (t:Nat) (x:Tk) (hx:r.aAB[t]?=some x) (h0:jx r.aAF=0) (aJ:(r.aAB.length:Int)=r.aAF.aAB):jR Tryz.prog 105 [.agg (jc r),.c (.val (.int .i64 t))] (.c (.val (.bool (ju r.aAF r.aAB t x)))):=by
 obtain ⟨n,hn,dB,dN,fA,cI,aY,-⟩:=jpG h0;have cT:=(aAR.1 hx).1;refine pf_ jcu ?_;unfold jat;have tG:=jiX hn dN fA t;have rG:=jaQ t;simp only [go_sem,jc,ja,cT,rG,jE hx,ji];intro b b2;refine kt (jc7 r.aAF t n hn dN fA) λη=>?_
 simp only [go_sem,jc,ja];refine vn (λi:Nat=>St.of [(2,Bx 200 b),(5,Bx 500 b2),(6,Ni (jfn r.aAB ((jad r.aAF t).take i))),(7,Hd 7 (η 0)),(8,Ni i)] [(200,Bi b _ (jc r)),(500,Bi b2 _ (ji x)),(7,.loose (jp (jad r.aAF t)) (η 0))]) (λi=>i<=(jad r.aAF t).length) (λi=>(jad r.aAF t).length-i) 0 (jJ [200,500,1700] (by simp only [go_sem,jc,ja,ji,aCK,jfn,List.filter_nil,aBW]<;>trivial)) ?_
 rintro k hk;by_cases aC:k<(jad r.aAF t).length
 ·have aA:(k:Int)<(jad r.aAF t).length:=by omega
  obtain ⟨v,hv⟩:=jd aC;have rN:=jmr hn (aAY hv);have cQ:v.toNat<r.aAB.length:=by omega
  have lU:=rN.1;obtain ⟨y,hy⟩:=jd cQ;have hw:=qg k;have cJ:=jmi r.aAB ((jad r.aAF t).take k);rw [aBA] at cJ;have dX:IntKind.i64.wrap ((jfn r.aAB ((jad r.aAF t).take k):Int)+1)=((jfn r.aAB ((jad r.aAF t).take k)+1:Nat):Int):=jdD;cases hc:y.aAD !=4
  ·have hs:=jmh hv hy hc
   simp only [go_sem,jc,ja,aC,aA,jf hv,je aC,cQ,lU,jE hy,ji,hc,hw];exact je1 (k+1) (jJ [200,500,7] (by simp only [go_sem,jc,ja,ji,hs]<;>trivial))
  ·have hs:=jiS hv hy hc
   simp only [go_sem,jc,ja,aC,aA,jf hv,je aC,cQ,lU,jE hy,ji,hc,hw,dX];exact je1 (k+1) (jJ [200,500,7] (by simp only [go_sem,jc,ja,ji,hs]<;>trivial))
 have aA:¬(k:Int)<(jad r.aAF t).length:=by omega
 rw [aAW (by omega)]
 have aY:jpO r.aAF r.aAB t=(jfn r.aAB (jad r.aAF t):Int):=rfl;generalize jfn r.aAB (jad r.aAF t)=N at*;cases a7:x.aAL !=(N:Int);rotate_left
 ·have Z:ju r.aAF r.aAB t x=false:=by
   have:¬x.aAL=N:=by simpa using a7
   simp [ju,aY,this]
  simp only [go_sem,jc,ja,ji,aA,a7,Z]
 have bH:x.aAL=N:=by simpa using a7
 simp only [go_sem,jc,ja,ji,aA,a7];refine kt (jt x.tri 0 r.aAF.aAK) λη=>?_
 simp only [go_sem,jc,ja,ji];cases bZ:decide (0<=x.tri/\x.tri<=r.aAF.aAK)
 ·have Z:ju r.aAF r.aAB t x=false:=by simp [ju,inB,bZ]
  simp only [go_sem,jc,ja,ji,Z]
 have bY:0<=x.tri/\x.tri<=r.aAF.aAK:=by simpa using bZ
 rcases jkI x.aAD with hs|hs|hs|hs|hs|hs|⟨s1,s2,s3,s4,s5,s6⟩
 ·cases ht:x.til !=0
  rotate_left
  ·have Z:ju r.aAF r.aAB t x=false:=by
    have:¬x.til=0:=by simpa using ht
    simp [ju,jae,hs,this]
   simp only [go_sem,jc,ja,ji,bZ,hs,ht,Z]
  have cC:x.til=0:=by simpa using ht
  have Z:ju r.aAF r.aAB t x=decide ((N:Int)>0):=by simp [ju,jae,vo,inB,hs,aY,bH,cC,bY]
  simp only [go_sem,jc,ja,ji,bZ,hs,ht,Z]
 ·cases ht:x.til !=0
  rotate_left
  ·have Z:ju r.aAF r.aAB t x=false:=by
    have:¬x.til=0:=by simpa using ht
    simp [ju,jae,hs,this]
   simp only [go_sem,jc,ja,ji,bZ,hs,ht,Z]
  have cC:x.til=0:=by simpa using ht
  cases hz:(N:Int)==0
  ·have cW:¬N=0:=by simpa using hz
   have Z:ju r.aAF r.aAB t x=false:=by simp [ju,jae,vo,inB,hs,aY,bH,cC,bY,cW]
   simp only [go_sem,jc,ja,ji,bZ,hs,ht,hz,Z]
  ·have cW:N=0:=by simpa using hz
   have Z:ju r.aAF r.aAB t x=decide (x.tri<r.aAF.aAK):=by simp [ju,jae,vo,inB,hs,aY,bH,cC,bY,cW]
   simp only [go_sem,jc,ja,ji,bZ,hs,ht,hz,Z]
 ·simp only [go_sem,jc,ja,ji,bZ,hs]
  refine jg (jt x.til 1 1000000000) (by simp only [go_sem,jc,ja,ji,hs]) λη=>?_
  simp only [go_sem,jc,ja,ji,hs];cases ht:decide (1<=x.til/\x.til<=1000000000)
  ·have Z:ju r.aAF r.aAB t x=false:=by simp [ju,jae,inB,hs,ht]
   simp only [go_sem,jc,ja,ji,bZ,hs,Z]
  have cC:1<=x.til/\x.til<=1000000000:=by simpa using ht
  cases hz:(N:Int)==0
  ·have cW:¬N=0:=by simpa using hz
   have Z:ju r.aAF r.aAB t x=false:=by simp [ju,jae,vo,inB,hs,aY,bH,cC,bY,cW]
   simp only [go_sem,jc,ja,ji,bZ,hs,ht,hz,Z]
  ·have cW:N=0:=by simpa using hz
   have Z:ju r.aAF r.aAB t x=decide (x.tri>=1):=by simp [ju,jae,vo,inB,hs,aY,bH,cC,bY,cW]
   simp only [go_sem,jc,ja,ji,bZ,hs,ht,hz,Z]
 ·cases ht:x.til !=0
  rotate_left
  ·have Z:ju r.aAF r.aAB t x=false:=by
    have:¬x.til=0:=by simpa using ht
    simp [ju,jae,hs,this]
   simp only [go_sem,jc,ja,ji,bZ,hs,ht,Z]
  have cC:x.til=0:=by simpa using ht
  cases hz:(N:Int)==0
  ·have cW:¬N=0:=by simpa using hz
   have Z:ju r.aAF r.aAB t x=false:=by simp [ju,jae,vo,inB,hs,aY,bH,cC,bY,cW]
   simp only [go_sem,jc,ja,ji,bZ,hs,ht,hz,Z]
  ·have cW:N=0:=by simpa using hz
   have Z:ju r.aAF r.aAB t x=decide (x.tri>=1):=by simp [ju,jae,vo,inB,hs,aY,bH,cC,bY,cW]
   simp only [go_sem,jc,ja,ji,bZ,hs,ht,hz,Z]
 ·cases ht:x.til !=0
  rotate_left
  ·have Z:ju r.aAF r.aAB t x=false:=by
    have:¬x.til=0:=by simpa using ht
    simp [ju,jae,hs,this]
   simp only [go_sem,jc,ja,ji,bZ,hs,ht,Z]
  have cC:x.til=0:=by simpa using ht
  cases hz:(N:Int)==0
  ·have cW:¬N=0:=by simpa using hz
   have Z:ju r.aAF r.aAB t x=false:=by simp [ju,jae,vo,inB,hs,aY,bH,cC,bY,cW]
   simp only [go_sem,jc,ja,ji,bZ,hs,ht,hz,Z]
  ·have cW:N=0:=by simpa using hz
   have Z:ju r.aAF r.aAB t x=decide (x.tri>=1):=by simp [ju,jae,vo,inB,hs,aY,bH,cC,bY,cW]
   simp only [go_sem,jc,ja,ji,bZ,hs,ht,hz,Z]
 ·cases ht:x.til !=0
  rotate_left
  ·have Z:ju r.aAF r.aAB t x=false:=by
    have:¬x.til=0:=by simpa using ht
    simp [ju,jae,hs,this]
   simp only [go_sem,jc,ja,ji,bZ,hs,ht,Z]
  have cC:x.til=0:=by simpa using ht
  have Z:ju r.aAF r.aAB t x=true:=by simp [ju,jae,vo,inB,hs,aY,bH,cC,bY]
  simp only [go_sem,jc,ja,ji,bZ,hs,ht,Z]
 ·have Z:ju r.aAF r.aAB t x=false:=by
   have V:¬x.aAD=1:=by simpa using s1
   have Y:¬x.aAD=2:=by simpa using s2
   have h3:¬x.aAD=3:=by simpa using s3
   have h4:¬x.aAD=4:=by simpa using s4
   have h5:¬x.aAD=5:=by simpa using s5
   have h6:¬x.aAD=6:=by simpa using s6
   have:¬(1<=x.aAD/\x.aAD<=6):=by omega
   simp [ju,inB,this]
  have s3':(x.aAD !=3)=true:=by simp [bne,s3]
  cases ht:x.til !=0
  ·simp only [go_sem,jc,ja,ji,bZ,s1,s2,s3,s3',s4,s5,s6,ht,Z]
  ·simp only [go_sem,jc,ja,ji,bZ,s1,s2,s3,s3',s4,s5,s6,ht,Z]
theorem jmI {a b:Nat} (h:((a:Int)==(b:Int))=true):a=b:=by have:=eq_of_beq h;omega
theorem jmJ {a b:Nat} (h:((a:Int)==(b:Int))=false):¬a=b:=by have:=ne_of_beq_false h;omega
def cN (ts:List Tk) (k:Nat):List Int:=(List.range 7).map λ(s:Nat)=>(((vg (s:Int) ts k).length:Nat):Int)
theorem jhm (ts:List Tk) (k:Nat):(cN ts k).length=7:=by simp [cN]
theorem jaM {ts:List Tk} {k s:Nat} (h:s<7):(cN ts k)[s]?=some (((vg (s:Int) ts k).length:Nat):Int):=by simp [cN,h]
theorem jqr {ts:List Tk} {k:Nat} {x:Tk} (hx:ts[k]?=some x) (h:1<=x.aAD/\x.aAD<=6):(cN ts k).set x.aAD.toNat (((vg x.aAD ts k).length+1:Nat):Int)=cN ts (k+1):=by
 apply aCH
 intro s;rw [aDC,jhm];by_cases e:x.aAD.toNat=s
 ·subst e
  rw [if_pos rfl,if_pos (by omega),jaM (by omega),ja6 hx]
  have:((x.aAD.toNat:Nat):Int)=x.aAD:=by omega
  simp [this]
 ·rw [if_neg e]
  by_cases hs:s<7
  ·rw [jaM hs,jaM hs,ja6 hx,if_neg (by omega)];simp
  ·rw [aBD (by rw [jhm];omega),aBD (by rw [jhm];omega)]
theorem jd5 (r:Rn) (bG:∀x∈r.aAB,1<=x.aAD/\x.aAD<=6) (hl:r.aAB.length<=2000000):jR Tryz.prog 106 [.agg (jc r)] (.c (.val (.int .i64 (jhC r.aAB)))):=by
 refine pf_ jbv ?_;unfold zB;have hz:D.sl 1 jmV [.val (.int .i64 0),.val (.int .i64 0),.val (.int .i64 0),.val (.int .i64 0),.val (.int .i64 0),.val (.int .i64 0),.val (.int .i64 0)]=jp (cN r.aAB 0):=rfl;simp only [go_sem,jc,ja,hz];intro b eJ;refine vn (λi:Nat×jl=>St.of [(1,Bx 100 b),(3,Hd 3 i.2),(4,Ni i.1)] [(100,Bi b _ (jc r)),(3,.loose (jp (cN r.aAB i.1)) i.2)]) (λi=>i.1<=r.aAB.length) (λi=>r.aAB.length-i.1) (0,eJ) (jJ [100,600] (by simp only [go_sem,jc,ja]<;>trivial)) ?_
 rintro ⟨k,η⟩ hk;dsimp only at hk;by_cases aC:k<r.aAB.length
 ·have aA:(k:Int)<r.aAB.length:=by omega
  obtain ⟨x,hx⟩:=jd aC;have hs:=bG x (aAY hx);have rS:=hs.1;have dA:x.aAD>=0:=by omega
  have n8:0<=x.aAD:=by omega
  have l4:x.aAD.toNat<7:=by omega
  have rR:x.aAD.toNat<(cN r.aAB k).length:=by rw [jhm];exact l4
  have hw:=qg k;have hg:=jaM (ts:=r.aAB) (k:=k) l4;rw [show ((x.aAD.toNat:Nat):Int)=x.aAD by omega] at hg
  have d2:=ja7 x.aAD r.aAB k;have dX:IntKind.i64.wrap (((vg x.aAD r.aAB k).length:Int)+1)=(((vg x.aAD r.aAB k).length+1:Nat):Int):=jdD;have d3:=jqr hx hs;generalize cN r.aAB k=L at*;simp only [go_sem,jc,ja,aC,aA,jE hx,ji,dA,n8,rR,jf hg,je rR,dX,vO _ rR,d3,hw];exact je1 (k+1,η) (jJ [100,3] (by simp only [go_sem,jc,ja]<;>trivial))
 have aA:¬(k:Int)<r.aAB.length:=by omega
 obtain rfl:k=r.aAB.length:=by omega
 have wU:=jkx bG r.aAB.length (aAV _);have dV:jhC r.aAB=if (vg 4 r.aAB r.aAB.length).length=r.aAB.length then 2 else if (vg 5 r.aAB r.aAB.length).length=1/\(vg 4 r.aAB r.aAB.length).length+(vg 5 r.aAB r.aAB.length).length+(vg 6 r.aAB r.aAB.length).length=r.aAB.length then 3 else if (vg 5 r.aAB r.aAB.length).length=0/\0<(vg 6 r.aAB r.aAB.length).length/\(vg 4 r.aAB r.aAB.length).length+(vg 5 r.aAB r.aAB.length).length+(vg 6 r.aAB r.aAB.length).length=r.aAB.length then 4 else if (vg 5 r.aAB r.aAB.length).length=0/\(vg 6 r.aAB r.aAB.length).length=0 then 1 else 0:=rfl
 have g1:(cN r.aAB r.aAB.length)[1]?=some (((vg 1 r.aAB r.aAB.length).length:Nat):Int):=jaM (s:=1) (by omega)
 have g2:(cN r.aAB r.aAB.length)[2]?=some (((vg 2 r.aAB r.aAB.length).length:Nat):Int):=jaM (s:=2) (by omega)
 have g3:(cN r.aAB r.aAB.length)[3]?=some (((vg 3 r.aAB r.aAB.length).length:Nat):Int):=jaM (s:=3) (by omega)
 have g4:(cN r.aAB r.aAB.length)[4]?=some (((vg 4 r.aAB r.aAB.length).length:Nat):Int):=jaM (s:=4) (by omega)
 have g5:(cN r.aAB r.aAB.length)[5]?=some (((vg 5 r.aAB r.aAB.length).length:Nat):Int):=jaM (s:=5) (by omega)
 have g6:(cN r.aAB r.aAB.length)[6]?=some (((vg 6 r.aAB r.aAB.length).length:Nat):Int):=jaM (s:=6) (by omega)
 have cJ:=jhm r.aAB r.aAB.length;rw [dV];generalize hL:r.aAB.length=len at*;generalize (vg 1 r.aAB len).length=c1 at*;generalize (vg 2 r.aAB len).length=c2 at*;generalize (vg 3 r.aAB len).length=c3 at*;generalize (vg 4 r.aAB len).length=c4 at*;generalize (vg 5 r.aAB len).length=c5 at*;generalize (vg 6 r.aAB len).length=c6 at*;generalize cN r.aAB len=L at*;clear dV;have i1:1<L.length:=by omega
 have i2:2<L.length:=by omega
 have i3:3<L.length:=by omega
 have i4:4<L.length:=by omega
 have i5:5<L.length:=by omega
 have i6:6<L.length:=by omega
 have w12:IntKind.i64.wrap ((c1:Int)+c2)=((c1+c2:Nat):Int):=by rw [kh (by omega) (by omega)];omega
 have w123:IntKind.i64.wrap (((c1+c2:Nat):Int)+c3)=((c1+c2+c3:Nat):Int):=by rw [kh (by omega) (by omega)];omega
 simp only [go_sem,jc,ja,hL,aA,i1,i2,i3,i4,i5,i6,jf g1,jf g2,jf g3,jf g4,jf g5,jf g6,je i1,je i2,je i3,je i4,je i5,je i6,w12,w123];cases hA:(c4:Int)==len;rotate_left
 ·have mW:c4=len:=jmI hA
  rw [if_pos (by omega)]
  simp only [go_sem,jc,ja,hL,i1,i2,i3,i4,i5,i6,jf g1,jf g2,jf g3,jf g4,jf g5,jf g6,je i1,je i2,je i3,je i4,je i5,je i6,w12,w123,hA]
 have mW:¬c4=len:=jmJ hA;cases hB:(c5:Int)==1;rotate_left
 ·have pL:c5=1:=jmI hB
  have iX:((c5:Int)==0)=false:=by rw [pL];rfl
  cases hR:((c1+c2+c3:Nat):Int)==0
  ·have mU:¬c1+c2+c3=0:=jmJ hR
   rw [if_neg (by omega),if_neg (by omega),if_neg (by omega),if_neg (by omega)]
   simp only [go_sem,jc,ja,hL,i1,i2,i3,i4,i5,i6,jf g1,jf g2,jf g3,jf g4,jf g5,jf g6,je i1,je i2,je i3,je i4,je i5,je i6,w12,w123,hA,hB,iX,hR]
  ·have mU:c1+c2+c3=0:=jmI hR
   rw [if_neg (by omega),if_pos (by omega)]
   simp only [go_sem,jc,ja,hL,i1,i2,i3,i4,i5,i6,jf g1,jf g2,jf g3,jf g4,jf g5,jf g6,je i1,je i2,je i3,je i4,je i5,je i6,w12,w123,hA,hB,hR]
 have pL:¬c5=1:=jmJ hB;cases hC:(c5:Int)==0
 ·have tV:¬c5=0:=jmJ hC
  rw [if_neg (by omega),if_neg (by omega),if_neg (by omega),if_neg (by omega)]
  simp only [go_sem,jc,ja,hL,i1,i2,i3,i4,i5,i6,jf g1,jf g2,jf g3,jf g4,jf g5,jf g6,je i1,je i2,je i3,je i4,je i5,je i6,w12,w123,hA,hB,hC]
 have tV:c5=0:=jmI hC;by_cases h6:0<c6
 ·have fL:(c6:Int)>0:=by omega
  have gQ:((c6:Int)==0)=false:=by simp only [beq_eq_false_iff_ne,ne_eq];omega
  cases hR:((c1+c2+c3:Nat):Int)==0
  ·have mU:¬c1+c2+c3=0:=jmJ hR
   rw [if_neg (by omega),if_neg (by omega),if_neg (by omega),if_neg (by omega)]
   simp only [go_sem,jc,ja,hL,i1,i2,i3,i4,i5,i6,jf g1,jf g2,jf g3,jf g4,jf g5,jf g6,je i1,je i2,je i3,je i4,je i5,je i6,w12,w123,hA,hB,hC,fL,gQ,hR]
  ·have mU:c1+c2+c3=0:=jmI hR
   rw [if_neg (by omega),if_neg (by omega),if_pos (by omega)]
   simp only [go_sem,jc,ja,hL,i1,i2,i3,i4,i5,i6,jf g1,jf g2,jf g3,jf g4,jf g5,jf g6,je i1,je i2,je i3,je i4,je i5,je i6,w12,w123,hA,hB,hC,fL,hR]
 ·have fL:¬(c6:Int)>0:=by omega
  have gQ:((c6:Int)==0)=true:=by simp only [aDH];omega
  rw [if_neg (by omega),if_neg (by omega),if_neg (by omega),if_pos (by omega)]
  simp only [go_sem,jc,ja,hL,i1,i2,i3,i4,i5,i6,jf g1,jf g2,jf g3,jf g4,jf g5,jf g6,je i1,je i2,je i3,je i4,je i5,je i6,w12,w123,hA,hB,hC,fL,gQ]
theorem jgt {r:Rn} (V:inB r.id 1 9999=true) (Y:jx r.aAF=0) (h3:(r.aAB.length:Int)=r.aAF.aAB) (h4:∀(t:Nat) (x:Tk),r.aAB[t]?=some x->ju r.aAF r.aAB t x=true) (h5:r.aAD=jhC r.aAB) (h6:r.aAD≠0):kb r=true:=runOk_iff.2 ⟨V,Y,h3,h4,h5,h6⟩
theorem jip {p:Pl} {ts:List Tk} {t:Nat} {x:Tk} (h:¬(1<=x.aAD/\x.aAD<=6)):ju p ts t x=false:=by simp [ju,inB,h]
theorem jgx (r:Rn):jR Tryz.prog 68 [.agg (jc r)] (.c (.val (.bool (kb r)))):=by
 refine pf_ jex ?_;unfold jcZ;simp only [go_sem,jc,ja];intro b;refine kt (jt r.id 1 9999) λη=>?_
 simp only [go_sem,jc,ja];cases V:decide (1<=r.id/\r.id<=9999)
 ·have Z:kb r=false:=kq λh=>by have:=h.id;simp [inB,V] at this
  simp only [go_sem,jc,ja,V,Z]
 simp only [go_sem,jc,ja,V];refine kt (jc8 r.aAF) λη=>?_
 simp only [go_sem,jc,ja];cases Y:jx r.aAF !=0;rotate_left
 ·have Z:kb r=false:=kq λh=>by have:=h.aAF;simp [this] at Y
  simp only [go_sem,jc,ja,Y,Z]
 have h0:jx r.aAF=0:=by simpa using Y
 obtain ⟨n,hn,dB,dN,fA,cI,aY,-⟩:=jpG h0;simp only [go_sem,jc,ja,Y];cases h3:(r.aAB.length:Int) !=r.aAF.aAB;rotate_left
 ·have Z:kb r=false:=kq λh=>by have:=h.len;simp [this] at h3
  simp only [go_sem,jc,ja,h3,Z]
 have aJ:(r.aAB.length:Int)=r.aAF.aAB:=by simpa using h3
 have xK:r.aAB.length<=12:=by omega
 simp only [go_sem,jc,ja,h3];refine vn (λi:Nat=>St.of [(1,Bx 100 b),(3,Ni i)] [(100,Bi b _ (jc r))]) (λi=>i<=r.aAB.length/\∀x∈r.aAB.take i,1<=x.aAD/\x.aAD<=6) (λi=>r.aAB.length-i) 0 (jJ [100] (by simp only [go_sem,jc,ja]<;>trivial)) ?_
 rintro k ⟨hk,bF⟩;by_cases aC:k<r.aAB.length
 ·have aA:(k:Int)<r.aAB.length:=by omega
  obtain ⟨x,hx⟩:=jd aC;have hw:=qg k;simp only [go_sem,jc,ja,aC,aA,jE hx,ji];refine kt (jt x.aAD 1 6) λη=>?_
  simp only [go_sem,jc,ja];cases hs:decide (1<=x.aAD/\x.aAD<=6)
  ·have Z:kb r=false:=kq λh=>by have:=h.aAB k x hx;rw [jip (by simpa using hs)] at this;cases this
   simp only [go_sem,jc,ja,hs,Z]
  ·have rT:1<=x.aAD/\x.aAD<=6:=by simpa using hs
   simp only [go_sem,jc,ja,hs,hw];exact ⟨k+1,⟨aC,λy hy=>by rw [aAX,hx] at hy;simp at hy;rcases hy with hy|hy;exact bF y hy;exact hy▸rT⟩,(jJ [100] (by simp only [go_sem,jc,ja]<;>trivial)),by (try dsimp only);omega⟩
 have aA:¬(k:Int)<r.aAB.length:=by omega
 rw [aAW (by omega)] at bF
 simp only [go_sem,jc,ja,aA];refine vn (λi:Nat=>St.of [(1,Bx 100 b),(4,Ni i)] [(100,Bi b _ (jc r))]) (λi=>i<=r.aAB.length/\∀(t:Nat) (x:Tk),t<i->r.aAB[t]?=some x->ju r.aAF r.aAB t x=true) (λi=>r.aAB.length-i) 0 (jJ [100] (by simp only [go_sem,jc,ja]<;>trivial)) ?_
 rintro j ⟨hj,cH⟩;by_cases bE:j<r.aAB.length
 ·have aR:(j:Int)<r.aAB.length:=by omega
  obtain ⟨x,hx⟩:=jd bE;have hw:=qg j;simp only [go_sem,jc,ja,aR];refine kt (jeP r j x hx h0 aJ) λη=>?_
  simp only [go_sem,jc,ja];cases hs:ju r.aAF r.aAB j x
  ·have Z:kb r=false:=kq λh=>by have:=h.aAB j x hx;rw [hs] at this;cases this
   simp only [go_sem,jc,ja,hs,Z]
  ·simp only [go_sem,jc,ja,hs,hw]
   exact ⟨j+1,⟨bE,λt y ht hy=>by rcases Nat.lt_or_ge t j with h'|h';exact cH t y h' hy;obtain rfl:t=j:=(by omega);rw [hx] at hy;cases hy;exact hs⟩,(jJ [100] (by simp only [go_sem,jc,ja]<;>trivial)),by (try dsimp only);omega⟩
 have aR:¬(j:Int)<r.aAB.length:=by omega
 have bU:∀(t:Nat) (x:Tk),r.aAB[t]?=some x->ju r.aAF r.aAB t x=true:=λt x hx=>cH t x (by have:=(aAR.1 hx).1;omega) hx
 simp only [go_sem,jc,ja,aR];refine kt (jd5 r bF (by omega)) λη=>?_
 simp only [go_sem,jc,ja];cases h5:r.aAD==jhC r.aAB
 ·have Z:kb r=false:=kq λh=>by have:=h.aAD;simp [<-this] at h5
  simp only [go_sem,jc,ja,h5,Z]
 cases h6:r.aAD !=0
 ·have Z:kb r=false:=kq λh=>h.live (by simpa using h6)
  simp only [go_sem,jc,ja,h5,h6,Z]
 ·have Z:kb r=true:=jgt (by simpa [inB] using V) h0 aJ bU (by simpa using h5) (by simpa using h6)
  simp only [go_sem,jc,ja,h5,h6,Z]
def jb2:C:=iS [iA 2 (.box 112 8 (.t 0)),aN 4 0] (iS [aN 5 0] (.seq (iS [aF 8 1 2,aT 9 5 8,aM 10 1,iA 11 (iK 137 [9,10]),aG 12 11,aN 13 0] (.blk 0 (.loop (iS [aP 14 .lss 3 13 12] (.seq (iD 14 .skip (.exit 0)) (.seq (.blk 1 (iS [aI 15 1 11 13,aL 16 15,aM 7 16] (iS [aF 17 7 2,aL 18 17,aM 19 7,aI 20 4 18 19,aF 21 0 20,aL 22 21,aQ 23 .neq 3 22 4] (iD 23 (.reg [aM 24 5,aQ 25 .add 3 24 1,aM 5 25]) .skip)))) (.reg [aQ 26 .add 3 13 1,aM 13 26]))))))) (iS [aM 27 5,aM 4 27] .ret)))
theorem jdt:fnC Tryz.prog Tryz.f132=some (jb2,[.t 4],28):=by kernel_rfl
def jb0:C:=iS [iA 2 (.box 112 8 (.t 0)),aO 4 false] (iS [aF 6 7 2,aL 7 6,aM 8 1,aI 9 4 7 8,aT 10 4 9,iA 5 wAO,wAD 5 10] (.seq (.seq (.dreg (tA 0 11 (iF 0 5) (tA 1 12 (iL 11) (tC 13 (.call 51 [.t 12,oI 1,oI 6]) [] (tA 3 14 (iU 13) (tA 4 15 (iM 14) (tB 5 16 15 false (iF 1 5) (tB 6 17 15 false (iL 16) (tB 7 18 15 false (iT 8 2) (tB 8 19 15 false (iM 1) (.alt (iB 20 15 false (iK 132 [18,19])) [6,5] (tB 10 21 15 false (iP .neq 3 17 20) (tA 11 22 (iY 15 (oT) (.t 21)) (tA 12 23 (iM 22) (tB 13 24 23 false (iF 2 5) (tB 14 25 23 false (iL 24) (tB 15 26 23 false (iF 1 2) (tB 16 27 23 false (iF 1 26) (tB 17 28 23 false (iL 27) (.alt (iB 29 23 false (.call 51 [.t 25,oI 0,.t 28])) [] (tB 19 30 23 false (iU 29) (tA 20 31 (iY 23 (oT) (.t 30)) .done)) .stop))))))))) .stop))))))) .stop)))) (iD 31 (iS [aO 4 false] .ret) .skip)) (.seq (iS [aF 32 0 5,aL 33 32,aQ 34 .eql 3 33 3,aM 35 34,iB 36 35 true (iF 3 5),iB 37 35 true (iL 36),iB 38 35 true (.call 51 [.t 37,oI 1,oI 1000000000]),iB 39 35 true (iU 38),iA 40 (iY 35 (.t 39) (oF)),aM 41 40,iB 42 41 false (iF 0 5),iB 43 41 false (iL 42),iB 44 41 false (iQ .neq 3 43 3),iB 45 41 false (iM 44),iB 46 45 true (iF 3 5),iB 47 45 true (iL 46),iB 48 45 true (iQ .neq 3 47 0),iB 49 41 false (iY 45 (.t 48) (oF)),iA 50 (iY 41 (oT) (.t 49))] (iD 50 (iS [aO 4 false] .ret) .skip)) (.seq (iS [aF 51 0 5,aL 52 51] (.blk 0 (iS [aQ 54 .eql 3 52 1,aM 53 54] (iD 53 (iS [aF 55 1 5,aL 56 55,aQ 57 .gtr 3 56 0,aM 4 57] .ret) (iS [aQ 59 .eql 3 52 2,aM 58 59] (iD 58 (iS [aF 60 1 5,aL 61 60,aQ 62 .eql 3 61 0,aM 63 62,iB 64 63 true (iF 2 5),iB 65 63 true (iL 64),iB 66 63 true (iF 1 2),iB 67 63 true (iF 1 66),iB 68 63 true (iL 67),iB 69 63 true (iP .lss 3 65 68),iA 70 (iY 63 (.t 69) (oF)),aM 4 70] .ret) (.seq (iS [aQ 72 .eql 3 52 3,aM 71 72] (iD 71 .skip (iS [aQ 73 .eql 3 52 4,aM 71 73] (iD 71 .skip (.reg [aQ 74 .eql 3 52 5,aM 71 74]))))) (iD 71 (iS [aF 75 1 5,aL 76 75,aQ 77 .eql 3 76 0,aM 78 77,iB 79 78 true (iF 2 5),iB 80 78 true (iL 79),iB 81 78 true (iQ .geq 3 80 1),iA 82 (iY 78 (.t 81) (oF)),aM 4 82] .ret) .skip)))))))) (iS [aO 4 true] .ret)))))
theorem jdr:fnC Tryz.prog Tryz.f115=some (jb0,[.t 4],83):=by kernel_rfl
def jaK:C:=iS [iA 2 (.box 112 8 (.t 0)),iA 4 (.mov (.c (.slice none 0 0)))] (iS [iA 5 (.mov (.c (.slice none 0 0)))] (.seq (iS [aF 8 7 2,aL 9 8,aG 10 9,aN 11 0] (.blk 0 (.loop (iS [aP 12 .lss 3 11 10] (.seq (iD 12 .skip (.exit 0)) (.seq (.blk 1 (iS [aM 13 11,aI 14 4 9 11,aT 15 4 14,iA 7 wAO,aM 6 13,wAD 7 15] (iS [aF 16 0 7,aL 17 16,aM 18 1,aP 19 .eql 3 17 18] (iD 19 (.reg [aM 20 5,aM 21 6,iA 22 (wAW [(0,1,.t 21)]),iA 23 (.app 3 1 8 (.t 20) (.t 22)),aM 5 23]) .skip)))) (.reg [aQ 24 .add 3 11 1,aM 11 24]))))))) (iS [aM 25 5,aM 4 25] .ret)))
theorem jcL:fnC Tryz.prog Tryz.f116=some (jaK,[.t 4],26):=by kernel_rfl
def jc2:C:=iS [iA 1 (.box 112 8 (.t 0)),aO 2 false] (.seq (iS [aF 8 0 1,aL 9 8,iA 10 (.call 51 [.t 9,oI 1,oI 9999]),aU 11 10,aM 12 11,iB 13 12 false (iF 1 1),iB 14 12 false (iT 5 13),iB 15 12 false (iK 114 [14]),iB 16 12 false (iQ .neq 3 15 0),iA 17 (iY 12 (oT) (.t 16)),aM 18 17,iB 19 18 false (iF 7 1),iB 20 18 false (iL 19),iB 21 18 false (iG 20),iB 22 18 false (iF 1 1),iB 23 18 false (iF 3 22),iB 24 18 false (iL 23),iB 25 18 false (iP .neq 3 21 24),iA 26 (iY 18 (oT) (.t 25))] (iD 26 (iS [aO 2 false] .ret) .skip)) (.seq (iS [aF 27 7 1,aL 28 27,aG 29 28,aN 30 0] (.blk 0 (.loop (iS [aP 31 .lss 3 30 29] (.seq (iD 31 .skip (.exit 0)) (.seq (.blk 1 (iS [aM 32 30,aM 3 32] (iS [aT 33 8 1,aM 34 3,iA 35 (iK 115 [33,34]),aU 36 35] (iD 36 (iS [aO 2 false] .ret) .skip)))) (.reg [aQ 37 .add 3 30 1,aM 30 37]))))))) (.seq (.dreg (tA 0 38 (iT 8 1) (tA 3 41 (iT 8 1) (tA 6 44 (iT 8 1) (tC 39 (.call 116 [.t 38,oI 4]) [6,3] (tA 2 40 (iG 39) (tC 42 (.call 116 [.t 41,oI 5]) [2,6] (tA 5 43 (iG 42) (tC 45 (.call 116 [.t 44,oI 6]) [5,2] (tA 8 46 (iG 45) (tA 9 4 (iM 40) (tA 10 5 (iM 43) (tA 11 6 (iM 46) .done)))) .stop)) .stop)) .stop))))) (iS [aM 47 4,aM 48 5,aP 49 .add 3 47 48,aM 50 6,aP 51 .add 3 49 50,aF 52 7 1,aL 53 52,aG 54 53,aP 55 .eql 3 51 54,aM 7 55] (.seq (.blk 2 (iS [aM 57 4,aF 58 7 1,aL 59 58,aG 60 59,aP 61 .eql 3 57 60,aM 56 61] (iD 56 (iS [aF 62 6 1,aL 63 62,aQ 64 .eql 3 63 2,aM 2 64] .ret) (iS [aM 66 5,aQ 67 .eql 3 66 1,aM 68 67,iB 69 68 true (iM 7),iA 70 (iY 68 (.t 69) (oF)),aM 65 70] (iD 65 (iS [aF 71 6 1,aL 72 71,aQ 73 .eql 3 72 3,aM 2 73] .ret) (iS [aM 75 5,aQ 76 .eql 3 75 0,aM 77 76,iB 78 77 true (iM 6),iB 79 77 true (iQ .gtr 3 78 0),iA 80 (iY 77 (.t 79) (oF)),aM 81 80,iB 82 81 true (iM 7),iA 83 (iY 81 (.t 82) (oF)),aM 74 83] (iD 74 (iS [aF 84 6 1,aL 85 84,aQ 86 .eql 3 85 4,aM 2 86] .ret) .skip))))))) (iS [aF 87 6 1,aL 88 87,aQ 89 .eql 3 88 1,aM 90 89,iB 91 90 true (iM 5),iB 92 90 true (iQ .eql 3 91 0),iA 93 (iY 90 (.t 92) (oF)),aM 94 93,iB 95 94 true (iM 6),iB 96 94 true (iQ .eql 3 95 0),iA 97 (iY 94 (.t 96) (oF)),aM 2 97] .ret))))))
theorem jeA:fnC Tryz.prog Tryz.f83=some (jc2,[.t 2],98):=by kernel_rfl
theorem jfH (r:Rn) (t:Nat) (h0:jx r.aAF=0) (aJ:(r.aAB.length:Int)=r.aAF.aAB):jR Tryz.prog 132 [.agg (jc r),.c (.val (.int .i64 t))] (.c (.val (.int .i64 (jfn r.aAB (jad r.aAF t))))):=by
 obtain ⟨n,hn,dB,dN,fA,cI,aY,-⟩:=jpG h0;refine pf_ jdt ?_;unfold jb2;have tG:=jiX hn dN fA t;simp only [go_sem,jc,ja];intro b;refine kt (jec r.aAF t h0) λη=>?_
 simp only [go_sem,jc,ja];refine vn (λi:Nat=>St.of [(2,Bx 200 b),(5,Ni (jfn r.aAB ((jad r.aAF t).take i))),(11,Hd 11 (η 0)),(12,Ni (jad r.aAF t).length),(13,Ni i)] [(200,Bi b _ (jc r)),(11,.loose (jp (jad r.aAF t)) (η 0))]) (λi=>i<=(jad r.aAF t).length) (λi=>(jad r.aAF t).length-i) 0 (jJ [200,1100] (by simp only [go_sem,jc,ja,ji,aCK,jfn,List.filter_nil,aBW]<;>trivial)) ?_
 rintro k hk;by_cases aC:k<(jad r.aAF t).length
 ·have aA:(k:Int)<(jad r.aAF t).length:=by omega
  obtain ⟨v,hv⟩:=jd aC;have rN:=jmr hn (aAY hv);have cQ:v.toNat<r.aAB.length:=by omega
  have lU:=rN.1;obtain ⟨y,hy⟩:=jd cQ;have hw:=qg k;have cJ:=jmi r.aAB ((jad r.aAF t).take k);rw [aBA] at cJ;have dX:IntKind.i64.wrap ((jfn r.aAB ((jad r.aAF t).take k):Int)+1)=((jfn r.aAB ((jad r.aAF t).take k)+1:Nat):Int):=jdD;cases hc:y.aAD !=4
  ·have hs:=jmh hv hy hc
   simp only [go_sem,jc,ja,aC,aA,jf hv,je aC,cQ,lU,jE hy,ji,hc,hw];exact je1 (k+1) (jJ [200,11] (by simp only [go_sem,jc,ja,ji,hs]<;>trivial))
  ·have hs:=jiS hv hy hc
   simp only [go_sem,jc,ja,aC,aA,jf hv,je aC,cQ,lU,jE hy,ji,hc,hw,dX];exact je1 (k+1) (jJ [200,11] (by simp only [go_sem,jc,ja,ji,hs]<;>trivial))
 have aA:¬(k:Int)<(jad r.aAF t).length:=by omega
 rw [aAW (by omega)]
 simp only [go_sem,aA]
theorem vm (r:Rn) (s:Int) (hl:r.aAB.length<=2000000):jR Tryz.prog 116 [.agg (jc r),.c (.val (.int .i64 s))] (.c (jp (jeK s r.aAB))):=by
 refine pf_ jcL ?_;unfold jaK;simp only [go_sem,jc,ja];intro b;refine vn (λi:Nat×jl=>St.of [(1,Ni s),(5,Hd 5 i.2),(9,Ro (ke r.aAB)),(10,Ni r.aAB.length),(11,Ni i.1)] [(5,.loose (jp (vg s r.aAB i.1)) i.2)]) (λi=>i.1<=r.aAB.length) (λi=>r.aAB.length-i.1) (0,jjI) (qJ [none] (by simp only [go_sem,jc,ja,jqS]<;>trivial)) ?_
 rintro ⟨k,η⟩ hk;dsimp only at hk;by_cases aC:k<r.aAB.length
 ·have aA:(k:Int)<r.aAB.length:=by omega
  obtain ⟨x,hx⟩:=jd aC;have hw:=qg k;have hc:=ja6 hx s;have d2:=ja7 s r.aAB k;generalize vg s r.aAB k=R at*;have cZ:R.length+1<=maxLen:=jco;have dC:(R.length+1)*8<=140737488355328:=by omega
  by_cases Y:x.aAD=s
  ·have bP:(x.aAD==s)=true:=by simpa using Y
   rw [if_pos Y] at hc;simp only [go_sem,jc,ja,aC,aA,jE hx,ji];intro b2;simp only [go_sem,ji,bP,hw,cZ,dC,vz];intro dE bD;exact je1 (k+1,bD) (jJ [2300] (by simp only [go_sem,hc]<;>trivial))
  ·have bP:(x.aAD==s)=false:=by simpa using Y
   rw [if_neg Y,aBO] at hc;simp only [go_sem,jc,ja,aC,aA,jE hx,ji];intro b2;simp only [go_sem,ji,bP,hw];exact je1 (k+1,η) (jJ [5] (by simp only [go_sem,hc]<;>trivial))
 have aA:¬(k:Int)<r.aAB.length:=by omega
 obtain rfl:k=r.aAB.length:=by omega
 simp only [go_sem,aA,jeK]
theorem jfF (r:Rn) (t:Nat) (x:Tk) (hx:r.aAB[t]?=some x) (h0:jx r.aAF=0) (aJ:(r.aAB.length:Int)=r.aAF.aAB):jR Tryz.prog 115 [.agg (jc r),.c (.val (.int .i64 t))] (.c (.val (.bool (ju r.aAF r.aAB t x)))):=by
 have cT:=(aAR.1 hx).1;refine pf_ jdr ?_;unfold jb0;have rG:=jaQ t;simp only [go_sem,jc,ja,cT,rG,jE hx,ji];intro b b2;refine kt (jq x.aAD 1 6) λη=>?_
 simp only [go_sem,jc,ja,ji];cases hD:decide (1<=x.aAD/\x.aAD<=6)
 ·have Z:ju r.aAF r.aAB t x=false:=jip (by simpa using hD)
  simp only [go_sem,jc,ja,ji,hD,Z]
 simp only [go_sem,jc,ja,ji,hD];refine kt (jfH r t h0 aJ) λη=>?_
 simp only [go_sem,jc,ja,ji];have aY:jpO r.aAF r.aAB t=(jfn r.aAB (jad r.aAF t):Int):=rfl;generalize jfn r.aAB (jad r.aAF t)=N at*;cases a7:x.aAL !=(N:Int);rotate_left
 ·have Z:ju r.aAF r.aAB t x=false:=by
   have:¬x.aAL=N:=by simpa using a7
   simp [ju,aY,this]
  simp only [go_sem,jc,ja,ji,a7,Z]
 have bH:x.aAL=N:=by simpa using a7
 simp only [go_sem,jc,ja,ji,a7];refine kt (jq x.tri 0 r.aAF.aAK) λη=>?_
 simp only [go_sem,jc,ja,ji];cases bZ:decide (0<=x.tri/\x.tri<=r.aAF.aAK)
 ·have Z:ju r.aAF r.aAB t x=false:=by simp [ju,inB,bZ]
  simp only [go_sem,jc,ja,ji,Z]
 have bY:0<=x.tri/\x.tri<=r.aAF.aAK:=by simpa using bZ
 rcases jkI x.aAD with hs|hs|hs|hs|hs|hs|⟨s1,s2,s3,s4,s5,s6⟩
 ·cases ht:x.til !=0
  rotate_left
  ·have Z:ju r.aAF r.aAB t x=false:=by
    have:¬x.til=0:=by simpa using ht
    simp [ju,jae,hs,this]
   simp only [go_sem,jc,ja,ji,bZ,hs,ht,Z]
  have cC:x.til=0:=by simpa using ht
  have Z:ju r.aAF r.aAB t x=decide ((N:Int)>0):=by simp [ju,jae,vo,inB,hs,aY,bH,cC,bY]
  simp only [go_sem,jc,ja,ji,bZ,hs,ht,Z,bH]
 ·cases ht:x.til !=0
  rotate_left
  ·have Z:ju r.aAF r.aAB t x=false:=by
    have:¬x.til=0:=by simpa using ht
    simp [ju,jae,hs,this]
   simp only [go_sem,jc,ja,ji,bZ,hs,ht,Z]
  have cC:x.til=0:=by simpa using ht
  cases hz:(N:Int)==0
  ·have cW:¬N=0:=by simpa using hz
   have Z:ju r.aAF r.aAB t x=false:=by simp [ju,jae,vo,inB,hs,aY,bH,cC,bY,cW]
   simp only [go_sem,jc,ja,ji,bZ,hs,ht,hz,Z,bH]
  ·have cW:N=0:=by simpa using hz
   have Z:ju r.aAF r.aAB t x=decide (x.tri<r.aAF.aAK):=by simp [ju,jae,vo,inB,hs,aY,bH,cC,bY,cW]
   simp only [go_sem,jc,ja,ji,bZ,hs,ht,hz,Z,bH]
 ·simp only [go_sem,jc,ja,ji,bZ,hs]
  refine jg (jq x.til 1 1000000000) (by simp only [go_sem,jc,ja,ji,hs]) λη=>?_
  simp only [go_sem,jc,ja,ji,hs];cases ht:decide (1<=x.til/\x.til<=1000000000)
  ·have Z:ju r.aAF r.aAB t x=false:=by simp [ju,jae,inB,hs,ht]
   simp only [go_sem,jc,ja,ji,bZ,hs,Z]
  have cC:1<=x.til/\x.til<=1000000000:=by simpa using ht
  cases hz:(N:Int)==0
  ·have cW:¬N=0:=by simpa using hz
   have Z:ju r.aAF r.aAB t x=false:=by simp [ju,jae,vo,inB,hs,aY,bH,cC,bY,cW]
   simp only [go_sem,jc,ja,ji,bZ,hs,ht,hz,Z,bH]
  ·have cW:N=0:=by simpa using hz
   have Z:ju r.aAF r.aAB t x=decide (x.tri>=1):=by simp [ju,jae,vo,inB,hs,aY,bH,cC,bY,cW]
   simp only [go_sem,jc,ja,ji,bZ,hs,ht,hz,Z,bH]
 ·cases ht:x.til !=0
  rotate_left
  ·have Z:ju r.aAF r.aAB t x=false:=by
    have:¬x.til=0:=by simpa using ht
    simp [ju,jae,hs,this]
   simp only [go_sem,jc,ja,ji,bZ,hs,ht,Z]
  have cC:x.til=0:=by simpa using ht
  cases hz:(N:Int)==0
  ·have cW:¬N=0:=by simpa using hz
   have Z:ju r.aAF r.aAB t x=false:=by simp [ju,jae,vo,inB,hs,aY,bH,cC,bY,cW]
   simp only [go_sem,jc,ja,ji,bZ,hs,ht,hz,Z,bH]
  ·have cW:N=0:=by simpa using hz
   have Z:ju r.aAF r.aAB t x=decide (x.tri>=1):=by simp [ju,jae,vo,inB,hs,aY,bH,cC,bY,cW]
   simp only [go_sem,jc,ja,ji,bZ,hs,ht,hz,Z,bH]
 ·cases ht:x.til !=0
  rotate_left
  ·have Z:ju r.aAF r.aAB t x=false:=by
    have:¬x.til=0:=by simpa using ht
    simp [ju,jae,hs,this]
   simp only [go_sem,jc,ja,ji,bZ,hs,ht,Z]
  have cC:x.til=0:=by simpa using ht
  cases hz:(N:Int)==0
  ·have cW:¬N=0:=by simpa using hz
   have Z:ju r.aAF r.aAB t x=false:=by simp [ju,jae,vo,inB,hs,aY,bH,cC,bY,cW]
   simp only [go_sem,jc,ja,ji,bZ,hs,ht,hz,Z,bH]
  ·have cW:N=0:=by simpa using hz
   have Z:ju r.aAF r.aAB t x=decide (x.tri>=1):=by simp [ju,jae,vo,inB,hs,aY,bH,cC,bY,cW]
   simp only [go_sem,jc,ja,ji,bZ,hs,ht,hz,Z,bH]
 ·cases ht:x.til !=0
  rotate_left
  ·have Z:ju r.aAF r.aAB t x=false:=by
    have:¬x.til=0:=by simpa using ht
    simp [ju,jae,hs,this]
   simp only [go_sem,jc,ja,ji,bZ,hs,ht,Z]
  have cC:x.til=0:=by simpa using ht
  have Z:ju r.aAF r.aAB t x=true:=by simp [ju,jae,vo,inB,hs,aY,bH,cC,bY]
  simp only [go_sem,jc,ja,ji,bZ,hs,ht,Z]
 ·have:=aBX hD
  have V:¬x.aAD=1:=by simpa using s1
  have Y:¬x.aAD=2:=by simpa using s2
  have h3:¬x.aAD=3:=by simpa using s3
  have h4:¬x.aAD=4:=by simpa using s4
  have h5:¬x.aAD=5:=by simpa using s5
  have h6:¬x.aAD=6:=by simpa using s6
  omega
theorem jjh {r:Rn} {v:Int} (V:inB r.id 1 9999=true) (Y:jx r.aAF=0) (h3:(r.aAB.length:Int)=r.aAF.aAB) (h4:∀(t:Nat) (x:Tk),r.aAB[t]?=some x->ju r.aAF r.aAB t x=true) (hv:jhC r.aAB=v) (h0:v≠0):kb r=(r.aAD==v):=by
 by_cases h:r.aAD=v
 ·rw [jgt V Y h3 h4 (h.trans hv.symm) (h▸h0)];simp [h]
 ·rw [kq λh'=>h (h'.aAD.trans hv)];simp [h]
theorem jgB (r:Rn) (bT:r.aAF.aAC.length<=4000000):jR Tryz.prog 83 [.agg (jc r)] (.c (.val (.bool (kb r)))):=by
 refine pf_ jeA ?_;unfold jc2;simp only [go_sem,jc,ja];intro b;refine kt (jq r.id 1 9999) λη=>?_
 simp only [go_sem,jc,ja];cases V:decide (1<=r.id/\r.id<=9999)
 ·have Z:kb r=false:=kq λh=>by have:=h.id;simp [inB,V] at this
  simp only [go_sem,jc,ja,V,Z]
 simp only [go_sem,jc,ja,V];refine kt (vW r.aAF bT) λη=>?_
 simp only [go_sem,jc,ja];cases Y:jx r.aAF !=0;rotate_left
 ·have Z:kb r=false:=kq λh=>by have:=h.aAF;simp [this] at Y
  simp only [go_sem,jc,ja,Y,Z]
 have h0:jx r.aAF=0:=by simpa using Y
 obtain ⟨n,hn,dB,dN,fA,cI,aY,-⟩:=jpG h0;simp only [go_sem,jc,ja,Y];cases h3:(r.aAB.length:Int) !=r.aAF.aAB;rotate_left
 ·have Z:kb r=false:=kq λh=>by have:=h.len;simp [this] at h3
  simp only [go_sem,jc,ja,h3,Z]
 have aJ:(r.aAB.length:Int)=r.aAF.aAB:=by simpa using h3
 have xK:r.aAB.length<=12:=by omega
 simp only [go_sem,jc,ja,h3];refine vn (λi:Nat=>St.of [(1,Bx 100 b),(29,Ni r.aAB.length),(30,Ni i)] [(100,Bi b _ (jc r))]) (λi=>i<=r.aAB.length/\∀(t:Nat) (x:Tk),t<i->r.aAB[t]?=some x->ju r.aAF r.aAB t x=true) (λi=>r.aAB.length-i) 0 (jJ [100] (by simp only [go_sem,jc,ja]<;>trivial)) ?_
 rintro j ⟨hj,cH⟩;by_cases bE:j<r.aAB.length
 ·have aR:(j:Int)<r.aAB.length:=by omega
  obtain ⟨x,hx⟩:=jd bE;have hw:=qg j;simp only [go_sem,jc,ja,aR];refine kt (jfF r j x hx h0 aJ) λη=>?_
  simp only [go_sem,jc,ja];cases hs:ju r.aAF r.aAB j x
  ·have Z:kb r=false:=kq λh=>by have:=h.aAB j x hx;rw [hs] at this;cases this
   simp only [go_sem,jc,ja,hs,Z]
  ·simp only [go_sem,jc,ja,hs,hw]
   exact ⟨j+1,⟨bE,λt y ht hy=>by rcases Nat.lt_or_ge t j with h'|h';exact cH t y h' hy;obtain rfl:t=j:=(by omega);rw [hx] at hy;cases hy;exact hs⟩,(jJ [100] (by simp only [go_sem,jc,ja]<;>trivial)),by (try dsimp only);omega⟩
 have aR:¬(j:Int)<r.aAB.length:=by omega
 have bU:∀(t:Nat) (x:Tk),r.aAB[t]?=some x->ju r.aAF r.aAB t x=true:=λt x hx=>cH t x (by have:=(aAR.1 hx).1;omega) hx
 simp only [go_sem,jc,ja,aR];refine kt (vm r 4 (by omega)) λη=>?_
 simp only [go_sem,jc,ja];refine kt (vm r 5 (by omega)) λη=>?_
 simp only [go_sem,jc,ja];refine kt (vm r 6 (by omega)) λη=>?_
 simp only [go_sem,jc,ja];have g7:∀v:Int,jhC r.aAB=v->v≠0->kb r=(r.aAD==v):=λv hv u9=>jjh (by simpa [inB] using V) h0 aJ bU hv u9
 have dV:jhC r.aAB=if (jeK 4 r.aAB).length=r.aAB.length then 2 else if (jeK 5 r.aAB).length=1/\(jeK 4 r.aAB).length+(jeK 5 r.aAB).length+(jeK 6 r.aAB).length=r.aAB.length then 3 else if (jeK 5 r.aAB).length=0/\0<(jeK 6 r.aAB).length/\(jeK 4 r.aAB).length+(jeK 5 r.aAB).length+(jeK 6 r.aAB).length=r.aAB.length then 4 else if (jeK 5 r.aAB).length=0/\(jeK 6 r.aAB).length=0 then 1 else 0:=rfl
 have b4:=ja7 4 r.aAB r.aAB.length;have b5:=ja7 5 r.aAB r.aAB.length;have b6:=ja7 6 r.aAB r.aAB.length;change (jeK 4 r.aAB).length<=_ at b4;change (jeK 5 r.aAB).length<=_ at b5;change (jeK 6 r.aAB).length<=_ at b6;generalize (jeK 4 r.aAB).length=c4 at*;generalize (jeK 5 r.aAB).length=c5 at*;generalize (jeK 6 r.aAB).length=c6 at*;generalize r.aAB.length=L at*;have w45:IntKind.i64.wrap ((c4:Int)+c5)=((c4+c5:Nat):Int):=by rw [kh (by omega) (by omega)];omega
 have w456:IntKind.i64.wrap (((c4+c5:Nat):Int)+c6)=((c4+c5+c6:Nat):Int):=by rw [kh (by omega) (by omega)];omega
 simp only [go_sem,jc,ja,w45,w456];cases hA:(c4:Int)==L;rotate_left
 ·have mW:c4=L:=jmI hA
  have bG:jhC r.aAB=2:=by rw [dV,if_pos (by omega)]
  have Z:kb r=(r.aAD==2):=g7 _ bG (by decide)
  simp only [go_sem,jc,ja,hA,Z]
 have mW:¬c4=L:=jmJ hA;cases hB:(c5:Int)==1;rotate_left
 ·have pL:c5=1:=jmI hB
  have iX:((c5:Int)==0)=false:=by rw [pL];rfl
  cases hR:((c4+c5+c6:Nat):Int)==L
  ·have mU:¬c4+c5+c6=L:=jmJ hR
   have bG:jhC r.aAB=0:=by rw [dV,if_neg (by omega),if_neg (by omega),if_neg (by omega),if_neg (by omega)]
   have Z:kb r=false:=kq λh=>h.live (h.aAD.trans bG)
   simp only [go_sem,jc,ja,hA,hB,iX,hR,Z];cases dA:r.aAD==1
   ·simp only [go_sem,jc,ja,hA,hB,iX,hR,dA,Z]
   ·simp only [go_sem,jc,ja,hA,hB,iX,hR,dA,Z]
  ·have mU:c4+c5+c6=L:=jmI hR
   have bG:jhC r.aAB=3:=by rw [dV,if_neg (by omega),if_pos (by omega)]
   have Z:kb r=(r.aAD==3):=g7 _ bG (by decide)
   simp only [go_sem,jc,ja,hA,hB,hR,Z]
 have pL:¬c5=1:=jmJ hB;cases hC:(c5:Int)==0
 ·have tV:¬c5=0:=jmJ hC
  have bG:jhC r.aAB=0:=by rw [dV,if_neg (by omega),if_neg (by omega),if_neg (by omega),if_neg (by omega)]
  have Z:kb r=false:=kq λh=>h.live (h.aAD.trans bG)
  simp only [go_sem,jc,ja,hA,hB,hC,Z];cases dA:r.aAD==1
  ·simp only [go_sem,jc,ja,hA,hB,hC,dA,Z]
  ·simp only [go_sem,jc,ja,hA,hB,hC,dA,Z]
 have tV:c5=0:=jmI hC;by_cases h6:0<c6
 ·have fL:(c6:Int)>0:=by omega
  have gQ:((c6:Int)==0)=false:=by simp only [beq_eq_false_iff_ne,ne_eq];omega
  cases hR:((c4+c5+c6:Nat):Int)==L
  ·have mU:¬c4+c5+c6=L:=jmJ hR
   have bG:jhC r.aAB=0:=by rw [dV,if_neg (by omega),if_neg (by omega),if_neg (by omega),if_neg (by omega)]
   have Z:kb r=false:=kq λh=>h.live (h.aAD.trans bG)
   simp only [go_sem,jc,ja,hA,hB,hC,fL,gQ,hR,Z];cases dA:r.aAD==1
   ·simp only [go_sem,jc,ja,hA,hB,hC,fL,gQ,hR,dA,Z]
   ·simp only [go_sem,jc,ja,hA,hB,hC,fL,gQ,hR,dA,Z]
  ·have mU:c4+c5+c6=L:=jmI hR
   have bG:jhC r.aAB=4:=by rw [dV,if_neg (by omega),if_neg (by omega),if_pos (by omega)]
   have Z:kb r=(r.aAD==4):=g7 _ bG (by decide)
   simp only [go_sem,jc,ja,hA,hB,hC,fL,hR,Z]
 ·have fL:¬(c6:Int)>0:=by omega
  have gQ:((c6:Int)==0)=true:=by simp only [aDH];omega
  have bG:jhC r.aAB=1:=by rw [dV,if_neg (by omega),if_neg (by omega),if_neg (by omega),if_pos (by omega)]
  have Z:kb r=(r.aAD==1):=g7 _ bG (by decide)
  simp only [go_sem,jc,ja,hA,hB,hC,fL,gQ,Z];cases dA:r.aAD==1
  ·rw [dA] at Z
   simp only [go_sem,jc,ja,hA,hB,hC,fL,gQ,dA,Z]
  ·rw [dA] at Z
   simp only [go_sem,jc,ja,hA,hB,hC,fL,gQ,dA,Z]
