/- Parts. -/
import Derived.Test.YtcehjhiglmifjaaGreatQRunP
set_option linter.all false
set_option maxHeartbeats 8000000
set_option maxRecDepth 100000
namespace Go.Proofs.YtcehjhiglmifjaaGreat
open Go.RowKit Go.Sort
def jcI:C:=iS [iA 2 (.box 49 5 (.t 0)),iA 4 (.mov (.c (.slice none 0 0)))] (iS [iA 8 (wA3 []),aM 5 8] (.seq (iS [aN 6 0] (.blk 0 (.loop (.seq (iS [aM 9 6,aF 10 3 2,aL 11 10,aP 12 .lss 3 9 11] (iD 12 .skip (.exit 0))) (.seq (.blk 1 (iS [aN 7 0] (.blk 2 (.loop (.seq (iS [aM 15 7,aF 16 4 2,aL 17 16,aG 18 17,aP 19 .lss 3 15 18] (iD 19 .skip (.exit 2))) (.seq (.blk 3 (iS [aF 22 4 2,aL 23 22,aM 24 7,aI 25 2 23 24,aF 26 0 25,aL 27 26,aM 28 6,aP 29 .eql 3 27 28,aM 30 29,iB 31 30 true (iF 4 2),iB 32 30 true (iL 31),iB 33 30 true (iM 7),iB 34 30 true (iI 2 32 33),iB 35 30 true (iF 1 34),iB 36 30 true (iL 35),iB 37 30 true (iM 1),iB 38 30 true (iP .eql 3 36 37),iA 39 (iY 30 (.t 38) (oF))] (iD 39 (.reg [aM 40 5,aM 41 6,iA 42 (wA1 [(0,1,.t 41)]),iA 43 (wBA 40 42),aM 5 43]) .skip))) (.reg [aM 20 7,aQ 21 .add 3 20 1,aM 7 21]))))))) (.reg [aM 13 6,aQ 14 .add 3 13 1,aM 6 14])))))) (iS [aM 44 5,aM 4 44] .ret)))
theorem jfQ:fnC Tryz.prog Tryz.f169=some (jcI,[.t 4],45):=by kernel_rfl
def jcH:C:=iS [iA 2 (.box 49 5 (.t 0)),iA 4 (.mov (.c (.slice none 0 0)))] (iS [iA 8 (wA3 []),aM 5 8] (.seq (iS [aN 6 0] (.blk 0 (.loop (.seq (iS [aM 9 6,aF 10 3 2,aL 11 10,aP 12 .lss 3 9 11] (iD 12 .skip (.exit 0))) (.seq (.blk 1 (iS [aN 7 0] (.blk 2 (.loop (.seq (iS [aM 15 7,aF 16 4 2,aL 17 16,aG 18 17,aP 19 .lss 3 15 18] (iD 19 .skip (.exit 2))) (.seq (.blk 3 (iS [aF 22 4 2,aL 23 22,aM 24 7,aI 25 2 23 24,aF 26 0 25,aL 27 26,aM 28 1,aP 29 .eql 3 27 28,aM 30 29,iB 31 30 true (iF 4 2),iB 32 30 true (iL 31),iB 33 30 true (iM 7),iB 34 30 true (iI 2 32 33),iB 35 30 true (iF 1 34),iB 36 30 true (iL 35),iB 37 30 true (iM 6),iB 38 30 true (iP .eql 3 36 37),iA 39 (iY 30 (.t 38) (oF))] (iD 39 (.reg [aM 40 5,aM 41 6,iA 42 (wA1 [(0,1,.t 41)]),iA 43 (wBA 40 42),aM 5 43]) .skip))) (.reg [aM 20 7,aQ 21 .add 3 20 1,aM 7 21]))))))) (.reg [aM 13 6,aQ 14 .add 3 13 1,aM 6 14])))))) (iS [aM 44 5,aM 4 44] .ret)))
theorem jfP:fnC Tryz.prog Tryz.f201=some (jcH,[.t 4],45):=by kernel_rfl
def jd8:C:=iS [iA 2 (.box 49 5 (.t 0)),iA 4 (.mov (.c (.slice none 0 0)))] (.seq (iS [aT 8 5 2,iA 9 (iK 109 [8]),aQ 10 .neq 3 9 0] (iD 10 (iS [iA 4 (.mov (.c (.slice none 0 0)))] .ret) .skip)) (iS [iA 5 (.mov (.c (.slice none 0 0)))] (.seq (iS [aF 11 4 2,aL 12 11,aG 13 12,aN 14 0] (.blk 0 (.loop (iS [aP 15 .lss 3 14 13] (.seq (iD 15 .skip (.exit 0)) (.seq (.blk 1 (iS [aI 16 2 12 14,aT 17 2 16,iA 7 wAP,wAH 7 17] (iS [aF 18 1 7,aL 19 18,aM 20 1,aP 21 .eql 3 19 20] (iD 21 (.reg [aM 22 5,aF 23 0 7,aL 24 23,iA 25 (wA1 [(0,1,.t 24)]),iA 26 (wBA 22 25),aM 5 26]) .skip)))) (.reg [aQ 27 .add 3 14 1,aM 14 27]))))))) (iS [aM 28 5,iA 29 (iK 194 [28])] (iS [aM 30 5,aM 4 30] .ret)))))
theorem jhc:fnC Tryz.prog Tryz.f164=some (jd8,[.t 4],31):=by kernel_rfl
def jd7:C:=iS [iA 2 (.box 49 5 (.t 0)),iA 4 (.mov (.c (.slice none 0 0)))] (.seq (iS [aT 8 5 2,iA 9 (iK 109 [8]),aQ 10 .neq 3 9 0] (iD 10 (iS [iA 4 (.mov (.c (.slice none 0 0)))] .ret) .skip)) (iS [iA 5 (.mov (.c (.slice none 0 0)))] (.seq (iS [aF 11 4 2,aL 12 11,aG 13 12,aN 14 0] (.blk 0 (.loop (iS [aP 15 .lss 3 14 13] (.seq (iD 15 .skip (.exit 0)) (.seq (.blk 1 (iS [aI 16 2 12 14,aT 17 2 16,iA 7 wAP,wAH 7 17] (iS [aF 18 0 7,aL 19 18,aM 20 1,aP 21 .eql 3 19 20] (iD 21 (.reg [aM 22 5,aF 23 1 7,aL 24 23,iA 25 (wA1 [(0,1,.t 24)]),iA 26 (wBA 22 25),aM 5 26]) .skip)))) (.reg [aQ 27 .add 3 14 1,aM 14 27]))))))) (iS [aM 28 5,iA 29 (iK 194 [28])] (iS [aM 30 5,aM 4 30] .ret)))))
theorem jhb:fnC Tryz.prog Tryz.f174=some (jd7,[.t 4],31):=by kernel_rfl
theorem jnM (A:List Int):∀n:Nat,(jkF n A).length<=n*A.length
 |0=>by simp [jkF]
 |n+1=>by
  rw [jda,aNR,aQU,Nat.succ_mul];have:=jnM A n;have:=List.count_le_length (a:=(n:Int)) (l:=A);omega
def jmW (F:List Ed->List Int) (es:List Ed) (x j:Nat):List Int:=jkF x (F es)++List.replicate ((F (es.take j)).count (x:Int)) (x:Int)
section
variable {F:List Ed->List Int} {es:List Ed} {x j:Nat}
theorem jBU (h:F []=[]):jmW F es x 0=jkF x (F es):=by simp [jmW,h]
theorem js8:jmW F es x es.length=jkF (x+1) (F es):=by simp [jmW,jda]
theorem js6 (h:(F (es.take (j+1))).count (x:Int)=(F (es.take j)).count (x:Int)+1):jmW F es x (j+1)=jmW F es x j++[(x:Int)]:=by simp only [jmW,h,List.replicate_succ',aOB]
theorem jnQ (h:(F (es.take (j+1))).count (x:Int)=(F (es.take j)).count (x:Int)):jmW F es x (j+1)=jmW F es x j:=by simp only [jmW,h]
theorem js7 (hF:∀l:List Ed,(F l).length<=l.length) (hx:x<=12) (he:es.length<=30):(jmW F es x j).length<=1000:=by
 have h1:=jnM (F es) x;have h2:=List.count_le_length (a:=(x:Int)) (l:=F (es.take j));have h3:=hF es;have h4:=hF (es.take j);rw [aNV] at h4;have h5:x*(F es).length<=12*30:=Nat.mul_le_mul hx (by omega)
 simp only [jmW,aNR,aQU];omega
end
theorem jsF (l:List Ed) (t:Int):(jf7 l t).length<=l.length:=by simp only [jf7,aPA];exact aOT _ _
theorem jsD (l:List Ed) (t:Int):(jf6 l t).length<=l.length:=by simp only [jf6,aPA];exact aOT _ _
theorem jcy (p:Pl) (t:Int) (n:Nat) (hn:p.aNA=n) (cF:n<=12) (dH:p.aNF.length<=30):jW Tryz.prog 169 [.agg (jd p),.c (.val (.int .i64 t))] (.c (jb (zG p t))):=by
 refine pf_ jfQ ?_;unfold jcI;simp only [go_sem,jd];intro b fB;refine qY (λi:Nat×jf=>St.of [(1,Ni t),(2,Bx 200 b),(5,Hd 5 i.2),(6,Ni i.1)] [(200,Bi b _ (jd p)),(5,.loose (jb (jkF i.1 (jf7 p.aNF t))) i.2)]) (λi=>i.1<=n) (λi=>n-i.1) (0,fB) (jt [200,800] (by simp only [go_sem,jd,jBN]<;>trivial)) ?_
 rintro ⟨x,eH⟩ hx;dsimp only at hx;by_cases aB:x<n
 ·have aA:(x:Int)<n:=by omega
  have hw:=kx x;have h0:=jBU (F:=λl=>jf7 l t) (es:=p.aNF) (x:=x) rfl
  have he:=js8 (F:=λl=>jf7 l t) (es:=p.aNF) (x:=x)
  simp only [go_sem,jd,hn,aA];refine qY (λi:Nat×jf=>St.of [(1,Ni t),(2,Bx 200 b),(5,Hd 5 i.2),(6,Ni x),(7,Ni i.1)] [(200,Bi b _ (jd p)),(5,.loose (jb (jmW (λl=>jf7 l t) p.aNF x i.1)) i.2)]) (λi=>i.1<=p.aNF.length) (λi=>p.aNF.length-i.1) (0,eH) (jt [200,5] (by simp only [go_sem,jd,hn,h0]<;>trivial)) ?_
  rintro ⟨j,aS⟩ hj;dsimp only at hj;by_cases dU:j<p.aNF.length
  ·have bB:(j:Int)<p.aNF.length:=by omega
   obtain ⟨e,lU⟩:=ja dU;have dF:=kx j;have hc:=jvQ lU x t;have cE:=js7 (F:=λl=>jf7 l t) (es:=p.aNF) (x:=x) (j:=j) (λl=>jsF l t) (by omega) dH
   have dI:(jmW (λl=>jf7 l t) p.aNF x j).length+1<=maxLen:=zy
   have eB:((jmW (λl=>jf7 l t) p.aNF x j).length+1)*8<=140737488355328:=by omega
   by_cases h1:e.src=x
   ·by_cases h2:e.dst=t
    ·have hs:=js6 (F:=λl=>jf7 l t) (es:=p.aNF) (x:=x) (j:=j) (by rw [hc,if_pos ⟨h1,h2⟩])
     have cW:(e.src==(x:Int))=true:=by simpa using h1
     have bI:(e.dst==t)=true:=by simpa using h2
     generalize jmW (λl=>jf7 l t) p.aNF x j=R at*
     simp only [go_sem,jd,hn,dU,bB,jD lU,jK,cW,bI,dF,dI,eB,kT];intro cI dP;exact qf (j+1,dP) (jt [200,4300] (by simp only [go_sem,hs]<;>trivial))
    ·have hs:=jnQ (F:=λl=>jf7 l t) (es:=p.aNF) (x:=x) (j:=j) (by rw [hc,if_neg (λh=>h2 h.2)];rfl)
     have cW:(e.src==(x:Int))=true:=by simpa using h1
     have bI:(e.dst==t)=false:=by simpa using h2
     simp only [go_sem,jd,hn,dU,bB,jD lU,jK,cW,bI,dF];exact qf (j+1,aS) (jt [200,5] (by simp only [go_sem,hs]<;>trivial))
   ·have hs:=jnQ (F:=λl=>jf7 l t) (es:=p.aNF) (x:=x) (j:=j) (by rw [hc,if_neg (λh=>h1 h.1)];rfl)
    have cW:(e.src==(x:Int))=false:=by simpa using h1
    simp only [go_sem,jd,hn,dU,bB,jD lU,jK,cW,dF];exact qf (j+1,aS) (jt [200,5] (by simp only [go_sem,hs]<;>trivial))
  ·have bB:¬(j:Int)<p.aNF.length:=by omega
   obtain rfl:j=p.aNF.length:=by omega
   simp only [go_sem,jd,hn,bB,hw];exact qf (x+1,aS) (jt [200,5] (by simp only [go_sem,he]<;>trivial))
 ·have aA:¬(x:Int)<n:=by omega
  obtain rfl:x=n:=by omega
  simp only [go_sem,jd,hn,aA,zG,aNW]
theorem jjv (p:Pl) (t:Int) (n:Nat) (hn:p.aNA=n) (cF:n<=12) (dH:p.aNF.length<=30):jW Tryz.prog 201 [.agg (jd p),.c (.val (.int .i64 t))] (.c (jb (jb5 p t))):=by
 refine pf_ jfP ?_;unfold jcH;simp only [go_sem,jd];intro b fB;refine qY (λi:Nat×jf=>St.of [(1,Ni t),(2,Bx 200 b),(5,Hd 5 i.2),(6,Ni i.1)] [(200,Bi b _ (jd p)),(5,.loose (jb (jkF i.1 (jf6 p.aNF t))) i.2)]) (λi=>i.1<=n) (λi=>n-i.1) (0,fB) (jt [200,800] (by simp only [go_sem,jd,jBN]<;>trivial)) ?_
 rintro ⟨x,eH⟩ hx;dsimp only at hx;by_cases aB:x<n
 ·have aA:(x:Int)<n:=by omega
  have hw:=kx x;have h0:=jBU (F:=λl=>jf6 l t) (es:=p.aNF) (x:=x) rfl
  have he:=js8 (F:=λl=>jf6 l t) (es:=p.aNF) (x:=x)
  simp only [go_sem,jd,hn,aA];refine qY (λi:Nat×jf=>St.of [(1,Ni t),(2,Bx 200 b),(5,Hd 5 i.2),(6,Ni x),(7,Ni i.1)] [(200,Bi b _ (jd p)),(5,.loose (jb (jmW (λl=>jf6 l t) p.aNF x i.1)) i.2)]) (λi=>i.1<=p.aNF.length) (λi=>p.aNF.length-i.1) (0,eH) (jt [200,5] (by simp only [go_sem,jd,hn,h0]<;>trivial)) ?_
  rintro ⟨j,aS⟩ hj;dsimp only at hj;by_cases dU:j<p.aNF.length
  ·have bB:(j:Int)<p.aNF.length:=by omega
   obtain ⟨e,lU⟩:=ja dU;have dF:=kx j;have hc:=jvO lU x t;have cE:=js7 (F:=λl=>jf6 l t) (es:=p.aNF) (x:=x) (j:=j) (λl=>jsD l t) (by omega) dH
   have dI:(jmW (λl=>jf6 l t) p.aNF x j).length+1<=maxLen:=zy
   have eB:((jmW (λl=>jf6 l t) p.aNF x j).length+1)*8<=140737488355328:=by omega
   by_cases h1:e.src=t
   ·by_cases h2:e.dst=x
    ·have hs:=js6 (F:=λl=>jf6 l t) (es:=p.aNF) (x:=x) (j:=j) (by rw [hc,if_pos ⟨h1,h2⟩])
     have cW:(e.src==t)=true:=by simpa using h1
     have bI:(e.dst==(x:Int))=true:=by simpa using h2
     generalize jmW (λl=>jf6 l t) p.aNF x j=R at*
     simp only [go_sem,jd,hn,dU,bB,jD lU,jK,cW,bI,dF,dI,eB,kT];intro cI dP;exact qf (j+1,dP) (jt [200,4300] (by simp only [go_sem,hs]<;>trivial))
    ·have hs:=jnQ (F:=λl=>jf6 l t) (es:=p.aNF) (x:=x) (j:=j) (by rw [hc,if_neg (λh=>h2 h.2)];rfl)
     have cW:(e.src==t)=true:=by simpa using h1
     have bI:(e.dst==(x:Int))=false:=by simpa using h2
     simp only [go_sem,jd,hn,dU,bB,jD lU,jK,cW,bI,dF];exact qf (j+1,aS) (jt [200,5] (by simp only [go_sem,hs]<;>trivial))
   ·have hs:=jnQ (F:=λl=>jf6 l t) (es:=p.aNF) (x:=x) (j:=j) (by rw [hc,if_neg (λh=>h1 h.1)];rfl)
    have cW:(e.src==t)=false:=by simpa using h1
    simp only [go_sem,jd,hn,dU,bB,jD lU,jK,cW,dF];exact qf (j+1,aS) (jt [200,5] (by simp only [go_sem,hs]<;>trivial))
  ·have bB:¬(j:Int)<p.aNF.length:=by omega
   obtain rfl:j=p.aNF.length:=by omega
   simp only [go_sem,jd,hn,bB,hw];exact qf (x+1,aS) (jt [200,5] (by simp only [go_sem,he]<;>trivial))
 ·have aA:¬(x:Int)<n:=by omega
  obtain rfl:x=n:=by omega
  simp only [go_sem,jd,hn,aA,jb5,aNW]
theorem jdr (p:Pl) (t:Int) (h0:jo p=0):jW Tryz.prog 164 [.agg (jd p),.c (.val (.int .i64 t))] (.c (jb (zG p t))):=by
 obtain ⟨n,hn,d9,cF,dH,bU,aW,-⟩:=jbJ h0;refine pf_ jhc ?_;unfold jd8;simp only [go_sem,jd];intro b;refine jm (qq p (by omega)) λη=>?_
 simp only [go_sem];simp only [go_sem,h0,aQP];refine qY (λi:Nat×jf=>St.of [(1,Ni t),(5,Hd 5 i.2),(12,Ro (js p.aNF)),(13,Ni p.aNF.length),(14,Ni i.1)] [(5,.loose (jb (jf7 (p.aNF.take i.1) t)) i.2)]) (λi=>i.1<=p.aNF.length) (λi=>p.aNF.length-i.1) (0,jbL) (ze [none] (by simp only [go_sem]<;>trivial)) ?_
 rintro ⟨j,aS⟩ hj;dsimp only at hj;by_cases dU:j<p.aNF.length
 ·have bB:(j:Int)<p.aNF.length:=by omega
  obtain ⟨e,lU⟩:=ja dU;have dF:=kx j;have hc:=jq3 lU t;have cE:=jsF (p.aNF.take j) t;rw [aNV] at cE;generalize jf7 (p.aNF.take j) t=R at*;have dI:R.length+1<=maxLen:=zy;have eB:(R.length+1)*8<=140737488355328:=by omega
  by_cases h2:e.dst=t
  ·have bI:(e.dst==t)=true:=by simpa using h2
   rw [if_pos h2] at hc;simp only [go_sem,dU,bB,jD lU,jK];intro b2;simp only [go_sem,bI,dF,dI,eB,kT];intro cI dP;exact qf (j+1,dP) (jt [2600] (by simp only [go_sem,hc]<;>trivial))
  ·have bI:(e.dst==t)=false:=by simpa using h2
   rw [if_neg h2,aOP] at hc;simp only [go_sem,dU,bB,jD lU,jK];intro b2;simp only [go_sem,bI,dF];exact qf (j+1,aS) (jt [5] (by simp only [go_sem,hc]<;>trivial))
 ·have bB:¬(j:Int)<p.aNF.length:=by omega
  rw [aNU (by omega)]
  have hA:=jua aW bU t;simp only [go_sem,bB];refine kZ (jkq (jtE (jf7 p.aNF t) (by omega) _ 5 aS (by simp only [go_sem])) ?_)
  rintro av o' ⟨rfl,l,i,rfl,h1,h2⟩;obtain rfl:=jBM (jlW bU t) h1 (by rw [h1.1.length_eq];exact h2)
  simp only [go_sem,jsN,zG,hn,aNW]
theorem jk7 (p:Pl) (t:Int) (h0:jo p=0):jW Tryz.prog 174 [.agg (jd p),.c (.val (.int .i64 t))] (.c (jb (jb5 p t))):=by
 obtain ⟨n,hn,d9,cF,dH,bU,aW,-⟩:=jbJ h0;refine pf_ jhb ?_;unfold jd7;simp only [go_sem,jd];intro b;refine jm (qq p (by omega)) λη=>?_
 simp only [go_sem];simp only [go_sem,h0,aQP];refine qY (λi:Nat×jf=>St.of [(1,Ni t),(5,Hd 5 i.2),(12,Ro (js p.aNF)),(13,Ni p.aNF.length),(14,Ni i.1)] [(5,.loose (jb (jf6 (p.aNF.take i.1) t)) i.2)]) (λi=>i.1<=p.aNF.length) (λi=>p.aNF.length-i.1) (0,jbL) (ze [none] (by simp only [go_sem]<;>trivial)) ?_
 rintro ⟨j,aS⟩ hj;dsimp only at hj;by_cases dU:j<p.aNF.length
 ·have bB:(j:Int)<p.aNF.length:=by omega
  obtain ⟨e,lU⟩:=ja dU;have dF:=kx j;have hc:=jq2 lU t;have cE:=jsD (p.aNF.take j) t;rw [aNV] at cE;generalize jf6 (p.aNF.take j) t=R at*;have dI:R.length+1<=maxLen:=zy;have eB:(R.length+1)*8<=140737488355328:=by omega
  by_cases h2:e.src=t
  ·have bI:(e.src==t)=true:=by simpa using h2
   rw [if_pos h2] at hc;simp only [go_sem,dU,bB,jD lU,jK];intro b2;simp only [go_sem,bI,dF,dI,eB,kT];intro cI dP;exact qf (j+1,dP) (jt [2600] (by simp only [go_sem,hc]<;>trivial))
  ·have bI:(e.src==t)=false:=by simpa using h2
   rw [if_neg h2,aOP] at hc;simp only [go_sem,dU,bB,jD lU,jK];intro b2;simp only [go_sem,bI,dF];exact qf (j+1,aS) (jt [5] (by simp only [go_sem,hc]<;>trivial))
 ·have bB:¬(j:Int)<p.aNF.length:=by omega
  rw [aNU (by omega)]
  have hA:=jBx aW bU t;simp only [go_sem,bB];refine kZ (jkq (jtE (jf6 p.aNF t) (by omega) _ 5 aS (by simp only [go_sem])) ?_)
  rintro av o' ⟨rfl,l,i,rfl,h1,h2⟩;obtain rfl:=jBM (joZ bU t) h1 (by rw [h1.1.length_eq];exact h2)
  simp only [go_sem,jsN,jb5,hn,aNW]
def je6:C:=iS [iA 2 (.box 52 8 (.t 0)),aO 4 false] (iS [aF 9 7 2,aL 10 9,aM 11 1,aI 12 4 10 11,aT 13 4 12,iA 5 wAO,wAB 5 13] (iS [aN 6 0] (iS [aF 14 1 2,aT 15 5 14,aM 16 1,iA 17 (iK 169 [15,16]),aM 7 17] (.seq (iS [aN 8 0] (.blk 0 (.loop (.seq (iS [aM 18 8,aM 19 7,aG 20 19,aP 21 .lss 3 18 20] (iD 21 .skip (.exit 0))) (.seq (.blk 1 (.seq (.dreg (tA 0 24 (iF 7 2) (tA 1 25 (iL 24) (tA 2 26 (iM 7) (tA 3 27 (iM 8) (tA 4 28 (iI 1 26 27) (tA 5 29 (iL 28) (tA 6 30 (iI 4 25 29) (tA 7 31 (iF 0 30) (tA 8 32 (iL 31) (tA 9 33 (iQ .neq 3 32 4) .done))))))))))) (iD 33 (.reg [aM 34 6,aQ 35 .add 3 34 1,aM 6 35]) .skip))) (.reg [aM 22 8,aQ 23 .add 3 22 1,aM 8 23])))))) (.seq (iS [aF 36 1 5,aL 37 36,aM 38 6,aP 39 .neq 3 37 38,aM 40 39,iB 41 40 false (iF 2 5),iB 42 40 false (iL 41),iB 43 40 false (iF 1 2),iB 44 40 false (iF 1 43),iB 45 40 false (iL 44),iB 46 40 false (.call 68 [.t 42,oI 0,.t 45]),iB 47 40 false (iU 46),iA 48 (iY 40 (oT) (.t 47))] (iD 48 (iS [aO 4 false] .ret) .skip)) (.seq (iS [aF 49 0 5,aL 50 49,aQ 51 .eql 3 50 3,aM 52 51,iB 53 52 true (iF 3 5),iB 54 52 true (iL 53),iB 55 52 true (.call 68 [.t 54,oI 1,oI 1000000000]),iB 56 52 true (iU 55),iA 57 (iY 52 (.t 56) (oF)),aM 58 57,iB 59 58 false (iF 0 5),iB 60 58 false (iL 59),iB 61 58 false (iQ .neq 3 60 3),iB 62 58 false (iM 61),iB 63 62 true (iF 3 5),iB 64 62 true (iL 63),iB 65 62 true (iQ .neq 3 64 0),iB 66 58 false (iY 62 (.t 65) (oF)),iA 67 (iY 58 (oT) (.t 66))] (iD 67 (iS [aO 4 false] .ret) .skip)) (.seq (iS [aF 68 0 5,aL 69 68] (.blk 2 (iS [aQ 71 .eql 3 69 1,aM 70 71] (iD 70 (iS [aM 72 6,aQ 73 .gtr 3 72 0,aM 4 73] .ret) (iS [aQ 75 .eql 3 69 2,aM 74 75] (iD 74 (iS [aM 76 6,aQ 77 .eql 3 76 0,aM 78 77,iB 79 78 true (iF 2 5),iB 80 78 true (iL 79),iB 81 78 true (iF 1 2),iB 82 78 true (iF 1 81),iB 83 78 true (iL 82),iB 84 78 true (iP .lss 3 80 83),iA 85 (iY 78 (.t 84) (oF)),aM 4 85] .ret) (.seq (iS [aQ 87 .eql 3 69 3,aM 86 87] (iD 86 .skip (iS [aQ 88 .eql 3 69 4,aM 86 88] (iD 86 .skip (.reg [aQ 89 .eql 3 69 5,aM 86 89]))))) (iD 86 (iS [aM 90 6,aQ 91 .eql 3 90 0,aM 92 91,iB 93 92 true (iF 2 5),iB 94 92 true (iL 93),iB 95 92 true (iQ .geq 3 94 1),iA 96 (iY 92 (.t 95) (oF)),aM 4 96] .ret) .skip)))))))) (iS [aF 97 0 5,aL 98 97,aQ 99 .eql 3 98 6,aM 4 99] .ret))))))))
theorem jis:fnC Tryz.prog Tryz.f178=some (je6,[.t 4],100):=by kernel_rfl
def jdI:C:=iS [iA 1 (.box 52 8 (.t 0)),aN 2 0] (iS [iA 6 (.bsl 3 1 7 [none,none,none,none,none,none,none] [(0,1,oI 0),(1,1,oI 0),(2,1,oI 0),(3,1,oI 0),(4,1,oI 0),(5,1,oI 0),(6,1,oI 0)]),aM 3 6] (.seq (iS [aN 4 0] (.blk 0 (.loop (.seq (iS [aM 7 4,aF 8 7 1,aL 9 8,aG 10 9,aP 11 .lss 3 7 10] (iD 11 .skip (.exit 0))) (.seq (.blk 1 (.reg [aM 14 3,aF 15 7 1,aL 16 15,aM 17 4,aI 18 4 16 17,aF 19 0 18,aL 20 19,aI 21 1 14 20,aL 22 21,aQ 23 .add 3 22 1,aI 24 1 14 20,wAD 24 23])) (.reg [aM 12 4,aQ 13 .add 3 12 1,aM 4 13])))))) (.seq (.dreg (tA 0 25 (iM 3) (tA 1 26 (.ia 1 (.t 25) (oI 1)) (tA 2 27 (iL 26) (tA 3 28 (iM 3) (tA 4 29 (.ia 1 (.t 28) (oI 2)) (tA 5 30 (iL 29) (tA 6 31 (iP .add 3 27 30) (tA 7 32 (iM 3) (tA 8 33 (.ia 1 (.t 32) (oI 3)) (tA 9 34 (iL 33) (tA 10 35 (iP .add 3 31 34) (tA 11 5 (iM 35) .done))))))))))))) (.seq (.blk 2 (.seq (.dreg (tA 0 37 (iM 3) (tA 1 38 (.ia 1 (.t 37) (oI 4)) (tA 2 39 (iL 38) (tA 3 40 (iF 7 1) (tA 4 41 (iL 40) (tA 5 42 (iG 41) (tA 6 43 (iP .eql 3 39 42) (tA 7 36 (iM 43) .done))))))))) (iD 36 (iS [aN 2 2] .ret) (iS [aM 45 3,iA 46 (.ia 1 (.t 45) (oI 5)),aL 47 46,aQ 48 .eql 3 47 1,aM 49 48,iB 50 49 true (iM 5),iB 51 49 true (iQ .eql 3 50 0),iA 52 (iY 49 (.t 51) (oF)),aM 44 52] (iD 44 (iS [aN 2 3] .ret) (iS [aM 54 3,iA 55 (.ia 1 (.t 54) (oI 5)),aL 56 55,aQ 57 .eql 3 56 0,aM 58 57,iB 59 58 true (iM 3),iB 60 58 true (.ia 1 (.t 59) (oI 6)),iB 61 58 true (iL 60),iB 62 58 true (iQ .gtr 3 61 0),iA 63 (iY 58 (.t 62) (oF)),aM 64 63,iB 65 64 true (iM 5),iB 66 64 true (iQ .eql 3 65 0),iA 67 (iY 64 (.t 66) (oF)),aM 53 67] (iD 53 (iS [aN 2 4] .ret) (iS [aM 69 3,iA 70 (.ia 1 (.t 69) (oI 5)),aL 71 70,aQ 72 .eql 3 71 0,aM 73 72,iB 74 73 true (iM 3),iB 75 73 true (.ia 1 (.t 74) (oI 6)),iB 76 73 true (iL 75),iB 77 73 true (iQ .eql 3 76 0),iA 78 (iY 73 (.t 77) (oF)),aM 68 78] (iD 68 (iS [aN 2 1] .ret) .skip))))))))) (iS [aN 2 0] .ret)))))
theorem jgP:fnC Tryz.prog Tryz.f179=some (jdI,[.t 2],79):=by kernel_rfl
def jjh:C:=iS [iA 1 (.box 52 8 (.t 0)),aO 2 false] (.seq (iS [aF 5 0 1,aL 6 5,iA 7 (.call 68 [.t 6,oI 1,oI 9999]),aU 8 7,aM 9 8,iB 10 9 false (iF 1 1),iB 11 9 false (iT 5 10),iB 12 9 false (iK 112 [11]),iB 13 9 false (iQ .neq 3 12 0),iA 14 (iY 9 (oT) (.t 13)),aM 15 14,iB 16 15 false (iF 7 1),iB 17 15 false (iL 16),iB 18 15 false (iG 17),iB 19 15 false (iF 1 1),iB 20 15 false (iF 3 19),iB 21 15 false (iL 20),iB 22 15 false (iP .neq 3 18 21),iA 23 (iY 15 (oT) (.t 22))] (iD 23 (iS [aO 2 false] .ret) .skip)) (.seq (iS [aN 3 0] (.blk 0 (.loop (.seq (iS [aM 24 3,aF 25 7 1,aL 26 25,aG 27 26,aP 28 .lss 3 24 27] (iD 28 .skip (.exit 0))) (.seq (.blk 1 (iS [aF 31 7 1,aL 32 31,aM 33 3,aI 34 4 32 33,aF 35 0 34,aL 36 35,iA 37 (.call 68 [.t 36,oI 1,oI 6]),aU 38 37] (iD 38 (iS [aO 2 false] .ret) .skip))) (.reg [aM 29 3,aQ 30 .add 3 29 1,aM 3 30])))))) (.seq (iS [aN 4 0] (.blk 2 (.loop (.seq (iS [aM 39 4,aF 40 7 1,aL 41 40,aG 42 41,aP 43 .lss 3 39 42] (iD 43 .skip (.exit 2))) (.seq (.blk 3 (iS [aT 46 8 1,aM 47 4,iA 48 (iK 178 [46,47]),aU 49 48] (iD 49 (iS [aO 2 false] .ret) .skip))) (.reg [aM 44 4,aQ 45 .add 3 44 1,aM 4 45])))))) (.seq (.dreg (tA 0 50 (iF 6 1) (tA 1 51 (iL 50) (tA 2 52 (iT 8 1) (tC 53 (iK 179 [52]) [1,0] (tA 4 54 (iP .eql 3 51 53) (tA 5 55 (iM 54) (tB 6 56 55 true (iF 6 1) (tB 7 57 55 true (iL 56) (tB 8 58 55 true (iQ .neq 3 57 0) (tA 9 59 (iY 55 (.t 58) (oF)) (tA 10 2 (iM 59) .done))))))) .stop))))) .ret))))
theorem jlA:fnC Tryz.prog Tryz.f130=some (jjh,[.t 2],60):=by kernel_rfl
def jnm (ts:List Tk) (l:List Int):Nat:=(l.filter λb=>stT ts b !=4).length
theorem jt2 {ts:List Tk} {l:List Int} {k:Nat} {v:Int} {y:Tk} (hv:l[k]?=some v) (hy:ts[v.toNat]?=some y) (h:(y.aND !=4)=true):jnm ts (l.take (k+1))=jnm ts (l.take k)+1:=by
 rw [aOA,hv];simp [jnm,aQA,jnL hy,h]
theorem jyV {ts:List Tk} {l:List Int} {k:Nat} {v:Int} {y:Tk} (hv:l[k]?=some v) (hy:ts[v.toNat]?=some y) (h:(y.aND !=4)=false):jnm ts (l.take (k+1))=jnm ts (l.take k):=by
 rw [aOA,hv];simp [jnm,aQA,jnL hy,h]
theorem jyW (ts:List Tk) (l:List Int):jnm ts l<=l.length:=aOT _ _
theorem jzf {p:Pl} {n:Nat} (hn:p.aNA=n) {t v:Int} (h:v∈zG p t):0<=v/\v<n:=by
 have:=(jgg h).1;rw [hn,aNW] at this;exact this
theorem jo0 {p:Pl} {n:Nat} (hn:p.aNA=n) (cF:n<=12) (dH:p.aNF.length<=30) (t:Int):(zG p t).length<=1000:=by
 have h1:=jnM (jf7 p.aNF t) p.aNA.toNat;have h3:=jsF p.aNF t;have h5:p.aNA.toNat*(jf7 p.aNF t).length<=12*30:=Nat.mul_le_mul (by omega) (by omega)
 unfold zG;omega
theorem jsC {p:Pl} {n:Nat} (hn:p.aNA=n) {t v:Int} (h:v∈jb5 p t):0<=v/\v<n:=by
 have:=(jgg h).1;rw [hn,aNW] at this;exact this
theorem jt9 {p:Pl} {n:Nat} (hn:p.aNA=n) (cF:n<=12) (dH:p.aNF.length<=30) (t:Int):(jb5 p t).length<=1000:=by
 have h1:=jnM (jf6 p.aNF t) p.aNA.toNat;have h3:=jsD p.aNF t;have h5:p.aNA.toNat*(jf6 p.aNF t).length<=12*30:=Nat.mul_le_mul (by omega) (by omega)
 unfold jb5;omega
theorem jwF (s:Int):s=1\/s=2\/s=3\/s=4\/s=5\/s=6\/((s==1)=false/\(s==2)=false/\(s==3)=false/\(s==4)=false/\(s==5)=false/\(s==6)=false):=by
 by_cases h1:s=1; · simp [h1]
 by_cases h2:s=2; · simp [h2]
 by_cases h3:s=3; · simp [h3]
 by_cases h4:s=4; · simp [h4]
 by_cases h5:s=5; · simp [h5]
 by_cases h6:s=6; · simp [h6]
 simp [h1,h2,h3,h4,h5,h6]
theorem jl6 (r:Rn) (t:Nat) (x:Tk) (hx:r.aNA[t]?=some x) (h0:jo r.aNB=0) (aD:(r.aNA.length:Int)=r.aNB.aNA):jW Tryz.prog 178 [.agg (je r),.c (.val (.int .i64 t))] (.c (.val (.bool (jS r.aNB r.aNA t x)))):=by
 obtain ⟨n,hn,d9,cF,dH,bU,aW,-⟩:=jbJ h0;have dB:=(aNP.1 hx).1;refine pf_ jis ?_;unfold je6;have uO:=jo0 hn cF dH t;have fF:=qX t;simp only [go_sem,je,jd,dB,fF,jP hx,jH];intro b b2;refine jm (jcy r.aNB t n hn cF dH) λη=>?_
 simp only [go_sem];refine qY (λi:Nat=>St.of [(2,Bx 200 b),(5,Bx 500 b2),(6,Ni (jnm r.aNA ((zG r.aNB t).take i))),(7,Hd 7 (η 0)),(8,Ni i)] [(200,Bi b _ (je r)),(500,Bi b2 _ (jH x)),(7,.loose (jb (zG r.aNB t)) (η 0))]) (λi=>i<=(zG r.aNB t).length) (λi=>(zG r.aNB t).length-i) 0 (jt [200,500,1700] (by simp only [go_sem,je,jd,jH,aOW,jnm,List.filter_nil,aOR]<;>trivial)) ?_
 rintro k hk;by_cases aB:k<(zG r.aNB t).length
 ·have aA:(k:Int)<(zG r.aNB t).length:=by omega
  obtain ⟨v,hv⟩:=ja aB;have pN:=jzf hn (aNQ hv);have bQ:v.toNat<r.aNA.length:=by omega
  have nV:=pN.1;obtain ⟨y,hy⟩:=ja bQ;have hw:=kx k;have cV:=jyW r.aNA ((zG r.aNB t).take k);rw [aNV] at cV;have bV:IntKind.i64.wrap ((jnm r.aNA ((zG r.aNB t).take k):Int)+1)=((jnm r.aNA ((zG r.aNB t).take k)+1:Nat):Int):=vF;cases hc:y.aND !=4
  ·have hs:=jyV hv hy hc
   simp only [go_sem,je,jd,aB,aA,jq hv,jp aB,bQ,nV,jP hy,jH,hc,hw];exact qf (k+1) (jt [200,500,7] (by simp only [go_sem,hs]<;>trivial))
  ·have hs:=jt2 hv hy hc
   simp only [go_sem,je,jd,aB,aA,jq hv,jp aB,bQ,nV,jP hy,jH,hc,hw,bV];exact qf (k+1) (jt [200,500,7] (by simp only [go_sem,hs]<;>trivial))
 have aA:¬(k:Int)<(zG r.aNB t).length:=by omega
 rw [aNU (by omega)]
 have aW:jaT r.aNB r.aNA t=(jnm r.aNA (zG r.aNB t):Int):=rfl;generalize jnm r.aNA (zG r.aNB t)=N at*;cases aJ:x.aNL !=(N:Int);rotate_left
 ·have hb:jS r.aNB r.aNA t x=false:=by
   have:¬x.aNL=N:=by simpa using aJ
   simp [jS,aW,this]
  simp only [go_sem,je,jd,jH,aA,aJ,hb]
 have bO:x.aNL=N:=by simpa using aJ
 simp only [go_sem,je,jd,jH,aA,aJ];refine jm (jI x.tri 0 r.aNB.aNN) λη=>?_
 simp only [go_sem];cases iV:decide (0<=x.tri/\x.tri<=r.aNB.aNN)
 ·have hb:jS r.aNB r.aNA t x=false:=by simp [jS,inB,iV]
  simp only [go_sem,hb]
 have dM:0<=x.tri/\x.tri<=r.aNB.aNN:=by simpa using iV
 rcases jwF x.aND with hs|hs|hs|hs|hs|hs|⟨s1,s2,s3,s4,s5,s6⟩
 ·cases ht:x.til !=0
  rotate_left
  ·have hb:jS r.aNB r.aNA t x=false:=by
    have:¬x.til=0:=by simpa using ht
    simp [jS,jbv,hs,this]
   simp only [go_sem,hs,ht,hb]
  have dN:x.til=0:=by simpa using ht
  have hb:jS r.aNB r.aNA t x=decide ((N:Int)>0):=by simp [jS,jbv,vn,inB,hs,aW,bO,dN,dM]
  simp only [go_sem,hs,ht,hb]
 ·cases ht:x.til !=0
  rotate_left
  ·have hb:jS r.aNB r.aNA t x=false:=by
    have:¬x.til=0:=by simpa using ht
    simp [jS,jbv,hs,this]
   simp only [go_sem,hs,ht,hb]
  have dN:x.til=0:=by simpa using ht
  cases hz:(N:Int)==0
  ·have cL:¬N=0:=by simpa using hz
   have hb:jS r.aNB r.aNA t x=false:=by simp [jS,jbv,vn,inB,hs,aW,bO,dN,dM,cL]
   simp only [go_sem,hs,ht,hz,hb]
  ·have cL:N=0:=by simpa using hz
   have hb:jS r.aNB r.aNA t x=decide (x.tri<r.aNB.aNN):=by simp [jS,jbv,vn,inB,hs,aW,bO,dN,dM,cL]
   simp only [go_sem,hs,ht,hz,hb]
 ·simp only [go_sem,hs]
  refine jm (jI x.til 1 1000000000) λη=>?_
  simp only [go_sem];cases ht:decide (1<=x.til/\x.til<=1000000000)
  ·have hb:jS r.aNB r.aNA t x=false:=by simp [jS,jbv,inB,hs,ht]
   simp only [go_sem,hb]
  have dN:1<=x.til/\x.til<=1000000000:=by simpa using ht
  cases hz:(N:Int)==0
  ·have cL:¬N=0:=by simpa using hz
   have hb:jS r.aNB r.aNA t x=false:=by simp [jS,jbv,vn,inB,hs,aW,bO,dN,dM,cL]
   simp only [go_sem,hz,hb]
  ·have cL:N=0:=by simpa using hz
   have hb:jS r.aNB r.aNA t x=decide (x.tri>=1):=by simp [jS,jbv,vn,inB,hs,aW,bO,dN,dM,cL]
   simp only [go_sem,hz,hb]
 ·cases ht:x.til !=0
  rotate_left
  ·have hb:jS r.aNB r.aNA t x=false:=by
    have:¬x.til=0:=by simpa using ht
    simp [jS,jbv,hs,this]
   simp only [go_sem,hs,ht,hb]
  have dN:x.til=0:=by simpa using ht
  cases hz:(N:Int)==0
  ·have cL:¬N=0:=by simpa using hz
   have hb:jS r.aNB r.aNA t x=false:=by simp [jS,jbv,vn,inB,hs,aW,bO,dN,dM,cL]
   simp only [go_sem,hs,ht,hz,hb]
  ·have cL:N=0:=by simpa using hz
   have hb:jS r.aNB r.aNA t x=decide (x.tri>=1):=by simp [jS,jbv,vn,inB,hs,aW,bO,dN,dM,cL]
   simp only [go_sem,hs,ht,hz,hb]
 ·cases ht:x.til !=0
  rotate_left
  ·have hb:jS r.aNB r.aNA t x=false:=by
    have:¬x.til=0:=by simpa using ht
    simp [jS,jbv,hs,this]
   simp only [go_sem,hs,ht,hb]
  have dN:x.til=0:=by simpa using ht
  cases hz:(N:Int)==0
  ·have cL:¬N=0:=by simpa using hz
   have hb:jS r.aNB r.aNA t x=false:=by simp [jS,jbv,vn,inB,hs,aW,bO,dN,dM,cL]
   simp only [go_sem,hs,ht,hz,hb]
  ·have cL:N=0:=by simpa using hz
   have hb:jS r.aNB r.aNA t x=decide (x.tri>=1):=by simp [jS,jbv,vn,inB,hs,aW,bO,dN,dM,cL]
   simp only [go_sem,hs,ht,hz,hb]
 ·cases ht:x.til !=0
  rotate_left
  ·have hb:jS r.aNB r.aNA t x=false:=by
    have:¬x.til=0:=by simpa using ht
    simp [jS,jbv,hs,this]
   simp only [go_sem,hs,ht,hb]
  have dN:x.til=0:=by simpa using ht
  have hb:jS r.aNB r.aNA t x=true:=by simp [jS,jbv,vn,inB,hs,aW,bO,dN,dM]
  simp only [go_sem,hs,ht,hb]
 ·have hb:jS r.aNB r.aNA t x=false:=by
   have h1:¬x.aND=1:=by simpa using s1
   have h2:¬x.aND=2:=by simpa using s2
   have h3:¬x.aND=3:=by simpa using s3
   have h4:¬x.aND=4:=by simpa using s4
   have h5:¬x.aND=5:=by simpa using s5
   have h6:¬x.aND=6:=by simpa using s6
   have:¬(1<=x.aND/\x.aND<=6):=by omega
   simp [jS,inB,this]
  have s3':(x.aND !=3)=true:=by simp [bne,s3]
  cases ht:x.til !=0
  ·simp only [go_sem,s1,s2,s3,s3',s4,s5,s6,ht,hb]
  ·simp only [go_sem,s3,s3',ht,hb]
theorem jyd {a b:Nat} (h:((a:Int)==(b:Int))=true):a=b:=by have:=eq_of_beq h;omega
theorem jye {a b:Nat} (h:((a:Int)==(b:Int))=false):¬a=b:=by have:=ne_of_beq_false h;omega
def cN (ts:List Tk) (k:Nat):List Int:=(List.range 7).map λ(s:Nat)=>(((zi (s:Int) ts k).length:Nat):Int)
theorem jqZ (ts:List Tk) (k:Nat):(cN ts k).length=7:=by simp [cN]
theorem jfz {ts:List Tk} {k s:Nat} (h:s<7):(cN ts k)[s]?=some (((zi (s:Int) ts k).length:Nat):Int):=by simp [cN,h]
theorem jEB {ts:List Tk} {k:Nat} {x:Tk} (hx:ts[k]?=some x) (h:1<=x.aND/\x.aND<=6):(cN ts k).set x.aND.toNat (((zi x.aND ts k).length+1:Nat):Int)=cN ts (k+1):=by
 apply aPY
 intro s;rw [aPO,jqZ];by_cases e:x.aND.toNat=s
 ·subst e
  rw [if_pos rfl,if_pos (by omega),jfz (by omega),jc6 hx]
  have:((x.aND.toNat:Nat):Int)=x.aND:=by omega
  simp [this]
 ·rw [if_neg e]
  by_cases hs:s<7
  ·rw [jfz hs,jfz hs,jc6 hx,if_neg (by omega)];simp
  ·rw [aPN (by rw [jqZ];omega),aPN (by rw [jqZ];omega)]
theorem jdk (r:Rn) (aH:∀x∈r.aNA,1<=x.aND/\x.aND<=6) (hl:r.aNA.length<=2000000):jW Tryz.prog 179 [.agg (je r)] (.c (.val (.int .i64 (jgf r.aNA)))):=by
 refine pf_ jgP ?_;unfold jdI;have hz:D.sl 1 jeP [.val (.int .i64 0),.val (.int .i64 0),.val (.int .i64 0),.val (.int .i64 0),.val (.int .i64 0),.val (.int .i64 0),.val (.int .i64 0)]=jb (cN r.aNA 0):=rfl;simp only [go_sem,je,jd,hz];intro b fB;refine qY (λi:Nat×jf=>St.of [(1,Bx 100 b),(3,Hd 3 i.2),(4,Ni i.1)] [(100,Bi b _ (je r)),(3,.loose (jb (cN r.aNA i.1)) i.2)]) (λi=>i.1<=r.aNA.length) (λi=>r.aNA.length-i.1) (0,fB) (jt [100,600] (by simp only [go_sem,je,jd]<;>trivial)) ?_
 rintro ⟨k,η⟩ hk;dsimp only at hk;by_cases aB:k<r.aNA.length
 ·have aA:(k:Int)<r.aNA.length:=by omega
  obtain ⟨x,hx⟩:=ja aB;have hs:=aH x (aNQ hx);have hs0:=hs.1;have eO:x.aND>=0:=by omega
  have cZ:0<=x.aND:=by omega
  have hs7:x.aND.toNat<7:=by omega
  have fR:x.aND.toNat<(cN r.aNA k).length:=by rw [jqZ];exact hs7
  have hw:=kx k;have hg:=jfz (ts:=r.aNA) (k:=k) hs7;rw [show ((x.aND.toNat:Nat):Int)=x.aND by omega] at hg
  have cE:=vx x.aND r.aNA k;have bV:IntKind.i64.wrap (((zi x.aND r.aNA k).length:Int)+1)=(((zi x.aND r.aNA k).length+1:Nat):Int):=vF;have cQ:=jEB hx hs;generalize cN r.aNA k=L at*;simp only [go_sem,je,jd,aB,aA,jP hx,jH,eO,fR,jq hg,jp fR,bV,jce _ fR,cQ,hw];exact qf (k+1,η) (jt [100,3])
 have aA:¬(k:Int)<r.aNA.length:=by omega
 obtain rfl:k=r.aNA.length:=by omega
 have eC:=jc5 aH r.aNA.length (aOC _);have gU:jgf r.aNA=if (zi 4 r.aNA r.aNA.length).length=r.aNA.length then 2 else if (zi 5 r.aNA r.aNA.length).length=1/\(zi 4 r.aNA r.aNA.length).length+(zi 5 r.aNA r.aNA.length).length+(zi 6 r.aNA r.aNA.length).length=r.aNA.length then 3 else if (zi 5 r.aNA r.aNA.length).length=0/\0<(zi 6 r.aNA r.aNA.length).length/\(zi 4 r.aNA r.aNA.length).length+(zi 5 r.aNA r.aNA.length).length+(zi 6 r.aNA r.aNA.length).length=r.aNA.length then 4 else if (zi 5 r.aNA r.aNA.length).length=0/\(zi 6 r.aNA r.aNA.length).length=0 then 1 else 0:=rfl
 have g1:(cN r.aNA r.aNA.length)[1]?=some (((zi 1 r.aNA r.aNA.length).length:Nat):Int):=jfz (s:=1) (by omega)
 have g2:(cN r.aNA r.aNA.length)[2]?=some (((zi 2 r.aNA r.aNA.length).length:Nat):Int):=jfz (s:=2) (by omega)
 have g3:(cN r.aNA r.aNA.length)[3]?=some (((zi 3 r.aNA r.aNA.length).length:Nat):Int):=jfz (s:=3) (by omega)
 have g4:(cN r.aNA r.aNA.length)[4]?=some (((zi 4 r.aNA r.aNA.length).length:Nat):Int):=jfz (s:=4) (by omega)
 have g5:(cN r.aNA r.aNA.length)[5]?=some (((zi 5 r.aNA r.aNA.length).length:Nat):Int):=jfz (s:=5) (by omega)
 have g6:(cN r.aNA r.aNA.length)[6]?=some (((zi 6 r.aNA r.aNA.length).length:Nat):Int):=jfz (s:=6) (by omega)
 have cV:=jqZ r.aNA r.aNA.length;rw [gU];generalize hL:r.aNA.length=len at*;generalize (zi 1 r.aNA len).length=c1 at*;generalize (zi 2 r.aNA len).length=c2 at*;generalize (zi 3 r.aNA len).length=c3 at*;generalize (zi 4 r.aNA len).length=c4 at*;generalize (zi 5 r.aNA len).length=c5 at*;generalize (zi 6 r.aNA len).length=c6 at*;generalize cN r.aNA len=L at*;clear gU;have i1:1<L.length:=by omega
 have i2:2<L.length:=by omega
 have i3:3<L.length:=by omega
 have i4:4<L.length:=by omega
 have i5:5<L.length:=by omega
 have i6:6<L.length:=by omega
 have w12:IntKind.i64.wrap ((c1:Int)+c2)=((c1+c2:Nat):Int):=by rw [kS (by omega) (by omega)];omega
 have w123:IntKind.i64.wrap (((c1+c2:Nat):Int)+c3)=((c1+c2+c3:Nat):Int):=by rw [kS (by omega) (by omega)];omega
 simp only [go_sem,je,jd,hL,aA,i1,i2,i3,i4,jq g1,jq g2,jq g3,jq g4,jp i1,jp i2,jp i3,jp i4,w12,w123];cases hA:(c4:Int)==len;rotate_left
 ·have u5:c4=len:=jyd hA
  rw [if_pos (by omega)]
  simp only [go_sem]
 have u5:¬c4=len:=jye hA;cases hB:(c5:Int)==1;rotate_left
 ·have yV:c5=1:=jyd hB
  have tI:((c5:Int)==0)=false:=by rw [yV];rfl
  cases hR:((c1+c2+c3:Nat):Int)==0
  ·have uT:¬c1+c2+c3=0:=jye hR
   rw [if_neg (by omega),if_neg (by omega),if_neg (by omega),if_neg (by omega)]
   simp only [go_sem,i5,jq g5,jp i5,hB,tI,hR]
  ·have uT:c1+c2+c3=0:=jyd hR
   rw [if_neg (by omega),if_pos (by omega)]
   simp only [go_sem,i5,jq g5,jp i5,hB,hR]
 have yV:¬c5=1:=jye hB;cases hC:(c5:Int)==0
 ·have hC':¬c5=0:=jye hC
  rw [if_neg (by omega),if_neg (by omega),if_neg (by omega),if_neg (by omega)]
  simp only [go_sem,i5,jq g5,jp i5,hB,hC]
 have hC':c5=0:=jyd hC;by_cases h6:0<c6
 ·have sB:(c6:Int)>0:=by omega
  have u6:((c6:Int)==0)=false:=by simp only [beq_eq_false_iff_ne,ne_eq];omega
  cases hR:((c1+c2+c3:Nat):Int)==0
  ·have uT:¬c1+c2+c3=0:=jye hR
   rw [if_neg (by omega),if_neg (by omega),if_neg (by omega),if_neg (by omega)]
   simp only [go_sem,i5,i6,jq g5,jq g6,jp i5,jp i6,hB,hC,sB,u6,hR]
  ·have uT:c1+c2+c3=0:=jyd hR
   rw [if_neg (by omega),if_neg (by omega),if_pos (by omega)]
   simp only [go_sem,i5,i6,jq g5,jq g6,jp i5,jp i6,hB,hC,sB,hR]
 ·have sB:¬(c6:Int)>0:=by omega
  have u6:((c6:Int)==0)=true:=by simp only [aPV];omega
  rw [if_neg (by omega),if_neg (by omega),if_neg (by omega),if_pos (by omega)]
  simp only [go_sem,i5,i6,jq g5,jq g6,jp i5,jp i6,hB,hC,sB,u6]
theorem jpx {r:Rn} (h1:inB r.id 1 9999=true) (h2:jo r.aNB=0) (h3:(r.aNA.length:Int)=r.aNB.aNA) (h4:∀(t:Nat) (x:Tk),r.aNA[t]?=some x->jS r.aNB r.aNA t x=true) (h5:r.aND=jgf r.aNA) (h6:r.aND≠0):kH r=true:=runOk_iff.2 ⟨h1,h2,h3,h4,h5,h6⟩
theorem jsQ {p:Pl} {ts:List Tk} {t:Nat} {x:Tk} (h:¬(1<=x.aND/\x.aND<=6)):jS p ts t x=false:=by simp [jS,inB,h]
theorem jdl (r:Rn):jW Tryz.prog 130 [.agg (je r)] (.c (.val (.bool (kH r)))):=by
 refine pf_ jlA ?_;unfold jjh;simp only [go_sem,je,jd];intro b;refine jm (jI r.id 1 9999) λη=>?_
 simp only [go_sem];cases h1:decide (1<=r.id/\r.id<=9999)
 ·have hb:kH r=false:=qW λh=>by have:=h.id;simp [inB,h1] at this
  simp only [go_sem,hb]
 simp only [go_sem];refine jm (vS r.aNB) λη=>?_
 simp only [go_sem];cases h2:jo r.aNB !=0;rotate_left
 ·have hb:kH r=false:=qW λh=>by have:=h.aNB;simp [this] at h2
  simp only [go_sem,hb]
 have h0:jo r.aNB=0:=by simpa using h2
 obtain ⟨n,hn,d9,cF,dH,bU,aW,-⟩:=jbJ h0;simp only [go_sem];cases h3:(r.aNA.length:Int) !=r.aNB.aNA;rotate_left
 ·have hb:kH r=false:=qW λh=>by have:=h.len;simp [this] at h3
  simp only [go_sem,hb]
 have aD:(r.aNA.length:Int)=r.aNB.aNA:=by simpa using h3
 have hlb:r.aNA.length<=12:=by omega
 simp only [go_sem];refine qY (λi:Nat=>St.of [(1,Bx 100 b),(3,Ni i)] [(100,Bi b _ (je r))]) (λi=>i<=r.aNA.length/\∀x∈r.aNA.take i,1<=x.aND/\x.aND<=6) (λi=>r.aNA.length-i) 0 (jt [100] (by simp only [go_sem,je,jd]<;>trivial)) ?_
 rintro k ⟨hk,cT⟩;by_cases aB:k<r.aNA.length
 ·have aA:(k:Int)<r.aNA.length:=by omega
  obtain ⟨x,hx⟩:=ja aB;have hw:=kx k;simp only [go_sem,je,jd,aB,aA,jP hx,jH];refine jm (jI x.aND 1 6) λη=>?_
  simp only [go_sem];cases hs:decide (1<=x.aND/\x.aND<=6)
  ·have hb:kH r=false:=qW λh=>by have:=h.aNA k x hx;rw [jsQ (by simpa using hs)] at this;cases this
   simp only [go_sem,hb]
  ·have mO:1<=x.aND/\x.aND<=6:=by simpa using hs
   simp only [go_sem,hw];exact ⟨k+1,⟨aB,λy hy=>by rw [aOA,hx] at hy;simp at hy;rcases hy with hy|hy;exact cT y hy;exact hy▸mO⟩,(jt [100]),by (try dsimp only);omega⟩
 have aA:¬(k:Int)<r.aNA.length:=by omega
 rw [aNU (by omega)] at cT
 simp only [go_sem,je,jd,aA];refine qY (λi:Nat=>St.of [(1,Bx 100 b),(4,Ni i)] [(100,Bi b _ (je r))]) (λi=>i<=r.aNA.length/\∀(t:Nat) (x:Tk),t<i->r.aNA[t]?=some x->jS r.aNB r.aNA t x=true) (λi=>r.aNA.length-i) 0 (jt [100] (by simp only [go_sem,je,jd]<;>trivial)) ?_
 rintro j ⟨hj,eE⟩;by_cases bN:j<r.aNA.length
 ·have a9:(j:Int)<r.aNA.length:=by omega
  obtain ⟨x,hx⟩:=ja bN;have hw:=kx j;simp only [go_sem,je,jd,a9];refine jm (jl6 r j x hx h0 aD) λη=>?_
  simp only [go_sem];cases hs:jS r.aNB r.aNA j x
  ·have hb:kH r=false:=qW λh=>by have:=h.aNA j x hx;rw [hs] at this;cases this
   simp only [go_sem,hb]
  ·simp only [go_sem,hw]
   exact ⟨j+1,⟨bN,λt y ht hy=>by rcases Nat.lt_or_ge t j with h'|h';exact eE t y h' hy;obtain rfl:t=j:=(by omega);rw [hx] at hy;cases hy;exact hs⟩,(jt [100]),by (try dsimp only);omega⟩
 have a9:¬(j:Int)<r.aNA.length:=by omega
 have cX:∀(t:Nat) (x:Tk),r.aNA[t]?=some x->jS r.aNB r.aNA t x=true:=λt x hx=>eE t x (by have:=(aNP.1 hx).1;omega) hx
 simp only [go_sem,je,jd,a9];refine jm (jdk r cT (by omega)) λη=>?_
 simp only [go_sem];cases h5:r.aND==jgf r.aNA
 ·have hb:kH r=false:=qW λh=>by have:=h.aND;simp [<-this] at h5
  simp only [go_sem,hb]
 cases h6:r.aND !=0
 ·have hb:kH r=false:=qW λh=>h.live (by simpa using h6)
  simp only [go_sem,h6,hb]
 ·have hb:kH r=true:=jpx (by simpa [inB] using h1) h0 aD cX (by simpa using h5) (by simpa using h6)
  simp only [go_sem,h6,hb]
def jhv:C:=iS [iA 2 (.box 52 8 (.t 0)),aN 4 0] (iS [aN 5 0] (.seq (iS [aF 8 1 2,aT 9 5 8,aM 10 1,iA 11 (iK 164 [9,10]),aG 12 11,aN 13 0] (.blk 0 (.loop (iS [aP 14 .lss 3 13 12] (.seq (iD 14 .skip (.exit 0)) (.seq (.blk 1 (iS [aI 15 1 11 13,aL 16 15,aM 7 16] (iS [aF 17 7 2,aL 18 17,aM 19 7,aI 20 4 18 19,aF 21 0 20,aL 22 21,aQ 23 .neq 3 22 4] (iD 23 (.reg [aM 24 5,aQ 25 .add 3 24 1,aM 5 25]) .skip)))) (.reg [aQ 26 .add 3 13 1,aM 13 26]))))))) (iS [aM 27 5,aM 4 27] .ret)))
theorem jjV:fnC Tryz.prog Tryz.f183=some (jhv,[.t 4],28):=by kernel_rfl
def jht:C:=iS [iA 2 (.box 52 8 (.t 0)),aO 4 false] (iS [aF 6 7 2,aL 7 6,aM 8 1,aI 9 4 7 8,aT 10 4 9,iA 5 wAO,wAB 5 10] (.seq (.seq (.dreg (tA 0 11 (iF 0 5) (tA 1 12 (iL 11) (tC 13 (.call 62 [.t 12,oI 1,oI 6]) [] (tA 3 14 (iU 13) (tA 4 15 (iM 14) (tB 5 16 15 false (iF 1 5) (tB 6 17 15 false (iL 16) (tB 7 18 15 false (iT 8 2) (tB 8 19 15 false (iM 1) (.alt (iB 20 15 false (iK 183 [18,19])) [6,5] (tB 10 21 15 false (iP .neq 3 17 20) (tA 11 22 (iY 15 (oT) (.t 21)) (tA 12 23 (iM 22) (tB 13 24 23 false (iF 2 5) (tB 14 25 23 false (iL 24) (tB 15 26 23 false (iF 1 2) (tB 16 27 23 false (iF 1 26) (tB 17 28 23 false (iL 27) (.alt (iB 29 23 false (.call 62 [.t 25,oI 0,.t 28])) [] (tB 19 30 23 false (iU 29) (tA 20 31 (iY 23 (oT) (.t 30)) .done)) .stop))))))))) .stop))))))) .stop)))) (iD 31 (iS [aO 4 false] .ret) .skip)) (.seq (iS [aF 32 0 5,aL 33 32,aQ 34 .eql 3 33 3,aM 35 34,iB 36 35 true (iF 3 5),iB 37 35 true (iL 36),iB 38 35 true (.call 62 [.t 37,oI 1,oI 1000000000]),iB 39 35 true (iU 38),iA 40 (iY 35 (.t 39) (oF)),aM 41 40,iB 42 41 false (iF 0 5),iB 43 41 false (iL 42),iB 44 41 false (iQ .neq 3 43 3),iB 45 41 false (iM 44),iB 46 45 true (iF 3 5),iB 47 45 true (iL 46),iB 48 45 true (iQ .neq 3 47 0),iB 49 41 false (iY 45 (.t 48) (oF)),iA 50 (iY 41 (oT) (.t 49))] (iD 50 (iS [aO 4 false] .ret) .skip)) (.seq (iS [aF 51 0 5,aL 52 51] (.blk 0 (iS [aQ 54 .eql 3 52 1,aM 53 54] (iD 53 (iS [aF 55 1 5,aL 56 55,aQ 57 .gtr 3 56 0,aM 4 57] .ret) (iS [aQ 59 .eql 3 52 2,aM 58 59] (iD 58 (iS [aF 60 1 5,aL 61 60,aQ 62 .eql 3 61 0,aM 63 62,iB 64 63 true (iF 2 5),iB 65 63 true (iL 64),iB 66 63 true (iF 1 2),iB 67 63 true (iF 1 66),iB 68 63 true (iL 67),iB 69 63 true (iP .lss 3 65 68),iA 70 (iY 63 (.t 69) (oF)),aM 4 70] .ret) (.seq (iS [aQ 72 .eql 3 52 3,aM 71 72] (iD 71 .skip (iS [aQ 73 .eql 3 52 4,aM 71 73] (iD 71 .skip (.reg [aQ 74 .eql 3 52 5,aM 71 74]))))) (iD 71 (iS [aF 75 1 5,aL 76 75,aQ 77 .eql 3 76 0,aM 78 77,iB 79 78 true (iF 2 5),iB 80 78 true (iL 79),iB 81 78 true (iQ .geq 3 80 1),iA 82 (iY 78 (.t 81) (oF)),aM 4 82] .ret) .skip)))))))) (iS [aO 4 true] .ret)))))
theorem jjT:fnC Tryz.prog Tryz.f140=some (jht,[.t 4],83):=by kernel_rfl
def jfs:C:=iS [iA 2 (.box 52 8 (.t 0)),iA 4 (.mov (.c (.slice none 0 0)))] (iS [iA 5 (.mov (.c (.slice none 0 0)))] (.seq (iS [aF 8 7 2,aL 9 8,aG 10 9,aN 11 0] (.blk 0 (.loop (iS [aP 12 .lss 3 11 10] (.seq (iD 12 .skip (.exit 0)) (.seq (.blk 1 (iS [aM 13 11,aI 14 4 9 11,aT 15 4 14,iA 7 wAO,aM 6 13,wAB 7 15] (iS [aF 16 0 7,aL 17 16,aM 18 1,aP 19 .eql 3 17 18] (iD 19 (.reg [aM 20 5,aM 21 6,iA 22 (wA1 [(0,1,.t 21)]),iA 23 (wBA 20 22),aM 5 23]) .skip)))) (.reg [aQ 24 .add 3 11 1,aM 11 24]))))))) (iS [aM 25 5,aM 4 25] .ret)))
theorem jiO:fnC Tryz.prog Tryz.f47=some (jfs,[.t 4],26):=by kernel_rfl
def jjp:C:=iS [iA 1 (.box 52 8 (.t 0)),aO 2 false] (.seq (iS [aF 8 0 1,aL 9 8,iA 10 (.call 62 [.t 9,oI 1,oI 9999]),aU 11 10,aM 12 11,iB 13 12 false (iF 1 1),iB 14 12 false (iT 5 13),iB 15 12 false (iK 109 [14]),iB 16 12 false (iQ .neq 3 15 0),iA 17 (iY 12 (oT) (.t 16)),aM 18 17,iB 19 18 false (iF 7 1),iB 20 18 false (iL 19),iB 21 18 false (iG 20),iB 22 18 false (iF 1 1),iB 23 18 false (iF 3 22),iB 24 18 false (iL 23),iB 25 18 false (iP .neq 3 21 24),iA 26 (iY 18 (oT) (.t 25))] (iD 26 (iS [aO 2 false] .ret) .skip)) (.seq (iS [aF 27 7 1,aL 28 27,aG 29 28,aN 30 0] (.blk 0 (.loop (iS [aP 31 .lss 3 30 29] (.seq (iD 31 .skip (.exit 0)) (.seq (.blk 1 (iS [aM 32 30,aM 3 32] (iS [aT 33 8 1,aM 34 3,iA 35 (iK 140 [33,34]),aU 36 35] (iD 36 (iS [aO 2 false] .ret) .skip)))) (.reg [aQ 37 .add 3 30 1,aM 30 37]))))))) (.seq (.dreg (tA 0 38 (iT 8 1) (tA 3 41 (iT 8 1) (tA 6 44 (iT 8 1) (tC 39 (.call 47 [.t 38,oI 4]) [6,3] (tA 2 40 (iG 39) (tC 42 (.call 47 [.t 41,oI 5]) [2,6] (tA 5 43 (iG 42) (tC 45 (.call 47 [.t 44,oI 6]) [5,2] (tA 8 46 (iG 45) (tA 9 4 (iM 40) (tA 10 5 (iM 43) (tA 11 6 (iM 46) .done)))) .stop)) .stop)) .stop))))) (iS [aM 47 4,aM 48 5,aP 49 .add 3 47 48,aM 50 6,aP 51 .add 3 49 50,aF 52 7 1,aL 53 52,aG 54 53,aP 55 .eql 3 51 54,aM 7 55] (.seq (.blk 2 (iS [aM 57 4,aF 58 7 1,aL 59 58,aG 60 59,aP 61 .eql 3 57 60,aM 56 61] (iD 56 (iS [aF 62 6 1,aL 63 62,aQ 64 .eql 3 63 2,aM 2 64] .ret) (iS [aM 66 5,aQ 67 .eql 3 66 1,aM 68 67,iB 69 68 true (iM 7),iA 70 (iY 68 (.t 69) (oF)),aM 65 70] (iD 65 (iS [aF 71 6 1,aL 72 71,aQ 73 .eql 3 72 3,aM 2 73] .ret) (iS [aM 75 5,aQ 76 .eql 3 75 0,aM 77 76,iB 78 77 true (iM 6),iB 79 77 true (iQ .gtr 3 78 0),iA 80 (iY 77 (.t 79) (oF)),aM 81 80,iB 82 81 true (iM 7),iA 83 (iY 81 (.t 82) (oF)),aM 74 83] (iD 74 (iS [aF 84 6 1,aL 85 84,aQ 86 .eql 3 85 4,aM 2 86] .ret) .skip))))))) (iS [aF 87 6 1,aL 88 87,aQ 89 .eql 3 88 1,aM 90 89,iB 91 90 true (iM 5),iB 92 90 true (iQ .eql 3 91 0),iA 93 (iY 90 (.t 92) (oF)),aM 94 93,iB 95 94 true (iM 6),iB 96 94 true (iQ .eql 3 95 0),iA 97 (iY 94 (.t 96) (oF)),aM 2 97] .ret))))))
theorem jlJ:fnC Tryz.prog Tryz.f81=some (jjp,[.t 2],98):=by kernel_rfl
theorem joc (r:Rn) (t:Nat) (h0:jo r.aNB=0) (aD:(r.aNA.length:Int)=r.aNB.aNA):jW Tryz.prog 183 [.agg (je r),.c (.val (.int .i64 t))] (.c (.val (.int .i64 (jnm r.aNA (zG r.aNB t))))):=by
 obtain ⟨n,hn,d9,cF,dH,bU,aW,-⟩:=jbJ h0;refine pf_ jjV ?_;unfold jhv;have uO:=jo0 hn cF dH t;simp only [go_sem,je,jd];intro b;refine jm (jdr r.aNB t h0) λη=>?_
 simp only [go_sem];refine qY (λi:Nat=>St.of [(2,Bx 200 b),(5,Ni (jnm r.aNA ((zG r.aNB t).take i))),(11,Hd 11 (η 0)),(12,Ni (zG r.aNB t).length),(13,Ni i)] [(200,Bi b _ (je r)),(11,.loose (jb (zG r.aNB t)) (η 0))]) (λi=>i<=(zG r.aNB t).length) (λi=>(zG r.aNB t).length-i) 0 (jt [200,1100] (by simp only [go_sem,je,jd,aOW,jnm,List.filter_nil,aOR]<;>trivial)) ?_
 rintro k hk;by_cases aB:k<(zG r.aNB t).length
 ·have aA:(k:Int)<(zG r.aNB t).length:=by omega
  obtain ⟨v,hv⟩:=ja aB;have pN:=jzf hn (aNQ hv);have bQ:v.toNat<r.aNA.length:=by omega
  have nV:=pN.1;obtain ⟨y,hy⟩:=ja bQ;have hw:=kx k;have cV:=jyW r.aNA ((zG r.aNB t).take k);rw [aNV] at cV;have bV:IntKind.i64.wrap ((jnm r.aNA ((zG r.aNB t).take k):Int)+1)=((jnm r.aNA ((zG r.aNB t).take k)+1:Nat):Int):=vF;cases hc:y.aND !=4
  ·have hs:=jyV hv hy hc
   simp only [go_sem,je,jd,aB,aA,jq hv,jp aB,bQ,nV,jP hy,jH,hc,hw];exact qf (k+1) (jt [200,11] (by simp only [go_sem,hs]<;>trivial))
  ·have hs:=jt2 hv hy hc
   simp only [go_sem,je,jd,aB,aA,jq hv,jp aB,bQ,nV,jP hy,jH,hc,hw,bV];exact qf (k+1) (jt [200,11] (by simp only [go_sem,hs]<;>trivial))
 have aA:¬(k:Int)<(zG r.aNB t).length:=by omega
 rw [aNU (by omega)]
 simp only [go_sem,aA]
theorem qB (r:Rn) (s:Int) (hl:r.aNA.length<=2000000):jW Tryz.prog 47 [.agg (je r),.c (.val (.int .i64 s))] (.c (jb (qV s r.aNA))):=by
 refine pf_ jiO ?_;unfold jfs;simp only [go_sem,je,jd];intro b;refine qY (λi:Nat×jf=>St.of [(1,Ni s),(5,Hd 5 i.2),(9,Ro (jx r.aNA)),(10,Ni r.aNA.length),(11,Ni i.1)] [(5,.loose (jb (zi s r.aNA i.1)) i.2)]) (λi=>i.1<=r.aNA.length) (λi=>r.aNA.length-i.1) (0,jbL) (ze [none] (by simp only [go_sem,jBH]<;>trivial)) ?_
 rintro ⟨k,η⟩ hk;dsimp only at hk;by_cases aB:k<r.aNA.length
 ·have aA:(k:Int)<r.aNA.length:=by omega
  obtain ⟨x,hx⟩:=ja aB;have hw:=kx k;have hc:=jc6 hx s;have cE:=vx s r.aNA k;generalize zi s r.aNA k=R at*;have dI:R.length+1<=maxLen:=zy;have eB:(R.length+1)*8<=140737488355328:=by omega
  by_cases h2:x.aND=s
  ·have bI:(x.aND==s)=true:=by simpa using h2
   rw [if_pos h2] at hc;simp only [go_sem,aB,aA,jP hx,jH];intro b2;simp only [go_sem,bI,hw,dI,eB,kT];intro cI dP;exact qf (k+1,dP) (jt [2300] (by simp only [go_sem,hc]<;>trivial))
  ·have bI:(x.aND==s)=false:=by simpa using h2
   rw [if_neg h2,aOP] at hc;simp only [go_sem,aB,aA,jP hx,jH];intro b2;simp only [go_sem,bI,hw];exact qf (k+1,η) (jt [5] (by simp only [go_sem,hc]<;>trivial))
 have aA:¬(k:Int)<r.aNA.length:=by omega
 obtain rfl:k=r.aNA.length:=by omega
 simp only [go_sem,aA,qV]
theorem joa (r:Rn) (t:Nat) (x:Tk) (hx:r.aNA[t]?=some x) (h0:jo r.aNB=0) (aD:(r.aNA.length:Int)=r.aNB.aNA):jW Tryz.prog 140 [.agg (je r),.c (.val (.int .i64 t))] (.c (.val (.bool (jS r.aNB r.aNA t x)))):=by
 have dB:=(aNP.1 hx).1;refine pf_ jjT ?_;unfold jht;have fF:=qX t;simp only [go_sem,je,jd,dB,fF,jP hx,jH];intro b b2;refine jm (jw x.aND 1 6) λη=>?_
 simp only [go_sem];cases tW:decide (1<=x.aND/\x.aND<=6)
 ·have hb:jS r.aNB r.aNA t x=false:=jsQ (by simpa using tW)
  simp only [go_sem,hb]
 simp only [go_sem];refine jm (joc r t h0 aD) λη=>?_
 simp only [go_sem];have aW:jaT r.aNB r.aNA t=(jnm r.aNA (zG r.aNB t):Int):=rfl;generalize jnm r.aNA (zG r.aNB t)=N at*;cases aJ:x.aNL !=(N:Int);rotate_left
 ·have hb:jS r.aNB r.aNA t x=false:=by
   have:¬x.aNL=N:=by simpa using aJ
   simp [jS,aW,this]
  simp only [go_sem,hb]
 have bO:x.aNL=N:=by simpa using aJ
 simp only [go_sem];refine jm (jw x.tri 0 r.aNB.aNN) λη=>?_
 simp only [go_sem];cases iV:decide (0<=x.tri/\x.tri<=r.aNB.aNN)
 ·have hb:jS r.aNB r.aNA t x=false:=by simp [jS,inB,iV]
  simp only [go_sem,hb]
 have dM:0<=x.tri/\x.tri<=r.aNB.aNN:=by simpa using iV
 rcases jwF x.aND with hs|hs|hs|hs|hs|hs|⟨s1,s2,s3,s4,s5,s6⟩
 ·cases ht:x.til !=0
  rotate_left
  ·have hb:jS r.aNB r.aNA t x=false:=by
    have:¬x.til=0:=by simpa using ht
    simp [jS,jbv,hs,this]
   simp only [go_sem,hs,ht,hb]
  have dN:x.til=0:=by simpa using ht
  have hb:jS r.aNB r.aNA t x=decide ((N:Int)>0):=by simp [jS,jbv,vn,inB,hs,aW,bO,dN,dM]
  simp only [go_sem,hs,ht,hb,bO]
 ·cases ht:x.til !=0
  rotate_left
  ·have hb:jS r.aNB r.aNA t x=false:=by
    have:¬x.til=0:=by simpa using ht
    simp [jS,jbv,hs,this]
   simp only [go_sem,hs,ht,hb]
  have dN:x.til=0:=by simpa using ht
  cases hz:(N:Int)==0
  ·have cL:¬N=0:=by simpa using hz
   have hb:jS r.aNB r.aNA t x=false:=by simp [jS,jbv,vn,inB,hs,aW,bO,dN,dM,cL]
   simp only [go_sem,hs,ht,hz,hb,bO]
  ·have cL:N=0:=by simpa using hz
   have hb:jS r.aNB r.aNA t x=decide (x.tri<r.aNB.aNN):=by simp [jS,jbv,vn,inB,hs,aW,bO,dN,dM,cL]
   simp only [go_sem,hs,ht,hz,hb,bO]
 ·simp only [go_sem,hs]
  refine jm (jw x.til 1 1000000000) λη=>?_
  simp only [go_sem];cases ht:decide (1<=x.til/\x.til<=1000000000)
  ·have hb:jS r.aNB r.aNA t x=false:=by simp [jS,jbv,inB,hs,ht]
   simp only [go_sem,hb]
  have dN:1<=x.til/\x.til<=1000000000:=by simpa using ht
  cases hz:(N:Int)==0
  ·have cL:¬N=0:=by simpa using hz
   have hb:jS r.aNB r.aNA t x=false:=by simp [jS,jbv,vn,inB,hs,aW,bO,dN,dM,cL]
   simp only [go_sem,hz,hb,bO]
  ·have cL:N=0:=by simpa using hz
   have hb:jS r.aNB r.aNA t x=decide (x.tri>=1):=by simp [jS,jbv,vn,inB,hs,aW,bO,dN,dM,cL]
   simp only [go_sem,hz,hb,bO]
 ·cases ht:x.til !=0
  rotate_left
  ·have hb:jS r.aNB r.aNA t x=false:=by
    have:¬x.til=0:=by simpa using ht
    simp [jS,jbv,hs,this]
   simp only [go_sem,hs,ht,hb]
  have dN:x.til=0:=by simpa using ht
  cases hz:(N:Int)==0
  ·have cL:¬N=0:=by simpa using hz
   have hb:jS r.aNB r.aNA t x=false:=by simp [jS,jbv,vn,inB,hs,aW,bO,dN,dM,cL]
   simp only [go_sem,hs,ht,hz,hb,bO]
  ·have cL:N=0:=by simpa using hz
   have hb:jS r.aNB r.aNA t x=decide (x.tri>=1):=by simp [jS,jbv,vn,inB,hs,aW,bO,dN,dM,cL]
   simp only [go_sem,hs,ht,hz,hb,bO]
 ·cases ht:x.til !=0
  rotate_left
  ·have hb:jS r.aNB r.aNA t x=false:=by
    have:¬x.til=0:=by simpa using ht
    simp [jS,jbv,hs,this]
   simp only [go_sem,hs,ht,hb]
  have dN:x.til=0:=by simpa using ht
  cases hz:(N:Int)==0
  ·have cL:¬N=0:=by simpa using hz
   have hb:jS r.aNB r.aNA t x=false:=by simp [jS,jbv,vn,inB,hs,aW,bO,dN,dM,cL]
   simp only [go_sem,hs,ht,hz,hb,bO]
  ·have cL:N=0:=by simpa using hz
   have hb:jS r.aNB r.aNA t x=decide (x.tri>=1):=by simp [jS,jbv,vn,inB,hs,aW,bO,dN,dM,cL]
   simp only [go_sem,hs,ht,hz,hb,bO]
 ·cases ht:x.til !=0
  rotate_left
  ·have hb:jS r.aNB r.aNA t x=false:=by
    have:¬x.til=0:=by simpa using ht
    simp [jS,jbv,hs,this]
   simp only [go_sem,hs,ht,hb]
  have dN:x.til=0:=by simpa using ht
  have hb:jS r.aNB r.aNA t x=true:=by simp [jS,jbv,vn,inB,hs,aW,bO,dN,dM]
  simp only [go_sem,hs,ht,hb]
 ·have:=aOY tW
  have h1:¬x.aND=1:=by simpa using s1
  have h2:¬x.aND=2:=by simpa using s2
  have h3:¬x.aND=3:=by simpa using s3
  have h4:¬x.aND=4:=by simpa using s4
  have h5:¬x.aND=5:=by simpa using s5
  have h6:¬x.aND=6:=by simpa using s6
  omega
theorem juK {r:Rn} {v:Int} (h1:inB r.id 1 9999=true) (h2:jo r.aNB=0) (h3:(r.aNA.length:Int)=r.aNB.aNA) (h4:∀(t:Nat) (x:Tk),r.aNA[t]?=some x->jS r.aNB r.aNA t x=true) (hv:jgf r.aNA=v) (h0:v≠0):kH r=(r.aND==v):=by
 by_cases h:r.aND=v
 ·rw [jpx h1 h2 h3 h4 (h.trans hv.symm) (h▸h0)];simp [h]
 ·rw [qW λh'=>h (h'.aND.trans hv)];simp [h]
theorem ji9 (r:Rn) (cP:r.aNB.aNF.length<=4000000):jW Tryz.prog 81 [.agg (je r)] (.c (.val (.bool (kH r)))):=by
 refine pf_ jlJ ?_;unfold jjp;simp only [go_sem,je,jd];intro b;refine jm (jw r.id 1 9999) λη=>?_
 simp only [go_sem];cases h1:decide (1<=r.id/\r.id<=9999)
 ·have hb:kH r=false:=qW λh=>by have:=h.id;simp [inB,h1] at this
  simp only [go_sem,hb]
 simp only [go_sem];refine jm (qq r.aNB cP) λη=>?_
 simp only [go_sem];cases h2:jo r.aNB !=0;rotate_left
 ·have hb:kH r=false:=qW λh=>by have:=h.aNB;simp [this] at h2
  simp only [go_sem,hb]
 have h0:jo r.aNB=0:=by simpa using h2
 obtain ⟨n,hn,d9,cF,dH,bU,aW,-⟩:=jbJ h0;simp only [go_sem];cases h3:(r.aNA.length:Int) !=r.aNB.aNA;rotate_left
 ·have hb:kH r=false:=qW λh=>by have:=h.len;simp [this] at h3
  simp only [go_sem,hb]
 have aD:(r.aNA.length:Int)=r.aNB.aNA:=by simpa using h3
 have hlb:r.aNA.length<=12:=by omega
 simp only [go_sem];refine qY (λi:Nat=>St.of [(1,Bx 100 b),(29,Ni r.aNA.length),(30,Ni i)] [(100,Bi b _ (je r))]) (λi=>i<=r.aNA.length/\∀(t:Nat) (x:Tk),t<i->r.aNA[t]?=some x->jS r.aNB r.aNA t x=true) (λi=>r.aNA.length-i) 0 (jt [100] (by simp only [go_sem,je,jd]<;>trivial)) ?_
 rintro j ⟨hj,eE⟩;by_cases bN:j<r.aNA.length
 ·have a9:(j:Int)<r.aNA.length:=by omega
  obtain ⟨x,hx⟩:=ja bN;have hw:=kx j;simp only [go_sem,je,jd,a9];refine jm (joa r j x hx h0 aD) λη=>?_
  simp only [go_sem];cases hs:jS r.aNB r.aNA j x
  ·have hb:kH r=false:=qW λh=>by have:=h.aNA j x hx;rw [hs] at this;cases this
   simp only [go_sem,hb]
  ·simp only [go_sem,hw]
   exact ⟨j+1,⟨bN,λt y ht hy=>by rcases Nat.lt_or_ge t j with h'|h';exact eE t y h' hy;obtain rfl:t=j:=(by omega);rw [hx] at hy;cases hy;exact hs⟩,(jt [100]),by (try dsimp only);omega⟩
 have a9:¬(j:Int)<r.aNA.length:=by omega
 have cX:∀(t:Nat) (x:Tk),r.aNA[t]?=some x->jS r.aNB r.aNA t x=true:=λt x hx=>eE t x (by have:=(aNP.1 hx).1;omega) hx
 simp only [go_sem,je,jd,a9];refine jm (qB r 4 (by omega)) λη=>?_
 simp only [go_sem];refine jm (qB r 5 (by omega)) λη=>?_
 simp only [go_sem];refine jm (qB r 6 (by omega)) λη=>?_
 simp only [go_sem];have rD:∀v:Int,jgf r.aNA=v->v≠0->kH r=(r.aND==v):=λv hv eU=>juK (by simpa [inB] using h1) h0 aD cX hv eU
 have gU:jgf r.aNA=if (qV 4 r.aNA).length=r.aNA.length then 2 else if (qV 5 r.aNA).length=1/\(qV 4 r.aNA).length+(qV 5 r.aNA).length+(qV 6 r.aNA).length=r.aNA.length then 3 else if (qV 5 r.aNA).length=0/\0<(qV 6 r.aNA).length/\(qV 4 r.aNA).length+(qV 5 r.aNA).length+(qV 6 r.aNA).length=r.aNA.length then 4 else if (qV 5 r.aNA).length=0/\(qV 6 r.aNA).length=0 then 1 else 0:=rfl
 have b4:=vx 4 r.aNA r.aNA.length;have b5:=vx 5 r.aNA r.aNA.length;have b6:=vx 6 r.aNA r.aNA.length;change (qV 4 r.aNA).length<=_ at b4;change (qV 5 r.aNA).length<=_ at b5;change (qV 6 r.aNA).length<=_ at b6;generalize (qV 4 r.aNA).length=c4 at*;generalize (qV 5 r.aNA).length=c5 at*;generalize (qV 6 r.aNA).length=c6 at*;generalize r.aNA.length=L at*;have w45:IntKind.i64.wrap ((c4:Int)+c5)=((c4+c5:Nat):Int):=by rw [kS (by omega) (by omega)];omega
 have w456:IntKind.i64.wrap (((c4+c5:Nat):Int)+c6)=((c4+c5+c6:Nat):Int):=by rw [kS (by omega) (by omega)];omega
 simp only [go_sem,w45,w456];cases hA:(c4:Int)==L;rotate_left
 ·have u5:c4=L:=jyd hA
  have aH:jgf r.aNA=2:=by rw [gU,if_pos (by omega)]
  have hb:kH r=(r.aND==2):=rD _ aH (by decide)
  simp only [go_sem,hb]
 have u5:¬c4=L:=jye hA;cases hB:(c5:Int)==1;rotate_left
 ·have yV:c5=1:=jyd hB
  have tI:((c5:Int)==0)=false:=by rw [yV];rfl
  cases hR:((c4+c5+c6:Nat):Int)==L
  ·have uT:¬c4+c5+c6=L:=jye hR
   have aH:jgf r.aNA=0:=by rw [gU,if_neg (by omega),if_neg (by omega),if_neg (by omega),if_neg (by omega)]
   have hb:kH r=false:=qW λh=>h.live (h.aND.trans aH)
   simp only [go_sem,hB,tI,hb];cases eO:r.aND==1
   ·simp only [go_sem]
   ·simp only [go_sem,tI]
  ·have uT:c4+c5+c6=L:=jyd hR
   have aH:jgf r.aNA=3:=by rw [gU,if_neg (by omega),if_pos (by omega)]
   have hb:kH r=(r.aND==3):=rD _ aH (by decide)
   simp only [go_sem,hB,hb]
 have yV:¬c5=1:=jye hB;cases hC:(c5:Int)==0
 ·have hC':¬c5=0:=jye hC
  have aH:jgf r.aNA=0:=by rw [gU,if_neg (by omega),if_neg (by omega),if_neg (by omega),if_neg (by omega)]
  have hb:kH r=false:=qW λh=>h.live (h.aND.trans aH)
  simp only [go_sem,hB,hC,hb];cases eO:r.aND==1
  ·simp only [go_sem]
  ·simp only [go_sem,hC]
 have hC':c5=0:=jyd hC;by_cases h6:0<c6
 ·have sB:(c6:Int)>0:=by omega
  have u6:((c6:Int)==0)=false:=by simp only [beq_eq_false_iff_ne,ne_eq];omega
  cases hR:((c4+c5+c6:Nat):Int)==L
  ·have uT:¬c4+c5+c6=L:=jye hR
   have aH:jgf r.aNA=0:=by rw [gU,if_neg (by omega),if_neg (by omega),if_neg (by omega),if_neg (by omega)]
   have hb:kH r=false:=qW λh=>h.live (h.aND.trans aH)
   simp only [go_sem,hB,hC,sB,hb];cases eO:r.aND==1
   ·simp only [go_sem]
   ·simp only [go_sem,hC,u6]
  ·have uT:c4+c5+c6=L:=jyd hR
   have aH:jgf r.aNA=4:=by rw [gU,if_neg (by omega),if_neg (by omega),if_pos (by omega)]
   have hb:kH r=(r.aND==4):=rD _ aH (by decide)
   simp only [go_sem,hB,hC,sB,hb]
 ·have sB:¬(c6:Int)>0:=by omega
  have u6:((c6:Int)==0)=true:=by simp only [aPV];omega
  have aH:jgf r.aNA=1:=by rw [gU,if_neg (by omega),if_neg (by omega),if_neg (by omega),if_pos (by omega)]
  have hb:kH r=(r.aND==1):=rD _ aH (by decide)
  simp only [go_sem,hB,hC,sB,hb];cases eO:r.aND==1
  ·rw [eO] at hb
   simp only [go_sem]
  ·rw [eO] at hb
   simp only [go_sem,hC,u6]
theorem jps {α:Type} {A B C v:List α} {o j:Nat} (ho:o=A.length+j) (hj:j+v.length<=B.length):ky (A++(B++C)) o v=A++(ky B j v++C):=by
 subst ho;rw [kY _ _ _ (by simp only [aNR];omega),kY _ _ _ hj]
 have h1:(A++(B++C)).take (A.length+j)=A++B.take j:=by
  rw [List.take_append,aNU (by omega),aPI,List.take_append_of_le_length (by omega)]
 have h2:(A++(B++C)).drop (A.length+j+v.length)=B.drop (j+v.length)++C:=by
  rw [List.drop_append,List.drop_eq_nil_of_le (by omega),aOQ,show A.length+j+v.length-A.length=j+v.length by omega,List.drop_append_of_le_length (by omega)]
 rw [h1,h2];simp only [aOB]
section
variable {α:Type} {enc:α->List D} {size ty:Nat} {l:List α} {k:Nat} {x:α}
theorem jbB (hx:l[k]?=some x):l.flatMap enc=(l.take k).flatMap enc++(enc x++(l.drop (k+1)).flatMap enc):=by
 obtain ⟨hk,he⟩:=aNP.1 hx;have e:l=l.take k++x::l.drop (k+1):=by rw [<-he,<-aPG hk,aPF]
 have h2:=congrArg (List.flatMap enc) e;rw [h2,aPK,aOM]
theorem jkg (hs:∀x,(enc x).length=size) (hx:l[k]?=some x):((l.take k).flatMap enc).length=k*size:=by
 have hk:=(aNP.1 hx).1;rw [jC hs,aNV,aPD (by omega)]
theorem jbH (hs:∀x,(enc x).length=size) (hx:l[k]?=some x) {y:α} {j:Nat} {v:List D} (hy:ky (enc x) j v=enc y) (hj:j+v.length<=size):D.put [] (k*size+j) v (.sl size ty (l.flatMap enc))=.sl size ty ((l.set k y).flatMap enc):=by
 have hk:=(aNP.1 hx).1;have h2:(l.set k y)[k]?=some y:=aNX hk;have e1:(l.set k y).take k=l.take k:=List.take_set_of_le (aOC k);have e2:(l.set k y).drop (k+1)=l.drop (k+1):=List.drop_set_of_lt (Nat.lt_succ_self k);simp only [D.put];rw [jbB hx,jps (by rw [jkg hs hx]) (by rw [hs];exact hj),hy,jbB h2,e1,e2]
theorem qH (hs:∀x,(enc x).length=size) (hx:l[k]?=some x) {j n:Nat} (hj:j+n<=size):((l.flatMap enc).drop (k*size+j)).take n=((enc x).drop j).take n:=by
 rw [jbB hx,<-List.drop_drop,List.drop_left' (jkg hs hx),List.drop_append_of_le_length (by rw [hs];omega),List.take_append_of_le_length (by rw [aOI,hs];omega)]
theorem qZ (hs:∀x,(enc x).length=size) (hx:l[k]?=some x) {j n:Nat} (hj:j+n<=size):k*size+j+n<=(l.flatMap enc).length:=by
 have hk:=(aNP.1 hx).1;rw [jC hs];have:(k+1)*size<=l.length*size:=aQW _ hk;rw [Nat.succ_mul] at this;omega
end
section
variable {l:List Tk} {k:Nat} {x:Tk}
theorem jcd (hx:l[k]?=some x) (v:Int):D.put [] (k*4) [.val (.int .i64 v)] (jx l)=jx (l.set k ⟨v,x.aNL,x.tri,x.til⟩):=jbH (enc:=jH) (size:=4) (λ_=>rfl) hx (j:=0) rfl (by simp)
theorem jAr (hx:l[k]?=some x) (v:Int):D.put [] (k*4+0) [.val (.int .i64 v)] (jx l)=jx (l.set k ⟨v,x.aNL,x.tri,x.til⟩):=jbH (enc:=jH) (size:=4) (λ_=>rfl) hx (j:=0) rfl (by simp)
theorem jxm (hx:l[k]?=some x) (v:Int):D.put [] (k*4+1) [.val (.int .i64 v)] (jx l)=jx (l.set k ⟨x.aND,v,x.tri,x.til⟩):=jbH (enc:=jH) (size:=4) (λ_=>rfl) hx (j:=1) rfl (by simp)
theorem jDu (hx:l[k]?=some x) (v:Int):D.put [] (k*4+2) [.val (.int .i64 v)] (jx l)=jx (l.set k ⟨x.aND,x.aNL,v,x.til⟩):=jbH (enc:=jH) (size:=4) (λ_=>rfl) hx (j:=2) rfl (by simp)
theorem jfG (hx:l[k]?=some x) (v:Int):D.put [] (k*4+3) [.val (.int .i64 v)] (jx l)=jx (l.set k ⟨x.aND,x.aNL,x.tri,v⟩):=jbH (enc:=jH) (size:=4) (λ_=>rfl) hx (j:=3) rfl (by simp)
theorem jvR (hx:l[k]?=some x):((l.flatMap jH).drop (k*4)).take 4=jH x:=qH (enc:=jH) (size:=4) (λ_=>rfl) hx (j:=0) (n:=4) (by decide)
theorem jhL (hx:l[k]?=some x):((l.flatMap jH).drop (k*4)).take 1=[.val (.int .i64 x.aND)]:=qH (enc:=jH) (size:=4) (λ_=>rfl) hx (j:=0) (n:=1) (by decide)
theorem jf3 (hx:l[k]?=some x):((l.flatMap jH).drop (k*4+0)).take 1=[.val (.int .i64 x.aND)]:=qH (enc:=jH) (size:=4) (λ_=>rfl) hx (j:=0) (n:=1) (by decide)
theorem jud (hx:l[k]?=some x):((l.flatMap jH).drop (k*4+1)).take 1=[.val (.int .i64 x.aNL)]:=qH (enc:=jH) (size:=4) (λ_=>rfl) hx (j:=1) (n:=1) (by decide)
theorem jnr (hx:l[k]?=some x):((l.flatMap jH).drop (k*4+2)).take 1=[.val (.int .i64 x.tri)]:=qH (enc:=jH) (size:=4) (λ_=>rfl) hx (j:=2) (n:=1) (by decide)
theorem jzi (hx:l[k]?=some x):((l.flatMap jH).drop (k*4+3)).take 1=[.val (.int .i64 x.til)]:=qH (enc:=jH) (size:=4) (λ_=>rfl) hx (j:=3) (n:=1) (by decide)
theorem jjA (hx:l[k]?=some x):k*4+4<=(l.flatMap jH).length:=qZ (enc:=jH) (size:=4) (λ_=>rfl) hx (j:=0) (n:=4) (by decide)
theorem vL (hx:l[k]?=some x):k*4+1<=(l.flatMap jH).length:=qZ (enc:=jH) (size:=4) (λ_=>rfl) hx (j:=0) (n:=1) (by decide)
theorem jtG (hx:l[k]?=some x):k*4+1+1<=(l.flatMap jH).length:=qZ (enc:=jH) (size:=4) (λ_=>rfl) hx (j:=1) (n:=1) (by decide)
theorem jnb (hx:l[k]?=some x):k*4+2+1<=(l.flatMap jH).length:=qZ (enc:=jH) (size:=4) (λ_=>rfl) hx (j:=2) (n:=1) (by decide)
theorem jlg (hx:l[k]?=some x):k*4+3+1<=(l.flatMap jH).length:=qZ (enc:=jH) (size:=4) (λ_=>rfl) hx (j:=3) (n:=1) (by decide)
end
section
variable {l:List En} {k:Nat} {x:En}
theorem jvS (hx:l[k]?=some x):((l.flatMap jk).drop (k*4)).take 4=jk x:=qH (enc:=jk) (size:=4) (λ_=>rfl) hx (j:=0) (n:=4) (by decide)
theorem jq6 (hx:l[k]?=some x):((l.flatMap jk).drop (k*4+1)).take 1=[.val (.int .i64 x.seq)]:=qH (enc:=jk) (size:=4) (λ_=>rfl) hx (j:=1) (n:=1) (by decide)
theorem jvs (hx:l[k]?=some x):k*4+4<=(l.flatMap jk).length:=qZ (enc:=jk) (size:=4) (λ_=>rfl) hx (j:=0) (n:=4) (by decide)
theorem jqr (hx:l[k]?=some x):k*4+1+1<=(l.flatMap jk).length:=qZ (enc:=jk) (size:=4) (λ_=>rfl) hx (j:=1) (n:=1) (by decide)
end
abbrev ja1 (b ty:Nat) (r:Rn) (e1 e2:jf):Ob:=.box b ty [.a (.v (.int .i64 r.id)),.a (.v (.int .i64 r.aNB.aNI)),.a (.v (.int .i64 r.aNB.aNN)),.a (.v (.int .i64 r.aNB.aNM)),.a (.v (.int .i64 r.aNB.aNA)),.own (js r.aNB.aNF) e1,.a (.v (.int .i64 r.aND)),.own (jx r.aNA) e2]
abbrev ZRn (b ty:Nat):Ob:=.box b ty [.a (.v (.int .i64 0)),.a (.v (.int .i64 0)),.a (.v (.int .i64 0)),.a (.v (.int .i64 0)),.a (.v (.int .i64 0)),.a (.v (.slice none 0 0)),.a (.v (.int .i64 0)),.a (.v (.slice none 0 0))]
theorem jjd (l:List Tk):D.sl 4 tTk (l.flatMap jH)=jx l:=rfl
def je8:C:=iS [iA 1 (.box 52 8 (.t 0)),iA 2 wAN] (iS [aF 3 1 1,aT 4 5 3,iA 5 (iK 168 [4]),aF 6 1 1,wAG 6 5] (iS [iA 7 (.bsl 46 4 0 [] []),aF 8 7 1,aL 9 8,iA 10 (.app 46 4 32 (.t 7) (.t 9)),aF 11 7 1,wAJ 11 10] (iS [aT 12 8 1,wAC 2 12] .ret)))
theorem jiu:fnC Tryz.prog Tryz.f133=some (je8,[.cell 2 true 8],13):=by kernel_rfl
def jfq:C:=iS [iA 1 (.box 52 8 (.t 0)),iA 2 wAN] (iS [aF 3 1 1,aT 4 5 3,iA 5 (iK 163 [4]),aF 6 1 1,wAG 6 5] (iS [aF 7 7 1,aL 8 7,iA 9 (.app 46 4 32 (.c (.slice none 0 0)) (.t 8)),aF 10 7 1,wAJ 10 9] (iS [aT 11 8 1,wAC 2 11] .ret)))
theorem jiM:fnC Tryz.prog Tryz.f127=some (jfq,[.cell 2 true 8],12):=by kernel_rfl
theorem jeW (r:Rn) (hb:r.aNB.aNF.length<=4000000) (ht:r.aNA.length<=4000000):jW Tryz.prog 127 [.agg (je r)] (.agg (je r)):=by
 refine pf_ jiM ?_;unfold jfq;have h1:r.aNA.length<=maxLen:=zy;have h2:r.aNA.length*32<=140737488355328:=by omega
 simp only [go_sem,je,jd];intro b b2;refine jm (jaQ r.aNB hb) λη=>?_
 simp only [go_sem,jd];simp only [go_sem,h1,h2,jjd]
theorem vI (r:Rn) (hb:r.aNB.aNF.length<=4000000) (ht:r.aNA.length<=4000000):jW Tryz.prog 133 [.agg (je r)] (.agg (je r)):=by
 refine pf_ jiu ?_;unfold je8;have h1:r.aNA.length<=maxLen:=zy;have h2:r.aNA.length*32<=140737488355328:=by omega
 simp only [go_sem,je,jd];intro b b2;refine jm (jeT r.aNB hb) λη=>?_
 simp only [go_sem,jd];simp only [go_sem,h1,h2,jjd]
def je7:C:=iS [iA 2 (.box 52 8 (.t 0)),aO 4 false] (iS [aT 5 8 2,iA 6 (iK 130 [5]),aM 7 6,iB 8 7 true (iM 1),iB 9 7 true (iF 7 2),iB 10 7 true (iL 9),iB 11 7 true (iG 10),iB 12 7 true (iQ .sub 3 11 1),iB 13 7 true (.call 68 [.t 8,oI 0,.t 12]),iA 14 (iY 7 (.t 13) (oF)),aM 15 14,iB 16 15 true (iF 7 2),iB 17 15 true (iL 16),iB 18 15 true (iM 1),iB 19 15 true (iI 4 17 18),iB 20 15 true (iF 0 19),iB 21 15 true (iL 20),iB 22 15 true (iQ .eql 3 21 3),iA 23 (iY 15 (.t 22) (oF)),aM 4 23] .ret)
theorem jit:fnC Tryz.prog Tryz.f172=some (je7,[.t 4],24):=by kernel_rfl
def jfl:C:=iS [iA 2 (.box 52 8 (.t 0)),iA 4 wAN] (iS [aT 9 8 2,iA 10 (iK 133 [9]),iA 5 wAN,wAC 5 10] (.seq (iS [aT 11 8 2,aM 12 1,iA 13 (iK 172 [11,12]),aU 14 13] (iD 14 (iS [aT 15 8 5,wAC 4 15] .ret) .skip)) (iS [aF 16 7 5,aL 17 16,aM 18 1,aI 19 4 17 18,aF 20 0 19,iC (.st 1 [none] (.t 20) (oI 4))] (iS [aF 21 7 5,aL 22 21,aM 23 1,aI 24 4 22 23,aF 25 3 24,iC (.st 1 [none] (.t 25) (oI 0))] (iS [aF 26 1 2,aT 27 5 26,aM 28 1,iA 29 (iK 201 [27,28]),aM 6 29] (.seq (iS [aN 7 0] (.blk 0 (.loop (.seq (iS [aM 30 7,aM 31 6,aG 32 31,aP 33 .lss 3 30 32] (iD 33 .skip (.exit 0))) (.seq (.blk 1 (.seq (.dreg (tA 0 36 (iF 7 5) (tA 1 37 (iL 36) (tA 2 38 (iM 6) (tA 3 39 (iM 7) (tA 4 40 (iI 1 38 39) (tA 5 41 (iL 40) (tA 6 42 (iI 4 37 41) (tA 7 43 (iT 4 42) (tC 8 wAO [7,6,5,4,3,2,1,0] (.alt (wAB 8 43) [] .done .stop) .stop)))))))))) (iS [aF 44 1 8,aL 45 44,aQ 46 .sub 3 45 1,aF 47 1 8,wAD 47 46] (.seq (iS [aF 48 1 8,aL 49 48,aQ 50 .eql 3 49 0] (iD 50 (.reg [aF 51 0 8,iC (.st 1 [none] (.t 51) (oI 2))]) .skip)) (.dreg (tA 0 52 (iF 7 5) (tA 1 53 (iL 52) (tA 2 54 (iM 6) (tA 3 55 (iM 7) (tA 4 56 (iI 1 54 55) (tA 5 57 (iL 56) (tA 6 58 (iT 4 8) (tA 7 59 (iI 4 53 57) (.alt (wAB 59 58) [] .done .stop)))))))))))))) (.reg [aM 34 7,aQ 35 .add 3 34 1,aM 7 35])))))) (iS [aT 60 8 5,iA 61 (iK 179 [60]),aF 62 6 5,wAD 62 61] (iS [aT 63 8 5,wAC 4 63] .ret))))))))
theorem jiH:fnC Tryz.prog Tryz.f190=some (jfl,[.cell 4 true 8],64):=by kernel_rfl
def jlQ:C:=iS [aM 7 0,aF 8 0 7,aF 9 7 8,aL 10 9,aM 11 1,aI 12 4 10 11,aF 13 0 12,iC (.st 1 [none] (.t 13) (oI 4))] (iS [aM 14 0,aF 15 0 14,aF 16 7 15,aL 17 16,aM 18 1,aI 19 4 17 18,aF 20 3 19,iC (.st 1 [none] (.t 20) (oI 0))] (.seq (iS [aM 21 0,aF 22 0 21,aF 23 1 22,aT 24 5 23,aM 25 1,iA 26 (iK 174 [24,25]),aG 27 26,aN 28 0] (.blk 0 (.loop (iS [aP 29 .lss 3 28 27] (.seq (iD 29 .skip (.exit 0)) (.seq (.blk 1 (iS [aI 30 1 26 28,aL 31 30,aM 5 31] (iS [aM 32 0,aF 33 0 32,aF 34 7 33,aL 35 34,aM 36 5,aI 37 4 35 36,aM 6 37] (iS [aM 38 6,aF 39 0 38,aF 40 1 39,aL 41 40,aQ 42 .sub 3 41 1,aF 43 0 38,aF 44 1 43,wAD 44 42] (iS [aM 45 6,aF 46 0 45,aF 47 1 46,aL 48 47,aQ 49 .eql 3 48 0] (iD 49 (.reg [aM 50 6,aF 51 0 50,aF 52 0 51,iC (.st 1 [none] (.t 52) (oI 2))]) .skip)))))) (.reg [aQ 53 .add 3 28 1,aM 28 53]))))))) (.seq (.dreg (tA 0 54 (iM 0) (tA 1 55 (iF 0 54) (tA 2 56 (iT 8 55) (tA 5 59 (iM 0) (tA 6 60 (iF 0 59) (tA 7 61 (iF 7 60) (tA 8 62 (iL 61) (tA 9 63 (iG 62) (tC 57 (.call 47 [.t 56,oI 4]) [9,8,7,6,5] (tA 4 58 (iG 57) (tA 10 64 (iP .eql 3 58 63) .done)) .stop)))))))))) (iD 64 (.reg [aM 65 0,aF 66 0 65,aF 67 6 66,iC (.st 1 [none] (.t 67) (oI 2))]) .skip))))
theorem jmu:fnC Tryz.prog Tryz.f124=some (jlQ,[],68):=by kernel_rfl
theorem jeS (r:Rn) (t:Int):jW Tryz.prog 172 [.agg (je r),.c (.val (.int .i64 t))] (.c (.val (.bool (vH r t)))):=by
 refine pf_ jit ?_;unfold je7;simp only [go_sem,je,jd];intro b;refine jm (jdl r) λη=>?_
 simp only [go_sem];cases h:kH r
 ·have hb:vH r t=false:=by simp [vH,h]
  simp only [go_sem,hb]
 have hP:=runOk_iff.1 h;obtain ⟨n,hn,d9,cF,-⟩:=jbJ hP.aNB;have aD:=hP.len;have hw:IntKind.i64.wrap ((r.aNA.length:Int)-1)=(r.aNA.length:Int)-1:=vF;simp only [go_sem,hw];refine jm (jI t 0 (r.aNA.length-1)) λη=>?_
 simp only [go_sem];cases h1:decide (0<=t/\t<=(r.aNA.length:Int)-1)
 ·have hb:vH r t=false:=by simp [vH,inB,h1]
  simp only [go_sem,hb]
 have cW:0<=t/\t<=(r.aNA.length:Int)-1:=by simpa using h1
 have fF:0<=t:=cW.1;have dB:t.toNat<r.aNA.length:=by omega
 obtain ⟨x,hx⟩:=ja dB;have hb:vH r t=(x.aND==3):=by simp [vH,inB,cW,jnL hx,h]
 simp only [go_sem,fF,dB,jP hx,jH,hb]
theorem jsU {ts:List Tk} {v:Int} {y:Tk} (hy:ts[v.toNat]?=some y):ja6 ts v=ts.set v.toNat ⟨if IntKind.i64.wrap (y.aNL-1)=0 then 2 else y.aND,IntKind.i64.wrap (y.aNL-1),y.tri,y.til⟩:=by simp [ja6,hy]
theorem jng {l:List Int} {k:Nat} {v:Int} (hv:l[k]?=some v) (ts:List Tk):(l.take (k+1)).foldl ja6 ts=ja6 ((l.take k).foldl ja6 ts) v:=by
 rw [aOA,hv];simp
theorem jmd (r:Rn) (t:Int) (cP:r.aNB.aNF.length<=4000000) (ht:r.aNA.length<=4000000):jW Tryz.prog 190 [.agg (je r),.c (.val (.int .i64 t))] (.agg (je (qa r t))):=by
 refine pf_ jiH ?_;unfold jfl;simp only [go_sem,je,jd];intro b b4;refine jm (vI r cP ht) λbD=>?_
 simp only [go_sem,je,jd];intro b5;refine jm (jeS r t) λη=>?_
 simp only [go_sem];cases h:vH r t
 ·simp only [go_sem,juL h]
 obtain ⟨k,x,rfl,hx,hs,hP⟩:=jbc h;obtain ⟨n,hn,d9,cF,dH,bU,aW,-⟩:=jbJ hP.aNB;have aD:=hP.len;have dG:=(aNP.1 hx).1;have fF:=qX k;have cG:(r.aNA.set k ⟨4,x.aNL,x.tri,x.til⟩)[k]?=some ⟨4,x.aNL,x.tri,x.til⟩:=aNX dG;have lS:k<(r.aNA.set k ⟨4,x.aNL,x.tri,x.til⟩).length:=by rw [aOE];exact dG
 have aIU:Int.toNat (k:Int)=k:=aNW k;simp only [go_sem,dG,fF,jAr hx,vL hx,lS,jlg cG,jfG cG,aPE];refine jm (jjv r.aNB k n hn cF dH) λcO=>?_
 simp only [go_sem];have uO:=jt9 hn cF dH k;generalize gB:r.aNA.set k ⟨4,x.aNL,x.tri,0⟩=ts0 at*;have dB:ts0.length=r.aNA.length:=by rw [<-gB,aOE]
 have uK:vX r.aNB r.aNA k x=(jb5 r.aNB k).foldl ja6 ts0:=by rw [<-gB];rfl
 have aIF:∀z∈ts0,1<=z.aND/\z.aND<=6:=by rw [<-gB];exact ji2 (q:=λs=>1<=s/\s<=6) (by simp) hP.st
 refine qY (λi:Nat=>St.of [(4,Bx 400 b4),(5,Bx 500 b5),(6,Hd 6 (cO 0)),(7,Ni i)] [(400,ZRn b4 tRn),(500,ja1 b5 tRn ⟨r.id,r.aNB,r.aND,((jb5 r.aNB k).take i).foldl ja6 ts0⟩ (bD 5) (bD 7)),(6,.loose (jb (jb5 r.aNB k)) (cO 0))]) (λi=>i<=(jb5 r.aNB k).length) (λi=>(jb5 r.aNB k).length-i) 0 (jt [400,500,2900] (by simp only [go_sem,aOW,List.foldl_nil]<;>trivial)) ?_
 rintro j hj;by_cases aB:j<(jb5 r.aNB k).length
 ·have aA:(j:Int)<(jb5 r.aNB k).length:=by omega
  obtain ⟨v,hv⟩:=ja aB;have pN:=jsC hn (aNQ hv);have hU:=jgH ((jb5 r.aNB k).take j) ts0;have fC:=jng hv ts0;generalize ((jb5 r.aNB k).take j).foldl ja6 ts0=ts at*;have bQ:v.toNat<ts.length:=by omega
  have nV:=pN.1;obtain ⟨y,hy⟩:=ja bQ;have hw:=kx j;rw [jsU hy] at fC;simp only [go_sem,aB,aA,jq hv,jp aB,bQ,nV,jvR hy,jjA hy,jH];intro b8;generalize IntKind.i64.wrap (y.aNL-1)=nd at*;cases hz:nd==0
  ·have cL:¬nd=0:=by simpa using hz
   rw [if_neg cL] at fC;simp only [go_sem,aB,jq hv,jp aB,bQ,nV,jvR hy,jjA hy,jH,jcc y.aND nd y.tri y.til bQ,hw];exact qf (j+1) (jt [400,500,6] (by simp only [go_sem,fC]<;>trivial))
  ·have cL:nd=0:=by simpa using hz
   rw [if_pos cL] at fC;simp only [go_sem,aB,jq hv,jp aB,bQ,nV,jvR hy,jjA hy,jH,jcc 2 nd y.tri y.til bQ,hw];exact qf (j+1) (jt [400,500,6] (by simp only [go_sem,fC]<;>trivial))
 have aA:¬(j:Int)<(jb5 r.aNB k).length:=by omega
 rw [aNU (by omega)]
 have yF:=jnk hP hx hs;have hR:qa r k=jil r k x:=jfF hx h;have hlD:(vX r.aNB r.aNA k x).length=r.aNA.length:=jaX _ _ _ _;have aBV:∀z∈vX r.aNB r.aNA k x,1<=z.aND/\z.aND<=6:=joK (q:=λs=>1<=s/\s<=6) (by decide) (by decide) hP.st
 rw [hR,<-uK];have t6:jil r k x=⟨r.id,r.aNB,jgf (vX r.aNB r.aNA k x),vX r.aNB r.aNA k x⟩:=by rw [yF];rfl
 rw [t6];generalize vX r.aNB r.aNA k x=tD at*;simp only [go_sem,aA];refine jm (jdk ⟨r.id,r.aNB,r.aND,tD⟩ aBV (by simp only;omega)) λη=>?_
 simp only [go_sem]
def jaY:C:=iS [iA 2 (.box 52 8 (.t 0)),iA 4 wAN] (.seq (iS [aN 5 0] (.blk 0 (.loop (.seq (iS [aM 7 5,aF 8 7 2,aL 9 8,aG 10 9,aP 11 .lss 3 7 10] (iD 11 .skip (.exit 0))) (.seq (.blk 1 (iS [aF 14 7 2,aL 15 14,aM 16 5,aI 17 4 15 16,aT 18 4 17,iA 6 wAO,wAB 6 18] (.seq (iS [aF 19 0 6,aL 20 19,aQ 21 .neq 3 20 4,aM 22 21,iB 23 22 true (iF 0 6),iB 24 22 true (iL 23),iB 25 22 true (iQ .neq 3 24 5),iA 26 (iY 22 (.t 25) (oF))] (iD 26 (iS [aF 27 0 6,iC (.st 1 [none] (.t 27) (oI 6))] (.reg [aF 28 3 6,iC (.st 1 [none] (.t 28) (oI 0))])) .skip)) (.reg [aF 29 7 2,aL 30 29,aM 31 5,aT 32 4 6,aI 33 4 30 31,wAB 33 32])))) (.reg [aM 12 5,aQ 13 .add 3 12 1,aM 5 13])))))) (iS [aM 34 1,aF 35 6 2,wAD 35 34] (iS [aT 36 8 2,wAC 4 36] .ret)))
theorem jbj:fnC Tryz.prog Tryz.f173=some (jaY,[.cell 4 true 8],37):=by kernel_rfl
def jdL:C:=iS [iA 2 (.box 52 8 (.t 0)),iA 4 wAN] (iS [aT 6 8 2,iA 7 (iK 133 [6]),iA 5 wAN,wAC 5 7] (.seq (iS [aT 8 8 2,aM 9 1,iA 10 (iK 172 [8,9]),aU 11 10] (iD 11 (iS [aT 12 8 5,wAC 4 12] .ret) .skip)) (iS [aF 13 7 5,aL 14 13,aM 15 1,aI 16 4 14 15,aF 17 3 16,iC (.st 1 [none] (.t 17) (oI 0))] (iS [aF 18 7 5,aL 19 18,aM 20 1,aI 21 4 19 20,aF 22 0 21,iC (.st 1 [none] (.t 22) (oI 2))] (.seq (.seq (.dreg (tA 0 23 (iF 7 5) (tA 1 24 (iL 23) (tA 2 25 (iM 1) (tA 3 26 (iI 4 24 25) (tA 4 27 (iF 2 26) (tA 5 28 (iL 27) (tA 6 29 (iF 1 2) (tA 7 30 (iF 1 29) (tA 8 31 (iL 30) (tA 9 32 (iP .lss 3 28 31) .done))))))))))) (iD 32 (iS [aT 33 8 5,wAC 4 33] .ret) .skip)) (iS [aF 34 7 5,aL 35 34,aM 36 1,aI 37 4 35 36,aF 38 0 37,iC (.st 1 [none] (.t 38) (oI 5))] (iS [aT 39 8 5,iA 40 (.call 173 [.t 39,oI 3]),wAC 4 40] .ret)))))))
theorem jgR:fnC Tryz.prog Tryz.f120=some (jdL,[.cell 4 true 8],41):=by kernel_rfl
def jdV:C:=iS [aM 6 0,aF 7 0 6,aF 8 7 7,aL 9 8,aG 10 9,aN 11 0] (.blk 0 (.loop (iS [aP 12 .lss 3 11 10] (.seq (iD 12 .skip (.exit 0)) (.seq (.blk 1 (iS [aM 13 11,aM 4 13] (iS [aM 14 0,aF 15 0 14,aF 16 7 15,aL 17 16,aM 18 4,aI 19 4 17 18,aM 5 19] (iS [aM 20 4,aM 21 1,aP 22 .neq 3 20 21,aM 23 22,iB 24 23 true (iM 5),iB 25 23 true (iF 0 24),iB 26 23 true (iF 0 25),iB 27 23 true (iL 26),iB 28 23 true (iQ .neq 3 27 4),iA 29 (iY 23 (.t 28) (oF))] (iD 29 (iS [aM 30 5,aF 31 0 30,aF 32 0 31,iC (.st 1 [none] (.t 32) (oI 6))] (.reg [aM 33 5,aF 34 0 33,aF 35 3 34,iC (.st 1 [none] (.t 35) (oI 0))])) .skip))))) (.reg [aQ 36 .add 3 11 1,aM 11 36]))))))
theorem jdE:fnC Tryz.prog Tryz.f171=some (jdV,[],37):=by kernel_rfl
def jjl:C:=iS [aM 5 0,aF 6 0 5,aF 7 7 6,aL 8 7,aM 9 1,aI 10 4 8 9,aM 4 10] (iS [aM 11 4,aF 12 0 11,aF 13 3 12,iC (.st 1 [none] (.t 13) (oI 0))] (.seq (.seq (.dreg (tA 0 14 (iM 4) (tA 1 15 (iF 0 14) (tA 2 16 (iF 2 15) (tA 3 17 (iL 16) (tA 4 18 (iM 0) (tA 5 19 (iF 0 18) (tA 6 20 (iF 1 19) (tA 7 21 (iF 1 20) (tA 8 22 (iL 21) (tA 9 23 (iP .lss 3 17 22) .done))))))))))) (iD 23 (iS [aM 24 4,aF 25 0 24,aF 26 0 25,iC (.st 1 [none] (.t 26) (oI 2))] .ret) .skip)) (iS [aM 27 4,aF 28 0 27,aF 29 0 28,iC (.st 1 [none] (.t 29) (oI 5))] (iS [aM 30 0,aM 31 1,iA 32 (iK 171 [30,31])] (.reg [aM 33 0,aF 34 0 33,aF 35 6 34,iC (.st 1 [none] (.t 35) (oI 3))])))))
theorem jlE:fnC Tryz.prog Tryz.f118=some (jjl,[],36):=by kernel_rfl
theorem jaO (r:Rn) (t:Int) (cP:r.aNB.aNF.length<=4000000) (ht:r.aNA.length<=4000000):jW Tryz.prog 120 [.agg (je r),.c (.val (.int .i64 t))] (.agg (je (jB r t))):=by
 refine pf_ jgR ?_;unfold jdL;simp only [go_sem,je,jd];intro b b4;refine jm (vI r cP ht) λbD=>?_
 simp only [go_sem,je,jd];intro b5;refine jm (jeS r t) λη=>?_
 simp only [go_sem];cases h:vH r t
 ·simp only [go_sem,jfE h]
 obtain ⟨k,x,rfl,hx,hs,hP⟩:=jbc h;obtain ⟨n,hn,d9,cF,dH,bU,aW,-⟩:=jbJ hP.aNB;have aD:=hP.len;have dG:=(aNP.1 hx).1;have fF:=qX k;have cG:(r.aNA.set k ⟨x.aND,x.aNL,x.tri,0⟩)[k]?=some ⟨x.aND,x.aNL,x.tri,0⟩:=aNX dG;have tR:(r.aNA.set k ⟨2,x.aNL,x.tri,0⟩)[k]?=some ⟨2,x.aNL,x.tri,0⟩:=aNX dG;have lS:k<(r.aNA.set k ⟨x.aND,x.aNL,x.tri,0⟩).length:=by rw [aOE];exact dG
 have oU:k<(r.aNA.set k ⟨2,x.aNL,x.tri,0⟩).length:=by rw [aOE];exact dG
 simp only [go_sem,aOO,dG,fF,jfG hx,jlg hx,lS,vL cG,jcd cG,aPE,oU,jnr tR,jnb tR];by_cases hm:x.tri<r.aNB.aNN
 ·have hR:jB r k=⟨r.id,r.aNB,r.aND,r.aNA.set k ⟨2,x.aNL,x.tri,0⟩⟩:=by rw [qN hx h,zD,if_pos hm]
  simp only [go_sem,hm,hR]
 have hR:jB r k=⟨r.id,r.aNB,3,vq jA (r.aNA.set k ⟨5,x.aNL,x.tri,0⟩) r.aNA.length⟩:=by rw [qN hx h,zD,if_neg hm]
 rw [hR];simp only [go_sem,aOO,hm,oU,fF,jcd tR,vL tR,aPE];have dB:(r.aNA.set k ⟨5,x.aNL,x.tri,0⟩).length=r.aNA.length:=by rw [aOE]
 generalize r.aNA.set k ⟨5,x.aNL,x.tri,0⟩=ts0 at*;refine kZ (qo (β:=7000000) Tryz.func173 jbj (by simp) ?_)
 unfold jaY;simp only [go_sem];intro b72 b74;refine qY (λi:Nat=>St.of [(1,Ni 3),(2,Bx 2 b72),(4,Bx 4 b74),(5,Ni i)] [(400,ZRn b4 tRn),(2,ja1 b72 tRn ⟨r.id,r.aNB,r.aND,vq jA ts0 i⟩ (bD 5) (bD 7)),(4,ZRn b74 tRn)]) (λi=>i<=ts0.length) (λi=>ts0.length-i) 0 (jt [400,700000200,700000400] (by simp only [go_sem,jtx]<;>trivial)) ?_
 rintro j hj;have eA:=vT (f:=jA) (ts:=ts0) (k:=j);by_cases aB:j<ts0.length
 ·have aA:(j:Int)<ts0.length:=by omega
  have dX:=qX j;obtain ⟨y,hy⟩:=ja aB;have fI:=jgt (f:=jA) hy;have cQ:=jgs (f:=jA) hy;generalize vq jA ts0 j=M at*;have lC:j<M.length:=by omega
  have hw:=kx j;simp only [go_sem,eA,aA,dX,aB,jvR fI,jjA fI,jH];intro b6;cases gG:y.aND !=4
  ·have lK:y.aND=4:=by simpa using gG
   have nH:jA j y=y:=by simp [jA,lK]
   have hg:jA j y=⟨y.aND,y.aNL,y.tri,y.til⟩:=nH;rw [hg] at cQ;simp only [go_sem,eA,dX,aB,jcc y.aND y.aNL y.tri y.til lC,cQ,jjA fI,hw];exact qf (j+1) (jt [400,2,4])
  cases rS:y.aND !=5
  ·have tV:y.aND=5:=by simpa using rS
   have nH:jA j y=y:=by simp [jA,tV]
   have hg:jA j y=⟨y.aND,y.aNL,y.tri,y.til⟩:=nH;rw [hg] at cQ;simp only [go_sem,aOO,eA,dX,aB,rS,jcc y.aND y.aNL y.tri y.til lC,cQ,jjA fI,hw];exact qf (j+1) (jt [400,2,4])
  ·have hg:jA j y=⟨6,y.aNL,y.tri,0⟩:=by
    have h1:¬y.aND=4:=by simpa using gG
    have h2:¬y.aND=5:=by simpa using rS
    simp [jA,h1,h2]
   rw [hg] at cQ;simp only [go_sem,aOO,eA,dX,aB,rS,jcc 6 y.aNL y.tri 0 lC,cQ,jjA fI,hw];exact qf (j+1) (jt [400,2,4])
 have aA:¬(j:Int)<ts0.length:=by omega
 obtain rfl:j=ts0.length:=by omega
 rw [<-dB];generalize vq jA ts0 ts0.length=M at*;simp only [go_sem,eA,aA]
