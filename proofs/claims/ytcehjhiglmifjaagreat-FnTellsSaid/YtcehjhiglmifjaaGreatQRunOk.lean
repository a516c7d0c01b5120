/- Parts. -/
import Derived.Test.YtcehjhiglmifjaaGreatQRunP
set_option linter.all false
set_option maxHeartbeats 8000000
set_option maxRecDepth 100000
namespace Go.Proofs.YtcehjhiglmifjaaGreat
open Go.RowKit Go.Sort
def jcq:C:=iS [iA 2 (.box 49 5 (.t 0)),iA 4 (.mov (.c (.slice none 0 0)))] (iS [iA 8 (.bsl 3 1 0 [] []),aM 5 8] (.seq (iS [aN 6 0] (.blk 0 (.loop (.seq (iS [aM 9 6,aF 10 3 2,aL 11 10,aP 12 .lss 3 9 11] (iD 12 .skip (.exit 0))) (.seq (.blk 1 (iS [aN 7 0] (.blk 2 (.loop (.seq (iS [aM 15 7,aF 16 4 2,aL 17 16,aG 18 17,aP 19 .lss 3 15 18] (iD 19 .skip (.exit 2))) (.seq (.blk 3 (iS [aF 22 4 2,aL 23 22,aM 24 7,aI 25 2 23 24,aF 26 0 25,aL 27 26,aM 28 6,aP 29 .eql 3 27 28,aM 30 29,iB 31 30 true (iF 4 2),iB 32 30 true (iL 31),iB 33 30 true (iM 7),iB 34 30 true (iI 2 32 33),iB 35 30 true (iF 1 34),iB 36 30 true (iL 35),iB 37 30 true (iM 1),iB 38 30 true (iP .eql 3 36 37),iA 39 (iY 30 (.t 38) (oF))] (iD 39 (.reg [aM 40 5,aM 41 6,iA 42 (wAW [(0,1,.t 41)]),iA 43 (wA3 40 42),aM 5 43]) .skip))) (.reg [aM 20 7,aQ 21 .add 3 20 1,aM 7 21]))))))) (.reg [aM 13 6,aQ 14 .add 3 13 1,aM 6 14])))))) (iS [aM 44 5,aM 4 44] .ret)))
theorem jfe:fnC Tryz.prog Tryz.f169=some (jcq,[.t 4],45):=by kernel_rfl
def jcp:C:=iS [iA 2 (.box 49 5 (.t 0)),iA 4 (.mov (.c (.slice none 0 0)))] (iS [iA 8 (.bsl 3 1 0 [] []),aM 5 8] (.seq (iS [aN 6 0] (.blk 0 (.loop (.seq (iS [aM 9 6,aF 10 3 2,aL 11 10,aP 12 .lss 3 9 11] (iD 12 .skip (.exit 0))) (.seq (.blk 1 (iS [aN 7 0] (.blk 2 (.loop (.seq (iS [aM 15 7,aF 16 4 2,aL 17 16,aG 18 17,aP 19 .lss 3 15 18] (iD 19 .skip (.exit 2))) (.seq (.blk 3 (iS [aF 22 4 2,aL 23 22,aM 24 7,aI 25 2 23 24,aF 26 0 25,aL 27 26,aM 28 1,aP 29 .eql 3 27 28,aM 30 29,iB 31 30 true (iF 4 2),iB 32 30 true (iL 31),iB 33 30 true (iM 7),iB 34 30 true (iI 2 32 33),iB 35 30 true (iF 1 34),iB 36 30 true (iL 35),iB 37 30 true (iM 6),iB 38 30 true (iP .eql 3 36 37),iA 39 (iY 30 (.t 38) (oF))] (iD 39 (.reg [aM 40 5,aM 41 6,iA 42 (wAW [(0,1,.t 41)]),iA 43 (wA3 40 42),aM 5 43]) .skip))) (.reg [aM 20 7,aQ 21 .add 3 20 1,aM 7 21]))))))) (.reg [aM 13 6,aQ 14 .add 3 13 1,aM 6 14])))))) (iS [aM 44 5,aM 4 44] .ret)))
theorem jfd:fnC Tryz.prog Tryz.f201=some (jcp,[.t 4],45):=by kernel_rfl
def jdx:C:=iS [iA 2 (.box 49 5 (.t 0)),iA 4 (.mov (.c (.slice none 0 0)))] (.seq (iS [aT 8 5 2,iA 9 (iK 109 [8]),aQ 10 .neq 3 9 0] (iD 10 (iS [iA 4 (.mov (.c (.slice none 0 0)))] .ret) .skip)) (iS [iA 5 (.mov (.c (.slice none 0 0)))] (.seq (iS [aF 11 4 2,aL 12 11,aG 13 12,aN 14 0] (.blk 0 (.loop (iS [aP 15 .lss 3 14 13] (.seq (iD 15 .skip (.exit 0)) (.seq (.blk 1 (iS [aI 16 2 12 14,aT 17 2 16,iA 7 wAO,wAG 7 17] (iS [aF 18 1 7,aL 19 18,aM 20 1,aP 21 .eql 3 19 20] (iD 21 (.reg [aM 22 5,aF 23 0 7,aL 24 23,iA 25 (wAW [(0,1,.t 24)]),iA 26 (wA3 22 25),aM 5 26]) .skip)))) (.reg [aQ 27 .add 3 14 1,aM 14 27]))))))) (iS [aM 28 5,iA 29 (iK 194 [28])] (iS [aM 30 5,aM 4 30] .ret)))))
theorem jgv:fnC Tryz.prog Tryz.f164=some (jdx,[.t 4],31):=by kernel_rfl
def jdw:C:=iS [iA 2 (.box 49 5 (.t 0)),iA 4 (.mov (.c (.slice none 0 0)))] (.seq (iS [aT 8 5 2,iA 9 (iK 109 [8]),aQ 10 .neq 3 9 0] (iD 10 (iS [iA 4 (.mov (.c (.slice none 0 0)))] .ret) .skip)) (iS [iA 5 (.mov (.c (.slice none 0 0)))] (.seq (iS [aF 11 4 2,aL 12 11,aG 13 12,aN 14 0] (.blk 0 (.loop (iS [aP 15 .lss 3 14 13] (.seq (iD 15 .skip (.exit 0)) (.seq (.blk 1 (iS [aI 16 2 12 14,aT 17 2 16,iA 7 wAO,wAG 7 17] (iS [aF 18 0 7,aL 19 18,aM 20 1,aP 21 .eql 3 19 20] (iD 21 (.reg [aM 22 5,aF 23 1 7,aL 24 23,iA 25 (wAW [(0,1,.t 24)]),iA 26 (wA3 22 25),aM 5 26]) .skip)))) (.reg [aQ 27 .add 3 14 1,aM 14 27]))))))) (iS [aM 28 5,iA 29 (iK 194 [28])] (iS [aM 30 5,aM 4 30] .ret)))))
theorem jgu:fnC Tryz.prog Tryz.f174=some (jdw,[.t 4],31):=by kernel_rfl
theorem jmx (A:List Int):∀n:Nat,(jjA n A).length<=n*A.length
 |0=>by simp [jjA]
 |n+1=>by
  rw [jcN,aMR,aPN,Nat.succ_mul];have:=jmx A n;have:=List.count_le_length (a:=(n:Int)) (l:=A);omega
def jlH (F:List Ed->List Int) (es:List Ed) (x j:Nat):List Int:=jjA x (F es)++List.replicate ((F (es.take j)).count (x:Int)) (x:Int)
section
variable {F:List Ed->List Int} {es:List Ed} {x j:Nat}
theorem jyI (h:F []=[]):jlH F es x 0=jjA x (F es):=by simp [jlH,h]
theorem jq6:jlH F es x es.length=jjA (x+1) (F es):=by simp [jlH,jcN]
theorem jq4 (h:(F (es.take (j+1))).count (x:Int)=(F (es.take j)).count (x:Int)+1):jlH F es x (j+1)=jlH F es x j++[(x:Int)]:=by simp only [jlH,h,List.replicate_succ',aNA]
theorem jmD (h:(F (es.take (j+1))).count (x:Int)=(F (es.take j)).count (x:Int)):jlH F es x (j+1)=jlH F es x j:=by simp only [jlH,h]
theorem jq5 (hF:∀l:List Ed,(F l).length<=l.length) (hx:x<=12) (he:es.length<=30):(jlH F es x j).length<=1000:=by
 have h1:=jmx (F es) x;have h2:=List.count_le_length (a:=(x:Int)) (l:=F (es.take j));have h3:=hF es;have h4:=hF (es.take j);rw [aMP] at h4;have h5:x*(F es).length<=12*30:=Nat.mul_le_mul hx (by omega)
 simp only [jlH,aMR,aPN];omega
end
theorem jqH (l:List Ed) (t:Int):(jft l t).length<=l.length:=by simp only [jft,aNT];exact aNH _ _
theorem jqF (l:List Ed) (t:Int):(jfs l t).length<=l.length:=by simp only [jfs,aNT];exact aNH _ _
theorem jci (p:Pl) (t:Int) (n:Nat) (hn:p.aLT=n) (cC:n<=12) (dS:p.aLY.length<=30):kg Tryz.prog 169 [.agg (ja p),.c (.val (.int .i64 t))] (.c (je (zQ p t))):=by
 refine pf_ jfe ?_;unfold jcq;simp only [go_sem,ja];intro b fG;refine vo (λi:Nat×jm=>St.of [(1,Ni t),(2,Bx 200 b),(5,Hd 5 i.2),(6,Ni i.1)] [(200,Bi b _ (ja p)),(5,.loose (je (jjA i.1 (jft p.aLY t))) i.2)]) (λi=>i.1<=n) (λi=>n-i.1) (0,fG) (jy [200,800] (by simp only [go_sem,ja,jyE]<;>trivial)) ?_
 rintro ⟨x,dB⟩ hx;dsimp only at hx;by_cases aB:x<n
 ·have aA:(x:Int)<n:=by omega
  have hw:=kX x;have h0:=jyI (F:=λl=>jft l t) (es:=p.aLY) (x:=x) rfl
  have he:=jq6 (F:=λl=>jft l t) (es:=p.aLY) (x:=x)
  simp only [go_sem,ja,hn,aA];refine vo (λi:Nat×jm=>St.of [(1,Ni t),(2,Bx 200 b),(5,Hd 5 i.2),(6,Ni x),(7,Ni i.1)] [(200,Bi b _ (ja p)),(5,.loose (je (jlH (λl=>jft l t) p.aLY x i.1)) i.2)]) (λi=>i.1<=p.aLY.length) (λi=>p.aLY.length-i.1) (0,dB) (jy [200,5] (by simp only [go_sem,ja,hn,h0]<;>trivial)) ?_
  rintro ⟨j,aV⟩ hj;dsimp only at hj;by_cases dA:j<p.aLY.length
  ·have aZ:(j:Int)<p.aLY.length:=by omega
   obtain ⟨e,gL⟩:=jd dA;have dM:=kX j;have hc:=jtF gL x t;have cX:=jq5 (F:=λl=>jft l t) (es:=p.aLY) (x:=x) (j:=j) (λl=>jqH l t) (by omega) dS
   have eI:(jlH (λl=>jft l t) p.aLY x j).length+1<=maxLen:=by unfold maxLen;omega
   have eC:((jlH (λl=>jft l t) p.aLY x j).length+1)*8<=140737488355328:=by omega
   by_cases h1:e.src=x
   ·by_cases h2:e.dst=t
    ·have hs:=jq4 (F:=λl=>jft l t) (es:=p.aLY) (x:=x) (j:=j) (by rw [hc,if_pos ⟨h1,h2⟩])
     have dN:(e.src==(x:Int))=true:=by simpa using h1
     have bI:(e.dst==t)=true:=by simpa using h2
     generalize jlH (λl=>jft l t) p.aLY x j=R at*
     simp only [go_sem,ja,hn,dA,aZ,ju gL,jR,dN,bI,dM,eI,eC,vC];intro cT fO;exact ql (j+1,fO) (jy [200,4300] (by simp only [go_sem,ja,hn,hs]<;>trivial))
    ·have hs:=jmD (F:=λl=>jft l t) (es:=p.aLY) (x:=x) (j:=j) (by rw [hc,if_neg (λh=>h2 h.2)];rfl)
     have dN:(e.src==(x:Int))=true:=by simpa using h1
     have bI:(e.dst==t)=false:=by simpa using h2
     simp only [go_sem,ja,hn,dA,aZ,ju gL,jR,dN,bI,dM];exact ql (j+1,aV) (jy [200,5] (by simp only [go_sem,ja,hn,hs]<;>trivial))
   ·have hs:=jmD (F:=λl=>jft l t) (es:=p.aLY) (x:=x) (j:=j) (by rw [hc,if_neg (λh=>h1 h.1)];rfl)
    have dN:(e.src==(x:Int))=false:=by simpa using h1
    simp only [go_sem,ja,hn,dA,aZ,ju gL,jR,dN,dM];exact ql (j+1,aV) (jy [200,5] (by simp only [go_sem,ja,hn,hs]<;>trivial))
  ·have aZ:¬(j:Int)<p.aLY.length:=by omega
   obtain rfl:j=p.aLY.length:=by omega
   simp only [go_sem,ja,hn,aZ,hw];exact ql (x+1,aV) (jy [200,5] (by simp only [go_sem,ja,hn,he]<;>trivial))
 ·have aA:¬(x:Int)<n:=by omega
  obtain rfl:x=n:=by omega
  simp only [go_sem,ja,hn,aA,zQ,aMQ]
theorem jit (p:Pl) (t:Int) (n:Nat) (hn:p.aLT=n) (cC:n<=12) (dS:p.aLY.length<=30):kg Tryz.prog 201 [.agg (ja p),.c (.val (.int .i64 t))] (.c (je (jbW p t))):=by
 refine pf_ jfd ?_;unfold jcp;simp only [go_sem,ja];intro b fG;refine vo (λi:Nat×jm=>St.of [(1,Ni t),(2,Bx 200 b),(5,Hd 5 i.2),(6,Ni i.1)] [(200,Bi b _ (ja p)),(5,.loose (je (jjA i.1 (jfs p.aLY t))) i.2)]) (λi=>i.1<=n) (λi=>n-i.1) (0,fG) (jy [200,800] (by simp only [go_sem,ja,jyE]<;>trivial)) ?_
 rintro ⟨x,dB⟩ hx;dsimp only at hx;by_cases aB:x<n
 ·have aA:(x:Int)<n:=by omega
  have hw:=kX x;have h0:=jyI (F:=λl=>jfs l t) (es:=p.aLY) (x:=x) rfl
  have he:=jq6 (F:=λl=>jfs l t) (es:=p.aLY) (x:=x)
  simp only [go_sem,ja,hn,aA];refine vo (λi:Nat×jm=>St.of [(1,Ni t),(2,Bx 200 b),(5,Hd 5 i.2),(6,Ni x),(7,Ni i.1)] [(200,Bi b _ (ja p)),(5,.loose (je (jlH (λl=>jfs l t) p.aLY x i.1)) i.2)]) (λi=>i.1<=p.aLY.length) (λi=>p.aLY.length-i.1) (0,dB) (jy [200,5] (by simp only [go_sem,ja,hn,h0]<;>trivial)) ?_
  rintro ⟨j,aV⟩ hj;dsimp only at hj;by_cases dA:j<p.aLY.length
  ·have aZ:(j:Int)<p.aLY.length:=by omega
   obtain ⟨e,gL⟩:=jd dA;have dM:=kX j;have hc:=jtD gL x t;have cX:=jq5 (F:=λl=>jfs l t) (es:=p.aLY) (x:=x) (j:=j) (λl=>jqF l t) (by omega) dS
   have eI:(jlH (λl=>jfs l t) p.aLY x j).length+1<=maxLen:=by unfold maxLen;omega
   have eC:((jlH (λl=>jfs l t) p.aLY x j).length+1)*8<=140737488355328:=by omega
   by_cases h1:e.src=t
   ·by_cases h2:e.dst=x
    ·have hs:=jq4 (F:=λl=>jfs l t) (es:=p.aLY) (x:=x) (j:=j) (by rw [hc,if_pos ⟨h1,h2⟩])
     have dN:(e.src==t)=true:=by simpa using h1
     have bI:(e.dst==(x:Int))=true:=by simpa using h2
     generalize jlH (λl=>jfs l t) p.aLY x j=R at*
     simp only [go_sem,ja,hn,dA,aZ,ju gL,jR,dN,bI,dM,eI,eC,vC];intro cT fO;exact ql (j+1,fO) (jy [200,4300] (by simp only [go_sem,ja,hn,hs]<;>trivial))
    ·have hs:=jmD (F:=λl=>jfs l t) (es:=p.aLY) (x:=x) (j:=j) (by rw [hc,if_neg (λh=>h2 h.2)];rfl)
     have dN:(e.src==t)=true:=by simpa using h1
     have bI:(e.dst==(x:Int))=false:=by simpa using h2
     simp only [go_sem,ja,hn,dA,aZ,ju gL,jR,dN,bI,dM];exact ql (j+1,aV) (jy [200,5] (by simp only [go_sem,ja,hn,hs]<;>trivial))
   ·have hs:=jmD (F:=λl=>jfs l t) (es:=p.aLY) (x:=x) (j:=j) (by rw [hc,if_neg (λh=>h1 h.1)];rfl)
    have dN:(e.src==t)=false:=by simpa using h1
    simp only [go_sem,ja,hn,dA,aZ,ju gL,jR,dN,dM];exact ql (j+1,aV) (jy [200,5] (by simp only [go_sem,ja,hn,hs]<;>trivial))
  ·have aZ:¬(j:Int)<p.aLY.length:=by omega
   obtain rfl:j=p.aLY.length:=by omega
   simp only [go_sem,ja,hn,aZ,hw];exact ql (x+1,aV) (jy [200,5] (by simp only [go_sem,ja,hn,he]<;>trivial))
 ·have aA:¬(x:Int)<n:=by omega
  obtain rfl:x=n:=by omega
  simp only [go_sem,ja,hn,aA,jbW,aMQ]
theorem jcY (p:Pl) (t:Int) (h0:jr p=0):kg Tryz.prog 164 [.agg (ja p),.c (.val (.int .i64 t))] (.c (je (zQ p t))):=by
 obtain ⟨n,hn,d8,cC,dS,bV,aX,-⟩:=jcH h0;refine pf_ jgv ?_;unfold jdx;simp only [go_sem,ja];intro b;refine jx (qp p (by omega)) λη=>?_
 simp only [go_sem,ja];simp only [go_sem,ja,h0,aOU];refine vo (λi:Nat×jm=>St.of [(1,Ni t),(5,Hd 5 i.2),(12,Ro (jv p.aLY)),(13,Ni p.aLY.length),(14,Ni i.1)] [(5,.loose (je (jft (p.aLY.take i.1) t)) i.2)]) (λi=>i.1<=p.aLY.length) (λi=>p.aLY.length-i.1) (0,jcF) (zo [none] (by simp only [go_sem,ja]<;>trivial)) ?_
 rintro ⟨j,aV⟩ hj;dsimp only at hj;by_cases dA:j<p.aLY.length
 ·have aZ:(j:Int)<p.aLY.length:=by omega
  obtain ⟨e,gL⟩:=jd dA;have dM:=kX j;have hc:=jpo gL t;have cX:=jqH (p.aLY.take j) t;rw [aMP] at cX;generalize jft (p.aLY.take j) t=R at*;have eI:R.length+1<=maxLen:=by unfold maxLen;omega
  have eC:(R.length+1)*8<=140737488355328:=by omega
  by_cases h2:e.dst=t
  ·have bI:(e.dst==t)=true:=by simpa using h2
   rw [if_pos h2] at hc;simp only [go_sem,ja,hn,dA,aZ,ju gL,jR];intro b2;simp only [go_sem,ja,hn,dA,aZ,ju gL,jR,bI,dM,eI,eC,vC];intro cT fO;exact ql (j+1,fO) (jy [2600] (by simp only [go_sem,ja,hn,hc]<;>trivial))
  ·have bI:(e.dst==t)=false:=by simpa using h2
   rw [if_neg h2,aNI] at hc;simp only [go_sem,ja,hn,dA,aZ,ju gL,jR];intro b2;simp only [go_sem,ja,hn,dA,aZ,ju gL,jR,bI,dM];exact ql (j+1,aV) (jy [5] (by simp only [go_sem,ja,hn,hc]<;>trivial))
 ·have aZ:¬(j:Int)<p.aLY.length:=by omega
  rw [aMO (by omega)]
  have hA:=jr4 aX bV t;simp only [go_sem,ja,hn,aZ];refine qe (jjl (jrz (jft p.aLY t) (by omega) _ 5 aV (by simp only [go_sem])) ?_)
  rintro av o' ⟨rfl,l,i,rfl,h1,h2⟩;obtain rfl:=jyD (jkI bV t) h1 (by rw [h1.1.length_eq];exact h2)
  simp only [go_sem,jqO,zQ,hn,aMQ]
theorem jjV (p:Pl) (t:Int) (h0:jr p=0):kg Tryz.prog 174 [.agg (ja p),.c (.val (.int .i64 t))] (.c (je (jbW p t))):=by
 obtain ⟨n,hn,d8,cC,dS,bV,aX,-⟩:=jcH h0;refine pf_ jgu ?_;unfold jdw;simp only [go_sem,ja];intro b;refine jx (qp p (by omega)) λη=>?_
 simp only [go_sem,ja];simp only [go_sem,ja,h0,aOU];refine vo (λi:Nat×jm=>St.of [(1,Ni t),(5,Hd 5 i.2),(12,Ro (jv p.aLY)),(13,Ni p.aLY.length),(14,Ni i.1)] [(5,.loose (je (jfs (p.aLY.take i.1) t)) i.2)]) (λi=>i.1<=p.aLY.length) (λi=>p.aLY.length-i.1) (0,jcF) (zo [none] (by simp only [go_sem,ja]<;>trivial)) ?_
 rintro ⟨j,aV⟩ hj;dsimp only at hj;by_cases dA:j<p.aLY.length
 ·have aZ:(j:Int)<p.aLY.length:=by omega
  obtain ⟨e,gL⟩:=jd dA;have dM:=kX j;have hc:=jpn gL t;have cX:=jqF (p.aLY.take j) t;rw [aMP] at cX;generalize jfs (p.aLY.take j) t=R at*;have eI:R.length+1<=maxLen:=by unfold maxLen;omega
  have eC:(R.length+1)*8<=140737488355328:=by omega
  by_cases h2:e.src=t
  ·have bI:(e.src==t)=true:=by simpa using h2
   rw [if_pos h2] at hc;simp only [go_sem,ja,hn,dA,aZ,ju gL,jR];intro b2;simp only [go_sem,ja,hn,dA,aZ,ju gL,jR,bI,dM,eI,eC,vC];intro cT fO;exact ql (j+1,fO) (jy [2600] (by simp only [go_sem,ja,hn,hc]<;>trivial))
  ·have bI:(e.src==t)=false:=by simpa using h2
   rw [if_neg h2,aNI] at hc;simp only [go_sem,ja,hn,dA,aZ,ju gL,jR];intro b2;simp only [go_sem,ja,hn,dA,aZ,ju gL,jR,bI,dM];exact ql (j+1,aV) (jy [5] (by simp only [go_sem,ja,hn,hc]<;>trivial))
 ·have aZ:¬(j:Int)<p.aLY.length:=by omega
  rw [aMO (by omega)]
  have hA:=jyo aX bV t;simp only [go_sem,ja,hn,aZ];refine qe (jjl (jrz (jfs p.aLY t) (by omega) _ 5 aV (by simp only [go_sem])) ?_)
  rintro av o' ⟨rfl,l,i,rfl,h1,h2⟩;obtain rfl:=jyD (jnB bV t) h1 (by rw [h1.1.length_eq];exact h2)
  simp only [go_sem,jqO,jbW,hn,aMQ]
def jer:C:=iS [iA 2 (.box 52 8 (.t 0)),aO 4 false] (iS [aF 9 7 2,aL 10 9,aM 11 1,aI 12 4 10 11,aT 13 4 12,iA 5 wAN,wAB 5 13] (iS [aN 6 0] (iS [aF 14 1 2,aT 15 5 14,aM 16 1,iA 17 (iK 169 [15,16]),aM 7 17] (.seq (iS [aN 8 0] (.blk 0 (.loop (.seq (iS [aM 18 8,aM 19 7,aG 20 19,aP 21 .lss 3 18 20] (iD 21 .skip (.exit 0))) (.seq (.blk 1 (.seq (.dreg (tA 0 24 (iF 7 2) (tA 1 25 (iL 24) (tA 2 26 (iM 7) (tA 3 27 (iM 8) (tA 4 28 (iI 1 26 27) (tA 5 29 (iL 28) (tA 6 30 (iI 4 25 29) (tA 7 31 (iF 0 30) (tA 8 32 (iL 31) (tA 9 33 (iQ .neq 3 32 4) .done))))))))))) (iD 33 (.reg [aM 34 6,aQ 35 .add 3 34 1,aM 6 35]) .skip))) (.reg [aM 22 8,aQ 23 .add 3 22 1,aM 8 23])))))) (.seq (iS [aF 36 1 5,aL 37 36,aM 38 6,aP 39 .neq 3 37 38,aM 40 39,iB 41 40 false (iF 2 5),iB 42 40 false (iL 41),iB 43 40 false (iF 1 2),iB 44 40 false (iF 1 43),iB 45 40 false (iL 44),iB 46 40 false (.call 68 [.t 42,oI 0,.t 45]),iB 47 40 false (iU 46),iA 48 (iY 40 (oT) (.t 47))] (iD 48 (iS [aO 4 false] .ret) .skip)) (.seq (iS [aF 49 0 5,aL 50 49,aQ 51 .eql 3 50 3,aM 52 51,iB 53 52 true (iF 3 5),iB 54 52 true (iL 53),iB 55 52 true (.call 68 [.t 54,oI 1,oI 1000000000]),iB 56 52 true (iU 55),iA 57 (iY 52 (.t 56) (oF)),aM 58 57,iB 59 58 false (iF 0 5),iB 60 58 false (iL 59),iB 61 58 false (iQ .neq 3 60 3),iB 62 58 false (iM 61),iB 63 62 true (iF 3 5),iB 64 62 true (iL 63),iB 65 62 true (iQ .neq 3 64 0),iB 66 58 false (iY 62 (.t 65) (oF)),iA 67 (iY 58 (oT) (.t 66))] (iD 67 (iS [aO 4 false] .ret) .skip)) (.seq (iS [aF 68 0 5,aL 69 68] (.blk 2 (iS [aQ 71 .eql 3 69 1,aM 70 71] (iD 70 (iS [aM 72 6,aQ 73 .gtr 3 72 0,aM 4 73] .ret) (iS [aQ 75 .eql 3 69 2,aM 74 75] (iD 74 (iS [aM 76 6,aQ 77 .eql 3 76 0,aM 78 77,iB 79 78 true (iF 2 5),iB 80 78 true (iL 79),iB 81 78 true (iF 1 2),iB 82 78 true (iF 1 81),iB 83 78 true (iL 82),iB 84 78 true (iP .lss 3 80 83),iA 85 (iY 78 (.t 84) (oF)),aM 4 85] .ret) (.seq (iS [aQ 87 .eql 3 69 3,aM 86 87] (iD 86 .skip (iS [aQ 88 .eql 3 69 4,aM 86 88] (iD 86 .skip (.reg [aQ 89 .eql 3 69 5,aM 86 89]))))) (iD 86 (iS [aM 90 6,aQ 91 .eql 3 90 0,aM 92 91,iB 93 92 true (iF 2 5),iB 94 92 true (iL 93),iB 95 92 true (iQ .geq 3 94 1),iA 96 (iY 92 (.t 95) (oF)),aM 4 96] .ret) .skip)))))))) (iS [aF 97 0 5,aL 98 97,aQ 99 .eql 3 98 6,aM 4 99] .ret))))))))
theorem jhu:fnC Tryz.prog Tryz.f178=some (jer,[.t 4],100):=by kernel_rfl
def jde:C:=iS [iA 1 (.box 52 8 (.t 0)),aN 2 0] (iS [iA 6 (.bsl 3 1 7 [none,none,none,none,none,none,none] [(0,1,oI 0),(1,1,oI 0),(2,1,oI 0),(3,1,oI 0),(4,1,oI 0),(5,1,oI 0),(6,1,oI 0)]),aM 3 6] (.seq (iS [aN 4 0] (.blk 0 (.loop (.seq (iS [aM 7 4,aF 8 7 1,aL 9 8,aG 10 9,aP 11 .lss 3 7 10] (iD 11 .skip (.exit 0))) (.seq (.blk 1 (.reg [aM 14 3,aF 15 7 1,aL 16 15,aM 17 4,aI 18 4 16 17,aF 19 0 18,aL 20 19,aI 21 1 14 20,aL 22 21,aQ 23 .add 3 22 1,aI 24 1 14 20,wAD 24 23])) (.reg [aM 12 4,aQ 13 .add 3 12 1,aM 4 13])))))) (.seq (.dreg (tA 0 25 (iM 3) (tA 1 26 (.ia 1 (.t 25) (oI 1)) (tA 2 27 (iL 26) (tA 3 28 (iM 3) (tA 4 29 (.ia 1 (.t 28) (oI 2)) (tA 5 30 (iL 29) (tA 6 31 (iP .add 3 27 30) (tA 7 32 (iM 3) (tA 8 33 (.ia 1 (.t 32) (oI 3)) (tA 9 34 (iL 33) (tA 10 35 (iP .add 3 31 34) (tA 11 5 (iM 35) .done))))))))))))) (.seq (.blk 2 (.seq (.dreg (tA 0 37 (iM 3) (tA 1 38 (.ia 1 (.t 37) (oI 4)) (tA 2 39 (iL 38) (tA 3 40 (iF 7 1) (tA 4 41 (iL 40) (tA 5 42 (iG 41) (tA 6 43 (iP .eql 3 39 42) (tA 7 36 (iM 43) .done))))))))) (iD 36 (iS [aN 2 2] .ret) (iS [aM 45 3,iA 46 (.ia 1 (.t 45) (oI 5)),aL 47 46,aQ 48 .eql 3 47 1,aM 49 48,iB 50 49 true (iM 5),iB 51 49 true (iQ .eql 3 50 0),iA 52 (iY 49 (.t 51) (oF)),aM 44 52] (iD 44 (iS [aN 2 3] .ret) (iS [aM 54 3,iA 55 (.ia 1 (.t 54) (oI 5)),aL 56 55,aQ 57 .eql 3 56 0,aM 58 57,iB 59 58 true (iM 3),iB 60 58 true (.ia 1 (.t 59) (oI 6)),iB 61 58 true (iL 60),iB 62 58 true (iQ .gtr 3 61 0),iA 63 (iY 58 (.t 62) (oF)),aM 64 63,iB 65 64 true (iM 5),iB 66 64 true (iQ .eql 3 65 0),iA 67 (iY 64 (.t 66) (oF)),aM 53 67] (iD 53 (iS [aN 2 4] .ret) (iS [aM 69 3,iA 70 (.ia 1 (.t 69) (oI 5)),aL 71 70,aQ 72 .eql 3 71 0,aM 73 72,iB 74 73 true (iM 3),iB 75 73 true (.ia 1 (.t 74) (oI 6)),iB 76 73 true (iL 75),iB 77 73 true (iQ .eql 3 76 0),iA 78 (iY 73 (.t 77) (oF)),aM 68 78] (iD 68 (iS [aN 2 1] .ret) .skip))))))))) (iS [aN 2 0] .ret)))))
theorem jgf:fnC Tryz.prog Tryz.f179=some (jde,[.t 2],79):=by kernel_rfl
def jih:C:=iS [iA 1 (.box 52 8 (.t 0)),aO 2 false] (.seq (iS [aF 5 0 1,aL 6 5,iA 7 (.call 68 [.t 6,oI 1,oI 9999]),aU 8 7,aM 9 8,iB 10 9 false (iF 1 1),iB 11 9 false (iT 5 10),iB 12 9 false (iK 112 [11]),iB 13 9 false (iQ .neq 3 12 0),iA 14 (iY 9 (oT) (.t 13)),aM 15 14,iB 16 15 false (iF 7 1),iB 17 15 false (iL 16),iB 18 15 false (iG 17),iB 19 15 false (iF 1 1),iB 20 15 false (iF 3 19),iB 21 15 false (iL 20),iB 22 15 false (iP .neq 3 18 21),iA 23 (iY 15 (oT) (.t 22))] (iD 23 (iS [aO 2 false] .ret) .skip)) (.seq (iS [aN 3 0] (.blk 0 (.loop (.seq (iS [aM 24 3,aF 25 7 1,aL 26 25,aG 27 26,aP 28 .lss 3 24 27] (iD 28 .skip (.exit 0))) (.seq (.blk 1 (iS [aF 31 7 1,aL 32 31,aM 33 3,aI 34 4 32 33,aF 35 0 34,aL 36 35,iA 37 (.call 68 [.t 36,oI 1,oI 6]),aU 38 37] (iD 38 (iS [aO 2 false] .ret) .skip))) (.reg [aM 29 3,aQ 30 .add 3 29 1,aM 3 30])))))) (.seq (iS [aN 4 0] (.blk 2 (.loop (.seq (iS [aM 39 4,aF 40 7 1,aL 41 40,aG 42 41,aP 43 .lss 3 39 42] (iD 43 .skip (.exit 2))) (.seq (.blk 3 (iS [aT 46 8 1,aM 47 4,iA 48 (iK 178 [46,47]),aU 49 48] (iD 49 (iS [aO 2 false] .ret) .skip))) (.reg [aM 44 4,aQ 45 .add 3 44 1,aM 4 45])))))) (.seq (.dreg (tA 0 50 (iF 6 1) (tA 1 51 (iL 50) (tA 2 52 (iT 8 1) (tC 53 (iK 179 [52]) [1,0] (tA 4 54 (iP .eql 3 51 53) (tA 5 55 (iM 54) (tB 6 56 55 true (iF 6 1) (tB 7 57 55 true (iL 56) (tB 8 58 55 true (iQ .neq 3 57 0) (tA 9 59 (iY 55 (.t 58) (oF)) (tA 10 2 (iM 59) .done))))))) .stop))))) .ret))))
theorem jkp:fnC Tryz.prog Tryz.f130=some (jih,[.t 2],60):=by kernel_rfl
def jmb (ts:List Tk) (l:List Int):Nat:=(l.filter λb=>stT ts b !=4).length
theorem jrW {ts:List Tk} {l:List Int} {k:Nat} {v:Int} {y:Tk} (hv:l[k]?=some v) (hy:ts[v.toNat]?=some y) (h:(y.aLV !=4)=true):jmb ts (l.take (k+1))=jmb ts (l.take k)+1:=by
 rw [aMT,hv];simp [jmb,aOV,jmw hy,h]
theorem jv9 {ts:List Tk} {l:List Int} {k:Nat} {v:Int} {y:Tk} (hv:l[k]?=some v) (hy:ts[v.toNat]?=some y) (h:(y.aLV !=4)=false):jmb ts (l.take (k+1))=jmb ts (l.take k):=by
 rw [aMT,hv];simp [jmb,aOV,jmw hy,h]
theorem jwa (ts:List Tk) (l:List Int):jmb ts l<=l.length:=aNH _ _
theorem jwr {p:Pl} {n:Nat} (hn:p.aLT=n) {t v:Int} (h:v∈zQ p t):0<=v/\v<n:=by
 have:=(jfD h).1;rw [hn,aMQ] at this;exact this
theorem jr3 {p:Pl} {n:Nat} (hn:p.aLT=n) (cC:n<=12) (dS:p.aLY.length<=30) (t:Int):(zQ p t).length<=1000:=by
 have h1:=jmx (jft p.aLY t) p.aLT.toNat;have h3:=jqH p.aLY t;have h5:p.aLT.toNat*(jft p.aLY t).length<=12*30:=Nat.mul_le_mul (by omega) (by omega)
 unfold zQ;omega
theorem jqE {p:Pl} {n:Nat} (hn:p.aLT=n) {t v:Int} (h:v∈jbW p t):0<=v/\v<n:=by
 have:=(jfD h).1;rw [hn,aMQ] at this;exact this
theorem jr2 {p:Pl} {n:Nat} (hn:p.aLT=n) (cC:n<=12) (dS:p.aLY.length<=30) (t:Int):(jbW p t).length<=1000:=by
 have h1:=jmx (jfs p.aLY t) p.aLT.toNat;have h3:=jqF p.aLY t;have h5:p.aLT.toNat*(jfs p.aLY t).length<=12*30:=Nat.mul_le_mul (by omega) (by omega)
 unfold jbW;omega
theorem jug (s:Int):s=1\/s=2\/s=3\/s=4\/s=5\/s=6\/((s==1)=false/\(s==2)=false/\(s==3)=false/\(s==4)=false/\(s==5)=false/\(s==6)=false):=by
 by_cases h1:s=1; · simp [h1]
 by_cases h2:s=2; · simp [h2]
 by_cases h3:s=3; · simp [h3]
 by_cases h4:s=4; · simp [h4]
 by_cases h5:s=5; · simp [h5]
 by_cases h6:s=6; · simp [h6]
 simp [h1,h2,h3,h4,h5,h6]
theorem jkQ (r:Rn) (t:Nat) (x:Tk) (hx:r.aLT[t]?=some x) (h0:jr r.aLW=0) (aD:(r.aLT.length:Int)=r.aLW.aLT):kg Tryz.prog 178 [.agg (jc r),.c (.val (.int .i64 t))] (.c (.val (.bool (jT r.aLW r.aLT t x)))):=by
 obtain ⟨n,hn,d8,cC,dS,bV,aX,-⟩:=jcH h0;have cP:=(aMI.1 hx).1;refine pf_ jhu ?_;unfold jer;have tZ:=jr3 hn cC dS t;have eY:=qT t;simp only [go_sem,jc,ja,cP,eY,jS hx,jk];intro b b2;refine jx (jci r.aLW t n hn cC dS) λη=>?_
 simp only [go_sem,jc,ja];refine vo (λi:Nat=>St.of [(2,Bx 200 b),(5,Bx 500 b2),(6,Ni (jmb r.aLT ((zQ r.aLW t).take i))),(7,Hd 7 (η 0)),(8,Ni i)] [(200,Bi b _ (jc r)),(500,Bi b2 _ (jk x)),(7,.loose (je (zQ r.aLW t)) (η 0))]) (λi=>i<=(zQ r.aLW t).length) (λi=>(zQ r.aLW t).length-i) 0 (jy [200,500,1700] (by simp only [go_sem,jc,ja,jk,aNM,jmb,List.filter_nil,aOM]<;>trivial)) ?_
 rintro k hk;by_cases aB:k<(zQ r.aLW t).length
 ·have aA:(k:Int)<(zQ r.aLW t).length:=by omega
  obtain ⟨v,hv⟩:=jd aB;have pK:=jwr hn (aMJ hv);have bN:v.toNat<r.aLT.length:=by omega
  have nR:=pK.1;obtain ⟨y,hy⟩:=jd bN;have hw:=kX k;have dG:=jwa r.aLT ((zQ r.aLW t).take k);rw [aMP] at dG;have bS:IntKind.i64.wrap ((jmb r.aLT ((zQ r.aLW t).take k):Int)+1)=((jmb r.aLT ((zQ r.aLW t).take k)+1:Nat):Int):=zy;cases hc:y.aLV !=4
  ·have hs:=jv9 hv hy hc
   simp only [go_sem,jc,ja,aB,aA,jg hv,jf aB,bN,nR,jS hy,jk,hc,hw];exact ql (k+1) (jy [200,500,7] (by simp only [go_sem,jc,ja,jk,hs]<;>trivial))
  ·have hs:=jrW hv hy hc
   simp only [go_sem,jc,ja,aB,aA,jg hv,jf aB,bN,nR,jS hy,jk,hc,hw,bS];exact ql (k+1) (jy [200,500,7] (by simp only [go_sem,jc,ja,jk,hs]<;>trivial))
 have aA:¬(k:Int)<(zQ r.aLW t).length:=by omega
 rw [aMO (by omega)]
 have aX:ja8 r.aLW r.aLT t=(jmb r.aLT (zQ r.aLW t):Int):=rfl;generalize jmb r.aLT (zQ r.aLW t)=N at*;cases aR:x.aME !=(N:Int);rotate_left
 ·have hb:jT r.aLW r.aLT t x=false:=by
   have:¬x.aME=N:=by simpa using aR
   simp [jT,aX,this]
  simp only [go_sem,jc,ja,jk,aA,aR,hb]
 have bO:x.aME=N:=by simpa using aR
 simp only [go_sem,jc,ja,jk,aA,aR];refine jx (jJ x.tri 0 r.aLW.aMG) λη=>?_
 simp only [go_sem,jc,ja,jk];cases cO:decide (0<=x.tri/\x.tri<=r.aLW.aMG)
 ·have hb:jT r.aLW r.aLT t x=false:=by simp [jT,inB,cO]
  simp only [go_sem,jc,ja,jk,hb]
 have dJ:0<=x.tri/\x.tri<=r.aLW.aMG:=by simpa using cO
 rcases jug x.aLV with hs|hs|hs|hs|hs|hs|⟨s1,s2,s3,s4,s5,s6⟩
 ·cases ht:x.til !=0
  rotate_left
  ·have hb:jT r.aLW r.aLT t x=false:=by
    have:¬x.til=0:=by simpa using ht
    simp [jT,jbz,hs,this]
   simp only [go_sem,jc,ja,jk,cO,hs,ht,hb]
  have dK:x.til=0:=by simpa using ht
  have hb:jT r.aLW r.aLT t x=decide ((N:Int)>0):=by simp [jT,jbz,vg,inB,hs,aX,bO,dK,dJ]
  simp only [go_sem,jc,ja,jk,cO,hs,ht,hb]
 ·cases ht:x.til !=0
  rotate_left
  ·have hb:jT r.aLW r.aLT t x=false:=by
    have:¬x.til=0:=by simpa using ht
    simp [jT,jbz,hs,this]
   simp only [go_sem,jc,ja,jk,cO,hs,ht,hb]
  have dK:x.til=0:=by simpa using ht
  cases hz:(N:Int)==0
  ·have cI:¬N=0:=by simpa using hz
   have hb:jT r.aLW r.aLT t x=false:=by simp [jT,jbz,vg,inB,hs,aX,bO,dK,dJ,cI]
   simp only [go_sem,jc,ja,jk,cO,hs,ht,hz,hb]
  ·have cI:N=0:=by simpa using hz
   have hb:jT r.aLW r.aLT t x=decide (x.tri<r.aLW.aMG):=by simp [jT,jbz,vg,inB,hs,aX,bO,dK,dJ,cI]
   simp only [go_sem,jc,ja,jk,cO,hs,ht,hz,hb]
 ·simp only [go_sem,jc,ja,jk,cO,hs]
  refine jn (jJ x.til 1 1000000000) (by simp only [go_sem,jc,ja,jk,hs]) λη=>?_
  simp only [go_sem,jc,ja,jk,hs];cases ht:decide (1<=x.til/\x.til<=1000000000)
  ·have hb:jT r.aLW r.aLT t x=false:=by simp [jT,jbz,inB,hs,ht]
   simp only [go_sem,jc,ja,jk,cO,hs,hb]
  have dK:1<=x.til/\x.til<=1000000000:=by simpa using ht
  cases hz:(N:Int)==0
  ·have cI:¬N=0:=by simpa using hz
   have hb:jT r.aLW r.aLT t x=false:=by simp [jT,jbz,vg,inB,hs,aX,bO,dK,dJ,cI]
   simp only [go_sem,jc,ja,jk,cO,hs,ht,hz,hb]
  ·have cI:N=0:=by simpa using hz
   have hb:jT r.aLW r.aLT t x=decide (x.tri>=1):=by simp [jT,jbz,vg,inB,hs,aX,bO,dK,dJ,cI]
   simp only [go_sem,jc,ja,jk,cO,hs,ht,hz,hb]
 ·cases ht:x.til !=0
  rotate_left
  ·have hb:jT r.aLW r.aLT t x=false:=by
    have:¬x.til=0:=by simpa using ht
    simp [jT,jbz,hs,this]
   simp only [go_sem,jc,ja,jk,cO,hs,ht,hb]
  have dK:x.til=0:=by simpa using ht
  cases hz:(N:Int)==0
  ·have cI:¬N=0:=by simpa using hz
   have hb:jT r.aLW r.aLT t x=false:=by simp [jT,jbz,vg,inB,hs,aX,bO,dK,dJ,cI]
   simp only [go_sem,jc,ja,jk,cO,hs,ht,hz,hb]
  ·have cI:N=0:=by simpa using hz
   have hb:jT r.aLW r.aLT t x=decide (x.tri>=1):=by simp [jT,jbz,vg,inB,hs,aX,bO,dK,dJ,cI]
   simp only [go_sem,jc,ja,jk,cO,hs,ht,hz,hb]
 ·cases ht:x.til !=0
  rotate_left
  ·have hb:jT r.aLW r.aLT t x=false:=by
    have:¬x.til=0:=by simpa using ht
    simp [jT,jbz,hs,this]
   simp only [go_sem,jc,ja,jk,cO,hs,ht,hb]
  have dK:x.til=0:=by simpa using ht
  cases hz:(N:Int)==0
  ·have cI:¬N=0:=by simpa using hz
   have hb:jT r.aLW r.aLT t x=false:=by simp [jT,jbz,vg,inB,hs,aX,bO,dK,dJ,cI]
   simp only [go_sem,jc,ja,jk,cO,hs,ht,hz,hb]
  ·have cI:N=0:=by simpa using hz
   have hb:jT r.aLW r.aLT t x=decide (x.tri>=1):=by simp [jT,jbz,vg,inB,hs,aX,bO,dK,dJ,cI]
   simp only [go_sem,jc,ja,jk,cO,hs,ht,hz,hb]
 ·cases ht:x.til !=0
  rotate_left
  ·have hb:jT r.aLW r.aLT t x=false:=by
    have:¬x.til=0:=by simpa using ht
    simp [jT,jbz,hs,this]
   simp only [go_sem,jc,ja,jk,cO,hs,ht,hb]
  have dK:x.til=0:=by simpa using ht
  have hb:jT r.aLW r.aLT t x=true:=by simp [jT,jbz,vg,inB,hs,aX,bO,dK,dJ]
  simp only [go_sem,jc,ja,jk,cO,hs,ht,hb]
 ·have hb:jT r.aLW r.aLT t x=false:=by
   have h1:¬x.aLV=1:=by simpa using s1
   have h2:¬x.aLV=2:=by simpa using s2
   have h3:¬x.aLV=3:=by simpa using s3
   have h4:¬x.aLV=4:=by simpa using s4
   have h5:¬x.aLV=5:=by simpa using s5
   have h6:¬x.aLV=6:=by simpa using s6
   have:¬(1<=x.aLV/\x.aLV<=6):=by omega
   simp [jT,inB,this]
  have s3':(x.aLV !=3)=true:=by simp [bne,s3]
  cases ht:x.til !=0
  ·simp only [go_sem,jc,ja,jk,cO,s1,s2,s3,s3',s4,s5,s6,ht,hb]
  ·simp only [go_sem,jc,ja,jk,cO,s1,s2,s3,s3',s4,s5,s6,ht,hb]
theorem jvE {a b:Nat} (h:((a:Int)==(b:Int))=true):a=b:=by have:=eq_of_beq h;omega
theorem jvF {a b:Nat} (h:((a:Int)==(b:Int))=false):¬a=b:=by have:=ne_of_beq_false h;omega
def cN (ts:List Tk) (k:Nat):List Int:=(List.range 7).map λ(s:Nat)=>(((zh (s:Int) ts k).length:Nat):Int)
theorem jpl (ts:List Tk) (k:Nat):(cN ts k).length=7:=by simp [cN]
theorem jeU {ts:List Tk} {k s:Nat} (h:s<7):(cN ts k)[s]?=some (((zh (s:Int) ts k).length:Nat):Int):=by simp [cN,h]
theorem jAU {ts:List Tk} {k:Nat} {x:Tk} (hx:ts[k]?=some x) (h:1<=x.aLV/\x.aLV<=6):(cN ts k).set x.aLV.toNat (((zh x.aLV ts k).length+1:Nat):Int)=cN ts (k+1):=by
 apply aOR
 intro s;rw [aNY,jpl];by_cases e:x.aLV.toNat=s
 ·subst e
  rw [if_pos rfl,if_pos (by omega),jeU (by omega),jcK hx]
  have:((x.aLV.toNat:Nat):Int)=x.aLV:=by omega
  simp [this]
 ·rw [if_neg e]
  by_cases hs:s<7
  ·rw [jeU hs,jeU hs,jcK hx,if_neg (by omega)];simp
  ·rw [aOH (by rw [jpl];omega),aOH (by rw [jpl];omega)]
theorem jcU (r:Rn) (aJ:∀x∈r.aLT,1<=x.aLV/\x.aLV<=6) (hl:r.aLT.length<=2000000):kg Tryz.prog 179 [.agg (jc r)] (.c (.val (.int .i64 (jg4 r.aLT)))):=by
 refine pf_ jgf ?_;unfold jde;have hz:D.sl 1 jg3 [.val (.int .i64 0),.val (.int .i64 0),.val (.int .i64 0),.val (.int .i64 0),.val (.int .i64 0),.val (.int .i64 0),.val (.int .i64 0)]=je (cN r.aLT 0):=rfl;simp only [go_sem,jc,ja,hz];intro b fG;refine vo (λi:Nat×jm=>St.of [(1,Bx 100 b),(3,Hd 3 i.2),(4,Ni i.1)] [(100,Bi b _ (jc r)),(3,.loose (je (cN r.aLT i.1)) i.2)]) (λi=>i.1<=r.aLT.length) (λi=>r.aLT.length-i.1) (0,fG) (jy [100,600] (by simp only [go_sem,jc,ja]<;>trivial)) ?_
 rintro ⟨k,η⟩ hk;dsimp only at hk;by_cases aB:k<r.aLT.length
 ·have aA:(k:Int)<r.aLT.length:=by omega
  obtain ⟨x,hx⟩:=jd aB;have hs:=aJ x (aMJ hx);have hs0:=hs.1;have eH:x.aLV>=0:=by omega
  have fI:0<=x.aLV:=by omega
  have hs7:x.aLV.toNat<7:=by omega
  have eU:x.aLV.toNat<(cN r.aLT k).length:=by rw [jpl];exact hs7
  have hw:=kX k;have hg:=jeU (ts:=r.aLT) (k:=k) hs7;rw [show ((x.aLV.toNat:Nat):Int)=x.aLV by omega] at hg
  have cX:=vx x.aLV r.aLT k;have bS:IntKind.i64.wrap (((zh x.aLV r.aLT k).length:Int)+1)=(((zh x.aLV r.aLT k).length+1:Nat):Int):=zy;have cJ:=jAU hx hs;generalize cN r.aLT k=L at*;simp only [go_sem,jc,ja,aB,aA,jS hx,jk,eH,fI,eU,jg hg,jf eU,bS,jb3 _ eU,cJ,hw];exact ql (k+1,η) (jy [100,3] (by simp only [go_sem,jc,ja]<;>trivial))
 have aA:¬(k:Int)<r.aLT.length:=by omega
 obtain rfl:k=r.aLT.length:=by omega
 have eF:=jcJ aJ r.aLT.length (aMV _);have gM:jg4 r.aLT=if (zh 4 r.aLT r.aLT.length).length=r.aLT.length then 2 else if (zh 5 r.aLT r.aLT.length).length=1/\(zh 4 r.aLT r.aLT.length).length+(zh 5 r.aLT r.aLT.length).length+(zh 6 r.aLT r.aLT.length).length=r.aLT.length then 3 else if (zh 5 r.aLT r.aLT.length).length=0/\0<(zh 6 r.aLT r.aLT.length).length/\(zh 4 r.aLT r.aLT.length).length+(zh 5 r.aLT r.aLT.length).length+(zh 6 r.aLT r.aLT.length).length=r.aLT.length then 4 else if (zh 5 r.aLT r.aLT.length).length=0/\(zh 6 r.aLT r.aLT.length).length=0 then 1 else 0:=rfl
 have g1:(cN r.aLT r.aLT.length)[1]?=some (((zh 1 r.aLT r.aLT.length).length:Nat):Int):=jeU (s:=1) (by omega)
 have g2:(cN r.aLT r.aLT.length)[2]?=some (((zh 2 r.aLT r.aLT.length).length:Nat):Int):=jeU (s:=2) (by omega)
 have g3:(cN r.aLT r.aLT.length)[3]?=some (((zh 3 r.aLT r.aLT.length).length:Nat):Int):=jeU (s:=3) (by omega)
 have g4:(cN r.aLT r.aLT.length)[4]?=some (((zh 4 r.aLT r.aLT.length).length:Nat):Int):=jeU (s:=4) (by omega)
 have g5:(cN r.aLT r.aLT.length)[5]?=some (((zh 5 r.aLT r.aLT.length).length:Nat):Int):=jeU (s:=5) (by omega)
 have g6:(cN r.aLT r.aLT.length)[6]?=some (((zh 6 r.aLT r.aLT.length).length:Nat):Int):=jeU (s:=6) (by omega)
 have dG:=jpl r.aLT r.aLT.length;rw [gM];generalize hL:r.aLT.length=len at*;generalize (zh 1 r.aLT len).length=c1 at*;generalize (zh 2 r.aLT len).length=c2 at*;generalize (zh 3 r.aLT len).length=c3 at*;generalize (zh 4 r.aLT len).length=c4 at*;generalize (zh 5 r.aLT len).length=c5 at*;generalize (zh 6 r.aLT len).length=c6 at*;generalize cN r.aLT len=L at*;clear gM;have i1:1<L.length:=by omega
 have i2:2<L.length:=by omega
 have i3:3<L.length:=by omega
 have i4:4<L.length:=by omega
 have i5:5<L.length:=by omega
 have i6:6<L.length:=by omega
 have w12:IntKind.i64.wrap ((c1:Int)+c2)=((c1+c2:Nat):Int):=by rw [qE (by omega) (by omega)];omega
 have w123:IntKind.i64.wrap (((c1+c2:Nat):Int)+c3)=((c1+c2+c3:Nat):Int):=by rw [qE (by omega) (by omega)];omega
 simp only [go_sem,jc,ja,hL,aA,i1,i2,i3,i4,i5,i6,jg g1,jg g2,jg g3,jg g4,jg g5,jg g6,jf i1,jf i2,jf i3,jf i4,jf i5,jf i6,w12,w123];cases hA:(c4:Int)==len;rotate_left
 ·have uL:c4=len:=jvE hA
  rw [if_pos (by omega)]
  simp only [go_sem,jc,ja,hL,i1,i2,i3,i4,i5,i6,jg g1,jg g2,jg g3,jg g4,jg g5,jg g6,jf i1,jf i2,jf i3,jf i4,jf i5,jf i6,w12,w123,hA]
 have uL:¬c4=len:=jvF hA;cases hB:(c5:Int)==1;rotate_left
 ·have yH:c5=1:=jvE hB
  have rM:((c5:Int)==0)=false:=by rw [yH];rfl
  cases hR:((c1+c2+c3:Nat):Int)==0
  ·have uD:¬c1+c2+c3=0:=jvF hR
   rw [if_neg (by omega),if_neg (by omega),if_neg (by omega),if_neg (by omega)]
   simp only [go_sem,jc,ja,hL,i1,i2,i3,i4,i5,i6,jg g1,jg g2,jg g3,jg g4,jg g5,jg g6,jf i1,jf i2,jf i3,jf i4,jf i5,jf i6,w12,w123,hA,hB,rM,hR]
  ·have uD:c1+c2+c3=0:=jvE hR
   rw [if_neg (by omega),if_pos (by omega)]
   simp only [go_sem,jc,ja,hL,i1,i2,i3,i4,i5,i6,jg g1,jg g2,jg g3,jg g4,jg g5,jg g6,jf i1,jf i2,jf i3,jf i4,jf i5,jf i6,w12,w123,hA,hB,hR]
 have yH:¬c5=1:=jvF hB;cases hC:(c5:Int)==0
 ·have hC':¬c5=0:=jvF hC
  rw [if_neg (by omega),if_neg (by omega),if_neg (by omega),if_neg (by omega)]
  simp only [go_sem,jc,ja,hL,i1,i2,i3,i4,i5,i6,jg g1,jg g2,jg g3,jg g4,jg g5,jg g6,jf i1,jf i2,jf i3,jf i4,jf i5,jf i6,w12,w123,hA,hB,hC]
 have hC':c5=0:=jvE hC;by_cases h6:0<c6
 ·have nN:(c6:Int)>0:=by omega
  have pE:((c6:Int)==0)=false:=by simp only [beq_eq_false_iff_ne,ne_eq];omega
  cases hR:((c1+c2+c3:Nat):Int)==0
  ·have uD:¬c1+c2+c3=0:=jvF hR
   rw [if_neg (by omega),if_neg (by omega),if_neg (by omega),if_neg (by omega)]
   simp only [go_sem,jc,ja,hL,i1,i2,i3,i4,i5,i6,jg g1,jg g2,jg g3,jg g4,jg g5,jg g6,jf i1,jf i2,jf i3,jf i4,jf i5,jf i6,w12,w123,hA,hB,hC,nN,pE,hR]
  ·have uD:c1+c2+c3=0:=jvE hR
   rw [if_neg (by omega),if_neg (by omega),if_pos (by omega)]
   simp only [go_sem,jc,ja,hL,i1,i2,i3,i4,i5,i6,jg g1,jg g2,jg g3,jg g4,jg g5,jg g6,jf i1,jf i2,jf i3,jf i4,jf i5,jf i6,w12,w123,hA,hB,hC,nN,hR]
 ·have nN:¬(c6:Int)>0:=by omega
  have pE:((c6:Int)==0)=true:=by simp only [aOO];omega
  rw [if_neg (by omega),if_neg (by omega),if_neg (by omega),if_pos (by omega)]
  simp only [go_sem,jc,ja,hL,i1,i2,i3,i4,i5,i6,jg g1,jg g2,jg g3,jg g4,jg g5,jg g6,jf i1,jf i2,jf i3,jf i4,jf i5,jf i6,w12,w123,hA,hB,hC,nN,pE]
theorem jn2 {r:Rn} (h1:inB r.id 1 9999=true) (h2:jr r.aLW=0) (h3:(r.aLT.length:Int)=r.aLW.aLT) (h4:∀(t:Nat) (x:Tk),r.aLT[t]?=some x->jT r.aLW r.aLT t x=true) (h5:r.aLV=jg4 r.aLT) (h6:r.aLV≠0):kO r=true:=runOk_iff.2 ⟨h1,h2,h3,h4,h5,h6⟩
theorem jqR {p:Pl} {ts:List Tk} {t:Nat} {x:Tk} (h:¬(1<=x.aLV/\x.aLV<=6)):jT p ts t x=false:=by simp [jT,inB,h]
theorem jcV (r:Rn):kg Tryz.prog 130 [.agg (jc r)] (.c (.val (.bool (kO r)))):=by
 refine pf_ jkp ?_;unfold jih;simp only [go_sem,jc,ja];intro b;refine jx (jJ r.id 1 9999) λη=>?_
 simp only [go_sem,jc,ja];cases h1:decide (1<=r.id/\r.id<=9999)
 ·have hb:kO r=false:=qZ λh=>by have:=h.id;simp [inB,h1] at this
  simp only [go_sem,jc,ja,h1,hb]
 simp only [go_sem,jc,ja,h1];refine jx (vW r.aLW) λη=>?_
 simp only [go_sem,jc,ja];cases h2:jr r.aLW !=0;rotate_left
 ·have hb:kO r=false:=qZ λh=>by have:=h.aLW;simp [this] at h2
  simp only [go_sem,jc,ja,h2,hb]
 have h0:jr r.aLW=0:=by simpa using h2
 obtain ⟨n,hn,d8,cC,dS,bV,aX,-⟩:=jcH h0;simp only [go_sem,jc,ja,h2];cases h3:(r.aLT.length:Int) !=r.aLW.aLT;rotate_left
 ·have hb:kO r=false:=qZ λh=>by have:=h.len;simp [this] at h3
  simp only [go_sem,jc,ja,h3,hb]
 have aD:(r.aLT.length:Int)=r.aLW.aLT:=by simpa using h3
 have hlb:r.aLT.length<=12:=by omega
 simp only [go_sem,jc,ja,h3];refine vo (λi:Nat=>St.of [(1,Bx 100 b),(3,Ni i)] [(100,Bi b _ (jc r))]) (λi=>i<=r.aLT.length/\∀x∈r.aLT.take i,1<=x.aLV/\x.aLV<=6) (λi=>r.aLT.length-i) 0 (jy [100] (by simp only [go_sem,jc,ja]<;>trivial)) ?_
 rintro k ⟨hk,cM⟩;by_cases aB:k<r.aLT.length
 ·have aA:(k:Int)<r.aLT.length:=by omega
  obtain ⟨x,hx⟩:=jd aB;have hw:=kX k;simp only [go_sem,jc,ja,aB,aA,jS hx,jk];refine jx (jJ x.aLV 1 6) λη=>?_
  simp only [go_sem,jc,ja];cases hs:decide (1<=x.aLV/\x.aLV<=6)
  ·have hb:kO r=false:=qZ λh=>by have:=h.aLT k x hx;rw [jqR (by simpa using hs)] at this;cases this
   simp only [go_sem,jc,ja,hs,hb]
  ·have lG:1<=x.aLV/\x.aLV<=6:=by simpa using hs
   simp only [go_sem,jc,ja,hs,hw];exact ⟨k+1,⟨aB,λy hy=>by rw [aMT,hx] at hy;simp at hy;rcases hy with hy|hy;exact cM y hy;exact hy▸lG⟩,(jy [100] (by simp only [go_sem,jc,ja]<;>trivial)),by (try dsimp only);omega⟩
 have aA:¬(k:Int)<r.aLT.length:=by omega
 rw [aMO (by omega)] at cM
 simp only [go_sem,jc,ja,aA];refine vo (λi:Nat=>St.of [(1,Bx 100 b),(4,Ni i)] [(100,Bi b _ (jc r))]) (λi=>i<=r.aLT.length/\∀(t:Nat) (x:Tk),t<i->r.aLT[t]?=some x->jT r.aLW r.aLT t x=true) (λi=>r.aLT.length-i) 0 (jy [100] (by simp only [go_sem,jc,ja]<;>trivial)) ?_
 rintro j ⟨hj,eA⟩;by_cases bJ:j<r.aLT.length
 ·have aY:(j:Int)<r.aLT.length:=by omega
  obtain ⟨x,hx⟩:=jd bJ;have hw:=kX j;simp only [go_sem,jc,ja,aY];refine jx (jkQ r j x hx h0 aD) λη=>?_
  simp only [go_sem,jc,ja];cases hs:jT r.aLW r.aLT j x
  ·have hb:kO r=false:=qZ λh=>by have:=h.aLT j x hx;rw [hs] at this;cases this
   simp only [go_sem,jc,ja,hs,hb]
  ·simp only [go_sem,jc,ja,hs,hw]
   exact ⟨j+1,⟨bJ,λt y ht hy=>by rcases Nat.lt_or_ge t j with h'|h';exact eA t y h' hy;obtain rfl:t=j:=(by omega);rw [hx] at hy;cases hy;exact hs⟩,(jy [100] (by simp only [go_sem,jc,ja]<;>trivial)),by (try dsimp only);omega⟩
 have aY:¬(j:Int)<r.aLT.length:=by omega
 have cK:∀(t:Nat) (x:Tk),r.aLT[t]?=some x->jT r.aLW r.aLT t x=true:=λt x hx=>eA t x (by have:=(aMI.1 hx).1;omega) hx
 simp only [go_sem,jc,ja,aY];refine jx (jcU r cM (by omega)) λη=>?_
 simp only [go_sem,jc,ja];cases h5:r.aLV==jg4 r.aLT
 ·have hb:kO r=false:=qZ λh=>by have:=h.aLV;simp [<-this] at h5
  simp only [go_sem,jc,ja,h5,hb]
 cases h6:r.aLV !=0
 ·have hb:kO r=false:=qZ λh=>h.live (by simpa using h6)
  simp only [go_sem,jc,ja,h5,h6,hb]
 ·have hb:kO r=true:=jn2 (by simpa [inB] using h1) h0 aD cK (by simpa using h5) (by simpa using h6)
  simp only [go_sem,jc,ja,h5,h6,hb]
def jgN:C:=iS [iA 2 (.box 52 8 (.t 0)),aN 4 0] (iS [aN 5 0] (.seq (iS [aF 8 1 2,aT 9 5 8,aM 10 1,iA 11 (iK 164 [9,10]),aG 12 11,aN 13 0] (.blk 0 (.loop (iS [aP 14 .lss 3 13 12] (.seq (iD 14 .skip (.exit 0)) (.seq (.blk 1 (iS [aI 15 1 11 13,aL 16 15,aM 7 16] (iS [aF 17 7 2,aL 18 17,aM 19 7,aI 20 4 18 19,aF 21 0 20,aL 22 21,aQ 23 .neq 3 22 4] (iD 23 (.reg [aM 24 5,aQ 25 .add 3 24 1,aM 5 25]) .skip)))) (.reg [aQ 26 .add 3 13 1,aM 13 26]))))))) (iS [aM 27 5,aM 4 27] .ret)))
theorem jiS:fnC Tryz.prog Tryz.f183=some (jgN,[.t 4],28):=by kernel_rfl
def jgL:C:=iS [iA 2 (.box 52 8 (.t 0)),aO 4 false] (iS [aF 6 7 2,aL 7 6,aM 8 1,aI 9 4 7 8,aT 10 4 9,iA 5 wAN,wAB 5 10] (.seq (.seq (.dreg (tA 0 11 (iF 0 5) (tA 1 12 (iL 11) (tC 13 (.call 62 [.t 12,oI 1,oI 6]) [] (tA 3 14 (iU 13) (tA 4 15 (iM 14) (tB 5 16 15 false (iF 1 5) (tB 6 17 15 false (iL 16) (tB 7 18 15 false (iT 8 2) (tB 8 19 15 false (iM 1) (.alt (iB 20 15 false (iK 183 [18,19])) [6,5] (tB 10 21 15 false (iP .neq 3 17 20) (tA 11 22 (iY 15 (oT) (.t 21)) (tA 12 23 (iM 22) (tB 13 24 23 false (iF 2 5) (tB 14 25 23 false (iL 24) (tB 15 26 23 false (iF 1 2) (tB 16 27 23 false (iF 1 26) (tB 17 28 23 false (iL 27) (.alt (iB 29 23 false (.call 62 [.t 25,oI 0,.t 28])) [] (tB 19 30 23 false (iU 29) (tA 20 31 (iY 23 (oT) (.t 30)) .done)) .stop))))))))) .stop))))))) .stop)))) (iD 31 (iS [aO 4 false] .ret) .skip)) (.seq (iS [aF 32 0 5,aL 33 32,aQ 34 .eql 3 33 3,aM 35 34,iB 36 35 true (iF 3 5),iB 37 35 true (iL 36),iB 38 35 true (.call 62 [.t 37,oI 1,oI 1000000000]),iB 39 35 true (iU 38),iA 40 (iY 35 (.t 39) (oF)),aM 41 40,iB 42 41 false (iF 0 5),iB 43 41 false (iL 42),iB 44 41 false (iQ .neq 3 43 3),iB 45 41 false (iM 44),iB 46 45 true (iF 3 5),iB 47 45 true (iL 46),iB 48 45 true (iQ .neq 3 47 0),iB 49 41 false (iY 45 (.t 48) (oF)),iA 50 (iY 41 (oT) (.t 49))] (iD 50 (iS [aO 4 false] .ret) .skip)) (.seq (iS [aF 51 0 5,aL 52 51] (.blk 0 (iS [aQ 54 .eql 3 52 1,aM 53 54] (iD 53 (iS [aF 55 1 5,aL 56 55,aQ 57 .gtr 3 56 0,aM 4 57] .ret) (iS [aQ 59 .eql 3 52 2,aM 58 59] (iD 58 (iS [aF 60 1 5,aL 61 60,aQ 62 .eql 3 61 0,aM 63 62,iB 64 63 true (iF 2 5),iB 65 63 true (iL 64),iB 66 63 true (iF 1 2),iB 67 63 true (iF 1 66),iB 68 63 true (iL 67),iB 69 63 true (iP .lss 3 65 68),iA 70 (iY 63 (.t 69) (oF)),aM 4 70] .ret) (.seq (iS [aQ 72 .eql 3 52 3,aM 71 72] (iD 71 .skip (iS [aQ 73 .eql 3 52 4,aM 71 73] (iD 71 .skip (.reg [aQ 74 .eql 3 52 5,aM 71 74]))))) (iD 71 (iS [aF 75 1 5,aL 76 75,aQ 77 .eql 3 76 0,aM 78 77,iB 79 78 true (iF 2 5),iB 80 78 true (iL 79),iB 81 78 true (iQ .geq 3 80 1),iA 82 (iY 78 (.t 81) (oF)),aM 4 82] .ret) .skip)))))))) (iS [aO 4 true] .ret)))))
theorem jiQ:fnC Tryz.prog Tryz.f140=some (jgL,[.t 4],83):=by kernel_rfl
def jeN:C:=iS [iA 2 (.box 52 8 (.t 0)),iA 4 (.mov (.c (.slice none 0 0)))] (iS [iA 5 (.mov (.c (.slice none 0 0)))] (.seq (iS [aF 8 7 2,aL 9 8,aG 10 9,aN 11 0] (.blk 0 (.loop (iS [aP 12 .lss 3 11 10] (.seq (iD 12 .skip (.exit 0)) (.seq (.blk 1 (iS [aM 13 11,aI 14 4 9 11,aT 15 4 14,iA 7 wAN,aM 6 13,wAB 7 15] (iS [aF 16 0 7,aL 17 16,aM 18 1,aP 19 .eql 3 17 18] (iD 19 (.reg [aM 20 5,aM 21 6,iA 22 (wAW [(0,1,.t 21)]),iA 23 (wA3 20 22),aM 5 23]) .skip)))) (.reg [aQ 24 .add 3 11 1,aM 11 24]))))))) (iS [aM 25 5,aM 4 25] .ret)))
theorem jhQ:fnC Tryz.prog Tryz.f47=some (jeN,[.t 4],26):=by kernel_rfl
def jin:C:=iS [iA 1 (.box 52 8 (.t 0)),aO 2 false] (.seq (iS [aF 8 0 1,aL 9 8,iA 10 (.call 62 [.t 9,oI 1,oI 9999]),aU 11 10,aM 12 11,iB 13 12 false (iF 1 1),iB 14 12 false (iT 5 13),iB 15 12 false (iK 109 [14]),iB 16 12 false (iQ .neq 3 15 0),iA 17 (iY 12 (oT) (.t 16)),aM 18 17,iB 19 18 false (iF 7 1),iB 20 18 false (iL 19),iB 21 18 false (iG 20),iB 22 18 false (iF 1 1),iB 23 18 false (iF 3 22),iB 24 18 false (iL 23),iB 25 18 false (iP .neq 3 21 24),iA 26 (iY 18 (oT) (.t 25))] (iD 26 (iS [aO 2 false] .ret) .skip)) (.seq (iS [aF 27 7 1,aL 28 27,aG 29 28,aN 30 0] (.blk 0 (.loop (iS [aP 31 .lss 3 30 29] (.seq (iD 31 .skip (.exit 0)) (.seq (.blk 1 (iS [aM 32 30,aM 3 32] (iS [aT 33 8 1,aM 34 3,iA 35 (iK 140 [33,34]),aU 36 35] (iD 36 (iS [aO 2 false] .ret) .skip)))) (.reg [aQ 37 .add 3 30 1,aM 30 37]))))))) (.seq (.dreg (tA 0 38 (iT 8 1) (tA 3 41 (iT 8 1) (tA 6 44 (iT 8 1) (tC 39 (.call 47 [.t 38,oI 4]) [6,3] (tA 2 40 (iG 39) (tC 42 (.call 47 [.t 41,oI 5]) [2,6] (tA 5 43 (iG 42) (tC 45 (.call 47 [.t 44,oI 6]) [5,2] (tA 8 46 (iG 45) (tA 9 4 (iM 40) (tA 10 5 (iM 43) (tA 11 6 (iM 46) .done)))) .stop)) .stop)) .stop))))) (iS [aM 47 4,aM 48 5,aP 49 .add 3 47 48,aM 50 6,aP 51 .add 3 49 50,aF 52 7 1,aL 53 52,aG 54 53,aP 55 .eql 3 51 54,aM 7 55] (.seq (.blk 2 (iS [aM 57 4,aF 58 7 1,aL 59 58,aG 60 59,aP 61 .eql 3 57 60,aM 56 61] (iD 56 (iS [aF 62 6 1,aL 63 62,aQ 64 .eql 3 63 2,aM 2 64] .ret) (iS [aM 66 5,aQ 67 .eql 3 66 1,aM 68 67,iB 69 68 true (iM 7),iA 70 (iY 68 (.t 69) (oF)),aM 65 70] (iD 65 (iS [aF 71 6 1,aL 72 71,aQ 73 .eql 3 72 3,aM 2 73] .ret) (iS [aM 75 5,aQ 76 .eql 3 75 0,aM 77 76,iB 78 77 true (iM 6),iB 79 77 true (iQ .gtr 3 78 0),iA 80 (iY 77 (.t 79) (oF)),aM 81 80,iB 82 81 true (iM 7),iA 83 (iY 81 (.t 82) (oF)),aM 74 83] (iD 74 (iS [aF 84 6 1,aL 85 84,aQ 86 .eql 3 85 4,aM 2 86] .ret) .skip))))))) (iS [aF 87 6 1,aL 88 87,aQ 89 .eql 3 88 1,aM 90 89,iB 91 90 true (iM 5),iB 92 90 true (iQ .eql 3 91 0),iA 93 (iY 90 (.t 92) (oF)),aM 94 93,iB 95 94 true (iM 6),iB 96 94 true (iQ .eql 3 95 0),iA 97 (iY 94 (.t 96) (oF)),aM 2 97] .ret))))))
theorem jkw:fnC Tryz.prog Tryz.f81=some (jin,[.t 2],98):=by kernel_rfl
theorem jmV (r:Rn) (t:Nat) (h0:jr r.aLW=0) (aD:(r.aLT.length:Int)=r.aLW.aLT):kg Tryz.prog 183 [.agg (jc r),.c (.val (.int .i64 t))] (.c (.val (.int .i64 (jmb r.aLT (zQ r.aLW t))))):=by
 obtain ⟨n,hn,d8,cC,dS,bV,aX,-⟩:=jcH h0;refine pf_ jiS ?_;unfold jgN;have tZ:=jr3 hn cC dS t;simp only [go_sem,jc,ja];intro b;refine jx (jcY r.aLW t h0) λη=>?_
 simp only [go_sem,jc,ja];refine vo (λi:Nat=>St.of [(2,Bx 200 b),(5,Ni (jmb r.aLT ((zQ r.aLW t).take i))),(11,Hd 11 (η 0)),(12,Ni (zQ r.aLW t).length),(13,Ni i)] [(200,Bi b _ (jc r)),(11,.loose (je (zQ r.aLW t)) (η 0))]) (λi=>i<=(zQ r.aLW t).length) (λi=>(zQ r.aLW t).length-i) 0 (jy [200,1100] (by simp only [go_sem,jc,ja,jk,aNM,jmb,List.filter_nil,aOM]<;>trivial)) ?_
 rintro k hk;by_cases aB:k<(zQ r.aLW t).length
 ·have aA:(k:Int)<(zQ r.aLW t).length:=by omega
  obtain ⟨v,hv⟩:=jd aB;have pK:=jwr hn (aMJ hv);have bN:v.toNat<r.aLT.length:=by omega
  have nR:=pK.1;obtain ⟨y,hy⟩:=jd bN;have hw:=kX k;have dG:=jwa r.aLT ((zQ r.aLW t).take k);rw [aMP] at dG;have bS:IntKind.i64.wrap ((jmb r.aLT ((zQ r.aLW t).take k):Int)+1)=((jmb r.aLT ((zQ r.aLW t).take k)+1:Nat):Int):=zy;cases hc:y.aLV !=4
  ·have hs:=jv9 hv hy hc
   simp only [go_sem,jc,ja,aB,aA,jg hv,jf aB,bN,nR,jS hy,jk,hc,hw];exact ql (k+1) (jy [200,11] (by simp only [go_sem,jc,ja,jk,hs]<;>trivial))
  ·have hs:=jrW hv hy hc
   simp only [go_sem,jc,ja,aB,aA,jg hv,jf aB,bN,nR,jS hy,jk,hc,hw,bS];exact ql (k+1) (jy [200,11] (by simp only [go_sem,jc,ja,jk,hs]<;>trivial))
 have aA:¬(k:Int)<(zQ r.aLW t).length:=by omega
 rw [aMO (by omega)]
 simp only [go_sem,aA]
theorem qC (r:Rn) (s:Int) (hl:r.aLT.length<=2000000):kg Tryz.prog 47 [.agg (jc r),.c (.val (.int .i64 s))] (.c (je (qQ s r.aLT))):=by
 refine pf_ jhQ ?_;unfold jeN;simp only [go_sem,jc,ja];intro b;refine vo (λi:Nat×jm=>St.of [(1,Ni s),(5,Hd 5 i.2),(9,Ro (jC r.aLT)),(10,Ni r.aLT.length),(11,Ni i.1)] [(5,.loose (je (zh s r.aLT i.1)) i.2)]) (λi=>i.1<=r.aLT.length) (λi=>r.aLT.length-i.1) (0,jcF) (zo [none] (by simp only [go_sem,jc,ja,jyz]<;>trivial)) ?_
 rintro ⟨k,η⟩ hk;dsimp only at hk;by_cases aB:k<r.aLT.length
 ·have aA:(k:Int)<r.aLT.length:=by omega
  obtain ⟨x,hx⟩:=jd aB;have hw:=kX k;have hc:=jcK hx s;have cX:=vx s r.aLT k;generalize zh s r.aLT k=R at*;have eI:R.length+1<=maxLen:=by unfold maxLen;omega
  have eC:(R.length+1)*8<=140737488355328:=by omega
  by_cases h2:x.aLV=s
  ·have bI:(x.aLV==s)=true:=by simpa using h2
   rw [if_pos h2] at hc;simp only [go_sem,jc,ja,aB,aA,jS hx,jk];intro b2;simp only [go_sem,jk,bI,hw,eI,eC,vC];intro cT fO;exact ql (k+1,fO) (jy [2300] (by simp only [go_sem,hc]<;>trivial))
  ·have bI:(x.aLV==s)=false:=by simpa using h2
   rw [if_neg h2,aNI] at hc;simp only [go_sem,jc,ja,aB,aA,jS hx,jk];intro b2;simp only [go_sem,jk,bI,hw];exact ql (k+1,η) (jy [5] (by simp only [go_sem,hc]<;>trivial))
 have aA:¬(k:Int)<r.aLT.length:=by omega
 obtain rfl:k=r.aLT.length:=by omega
 simp only [go_sem,aA,qQ]
theorem jmT (r:Rn) (t:Nat) (x:Tk) (hx:r.aLT[t]?=some x) (h0:jr r.aLW=0) (aD:(r.aLT.length:Int)=r.aLW.aLT):kg Tryz.prog 140 [.agg (jc r),.c (.val (.int .i64 t))] (.c (.val (.bool (jT r.aLW r.aLT t x)))):=by
 have cP:=(aMI.1 hx).1;refine pf_ jiQ ?_;unfold jgL;have eY:=qT t;simp only [go_sem,jc,ja,cP,eY,jS hx,jk];intro b b2;refine jx (jE x.aLV 1 6) λη=>?_
 simp only [go_sem,jc,ja,jk];cases pT:decide (1<=x.aLV/\x.aLV<=6)
 ·have hb:jT r.aLW r.aLT t x=false:=jqR (by simpa using pT)
  simp only [go_sem,jc,ja,jk,pT,hb]
 simp only [go_sem,jc,ja,jk,pT];refine jx (jmV r t h0 aD) λη=>?_
 simp only [go_sem,jc,ja,jk];have aX:ja8 r.aLW r.aLT t=(jmb r.aLT (zQ r.aLW t):Int):=rfl;generalize jmb r.aLT (zQ r.aLW t)=N at*;cases aR:x.aME !=(N:Int);rotate_left
 ·have hb:jT r.aLW r.aLT t x=false:=by
   have:¬x.aME=N:=by simpa using aR
   simp [jT,aX,this]
  simp only [go_sem,jc,ja,jk,aR,hb]
 have bO:x.aME=N:=by simpa using aR
 simp only [go_sem,jc,ja,jk,aR];refine jx (jE x.tri 0 r.aLW.aMG) λη=>?_
 simp only [go_sem,jc,ja,jk];cases cO:decide (0<=x.tri/\x.tri<=r.aLW.aMG)
 ·have hb:jT r.aLW r.aLT t x=false:=by simp [jT,inB,cO]
  simp only [go_sem,jc,ja,jk,hb]
 have dJ:0<=x.tri/\x.tri<=r.aLW.aMG:=by simpa using cO
 rcases jug x.aLV with hs|hs|hs|hs|hs|hs|⟨s1,s2,s3,s4,s5,s6⟩
 ·cases ht:x.til !=0
  rotate_left
  ·have hb:jT r.aLW r.aLT t x=false:=by
    have:¬x.til=0:=by simpa using ht
    simp [jT,jbz,hs,this]
   simp only [go_sem,jc,ja,jk,cO,hs,ht,hb]
  have dK:x.til=0:=by simpa using ht
  have hb:jT r.aLW r.aLT t x=decide ((N:Int)>0):=by simp [jT,jbz,vg,inB,hs,aX,bO,dK,dJ]
  simp only [go_sem,jc,ja,jk,cO,hs,ht,hb,bO]
 ·cases ht:x.til !=0
  rotate_left
  ·have hb:jT r.aLW r.aLT t x=false:=by
    have:¬x.til=0:=by simpa using ht
    simp [jT,jbz,hs,this]
   simp only [go_sem,jc,ja,jk,cO,hs,ht,hb]
  have dK:x.til=0:=by simpa using ht
  cases hz:(N:Int)==0
  ·have cI:¬N=0:=by simpa using hz
   have hb:jT r.aLW r.aLT t x=false:=by simp [jT,jbz,vg,inB,hs,aX,bO,dK,dJ,cI]
   simp only [go_sem,jc,ja,jk,cO,hs,ht,hz,hb,bO]
  ·have cI:N=0:=by simpa using hz
   have hb:jT r.aLW r.aLT t x=decide (x.tri<r.aLW.aMG):=by simp [jT,jbz,vg,inB,hs,aX,bO,dK,dJ,cI]
   simp only [go_sem,jc,ja,jk,cO,hs,ht,hz,hb,bO]
 ·simp only [go_sem,jc,ja,jk,cO,hs]
  refine jn (jE x.til 1 1000000000) (by simp only [go_sem,jc,ja,jk,hs]) λη=>?_
  simp only [go_sem,jc,ja,jk,hs];cases ht:decide (1<=x.til/\x.til<=1000000000)
  ·have hb:jT r.aLW r.aLT t x=false:=by simp [jT,jbz,inB,hs,ht]
   simp only [go_sem,jc,ja,jk,cO,hs,hb]
  have dK:1<=x.til/\x.til<=1000000000:=by simpa using ht
  cases hz:(N:Int)==0
  ·have cI:¬N=0:=by simpa using hz
   have hb:jT r.aLW r.aLT t x=false:=by simp [jT,jbz,vg,inB,hs,aX,bO,dK,dJ,cI]
   simp only [go_sem,jc,ja,jk,cO,hs,ht,hz,hb,bO]
  ·have cI:N=0:=by simpa using hz
   have hb:jT r.aLW r.aLT t x=decide (x.tri>=1):=by simp [jT,jbz,vg,inB,hs,aX,bO,dK,dJ,cI]
   simp only [go_sem,jc,ja,jk,cO,hs,ht,hz,hb,bO]
 ·cases ht:x.til !=0
  rotate_left
  ·have hb:jT r.aLW r.aLT t x=false:=by
    have:¬x.til=0:=by simpa using ht
    simp [jT,jbz,hs,this]
   simp only [go_sem,jc,ja,jk,cO,hs,ht,hb]
  have dK:x.til=0:=by simpa using ht
  cases hz:(N:Int)==0
  ·have cI:¬N=0:=by simpa using hz
   have hb:jT r.aLW r.aLT t x=false:=by simp [jT,jbz,vg,inB,hs,aX,bO,dK,dJ,cI]
   simp only [go_sem,jc,ja,jk,cO,hs,ht,hz,hb,bO]
  ·have cI:N=0:=by simpa using hz
   have hb:jT r.aLW r.aLT t x=decide (x.tri>=1):=by simp [jT,jbz,vg,inB,hs,aX,bO,dK,dJ,cI]
   simp only [go_sem,jc,ja,jk,cO,hs,ht,hz,hb,bO]
 ·cases ht:x.til !=0
  rotate_left
  ·have hb:jT r.aLW r.aLT t x=false:=by
    have:¬x.til=0:=by simpa using ht
    simp [jT,jbz,hs,this]
   simp only [go_sem,jc,ja,jk,cO,hs,ht,hb]
  have dK:x.til=0:=by simpa using ht
  cases hz:(N:Int)==0
  ·have cI:¬N=0:=by simpa using hz
   have hb:jT r.aLW r.aLT t x=false:=by simp [jT,jbz,vg,inB,hs,aX,bO,dK,dJ,cI]
   simp only [go_sem,jc,ja,jk,cO,hs,ht,hz,hb,bO]
  ·have cI:N=0:=by simpa using hz
   have hb:jT r.aLW r.aLT t x=decide (x.tri>=1):=by simp [jT,jbz,vg,inB,hs,aX,bO,dK,dJ,cI]
   simp only [go_sem,jc,ja,jk,cO,hs,ht,hz,hb,bO]
 ·cases ht:x.til !=0
  rotate_left
  ·have hb:jT r.aLW r.aLT t x=false:=by
    have:¬x.til=0:=by simpa using ht
    simp [jT,jbz,hs,this]
   simp only [go_sem,jc,ja,jk,cO,hs,ht,hb]
  have dK:x.til=0:=by simpa using ht
  have hb:jT r.aLW r.aLT t x=true:=by simp [jT,jbz,vg,inB,hs,aX,bO,dK,dJ]
  simp only [go_sem,jc,ja,jk,cO,hs,ht,hb]
 ·have:=aNS pT
  have h1:¬x.aLV=1:=by simpa using s1
  have h2:¬x.aLV=2:=by simpa using s2
  have h3:¬x.aLV=3:=by simpa using s3
  have h4:¬x.aLV=4:=by simpa using s4
  have h5:¬x.aLV=5:=by simpa using s5
  have h6:¬x.aLV=6:=by simpa using s6
  omega
theorem jsB {r:Rn} {v:Int} (h1:inB r.id 1 9999=true) (h2:jr r.aLW=0) (h3:(r.aLT.length:Int)=r.aLW.aLT) (h4:∀(t:Nat) (x:Tk),r.aLT[t]?=some x->jT r.aLW r.aLT t x=true) (hv:jg4 r.aLT=v) (h0:v≠0):kO r=(r.aLV==v):=by
 by_cases h:r.aLV=v
 ·rw [jn2 h1 h2 h3 h4 (h.trans hv.symm) (h▸h0)];simp [h]
 ·rw [qZ λh'=>h (h'.aLV.trans hv)];simp [h]
theorem jia (r:Rn) (cR:r.aLW.aLY.length<=4000000):kg Tryz.prog 81 [.agg (jc r)] (.c (.val (.bool (kO r)))):=by
 refine pf_ jkw ?_;unfold jin;simp only [go_sem,jc,ja];intro b;refine jx (jE r.id 1 9999) λη=>?_
 simp only [go_sem,jc,ja];cases h1:decide (1<=r.id/\r.id<=9999)
 ·have hb:kO r=false:=qZ λh=>by have:=h.id;simp [inB,h1] at this
  simp only [go_sem,jc,ja,h1,hb]
 simp only [go_sem,jc,ja,h1];refine jx (qp r.aLW cR) λη=>?_
 simp only [go_sem,jc,ja];cases h2:jr r.aLW !=0;rotate_left
 ·have hb:kO r=false:=qZ λh=>by have:=h.aLW;simp [this] at h2
  simp only [go_sem,jc,ja,h2,hb]
 have h0:jr r.aLW=0:=by simpa using h2
 obtain ⟨n,hn,d8,cC,dS,bV,aX,-⟩:=jcH h0;simp only [go_sem,jc,ja,h2];cases h3:(r.aLT.length:Int) !=r.aLW.aLT;rotate_left
 ·have hb:kO r=false:=qZ λh=>by have:=h.len;simp [this] at h3
  simp only [go_sem,jc,ja,h3,hb]
 have aD:(r.aLT.length:Int)=r.aLW.aLT:=by simpa using h3
 have hlb:r.aLT.length<=12:=by omega
 simp only [go_sem,jc,ja,h3];refine vo (λi:Nat=>St.of [(1,Bx 100 b),(29,Ni r.aLT.length),(30,Ni i)] [(100,Bi b _ (jc r))]) (λi=>i<=r.aLT.length/\∀(t:Nat) (x:Tk),t<i->r.aLT[t]?=some x->jT r.aLW r.aLT t x=true) (λi=>r.aLT.length-i) 0 (jy [100] (by simp only [go_sem,jc,ja]<;>trivial)) ?_
 rintro j ⟨hj,eA⟩;by_cases bJ:j<r.aLT.length
 ·have aY:(j:Int)<r.aLT.length:=by omega
  obtain ⟨x,hx⟩:=jd bJ;have hw:=kX j;simp only [go_sem,jc,ja,aY];refine jx (jmT r j x hx h0 aD) λη=>?_
  simp only [go_sem,jc,ja];cases hs:jT r.aLW r.aLT j x
  ·have hb:kO r=false:=qZ λh=>by have:=h.aLT j x hx;rw [hs] at this;cases this
   simp only [go_sem,jc,ja,hs,hb]
  ·simp only [go_sem,jc,ja,hs,hw]
   exact ⟨j+1,⟨bJ,λt y ht hy=>by rcases Nat.lt_or_ge t j with h'|h';exact eA t y h' hy;obtain rfl:t=j:=(by omega);rw [hx] at hy;cases hy;exact hs⟩,(jy [100] (by simp only [go_sem,jc,ja]<;>trivial)),by (try dsimp only);omega⟩
 have aY:¬(j:Int)<r.aLT.length:=by omega
 have cK:∀(t:Nat) (x:Tk),r.aLT[t]?=some x->jT r.aLW r.aLT t x=true:=λt x hx=>eA t x (by have:=(aMI.1 hx).1;omega) hx
 simp only [go_sem,jc,ja,aY];refine jx (qC r 4 (by omega)) λη=>?_
 simp only [go_sem,jc,ja];refine jx (qC r 5 (by omega)) λη=>?_
 simp only [go_sem,jc,ja];refine jx (qC r 6 (by omega)) λη=>?_
 simp only [go_sem,jc,ja];have fZ:∀v:Int,jg4 r.aLT=v->v≠0->kO r=(r.aLV==v):=λv hv eO=>jsB (by simpa [inB] using h1) h0 aD cK hv eO
 have gM:jg4 r.aLT=if (qQ 4 r.aLT).length=r.aLT.length then 2 else if (qQ 5 r.aLT).length=1/\(qQ 4 r.aLT).length+(qQ 5 r.aLT).length+(qQ 6 r.aLT).length=r.aLT.length then 3 else if (qQ 5 r.aLT).length=0/\0<(qQ 6 r.aLT).length/\(qQ 4 r.aLT).length+(qQ 5 r.aLT).length+(qQ 6 r.aLT).length=r.aLT.length then 4 else if (qQ 5 r.aLT).length=0/\(qQ 6 r.aLT).length=0 then 1 else 0:=rfl
 have b4:=vx 4 r.aLT r.aLT.length;have b5:=vx 5 r.aLT r.aLT.length;have b6:=vx 6 r.aLT r.aLT.length;change (qQ 4 r.aLT).length<=_ at b4;change (qQ 5 r.aLT).length<=_ at b5;change (qQ 6 r.aLT).length<=_ at b6;generalize (qQ 4 r.aLT).length=c4 at*;generalize (qQ 5 r.aLT).length=c5 at*;generalize (qQ 6 r.aLT).length=c6 at*;generalize r.aLT.length=L at*;have w45:IntKind.i64.wrap ((c4:Int)+c5)=((c4+c5:Nat):Int):=by rw [qE (by omega) (by omega)];omega
 have w456:IntKind.i64.wrap (((c4+c5:Nat):Int)+c6)=((c4+c5+c6:Nat):Int):=by rw [qE (by omega) (by omega)];omega
 simp only [go_sem,jc,ja,w45,w456];cases hA:(c4:Int)==L;rotate_left
 ·have uL:c4=L:=jvE hA
  have aJ:jg4 r.aLT=2:=by rw [gM,if_pos (by omega)]
  have hb:kO r=(r.aLV==2):=fZ _ aJ (by decide)
  simp only [go_sem,jc,ja,hA,hb]
 have uL:¬c4=L:=jvF hA;cases hB:(c5:Int)==1;rotate_left
 ·have yH:c5=1:=jvE hB
  have rM:((c5:Int)==0)=false:=by rw [yH];rfl
  cases hR:((c4+c5+c6:Nat):Int)==L
  ·have uD:¬c4+c5+c6=L:=jvF hR
   have aJ:jg4 r.aLT=0:=by rw [gM,if_neg (by omega),if_neg (by omega),if_neg (by omega),if_neg (by omega)]
   have hb:kO r=false:=qZ λh=>h.live (h.aLV.trans aJ)
   simp only [go_sem,jc,ja,hA,hB,rM,hR,hb];cases eH:r.aLV==1
   ·simp only [go_sem,jc,ja,hA,hB,rM,hR,eH,hb]
   ·simp only [go_sem,jc,ja,hA,hB,rM,hR,eH,hb]
  ·have uD:c4+c5+c6=L:=jvE hR
   have aJ:jg4 r.aLT=3:=by rw [gM,if_neg (by omega),if_pos (by omega)]
   have hb:kO r=(r.aLV==3):=fZ _ aJ (by decide)
   simp only [go_sem,jc,ja,hA,hB,hR,hb]
 have yH:¬c5=1:=jvF hB;cases hC:(c5:Int)==0
 ·have hC':¬c5=0:=jvF hC
  have aJ:jg4 r.aLT=0:=by rw [gM,if_neg (by omega),if_neg (by omega),if_neg (by omega),if_neg (by omega)]
  have hb:kO r=false:=qZ λh=>h.live (h.aLV.trans aJ)
  simp only [go_sem,jc,ja,hA,hB,hC,hb];cases eH:r.aLV==1
  ·simp only [go_sem,jc,ja,hA,hB,hC,eH,hb]
  ·simp only [go_sem,jc,ja,hA,hB,hC,eH,hb]
 have hC':c5=0:=jvE hC;by_cases h6:0<c6
 ·have nN:(c6:Int)>0:=by omega
  have pE:((c6:Int)==0)=false:=by simp only [beq_eq_false_iff_ne,ne_eq];omega
  cases hR:((c4+c5+c6:Nat):Int)==L
  ·have uD:¬c4+c5+c6=L:=jvF hR
   have aJ:jg4 r.aLT=0:=by rw [gM,if_neg (by omega),if_neg (by omega),if_neg (by omega),if_neg (by omega)]
   have hb:kO r=false:=qZ λh=>h.live (h.aLV.trans aJ)
   simp only [go_sem,jc,ja,hA,hB,hC,nN,pE,hR,hb];cases eH:r.aLV==1
   ·simp only [go_sem,jc,ja,hA,hB,hC,nN,pE,hR,eH,hb]
   ·simp only [go_sem,jc,ja,hA,hB,hC,nN,pE,hR,eH,hb]
  ·have uD:c4+c5+c6=L:=jvE hR
   have aJ:jg4 r.aLT=4:=by rw [gM,if_neg (by omega),if_neg (by omega),if_pos (by omega)]
   have hb:kO r=(r.aLV==4):=fZ _ aJ (by decide)
   simp only [go_sem,jc,ja,hA,hB,hC,nN,hR,hb]
 ·have nN:¬(c6:Int)>0:=by omega
  have pE:((c6:Int)==0)=true:=by simp only [aOO];omega
  have aJ:jg4 r.aLT=1:=by rw [gM,if_neg (by omega),if_neg (by omega),if_neg (by omega),if_pos (by omega)]
  have hb:kO r=(r.aLV==1):=fZ _ aJ (by decide)
  simp only [go_sem,jc,ja,hA,hB,hC,nN,pE,hb];cases eH:r.aLV==1
  ·rw [eH] at hb
   simp only [go_sem,jc,ja,hA,hB,hC,nN,pE,eH,hb]
  ·rw [eH] at hb
   simp only [go_sem,jc,ja,hA,hB,hC,nN,pE,eH,hb]
