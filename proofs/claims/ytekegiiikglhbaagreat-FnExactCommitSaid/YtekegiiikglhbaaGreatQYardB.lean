/- Parts. -/
import Derived.Test.YtekegiiikglhbaaGreatQCopy
set_option linter.all false
set_option maxHeartbeats 16000000
set_option maxRecDepth 100000
namespace Go.Proofs.YtekegiiikglhbaaGreat
open Go.RowKit Go.Sort
def jc0:C:=iS [iA 2 (.box 127 4 (.t 0)),iA 3 (.box 127 4 (.t 1)),aO 4 false] (iS [aF 5 0 2,aL 6 5,aF 7 0 3,aL 8 7,aP 9 .gtr 3 6 8,aM 10 9,iB 11 10 false (iF 0 2),iB 12 10 false (iL 11),iB 13 10 false (iF 0 3),iB 14 10 false (iL 13),iB 15 10 false (iP .eql 3 12 14),iB 16 10 false (iM 15),iB 17 16 true (iF 1 2),iB 18 16 true (iL 17),iB 19 16 true (iF 1 3),iB 20 16 true (iL 19),iB 21 16 true (iP .lss 3 18 20),iB 22 10 false (iY 16 (.t 21) (oF)),iA 23 (iY 10 (oT) (.t 22)),aM 4 23] .ret)
theorem jey:fnC Tryz.prog Tryz.f124=some (jc0,[.t 4],24):=by kernel_rfl
def jc3:C:=iS [iA 2 (.box 127 4 (.t 0)),iA 3 (.box 127 4 (.t 1)),aO 4 false] (iS [aF 5 0 2,aL 6 5,aF 7 0 3,aL 8 7,aP 9 .gtr 3 6 8,aM 10 9,iB 11 10 false (iF 0 2),iB 12 10 false (iL 11),iB 13 10 false (iF 0 3),iB 14 10 false (iL 13),iB 15 10 false (iP .eql 3 12 14),iB 16 10 false (iM 15),iB 17 16 true (iF 1 2),iB 18 16 true (iL 17),iB 19 16 true (iF 1 3),iB 20 16 true (iL 19),iB 21 16 true (iP .lss 3 18 20),iB 22 10 false (iY 16 (.t 21) (oF)),iA 23 (iY 10 (oT) (.t 22)),aM 4 23] .ret)
theorem jeB:fnC Tryz.prog Tryz.f112=some (jc3,[.t 4],24):=by kernel_rfl
def jaA:C:=iS [aO 2 false] (.seq (iS [aM 4 0,aG 5 4,aQ 6 .gtr 3 5 80] (iD 6 (iS [aO 2 false] .ret) .skip)) (.seq (iS [aN 3 1] (.blk 0 (.loop (.seq (iS [aM 7 3,aM 8 0,aG 9 8,aP 10 .lss 3 7 9] (iD 10 .skip (.exit 0))) (.seq (.blk 1 (.seq (.dreg (tA 0 13 (iM 0) (tA 1 14 (iM 3) (tA 2 15 (iQ .sub 3 14 1) (tA 3 16 (iI 4 13 15) (tA 4 17 (iT 4 16) (tA 5 18 (iM 0) (tA 6 19 (iM 3) (tA 7 20 (iI 4 18 19) (tA 8 21 (iT 4 20) (tC 22 (iK 124 [17,21]) [] (tA 10 23 (iU 22) .done) .stop))))))))))) (iD 23 (iS [aO 2 false] .ret) .skip))) (.reg [aM 11 3,aQ 12 .add 3 11 1,aM 3 12])))))) (iS [aO 2 true] .ret)))
theorem jcB:fnC Tryz.prog Tryz.f103=some (jaA,[.t 2],24):=by kernel_rfl
def jaL:C:=iS [aO 2 false] (.seq (iS [aN 3 1] (.blk 0 (.loop (.seq (iS [aM 4 3,aM 5 0,aG 6 5,aP 7 .lss 3 4 6] (iD 7 .skip (.exit 0))) (.seq (.blk 1 (.seq (.dreg (tA 0 10 (iM 0) (tA 1 11 (iM 3) (tA 2 12 (iQ .sub 3 11 1) (tA 3 13 (iI 4 10 12) (tA 4 14 (iT 4 13) (tA 5 15 (iM 0) (tA 6 16 (iM 3) (tA 7 17 (iI 4 15 16) (tA 8 18 (iT 4 17) (tC 19 (iK 112 [14,18]) [] (tA 10 20 (iU 19) .done) .stop))))))))))) (iD 20 (iS [aO 2 false] .ret) .skip))) (.reg [aM 8 3,aQ 9 .add 3 8 1,aM 3 9])))))) (iS [aM 21 0,aG 22 21,aQ 23 .leq 3 22 80,aM 2 23] .ret))
theorem jcM:fnC Tryz.prog Tryz.f80=some (jaL,[.t 2],24):=by kernel_rfl
def qe:C:=iS [aN 4 0] (.seq (iS [aM 6 0,aG 7 6,aN 8 0] (.blk 0 (.loop (iS [aP 9 .lss 3 8 7] (.seq (iD 9 .skip (.exit 0)) (.seq (.blk 1 (iS [aM 10 8,aM 5 10] (iS [aM 11 1,aM 12 0,aM 13 5,aI 14 1 12 13,aL 15 14,aP 16 .eql 3 11 15] (iD 16 (iS [aM 17 5,aM 4 17] .ret) .skip)))) (.reg [aQ 18 .add 3 8 1,aM 8 18]))))))) (iS [aN 4 (-1)] .ret))
theorem vf:fnC Tryz.prog Tryz.f113=some (qe,[.t 4],19):=by kernel_rfl
def kL:C:=iS [aO 4 false] (iS [aM 5 0,aM 6 1,iA 7 (iK 113 [5,6]),aQ 8 .geq 3 7 0,aM 4 8] .ret)
theorem qC:fnC Tryz.prog Tryz.f82=some (kL,[.t 4],9):=by kernel_rfl
theorem jgz (x y:En):jR Tryz.prog 124 [.agg (jk x),.agg (jk y)] (.c (.val (.bool (qf x y)))):=by
 refine pf_ jey ?_;unfold jc0;simp only [go_sem,jk];intro b b2;by_cases V:x.aAH>y.aAH
 ·have Z:qf x y=true:=by simp [qf,V]
  simp only [go_sem,jk,V,Z]
 ·cases Y:x.aAH==y.aAH
  ·have Z:qf x y=false:=by
    have:¬x.aAH=y.aAH:=by simpa using Y
    simp only [qf,aCD];omega
   simp only [go_sem,jk,V,Y,Z]
  ·have Z:qf x y=decide (x.seq<y.seq):=by
    have:x.aAH=y.aAH:=by simpa using Y
    simp only [qf,this,Int.lt_irrefl,gt_iff_lt,false_or,true_and]
   simp only [go_sem,jk,V,Y,Z]
theorem jgD (x y:En):jR Tryz.prog 112 [.agg (jk x),.agg (jk y)] (.c (.val (.bool (qf x y)))):=by
 refine pf_ jeB ?_;unfold jc3;simp only [go_sem,jk];intro b b2;by_cases V:x.aAH>y.aAH
 ·have Z:qf x y=true:=by simp [qf,V]
  simp only [go_sem,jk,V,Z]
 ·cases Y:x.aAH==y.aAH
  ·have Z:qf x y=false:=by
    have:¬x.aAH=y.aAH:=by simpa using Y
    simp only [qf,aCD];omega
   simp only [go_sem,jk,V,Y,Z]
  ·have Z:qf x y=decide (x.seq<y.seq):=by
    have:x.aAH=y.aAH:=by simpa using Y
    simp only [qf,this,Int.lt_irrefl,gt_iff_lt,false_or,true_and]
   simp only [go_sem,jk,V,Y,Z]
theorem jeW (l:List En) (hl:l.length<=4000000):jR Tryz.prog 103 [.c (jo l)] (.c (.val (.bool (qF l)))):=by
 refine pf_ jcB ?_;unfold jaA;simp only [go_sem];by_cases tX:80<l.length
 ·have eR:(l.length:Int)>80:=by omega
  have Z:qF l=false:=jdH λh=>by have:=h.aAK;omega
  simp only [go_sem,eR,Z]
 have eR:¬(l.length:Int)>80:=by omega
 simp only [go_sem,eR];refine kp (λi:Nat=>St.of [(0,Ro (jo l)),(3,Ni i)] []) (λi=>1<=i/\(i<=l.length\/i=1)/\∀(k:Nat) (a b:En),k+1<i->l[k]?=some a->l[k+1]?=some b->qf a b=true) (λi=>l.length-i) 1 (⟨by omega,.inr rfl,λk a b h=>by omega⟩) (qJ [] (by simp only [go_sem]<;>trivial)) ?_
 rintro i ⟨uP,sR,o5⟩;by_cases aC:i<l.length
 ·have aA:(i:Int)<l.length:=by omega
  obtain ⟨j,rfl⟩:∃j,i=j+1:=⟨i-1,by omega⟩
  obtain ⟨x,hx⟩:=jd (show j<l.length by omega)
  obtain ⟨y,hy⟩:=jd aC;have bE:j<l.length:=by omega
  have hw:IntKind.i64.wrap (((j+1:Nat):Int)+1)=((j+1+1:Nat):Int):=jdD;have dY:IntKind.i64.wrap (((j+1:Nat):Int)-1)=(j:Int):=by rw [kh (by omega) (by omega)];omega
  simp only [go_sem,aA,aC,bE,dY,jA hx,jA hy,jk];refine kt (jgz x y) λη=>?_
  simp only [go_sem,jk];cases ha:qf x y
  ·have Z:qF l=false:=jdH λh=>by have:=h.ahead j x y hx hy;rw [ha] at this;cases this
   simp only [go_sem,ha,Z]
  ·simp only [go_sem,ha,hw]
   exact ⟨j+1+1,⟨by omega,.inl (by omega),λk a b hk mS aS=>by rcases Nat.lt_or_ge (k+1) (j+1) with h'|h';exact o5 k a b h' mS aS;obtain rfl:k=j:=(by omega);rw [hx] at mS;rw [hy] at aS;cases mS;cases aS;exact ha⟩,(qJ [] (by simp only [go_sem]<;>trivial)),by (try dsimp only);omega⟩
 have aA:¬(i:Int)<l.length:=by omega
 have Z:qF l=true:=ja8 ⟨by omega,λk a b ha Z=>o5 k a b (by have:=(aAR.1 Z).1;omega) ha Z⟩
 simp only [go_sem,aA,Z]
theorem jeZ (l:List En) (hl:l.length<=4000000):jR Tryz.prog 80 [.c (jo l)] (.c (.val (.bool (qF l)))):=by
 refine pf_ jcM ?_;unfold jaL;simp only [go_sem];refine kp (λi:Nat=>St.of [(0,Ro (jo l)),(3,Ni i)] []) (λi=>1<=i/\(i<=l.length\/i=1)/\∀(k:Nat) (a b:En),k+1<i->l[k]?=some a->l[k+1]?=some b->qf a b=true) (λi=>l.length-i) 1 (⟨by omega,.inr rfl,λk a b h=>by omega⟩) (qJ [] (by simp only [go_sem]<;>trivial)) ?_
 rintro i ⟨uP,sR,o5⟩;by_cases aC:i<l.length
 ·have aA:(i:Int)<l.length:=by omega
  obtain ⟨j,rfl⟩:∃j,i=j+1:=⟨i-1,by omega⟩
  obtain ⟨x,hx⟩:=jd (show j<l.length by omega)
  obtain ⟨y,hy⟩:=jd aC;have bE:j<l.length:=by omega
  have hw:IntKind.i64.wrap (((j+1:Nat):Int)+1)=((j+1+1:Nat):Int):=jdD;have dY:IntKind.i64.wrap (((j+1:Nat):Int)-1)=(j:Int):=by rw [kh (by omega) (by omega)];omega
  simp only [go_sem,aA,aC,bE,dY,jA hx,jA hy,jk];refine kt (jgD x y) λη=>?_
  simp only [go_sem,jk];cases ha:qf x y
  ·have Z:qF l=false:=jdH λh=>by have:=h.ahead j x y hx hy;rw [ha] at this;cases this
   simp only [go_sem,ha,Z]
  ·simp only [go_sem,ha,hw]
   exact ⟨j+1+1,⟨by omega,.inl (by omega),λk a b hk mS aS=>by rcases Nat.lt_or_ge (k+1) (j+1) with h'|h';exact o5 k a b h' mS aS;obtain rfl:k=j:=(by omega);rw [hx] at mS;rw [hy] at aS;cases mS;cases aS;exact ha⟩,(qJ [] (by simp only [go_sem]<;>trivial)),by (try dsimp only);omega⟩
 have aA:¬(i:Int)<l.length:=by omega
 by_cases tX:l.length<=80
 ·have eR:(l.length:Int)<=80:=by omega
  have Z:qF l=true:=ja8 ⟨tX,λk a b ha Z=>o5 k a b (by have:=(aAR.1 Z).1;omega) ha Z⟩
  simp only [go_sem,aA,eR,Z]
 ·have eR:¬(l.length:Int)<=80:=by omega
  have Z:qF l=false:=jdH λh=>tX h.aAK
  simp only [go_sem,aA,eR,Z]
theorem jnE (l:List Int) (e:Int) (hl:l.length<=4000000):jR Tryz.prog 113 [.c (jp l),.c (.val (.int .i64 e))] (.c (.val (.int .i64 (jaR (λx=>e==x) l)))):=by
 refine pf_ vf ?_;unfold qe;simp only [go_sem];refine vn (λi:Nat=>St.of [(0,Ro (jp l)),(1,Ni e),(7,Ni l.length),(8,Ni i)] []) (λi=>i<=l.length/\∀y∈l.take i,(λx=>e==x) y=false) (λi=>l.length-i) 0 (qJ [] (by simp only [go_sem]<;>trivial)) ?_
 rintro k ⟨hk,bF⟩;by_cases aC:k<l.length
 ·have aA:(k:Int)<l.length:=by omega
  obtain ⟨x,hx⟩:=jd aC;have hw:=qg k;cases cV:e==x
  ·simp only [go_sem,aC,aA,zy hx,cV,hw]
   exact ⟨k+1,⟨aC,jfu hx cV bF⟩,(qJ [] (by simp only [go_sem]<;>trivial)),by (try dsimp only);omega⟩
  ·simp only [go_sem,aC,aA,zy hx,cV,vC hx cV bF]
 ·have aA:¬(k:Int)<l.length:=by omega
  rw [aAW (by omega)] at bF
  simp only [go_sem,aA,qS bF]
theorem jhO (l:List Int) (e:Int) (hl:l.length<=4000000):jR Tryz.prog 82 [.c (jp l),.c (.val (.int .i64 e))] (.c (.val (.bool (decide (e∈l))))):=by
 refine pf_ qC ?_;unfold kL;simp only [go_sem];refine kt (jnE l e hl) λη=>?_
 simp only [go_sem];rcases vS (λx=>e==x) l with ⟨V,Y⟩|⟨k,x,V,Y,h3,-⟩
 ·have hm:decide (e∈l)=false:=decide_eq_false λh=>by have:=Y e h;simp at this
  rw [V,hm];simp only [go_sem]
 ·have hm:decide (e∈l)=true:=decide_eq_true (by have h4:e=x:=by simpa using h3
                                                exact h4▸aAY Y)
  have hk:=jaQ k;rw [V,hm];simp only [go_sem,hk]
def jbN:C:=iS [iA 3 (.box 36 4 (.t 0)),iA 4 (.box 112 8 (.t 1)),aO 6 false] (.seq (iS [aN 7 0] (.blk 0 (.loop (.seq (iS [aM 10 7,aF 11 7 4,aL 12 11,aG 13 12,aP 14 .lss 3 10 13] (iD 14 .skip (.exit 0))) (.seq (.blk 1 (iS [aN 8 0] (.seq (iS [aN 9 0] (.blk 2 (.loop (.seq (iS [aM 17 9,aM 18 2,aG 19 18,aP 20 .lss 3 17 19] (iD 20 .skip (.exit 2))) (.seq (.blk 3 (.seq (.dreg (tA 0 23 (iM 2) (tA 1 24 (iM 9) (tA 2 25 (iI 4 23 24) (tA 3 26 (iF 2 25) (tA 4 27 (iL 26) (tA 5 28 (iF 0 4) (tA 6 29 (iL 28) (tA 7 30 (iP .eql 3 27 29) (tA 8 31 (iM 30) (tB 9 32 31 true (iM 2) (tB 10 33 31 true (iM 9) (tB 11 34 31 true (iI 4 32 33) (tB 12 35 31 true (iF 3 34) (tB 13 36 31 true (iL 35) (tB 14 37 31 true (iM 7) (tB 15 38 31 true (iP .eql 3 36 37) (tA 16 39 (iY 31 (.t 38) (oF)) .done)))))))))))))))))) (iD 39 (iS [aM 40 8,aQ 41 .add 3 40 1,aM 8 41] (.seq (.dreg (tA 0 42 (iF 7 4) (tA 1 43 (iL 42) (tA 2 44 (iM 7) (tA 3 45 (iI 4 43 44) (tA 4 46 (iF 0 45) (tA 5 47 (iL 46) (tA 6 48 (iQ .eql 3 47 2) (tA 7 49 (iM 48) (tB 8 50 49 true (iM 2) (tB 9 51 49 true (iM 9) (tB 10 52 49 true (iI 4 50 51) (tB 11 53 49 true (iF 0 52) (tB 12 54 49 true (iL 53) (tB 13 55 49 true (iF 1 4) (tB 14 56 49 true (iF 0 55) (tB 15 57 49 true (iL 56) (tB 16 58 49 true (iP .neq 3 54 57) (tA 17 59 (iY 49 (.t 58) (oF)) .done))))))))))))))))))) (iD 59 (iS [aO 6 false] .ret) .skip))) .skip))) (.reg [aM 21 9,aQ 22 .add 3 21 1,aM 9 22])))))) (.seq (.dreg (tA 0 60 (iF 7 4) (tA 1 61 (iL 60) (tA 2 62 (iM 7) (tA 3 63 (iI 4 61 62) (tA 4 64 (iF 0 63) (tA 5 65 (iL 64) (tA 6 66 (iQ .eql 3 65 2) (tA 7 67 (iM 66) (tB 8 68 67 true (iM 8) (tB 9 69 67 true (iQ .neq 3 68 1) (tA 10 70 (iY 67 (.t 69) (oF)) (tA 11 71 (iM 70) (tB 12 72 71 false (iF 7 4) (tB 13 73 71 false (iL 72) (tB 14 74 71 false (iM 7) (tB 15 75 71 false (iI 4 73 74) (tB 16 76 71 false (iF 0 75) (tB 17 77 71 false (iL 76) (tB 18 78 71 false (iQ .eql 3 77 3) (tB 19 79 71 false (iM 78) (tB 20 80 79 true (iF 7 4) (tB 21 81 79 true (iL 80) (tB 22 82 79 true (iM 7) (tB 23 83 79 true (iI 4 81 82) (tB 24 84 79 true (iF 3 83) (tB 25 85 79 true (iL 84) (tB 26 86 79 true (iF 0 3) (tB 27 87 79 true (iL 86) (tB 28 88 79 true (iQ .add 3 87 1) (tB 29 89 79 true (iF 0 3) (tB 30 90 79 true (iL 89) (tB 31 91 79 true (iF 1 4) (tB 32 92 79 true (iF 2 91) (tB 33 93 79 true (iL 92) (tB 34 94 79 true (iP .add 3 90 93) (.alt (iB 95 79 true (iK 41 [85,88,94])) [] (tB 36 96 79 true (iU 95) (tB 37 97 71 false (iY 79 (.t 96) (oF)) (tA 38 98 (iY 71 (oT) (.t 97)) .done))) .stop))))))))))))))))))))))))))))))))))))) (iD 98 (iS [aO 6 false] .ret) .skip))))) (.reg [aM 15 7,aQ 16 .add 3 15 1,aM 7 16])))))) (iS [aO 6 true] .ret))
theorem jde:fnC Tryz.prog Tryz.f71=some (jbN,[.t 6],99):=by kernel_rfl
def jb1:C:=iS [iA 3 (.box 36 4 (.t 0)),iA 4 (.box 112 8 (.t 1)),aO 6 false] (.seq (iS [aF 12 7 4,aL 13 12,aG 14 13,aN 15 0] (.blk 0 (.loop (iS [aP 16 .lss 3 15 14] (.seq (iD 16 .skip (.exit 0)) (.seq (.blk 1 (iS [aM 17 15,aI 18 4 13 15,aT 19 4 18,iA 8 wAO,aM 7 17,wAD 8 19] (iS [aN 9 0] (.seq (iS [aM 20 2,aG 21 20,aN 22 0] (.blk 2 (.loop (iS [aP 23 .lss 3 22 21] (.seq (iD 23 .skip (.exit 2)) (.seq (.blk 3 (iS [aI 24 4 20 22,aT 25 4 24,iA 11 wAU,wAD 11 25] (iS [aF 26 2 11,aL 27 26,aF 28 0 4,aL 29 28,aP 30 .eql 3 27 29,aM 31 30,iB 32 31 true (iF 3 11),iB 33 31 true (iL 32),iB 34 31 true (iM 7),iB 35 31 true (iP .eql 3 33 34),iA 36 (iY 31 (.t 35) (oF))] (iD 36 (.seq (iS [aF 37 0 8,aL 38 37,aQ 39 .eql 3 38 2,aM 40 39,iB 41 40 true (iF 0 11),iB 42 40 true (iL 41),iB 43 40 true (iF 1 4),iB 44 40 true (iF 0 43),iB 45 40 true (iL 44),iB 46 40 true (iP .neq 3 42 45),iA 47 (iY 40 (.t 46) (oF))] (iD 47 (iS [aO 6 false] .ret) .skip)) (.reg [aM 48 9,aQ 49 .add 3 48 1,aM 9 49])) .skip)))) (.reg [aQ 50 .add 3 22 1,aM 22 50]))))))) (iS [aF 51 0 8,aL 52 51,aQ 53 .eql 3 52 2,aM 54 53,iB 55 54 true (iM 9),iB 56 54 true (iQ .neq 3 55 1),iA 57 (iY 54 (.t 56) (oF)),aM 58 57,iB 59 58 false (iF 0 8),iB 60 58 false (iL 59),iB 61 58 false (iQ .eql 3 60 3),iB 62 58 false (iM 61),iB 63 62 true (iF 3 8),iB 64 62 true (iL 63),iB 65 62 true (iF 0 3),iB 66 62 true (iL 65),iB 67 62 true (iQ .add 3 66 1),iB 68 62 true (iF 0 3),iB 69 62 true (iL 68),iB 70 62 true (iF 1 4),iB 71 62 true (iF 2 70),iB 72 62 true (iL 71),iB 73 62 true (iP .add 3 69 72),iB 74 62 true (iK 51 [64,67,73]),iB 75 62 true (iU 74),iB 76 58 false (iY 62 (.t 75) (oF)),iA 77 (iY 58 (oT) (.t 76))] (iD 77 (iS [aO 6 false] .ret) .skip)))))) (.reg [aQ 78 .add 3 15 1,aM 15 78]))))))) (iS [aO 6 true] .ret))
theorem jds:fnC Tryz.prog Tryz.f85=some (jb1,[.t 6],79):=by kernel_rfl
theorem jfC (y:Yd) (r:Rn) (l:List En) (hl:l.length<=4000000) (ht:r.aAB.length<=4000000) (hy:0<=y.now/\y.now<=999999980) (lR:1<=r.aAF.aAJ/\r.aAF.aAJ<=20):jR Tryz.prog 71 [.agg (jb y),.agg (jc r),.c (jo l)] (.c (.val (.bool (ql y r l)))):=by
 refine pf_ jde ?_;unfold jbN;have lS:IntKind.i64.wrap (y.now+1)=y.now+1:=jdD;have lQ:IntKind.i64.wrap (y.now+r.aAF.aAJ)=y.now+r.aAF.aAJ:=jdD;simp only [go_sem,jb,jc,ja,ji,jk];intro b3 b4;refine vn (λi:Nat=>St.of [(2,Ro (jo l)),(3,Bx 300 b3),(4,Bx 400 b4),(7,Ni i)] [(300,Bi b3 _ (jb y)),(400,Bi b4 _ (jc r))]) (λi=>i<=r.aAB.length/\∀(t:Nat) (x:Tk),t<i->r.aAB[t]?=some x->jdU y r l t x) (λi=>r.aAB.length-i) 0 (jJ [300,400] (by simp only [go_sem,jb,jc,ja,ji,jk]<;>trivial)) ?_
 rintro k ⟨hk,bF⟩;by_cases aC:k<r.aAB.length
 ·have aA:(k:Int)<r.aAB.length:=by omega
  have a9:=jaQ k;obtain ⟨x,hx⟩:=jd aC;have hw:=qg k;simp only [go_sem,jb,jc,ja,ji,jk,aA];refine vn (λi:Nat=>St.of [(2,Ro (jo l)),(3,Bx 300 b3),(4,Bx 400 b4),(7,Ni k),(8,Ni (jeC r.id k (l.take i))),(9,Ni i)] [(300,Bi b3 _ (jb y)),(400,Bi b4 _ (jc r))]) (λi=>i<=l.length/\(x.aAD=2->∀e∈l.take i,e.run=r.id->e.aAI=k->e.aAH=r.aAF.aAH)) (λi=>l.length-i) 0 (jJ [300,400] (by simp only [go_sem,jb,jc,ja,ji,jk,aCK,jeC,List.filter_nil,aBW]<;>trivial)) ?_
  rintro j ⟨hj,cH⟩;by_cases bE:j<l.length
  ·as_aux_lemma=>
    have aR:(j:Int)<l.length:=by omega
    obtain ⟨e,he⟩:=jd bE;have c9:=qg j;have cJ:=jmj (l.take j) r.id k;rw [aBA] at cJ;have lT:IntKind.i64.wrap ((jeC r.id k (l.take j):Int)+1)=((jeC r.id k (l.take j)+1:Nat):Int):=jdD
    have d8:¬(e.run=r.id/\e.aAI=k)->(x.aAD=2->∀e∈l.take (j+1),e.run=r.id->e.aAI=k->e.aAH=r.aAF.aAH):=λbQ Y e2 bW h3 h4=>by
     rw [aAX,he] at bW;rcases aAS.1 bW with bW|bW
     ·exact cH Y e2 bW h3 h4
     ·simp at bW;subst bW;exact absurd ⟨h3,h4⟩ bQ
    simp only [go_sem,jb,jc,ja,ji,jk,bE,aR,jA he];cases hr:e.run==r.id
    ·have hs:=jf4 (id:=r.id) (t:=k) he (λh=>by have:=h.1;simp [this] at hr)
     simp only [go_sem,jb,jc,ja,ji,jk,bE,aR,jA he,hr,c9];exact ⟨j+1,⟨bE,d8 (λh=>by have:=h.1;simp [this] at hr)⟩,(jJ [300,400] (by simp only [go_sem,jb,jc,ja,ji,jk,hs]<;>trivial)),by (try dsimp only);omega⟩
    have cM:e.run=r.id:=by simpa using hr
    cases cG:e.aAI==(k:Int)
    ·have hs:=jf4 (id:=r.id) (t:=k) he (λh=>by have:=h.2;simp [this] at cG)
     simp only [go_sem,jb,jc,ja,ji,jk,bE,aR,jA he,hr,cG,c9];exact ⟨j+1,⟨bE,d8 (λh=>by have:=h.2;simp [this] at cG)⟩,(jJ [300,400] (by simp only [go_sem,jb,jc,ja,ji,jk,hs]<;>trivial)),by (try dsimp only);omega⟩
    have fT:e.aAI=k:=by simpa using cG
    have hs:=jiT he cM fT;simp only [go_sem,jb,jc,ja,ji,jk,bE,aR,jA he,hr,cG,lT,aC,aA,a9,jE hx];cases Y:x.aAD==2
    ·simp only [go_sem,jb,jc,ja,ji,jk,bE,aR,jA he,Y,c9,lT]
     exact ⟨j+1,⟨bE,λh=>by simp [h] at Y⟩,(jJ [300,400] (by simp only [go_sem,jb,jc,ja,ji,jk,hs]<;>trivial)),by (try dsimp only);omega⟩
    have bP:x.aAD=2:=by simpa using Y
    cases hp:e.aAH !=r.aAF.aAH
    ·have fF:e.aAH=r.aAF.aAH:=by simpa using hp
     simp only [go_sem,jb,jc,ja,ji,jk,bE,aR,jA he,Y,hp,c9,lT];exact ⟨j+1,⟨bE,λ_ e2 bW h3 h4=>by rw [aAX,he] at bW;rcases aAS.1 bW with bW|bW;exact cH bP e2 bW h3 h4;simp at bW;subst bW;exact fF⟩,(jJ [300,400] (by simp only [go_sem,jb,jc,ja,ji,jk,hs]<;>trivial)),by (try dsimp only);omega⟩
    ·have Z:ql y r l=false:=zY λh=>by
      have:=((h k x hx).1 bP).1 e (aAY he) cM fT;simp [this] at hp
     simp only [go_sem,jb,jc,ja,ji,jk,bE,aR,jA he,Y,hp,Z]
  as_aux_lemma=>
   have aR:¬(j:Int)<l.length:=by omega
   rw [aAW (by omega)] at cH
   rw [aAW (by omega)]
   have eM:jdU y r l k x->∀(t:Nat) (z:Tk),t<k+1->r.aAB[t]?=some z->jdU y r l t z:=λh t z ht hz=>by
    rcases Nat.lt_or_ge t k with h'|h'
    ·exact bF t z h' hz
    ·obtain rfl:t=k:=by omega
     rw [hx] at hz;cases hz;exact h
   cases Y:x.aAD==2;rotate_left
   ·have bP:x.aAD=2:=by simpa using Y
    have h3:(x.aAD==3)=false:=by simp [bP]
    cases hc:((jeC r.id k l:Nat):Int) !=1
    ·as_aux_lemma=>
      have tE:jeC r.id k l=1:=by have:((jeC r.id k l:Nat):Int)=1:=by simpa only [bne_eq_false_iff_eq] using hc
                                 omega
      simp only [go_sem,jb,jc,ja,ji,jk,aR,aC,aA,a9,jE hx,Y,hc,h3,hw];exact ⟨k+1,⟨aC,eM ⟨λ_=>⟨cH bP,tE⟩,λh=>by omega⟩⟩,(jJ [300,400] (by simp only [go_sem,jb,jc,ja,ji,jk]<;>trivial)),by (try dsimp only);omega⟩
    ·as_aux_lemma=>
      have Z:ql y r l=false:=zY λh=>by
       have:=((h k x hx).1 bP).2;rw [this] at hc;cases hc
      simp only [go_sem,jb,jc,ja,ji,jk,aR,aC,aA,a9,jE hx,Y,hc,Z]
   ·have bP:¬x.aAD=2:=by simpa using Y
    cases h3:x.aAD==3
    ·as_aux_lemma=>
      have eH:¬x.aAD=3:=by simpa using h3
      simp only [go_sem,jb,jc,ja,ji,jk,aR,aC,aA,a9,jE hx,Y,h3,hw];exact ⟨k+1,⟨aC,eM ⟨λh=>absurd h bP,λh=>absurd h eH⟩⟩,(jJ [300,400] (by simp only [go_sem,jb,jc,ja,ji,jk]<;>trivial)),by (try dsimp only);omega⟩
    ·have eH:x.aAD=3:=by simpa using h3
     as_aux_lemma=>
      simp only [go_sem,jb,jc,ja,ji,jk,aR,aC,aA,a9,jE hx,Y,h3,lS,lQ];refine jg (jt x.til (y.now+1) (y.now+r.aAF.aAJ)) (by simp only [go_sem,jb,jc,ja,ji,jk,lS,lQ]) λη=>?_
      simp only [go_sem,jb,jc,ja,ji,jk,lS,lQ];cases ht:decide (y.now+1<=x.til/\x.til<=y.now+r.aAF.aAJ)
      ·have Z:ql y r l=false:=zY λh=>by
        have:=(h k x hx).2 eH;simp [this] at ht
       simp only [go_sem,jb,jc,ja,ji,jk,ht,Z]
      ·have cC:y.now+1<=x.til/\x.til<=y.now+r.aAF.aAJ:=aBX ht
       simp only [go_sem,jb,jc,ja,ji,jk,ht,hw];exact ⟨k+1,⟨aC,eM ⟨λh=>absurd h bP,λ_=>cC⟩⟩,(jJ [300,400] (by simp only [go_sem,jb,jc,ja,ji,jk]<;>trivial)),by (try dsimp only);omega⟩
 have aA:¬(k:Int)<r.aAB.length:=by omega
 have Z:ql y r l=true:=jbb λt x hx=>bF t x (by have:=(aAR.1 hx).1;omega) hx
 simp only [go_sem,jb,jc,ja,ji,jk,aA,Z]
theorem jfG (y:Yd) (r:Rn) (l:List En) (hl:l.length<=4000000) (ht:r.aAB.length<=4000000) (hy:0<=y.now/\y.now<=999999980) (lR:1<=r.aAF.aAJ/\r.aAF.aAJ<=20):jR Tryz.prog 85 [.agg (jb y),.agg (jc r),.c (jo l)] (.c (.val (.bool (ql y r l)))):=by
 refine pf_ jds ?_;unfold jb1;have lS:IntKind.i64.wrap (y.now+1)=y.now+1:=jdD;have lQ:IntKind.i64.wrap (y.now+r.aAF.aAJ)=y.now+r.aAF.aAJ:=jdD;simp only [go_sem,jb,jc,ja,ji,jk];intro b3 b4;refine vn (λi:Nat=>St.of [(2,Ro (jo l)),(3,Bx 300 b3),(4,Bx 400 b4),(13,Ro (ke r.aAB)),(14,Ni r.aAB.length),(15,Ni i)] [(300,Bi b3 _ (jb y)),(400,Bi b4 _ (jc r))]) (λi=>i<=r.aAB.length/\∀(t:Nat) (x:Tk),t<i->r.aAB[t]?=some x->jdU y r l t x) (λi=>r.aAB.length-i) 0 (jJ [300,400] (by simp only [go_sem,jb,jc,ja,ji,jk]<;>trivial)) ?_
 rintro k ⟨hk,bF⟩;by_cases aC:k<r.aAB.length
 ·have aA:(k:Int)<r.aAB.length:=by omega
  have a9:=jaQ k;obtain ⟨x,hx⟩:=jd aC;have hw:=qg k;simp only [go_sem,jb,jc,ja,ji,jk,aC,aA,jE hx];intro b8;refine vn (λi:Nat=>St.of [(2,Ro (jo l)),(3,Bx 300 b3),(4,Bx 400 b4),(7,Ni k),(8,Bx 800 b8),(9,Ni (jeC r.id k (l.take i))),(13,Ro (ke r.aAB)),(14,Ni r.aAB.length),(15,Ni k),(20,Ro (jo l)),(21,Ni l.length),(22,Ni i)] [(300,Bi b3 _ (jb y)),(400,Bi b4 _ (jc r)),(800,Bi b8 _ (ji x))]) (λi=>i<=l.length/\(x.aAD=2->∀e∈l.take i,e.run=r.id->e.aAI=k->e.aAH=r.aAF.aAH)) (λi=>l.length-i) 0 (jJ [300,400,800] (by simp only [go_sem,jb,jc,ja,ji,jk,aCK,jeC,List.filter_nil,aBW]<;>trivial)) ?_
  rintro j ⟨hj,cH⟩;by_cases bE:j<l.length
  ·as_aux_lemma=>
    have aR:(j:Int)<l.length:=by omega
    obtain ⟨e,he⟩:=jd bE;have c9:=qg j;have cJ:=jmj (l.take j) r.id k;rw [aBA] at cJ;have lT:IntKind.i64.wrap ((jeC r.id k (l.take j):Int)+1)=((jeC r.id k (l.take j)+1:Nat):Int):=jdD
    have d8:¬(e.run=r.id/\e.aAI=k)->(x.aAD=2->∀e∈l.take (j+1),e.run=r.id->e.aAI=k->e.aAH=r.aAF.aAH):=λbQ Y e2 bW h3 h4=>by
     rw [aAX,he] at bW;rcases aAS.1 bW with bW|bW
     ·exact cH Y e2 bW h3 h4
     ·simp at bW;subst bW;exact absurd ⟨h3,h4⟩ bQ
    simp only [go_sem,jb,jc,ja,ji,jk,bE,aR,jA he];intro b11;cases hr:e.run==r.id
    ·have hs:=jf4 (id:=r.id) (t:=k) he (λh=>by have:=h.1;simp [this] at hr)
     simp only [go_sem,jb,jc,ja,ji,jk,bE,aR,jA he,hr,c9];exact ⟨j+1,⟨bE,d8 (λh=>by have:=h.1;simp [this] at hr)⟩,(jJ [300,400,800] (by simp only [go_sem,jb,jc,ja,ji,jk,hs]<;>trivial)),by (try dsimp only);omega⟩
    have cM:e.run=r.id:=by simpa using hr
    cases cG:e.aAI==(k:Int)
    ·have hs:=jf4 (id:=r.id) (t:=k) he (λh=>by have:=h.2;simp [this] at cG)
     simp only [go_sem,jb,jc,ja,ji,jk,bE,aR,jA he,hr,cG,c9];exact ⟨j+1,⟨bE,d8 (λh=>by have:=h.2;simp [this] at cG)⟩,(jJ [300,400,800] (by simp only [go_sem,jb,jc,ja,ji,jk,hs]<;>trivial)),by (try dsimp only);omega⟩
    have fT:e.aAI=k:=by simpa using cG
    have hs:=jiT he cM fT;simp only [go_sem,jb,jc,ja,ji,jk,bE,aR,jA he,hr,cG,lT,aC,aA,a9];cases Y:x.aAD==2
    ·simp only [go_sem,jb,jc,ja,ji,jk,bE,aR,jA he,Y,c9,lT]
     exact ⟨j+1,⟨bE,λh=>by simp [h] at Y⟩,(jJ [300,400,800] (by simp only [go_sem,jb,jc,ja,ji,jk,hs]<;>trivial)),by (try dsimp only);omega⟩
    have bP:x.aAD=2:=by simpa using Y
    cases hp:e.aAH !=r.aAF.aAH
    ·have fF:e.aAH=r.aAF.aAH:=by simpa using hp
     simp only [go_sem,jb,jc,ja,ji,jk,bE,aR,jA he,Y,hp,c9,lT];exact ⟨j+1,⟨bE,λ_ e2 bW h3 h4=>by rw [aAX,he] at bW;rcases aAS.1 bW with bW|bW;exact cH bP e2 bW h3 h4;simp at bW;subst bW;exact fF⟩,(jJ [300,400,800] (by simp only [go_sem,jb,jc,ja,ji,jk,hs]<;>trivial)),by (try dsimp only);omega⟩
    ·have Z:ql y r l=false:=zY λh=>by
      have:=((h k x hx).1 bP).1 e (aAY he) cM fT;simp [this] at hp
     simp only [go_sem,jb,jc,ja,ji,jk,bE,aR,jA he,Y,hp,Z]
  as_aux_lemma=>
   have aR:¬(j:Int)<l.length:=by omega
   rw [aAW (by omega)] at cH
   rw [aAW (by omega)]
   have eM:jdU y r l k x->∀(t:Nat) (z:Tk),t<k+1->r.aAB[t]?=some z->jdU y r l t z:=λh t z ht hz=>by
    rcases Nat.lt_or_ge t k with h'|h'
    ·exact bF t z h' hz
    ·obtain rfl:t=k:=by omega
     rw [hx] at hz;cases hz;exact h
   simp only [go_sem,jb,jc,ja,ji,jk,aR,aC,aA,a9];cases Y:x.aAD==2;rotate_left
   ·have bP:x.aAD=2:=by simpa using Y
    have h3:(x.aAD==3)=false:=by simp [bP]
    cases hc:((jeC r.id k l:Nat):Int) !=1
    ·have tE:jeC r.id k l=1:=by have:((jeC r.id k l:Nat):Int)=1:=by simpa only [bne_eq_false_iff_eq] using hc
                                omega
     simp only [go_sem,jb,jc,ja,ji,jk,Y,hc,h3,hw,aC,aA,a9];exact ⟨k+1,⟨aC,eM ⟨λ_=>⟨cH bP,tE⟩,λh=>by omega⟩⟩,(jJ [300,400] (by simp only [go_sem,jb,jc,ja,ji,jk]<;>trivial)),by (try dsimp only);omega⟩
    ·have Z:ql y r l=false:=zY λh=>by
      have:=((h k x hx).1 bP).2;rw [this] at hc;cases hc
     simp only [go_sem,jb,jc,ja,ji,jk,Y,hc,Z]
   ·have bP:¬x.aAD=2:=by simpa using Y
    cases h3:x.aAD==3
    ·have eH:¬x.aAD=3:=by simpa using h3
     simp only [go_sem,jb,jc,ja,ji,jk,Y,h3,hw,aC,aA,a9];exact ⟨k+1,⟨aC,eM ⟨λh=>absurd h bP,λh=>absurd h eH⟩⟩,(jJ [300,400] (by simp only [go_sem,jb,jc,ja,ji,jk]<;>trivial)),by (try dsimp only);omega⟩
    ·have eH:x.aAD=3:=by simpa using h3
     simp only [go_sem,jb,jc,ja,ji,jk,Y,h3,lS,lQ,aC,aA,a9];refine jg (jq x.til (y.now+1) (y.now+r.aAF.aAJ)) (by simp only [go_sem,jb,jc,ja,ji,jk,lS,lQ]) λη=>?_
     simp only [go_sem,jb,jc,ja,ji,jk,lS,lQ];cases ht:decide (y.now+1<=x.til/\x.til<=y.now+r.aAF.aAJ)
     ·have Z:ql y r l=false:=zY λh=>by
       have:=(h k x hx).2 eH;simp [this] at ht
      simp only [go_sem,jb,jc,ja,ji,jk,ht,Z]
     ·have cC:y.now+1<=x.til/\x.til<=y.now+r.aAF.aAJ:=aBX ht
      simp only [go_sem,jb,jc,ja,ji,jk,ht,hw];exact ⟨k+1,⟨aC,eM ⟨λh=>absurd h bP,λ_=>cC⟩⟩,(jJ [300,400] (by simp only [go_sem,jb,jc,ja,ji,jk]<;>trivial)),by (try dsimp only);omega⟩
 have aA:¬(k:Int)<r.aAB.length:=by omega
 have Z:ql y r l=true:=jbb λt x hx=>bF t x (by have:=(aAR.1 hx).1;omega) hx
 simp only [go_sem,jb,jc,ja,ji,jk,aA,Z]
def vE:C:=iS [iA 1 (.box 36 4 (.t 0)),aO 2 false] (.seq (iS [aF 7 2 1,aL 8 7,aG 9 8,aQ 10 .neq 3 9 4] (iD 10 (iS [aO 2 false] .ret) .skip)) (.seq (iS [aN 3 0] (.blk 0 (.loop (.seq (iS [aM 11 3,aF 12 2 1,aL 13 12,aG 14 13,aP 15 .lss 3 11 14] (iD 15 .skip (.exit 0))) (.seq (.blk 1 (iS [aF 18 2 1,aL 19 18,aM 20 3,aI 21 1 19 20,aL 22 21,iA 23 (iK 103 [22]),aU 24 23] (iD 24 (iS [aO 2 false] .ret) .skip))) (.reg [aM 16 3,aQ 17 .add 3 16 1,aM 3 17])))))) (iS [aT 25 4 1,iA 26 (iK 70 [25]),aM 4 26] (.seq (iS [aN 5 0] (.blk 2 (.loop (.seq (iS [aM 27 5,aM 28 4,aG 29 28,aP 30 .lss 3 27 29] (iD 30 .skip (.exit 2))) (.seq (.blk 3 (.seq (.seq (.dreg (tA 0 33 (iM 4) (tA 1 34 (iM 5) (tA 2 35 (iI 4 33 34) (tA 3 36 (iF 1 35) (tA 4 37 (iL 36) (tA 5 38 (iF 1 1) (tA 6 39 (iL 38) (tA 7 40 (iQ .sub 3 39 1) (tC 41 (.call 41 [.t 37,oI 1,.t 40]) [] (tA 9 42 (iU 41) .done) .stop)))))))))) (iD 42 (iS [aO 2 false] .ret) .skip)) (iS [aN 6 0] (.blk 4 (.loop (.seq (iS [aM 43 6,aM 44 5,aP 45 .lss 3 43 44] (iD 45 .skip (.exit 4))) (.seq (.blk 5 (.seq (.dreg (tA 0 48 (iM 4) (tA 1 49 (iM 6) (tA 2 50 (iI 4 48 49) (tA 3 51 (iF 1 50) (tA 4 52 (iL 51) (tA 5 53 (iM 4) (tA 6 54 (iM 5) (tA 7 55 (iI 4 53 54) (tA 8 56 (iF 1 55) (tA 9 57 (iL 56) (tA 10 58 (iP .eql 3 52 57) .done)))))))))))) (iD 58 (iS [aO 2 false] .ret) .skip))) (.reg [aM 46 6,aQ 47 .add 3 46 1,aM 6 47])))))))) (.reg [aM 31 5,aQ 32 .add 3 31 1,aM 5 32])))))) (iS [aO 2 true] .ret)))))
theorem jag:fnC Tryz.prog Tryz.f67=some (vE,[.t 2],59):=by kernel_rfl
def jbO:C:=iS [iA 1 (.box 36 4 (.t 0)),aO 2 false] (.seq (iS [aF 6 0 1,aL 7 6,iA 8 (.call 41 [.t 7,oI 0,oI 999999980]),aU 9 8,aM 10 9,iB 11 10 false (iF 1 1),iB 12 10 false (iL 11),iB 13 10 false (.call 41 [.t 12,oI 1,oI 1000000000]),iB 14 10 false (iU 13),iA 15 (iY 10 (oT) (.t 14)),aM 16 15,iB 17 16 false (iF 3 1),iB 18 16 false (iL 17),iB 19 16 false (iG 18),iB 20 16 false (iQ .gtr 3 19 8),iA 21 (iY 16 (oT) (.t 20)),aM 22 21,iB 23 22 false (iT 4 1),iB 24 22 false (iK 67 [23]),iB 25 22 false (iU 24),iA 26 (iY 22 (oT) (.t 25))] (iD 26 (iS [aO 2 false] .ret) .skip)) (.seq (iS [aN 3 0] (.blk 0 (.loop (.seq (iS [aM 27 3,aF 28 3 1,aL 29 28,aG 30 29,aP 31 .lss 3 27 30] (iD 31 .skip (.exit 0))) (.seq (.blk 1 (.seq (.dreg (tA 0 34 (iF 3 1) (tA 1 35 (iL 34) (tA 2 36 (iM 3) (tA 3 37 (iI 8 35 36) (tA 4 38 (iT 8 37) (tC 39 (iK 68 [38]) [] (tA 6 40 (iU 39) (tA 7 41 (iM 40) (tB 8 42 41 false (iT 4 1) (tB 9 43 41 false (iF 3 1) (tB 10 44 41 false (iL 43) (tB 11 45 41 false (iM 3) (tB 12 46 41 false (iI 8 44 45) (tB 13 47 41 false (iF 0 46) (tB 14 48 41 false (iL 47) (tB 16 50 41 false (iM 3) (.alt (iB 49 41 false (iK 69 [42,48])) [16] (tB 17 51 41 false (iP .neq 3 49 50) (tA 18 52 (iY 41 (oT) (.t 51)) .done)) .stop))))))))))) .stop))))))) (iD 52 (iS [aO 2 false] .ret) .skip))) (.reg [aM 32 3,aQ 33 .add 3 32 1,aM 3 33])))))) (iS [aT 53 4 1,iA 54 (iK 70 [53]),aM 4 54] (.seq (iS [aN 5 0] (.blk 2 (.loop (.seq (iS [aM 55 5,aF 56 3 1,aL 57 56,aG 58 57,aP 59 .lss 3 55 58] (iD 59 .skip (.exit 2))) (.seq (.blk 3 (.seq (.dreg (tA 0 62 (iT 4 1) (tA 1 63 (iF 3 1) (tA 2 64 (iL 63) (tA 3 65 (iM 5) (tA 4 66 (iI 8 64 65) (tA 5 67 (iT 8 66) (tA 6 68 (iM 4) (tC 69 (iK 71 [62,67,68]) [] (tA 8 70 (iU 69) .done) .stop))))))))) (iD 70 (iS [aO 2 false] .ret) .skip))) (.reg [aM 60 5,aQ 61 .add 3 60 1,aM 5 61])))))) (iS [aT 71 4 1,iA 72 (iK 72 [71]),aQ 73 .leq 3 72 40,aM 2 73] .ret)))))
theorem jdf:fnC Tryz.prog Tryz.f39=some (jbO,[.t 2],74):=by kernel_rfl
def jb6:C:=iS [iA 1 (.box 36 4 (.t 0)),aO 2 false] (.seq (iS [aF 11 0 1,aL 12 11,iA 13 (.call 51 [.t 12,oI 0,oI 999999980]),aU 14 13,aM 15 14,iB 16 15 false (iF 1 1),iB 17 15 false (iL 16),iB 18 15 false (.call 51 [.t 17,oI 1,oI 1000000000]),iB 19 15 false (iU 18),iA 20 (iY 15 (oT) (.t 19)),aM 21 20,iB 22 21 false (iF 2 1),iB 23 21 false (iL 22),iB 24 21 false (iG 23),iB 25 21 false (iQ .neq 3 24 4),iA 26 (iY 21 (oT) (.t 25)),aM 27 26,iB 28 27 false (iF 3 1),iB 29 27 false (iL 28),iB 30 27 false (iG 29),iB 31 27 false (iQ .gtr 3 30 8),iA 32 (iY 27 (oT) (.t 31))] (iD 32 (iS [aO 2 false] .ret) .skip)) (.seq (iS [aF 33 2 1,aL 34 33,aG 35 34,aN 36 0] (.blk 0 (.loop (iS [aP 37 .lss 3 36 35] (.seq (iD 37 .skip (.exit 0)) (.seq (.blk 1 (iS [aI 38 1 34 36,aL 39 38,aM 4 39] (iS [aM 40 4,iA 41 (iK 80 [40]),aU 42 41] (iD 42 (iS [aO 2 false] .ret) .skip)))) (.reg [aQ 43 .add 3 36 1,aM 36 43]))))))) (iS [aT 44 4 1,iA 45 (iK 81 [44]),aM 5 45] (iS [iA 6 (.mov (.c (.slice none 0 0)))] (.seq (iS [aM 46 5,aG 47 46,aN 48 0] (.blk 2 (.loop (iS [aP 49 .lss 3 48 47] (.seq (iD 49 .skip (.exit 2)) (.seq (.blk 3 (iS [aI 50 4 46 48,aT 51 4 50,iA 8 wAU,wAD 8 51] (.seq (iS [aF 52 1 8,aL 53 52,aF 54 1 1,aL 55 54,aQ 56 .sub 3 55 1,iA 57 (.call 51 [.t 53,oI 1,.t 56]),aU 58 57,aM 59 58,iB 60 59 false (iM 6),iB 61 59 false (iF 1 8),iB 62 59 false (iL 61),iB 63 59 false (iK 82 [60,62]),iA 64 (iY 59 (oT) (.t 63))] (iD 64 (iS [aO 2 false] .ret) .skip)) (.reg [aM 65 6,aF 66 1 8,aL 67 66,iA 68 (wAW [(0,1,.t 67)]),iA 69 (.app 3 1 8 (.t 65) (.t 68)),aM 6 69])))) (.reg [aQ 70 .add 3 48 1,aM 48 70]))))))) (.seq (iS [aF 71 3 1,aL 72 71,aG 73 72,aN 74 0] (.blk 4 (.loop (iS [aP 75 .lss 3 74 73] (.seq (iD 75 .skip (.exit 4)) (.seq (.blk 5 (iS [aM 76 74,aI 77 8 72 74,aT 78 8 77,iA 10 wAP,aM 9 76,wAJ 10 78] (iS [aT 79 8 10,iA 80 (iK 83 [79]),aU 81 80,aM 82 81,iB 83 82 false (iT 4 1),iB 84 82 false (iF 0 10),iB 85 82 false (iL 84),iB 86 82 false (iK 84 [83,85]),iB 87 82 false (iM 9),iB 88 82 false (iP .neq 3 86 87),iA 89 (iY 82 (oT) (.t 88)),aM 90 89,iB 91 90 false (iT 4 1),iB 92 90 false (iT 8 10),iB 93 90 false (iM 5),iB 94 90 false (iK 85 [91,92,93]),iB 95 90 false (iU 94),iA 96 (iY 90 (oT) (.t 95))] (iD 96 (iS [aO 2 false] .ret) .skip)))) (.reg [aQ 97 .add 3 74 1,aM 74 97]))))))) (iS [aT 98 4 1,iA 99 (iK 86 [98]),aQ 100 .leq 3 99 40,aM 2 100] .ret)))))))
theorem jdx:fnC Tryz.prog Tryz.f49=some (jb6,[.t 2],101):=by kernel_rfl
theorem jgy (y:Yd) (id:Int):jR Tryz.prog 69 [.agg (jb y),.c (.val (.int .i64 id))] (.c (.val (.int .i64 (qj y id)))):=jlr ⟨_,Tryz.func69,by kernel_rfl,by kernel_rfl⟩ λw a b ⟨S,ha⟩ Z=>by rw [jdF Z];exact jdI y id a S w false ha
theorem jgC (y:Yd) (id:Int):jR Tryz.prog 84 [.agg (jb y),.c (.val (.int .i64 id))] (.c (.val (.int .i64 (qj y id)))):=jlr ⟨_,Tryz.func84,by kernel_rfl,by kernel_rfl⟩ λw a b ⟨S,ha⟩ Z=>by rw [jdF Z];exact jdL y id a S w false ha
theorem jeV (y:Yd) (ht:jG y<=2000000):jR Tryz.prog 72 [.agg (jb y)] (.c (.val (.int .i64 (qW y)))):=jrO ⟨_,Tryz.func72,by kernel_rfl,by kernel_rfl⟩ λw a ⟨S,ha⟩=>jjf y a S w false ha ht
theorem jeY (y:Yd) (ht:jG y<=2000000):jR Tryz.prog 86 [.agg (jb y)] (.c (.val (.int .i64 (qW y)))):=jrO ⟨_,Tryz.func86,by kernel_rfl,by kernel_rfl⟩ λw a ⟨S,ha⟩=>jjX y a S w false ha ht
structure jdQ (y:Yd):Prop where
 four:y.aAE.length=4
 shelves:∀l∈y.aAE,jc4 l
 seqs:SeqP y.seq y.aAE.flatten
open Classical in
noncomputable def kG (y:Yd):Bool:=decide (jdQ y)
theorem jdZ {y:Yd} (h:jdQ y):kG y=true:=by simp [kG,h]
theorem zX {y:Yd} (h:¬jdQ y):kG y=false:=by simp [kG,h]
theorem shelves_iff {y:Yd}:kG y=true↔jdQ y:=by simp [kG]
theorem jgp {y:Yd} (ht:jG y<=2000000) {l:List En} (h:l∈y.aAE):l.length<=4000000:=by
 obtain ⟨k,hk,rfl⟩:=aBS h;have V:=jer (aAT hk);have Y:=zu y.aAE (k+1);have h3:=qP ht;rw [V,aBE] at Y;omega
theorem jcl (y:Yd) (ht:jG y<=2000000) (hq:1<=y.seq/\y.seq<=1000000000):jR Tryz.prog 67 [.agg (jb y)] (.c (.val (.bool (kG y)))):=by
 refine pf_ jag ?_;unfold vE;have uA:=qP ht;have nN:IntKind.i64.wrap (y.seq-1)=y.seq-1:=jdD;simp only [go_sem,jb];intro b;cases h4:(y.aAE.length:Int) !=4;rotate_left
 ·have Z:kG y=false:=zX λh=>by have:=h.four;rw [this] at h4;cases h4
  simp only [go_sem,jb,h4,Z]
 have pM:y.aAE.length=4:=by have:(y.aAE.length:Int)=4:=by simpa only [bne_eq_false_iff_eq] using h4
                            omega
 simp only [go_sem,jb,h4];refine vn (λi:Nat=>St.of [(1,Bx 100 b),(3,Ni i)] [(100,Bi b _ (jb y))]) (λi=>i<=y.aAE.length/\∀l∈y.aAE.take i,jc4 l) (λi=>y.aAE.length-i) 0 (jJ [100] (by simp only [go_sem,jb]<;>trivial)) ?_
 rintro k ⟨hk,bF⟩;by_cases aC:k<y.aAE.length
 ·have aA:(k:Int)<y.aAE.length:=by omega
  obtain ⟨l,hl⟩:=jd aC;have nE:=aAY hl;have hw:=qg k;simp only [go_sem,jb,aC,aA,qo hl];refine kt (jeW l (jgp ht nE)) λη=>?_
  simp only [go_sem,jb];cases hs:qF l
  ·have Z:kG y=false:=zX λh=>by have:=ja8 (h.shelves l nE);rw [hs] at this;cases this
   simp only [go_sem,jb,hs,Z]
  ·simp only [go_sem,jb,hs,hw]
   exact ⟨k+1,⟨aC,λl2 Y=>by rw [aAX,hl] at Y;rcases aAS.1 Y with Y|Y;exact bF l2 Y;simp at Y;subst Y;exact shelf_iff.1 hs⟩,(jJ [100] (by simp only [go_sem,jb]<;>trivial)),by (try dsimp only);omega⟩
 have aA:¬(k:Int)<y.aAE.length:=by omega
 rw [aAW (by omega)] at bF
 simp only [go_sem,jb,aA];refine kt (vv y ht) λfC=>?_
 simp only [go_sem,jb];generalize hF:y.aAE.flatten=F at*;refine vn (λi:Nat=>St.of [(1,Bx 100 b),(4,Hd 4 (fC 0)),(5,Ni i)] [(100,Bi b _ (jb y)),(4,.loose (jo F) (fC 0))]) (λi=>i<=F.length/\(∀e∈F.take i,1<=e.seq/\e.seq<=y.seq-1)/\((F.take i).map (·.seq)).Nodup) (λi=>F.length-i) 0 (jJ [100,2600] (by simp only [go_sem,jb]<;>trivial)) ?_
 rintro j ⟨hj,cH,lH⟩;by_cases bE:j<F.length
 ·have aR:(j:Int)<F.length:=by omega
  have fM:=jaQ j;obtain ⟨e,he⟩:=jd bE;have hw:=qg j;simp only [go_sem,jb,bE,aR,fM,jhq he,jg0 he,nN];refine kt (jt e.seq 1 (y.seq-1)) λη=>?_
  simp only [go_sem,jb];cases hr:decide (1<=e.seq/\e.seq<=y.seq-1)
  ·have Z:kG y=false:=zX λh=>by
    have:=h.seqs.range e (by rw [hF];exact aAY he)
    simp [this] at hr
   simp only [go_sem,jb,hr,Z]
  have cM:1<=e.seq/\e.seq<=y.seq-1:=aBX hr;simp only [go_sem,jb,hr];refine vn (λi:Nat=>St.of [(1,Bx 100 b),(4,Hd 4 (fC 0)),(5,Ni j),(6,Ni i)] [(100,Bi b _ (jb y)),(4,.loose (jo F) (fC 0))]) (λi=>i<=j/\∀e2∈F.take i,e2.seq≠e.seq) (λi=>j-i) 0 (jJ [100,4] (by simp only [go_sem,jb]<;>trivial)) ?_
  rintro m ⟨hm,lD⟩;by_cases fP:m<j
  ·have dG:(m:Int)<j:=by omega
   have u7:=jaQ m;have mE:m<F.length:=by omega
   obtain ⟨e2,bW⟩:=jd mE;have rK:=qg m;cases eS:e2.seq==e.seq
   ·have l3:¬e2.seq=e.seq:=by simpa using eS
    simp only [go_sem,jb,dG,mE,u7,bE,fM,jhq he,jg0 he,jhq bW,jg0 bW,eS,rK];exact ⟨m+1,⟨fP,λe3 h3=>by rw [aAX,bW] at h3;rcases aAS.1 h3 with h3|h3;exact lD e3 h3;simp at h3;subst h3;exact l3⟩,(jJ [100,4] (by simp only [go_sem,jb]<;>trivial)),by (try dsimp only);omega⟩
   ·have l3:e2.seq=e.seq:=by simpa using eS
    have Z:kG y=false:=zX λh=>jk3 he fP bW l3 (by rw [<-hF];exact h.seqs.apart)
    simp only [go_sem,jb,dG,mE,u7,bE,fM,jhq he,jg0 he,jhq bW,jg0 bW,eS,Z]
  ·have dG:¬(m:Int)<j:=by omega
   obtain rfl:m=j:=by omega
   simp only [go_sem,jb,dG,hw];exact ⟨m+1,⟨bE,λe2 Y=>by rw [aAX,he] at Y;rcases aAS.1 Y with Y|Y;exact cH e2 Y;simp at Y;subst Y;exact cM,jk2 he lH lD⟩,(jJ [100,4] (by simp only [go_sem,jb]<;>trivial)),by (try dsimp only);omega⟩
 have aR:¬(j:Int)<F.length:=by omega
 rw [aAW (by omega)] at cH lH
 have Z:kG y=true:=jdZ ⟨pM,bF,by rw [hF];exact ⟨cH,lH⟩⟩
 simp only [go_sem,aR,Z]
theorem jfD (y:Yd) (ht:jG y<=2000000):jR Tryz.prog 39 [.agg (jb y)] (.c (.val (.bool (jM y)))):=by
 refine pf_ jdf ?_;unfold jbO;have uA:=qP ht;have cU:=jfw ht;simp only [go_sem,jb];intro b;refine kt (jt y.now 0 999999980) λη=>?_
 simp only [go_sem,jb];cases V:decide (0<=y.now/\y.now<=999999980)
 ·have Z:jM y=false:=ko λh=>by have:=h.now;simp [this] at V
  simp only [go_sem,jb,V,Z]
 have f0:=aBX V;simp only [go_sem,jb,V];refine kt (jt y.seq 1 1000000000) λη=>?_
 simp only [go_sem,jb];cases Y:decide (1<=y.seq/\y.seq<=1000000000)
 ·have Z:jM y=false:=ko λh=>by have:=h.seq;simp [this] at Y
  simp only [go_sem,jb,Y,Z]
 have hH:=aBX Y;by_cases h8:8<y.aAG.length
 ·have mX:(y.aAG.length:Int)>8:=by omega
  have Z:jM y=false:=ko λh=>by have:=h.eight;omega
  simp only [go_sem,jb,Y,mX,Z]
 have mX:¬(y.aAG.length:Int)>8:=by omega
 simp only [go_sem,jb,Y,mX];refine kt (jcl y ht hH) λη=>?_
 simp only [go_sem,jb];cases q9:kG y
 ·have Z:jM y=false:=ko λh=>by have:=jdZ ⟨h.four,h.shelves,h.seqs⟩;rw [q9] at this;cases this
  simp only [go_sem,jb,q9,Z]
 have lZ:=shelves_iff.1 q9;simp only [go_sem,jb,q9];refine vn (λi:Nat=>St.of [(1,Bx 100 b),(3,Ni i)] [(100,Bi b _ (jb y))]) (λi=>i<=y.aAG.length/\∀(k:Nat) (r:Rn),k<i->y.aAG[k]?=some r->jc5 r/\qj y r.id=k) (λi=>y.aAG.length-i) 0 (jJ [100] (by simp only [go_sem,jb]<;>trivial)) ?_
 rintro k ⟨hk,bF⟩;by_cases aC:k<y.aAG.length
 ·have aA:(k:Int)<y.aAG.length:=by omega
  obtain ⟨r,hr⟩:=jd aC;have hw:=qg k;simp only [go_sem,jb,aC,aA,qp hr,jc,ja];refine kt (jgx r) λη=>?_
  simp only [go_sem,jb,jc,ja];cases hs:kb r
  ·have Z:jM y=false:=ko λh=>by have:=runOk_iff.2 (h.right r (aAY hr));rw [hs] at this;cases this
   simp only [go_sem,jb,hs,Z]
  simp only [go_sem,jb,hs,aC,aA,qp hr,jc,ja];refine kt (jgy y r.id) λη=>?_
  simp only [go_sem,jb];cases e8:qj y r.id !=(k:Int)
  ·have mQ:qj y r.id=k:=by simpa using e8
   simp only [go_sem,jb,e8,hw];exact ⟨k+1,⟨aC,λk2 r2 Y bV=>by rcases Nat.lt_or_ge k2 k with h'|h';exact bF k2 r2 h' bV;obtain rfl:k2=k:=(by omega);rw [hr] at bV;cases bV;exact ⟨runOk_iff.1 hs,mQ⟩⟩,(jJ [100] (by simp only [go_sem,jb]<;>trivial)),by (try dsimp only);omega⟩
  ·have Z:jM y=false:=ko λh=>by have:=h.place k r hr;simp [this] at e8
   simp only [go_sem,jb,e8,Z]
 have aA:¬(k:Int)<y.aAG.length:=by omega
 have bU:∀(k:Nat) (r:Rn),y.aAG[k]?=some r->jc5 r/\qj y r.id=k:=λk r h=>bF k r (by have:=(aAR.1 h).1;omega) h
 simp only [go_sem,jb,aA];refine kt (vv y ht) λfC=>?_
 simp only [go_sem,jb];generalize hF:y.aAE.flatten=F at*;refine vn (λi:Nat=>St.of [(1,Bx 100 b),(4,Hd 4 (fC 0)),(5,Ni i)] [(100,Bi b _ (jb y)),(4,.loose (jo F) (fC 0))]) (λi=>i<=y.aAG.length/\∀(k:Nat) (r:Rn),k<i->y.aAG[k]?=some r->jht y r F) (λi=>y.aAG.length-i) 0 (jJ [100,5400] (by simp only [go_sem,jb]<;>trivial)) ?_
 rintro j ⟨hj,cH⟩;by_cases bE:j<y.aAG.length
 ·have aR:(j:Int)<y.aAG.length:=by omega
  obtain ⟨r,hr⟩:=jd bE;have hw:=qg j;have nB:=(bU j r hr).1;obtain ⟨n,hn,dB,dN,fA,cI,aY,-,-,lR⟩:=jpG nB.aAF;have aJ:=nB.len;simp only [go_sem,jb,bE,aR,qp hr,jc,ja];refine kt (jfC y r F (by omega) (by omega) f0 lR) λη=>?_
  simp only [go_sem,jb,jc,ja];cases hs:ql y r F
  ·have Z:jM y=false:=ko λh=>by have:=jbb (h.aAG r (aAY hr));rw [hF,hs] at this;cases this
   simp only [go_sem,jb,hs,Z]
  ·simp only [go_sem,jb,hs,hw]
   exact ⟨j+1,⟨bE,λk2 r2 Y bV=>by rcases Nat.lt_or_ge k2 j with h'|h';exact cH k2 r2 h' bV;obtain rfl:k2=j:=(by omega);rw [hr] at bV;cases bV;exact runIn_iff.1 hs⟩,(jJ [100,4] (by simp only [go_sem,jb]<;>trivial)),by (try dsimp only);omega⟩
 have aR:¬(j:Int)<y.aAG.length:=by omega
 simp only [go_sem,jb,aR];refine kt (jeV y ht) λη=>?_
 simp only [go_sem,jb]
 have Z:jM y=decide (qW y<=40):=by
  by_cases iZ:qW y<=40
  ·rw [jim ⟨f0,hH,lZ.four,by omega,lZ.shelves,lZ.seqs,λr hr=>by obtain ⟨k,hk,rfl⟩:=aBS hr;exact (bU k _ (aAT hk)).1,λk r hr=>(bU k r hr).2,λr hr=>by obtain ⟨k,hk,rfl⟩:=aBS hr;rw [hF];exact cH k _ (by omega) (aAT hk),iZ⟩]
   simp [iZ]
  ·rw [ko λh=>iZ h.slots];simp [iZ]
 simp only [go_sem,Z]
theorem jfK (y:Yd) (ht:jG y<=2000000):jR Tryz.prog 49 [.agg (jb y)] (.c (.val (.bool (jM y)))):=by
 refine pf_ jdx ?_;unfold jb6;have uA:=qP ht;have cU:=jfw ht;simp only [go_sem,jb];intro b;refine kt (jq y.now 0 999999980) λη=>?_
 simp only [go_sem,jb];cases V:decide (0<=y.now/\y.now<=999999980)
 ·have Z:jM y=false:=ko λh=>by have:=h.now;simp [this] at V
  simp only [go_sem,jb,V,Z]
 have f0:=aBX V;simp only [go_sem,jb,V];refine kt (jq y.seq 1 1000000000) λη=>?_
 simp only [go_sem,jb];cases Y:decide (1<=y.seq/\y.seq<=1000000000)
 ·have Z:jM y=false:=ko λh=>by have:=h.seq;simp [this] at Y
  simp only [go_sem,jb,Y,Z]
 have hH:=aBX Y;have nN:IntKind.i64.wrap (y.seq-1)=y.seq-1:=jdD;cases h4:(y.aAE.length:Int) !=4;rotate_left
 ·have Z:jM y=false:=ko λh=>by have:=h.four;rw [this] at h4;cases h4
  simp only [go_sem,jb,Y,h4,Z]
 have pM:y.aAE.length=4:=by have:(y.aAE.length:Int)=4:=by simpa only [bne_eq_false_iff_eq] using h4
                            omega
 by_cases h8:8<y.aAG.length
 ·have mX:(y.aAG.length:Int)>8:=by omega
  have Z:jM y=false:=ko λh=>by have:=h.eight;omega
  simp only [go_sem,jb,Y,h4,mX,Z]
 have mX:¬(y.aAG.length:Int)>8:=by omega
 simp only [go_sem,jb,Y,h4,mX];refine vn (λi:Nat=>St.of [(1,Bx 100 b),(34,Ro (jX y.aAE)),(35,Ni y.aAE.length),(36,Ni i)] [(100,Bi b _ (jb y))]) (λi=>i<=y.aAE.length/\∀l∈y.aAE.take i,jc4 l) (λi=>y.aAE.length-i) 0 (jJ [100] (by simp only [go_sem,jb]<;>trivial)) ?_
 rintro k ⟨hk,bF⟩;by_cases aC:k<y.aAE.length
 ·have aA:(k:Int)<y.aAE.length:=by omega
  obtain ⟨l,hl⟩:=jd aC;have nE:=aAY hl;have hw:=qg k;simp only [go_sem,jb,aC,aA,qo hl];refine kt (jeZ l (jgp ht nE)) λη=>?_
  simp only [go_sem,jb];cases hs:qF l
  ·have Z:jM y=false:=ko λh=>by have:=ja8 (h.shelves l nE);rw [hs] at this;cases this
   simp only [go_sem,jb,hs,Z]
  ·simp only [go_sem,jb,hs,hw]
   exact ⟨k+1,⟨aC,λl2 Y=>by rw [aAX,hl] at Y;rcases aAS.1 Y with Y|Y;exact bF l2 Y;simp at Y;subst Y;exact shelf_iff.1 hs⟩,(jJ [100] (by simp only [go_sem,jb]<;>trivial)),by (try dsimp only);omega⟩
 have aA:¬(k:Int)<y.aAE.length:=by omega
 rw [aAW (by omega)] at bF
 simp only [go_sem,jb,aA];refine kt (jcm y ht) λfC=>?_
 simp only [go_sem,jb];generalize hF:y.aAE.flatten=F at*;refine vn (λi:Nat×jl=>St.of [(1,Bx 100 b),(5,Hd 5 (fC 0)),(6,Hd 6 i.2),(46,Hd 5 (fC 0)),(47,Ni F.length),(48,Ni i.1)] [(100,Bi b _ (jb y)),(5,.loose (jo F) (fC 0)),(6,.loose (jp ((F.take i.1).map (·.seq))) i.2)]) (λi=>i.1<=F.length/\(∀e∈F.take i.1,1<=e.seq/\e.seq<=y.seq-1)/\((F.take i.1).map (·.seq)).Nodup) (λi=>F.length-i.1) (0,jjI) (qJ [some 100,some 4500,none] (by simp only [go_sem,jb]<;>trivial)) ?_
 rintro ⟨j,rH⟩ ⟨hj,cH,lH⟩;dsimp only at hj cH lH;by_cases bE:j<F.length
 ·have aR:(j:Int)<F.length:=by omega
  have fM:=jaQ j;obtain ⟨e,he⟩:=jd bE;have hw:=qg j;have fP:((F.take j).map (·.seq)).length<=2000000:=by rw [List.length_map,aBA];omega
  have xI:(F.take (j+1)).map (·.seq)=(F.take j).map (·.seq)++[e.seq]:=by rw [aAX,he];simp
  generalize hM:(F.take j).map (·.seq)=M at*
  have cZ:M.length+1<=maxLen:=jco;have dC:(M.length+1)*8<=140737488355328:=by omega
  simp only [go_sem,jb,bE,aR,fM,at_en he,in_en he,jk];intro b8;simp only [go_sem,jb,jk,nN];refine jg (jq e.seq 1 (y.seq-1)) (by simp only [go_sem,jb,jk,nN]) λη=>?_
  simp only [go_sem,jb,jk,nN];cases hr:decide (1<=e.seq/\e.seq<=y.seq-1)
  ·have Z:jM y=false:=ko λh=>by
    have:=h.seqs.range e (by rw [hF];exact aAY he)
    simp [this] at hr
   simp only [go_sem,jb,hr,Z]
  have cM:1<=e.seq/\e.seq<=y.seq-1:=aBX hr;simp only [go_sem,jb,jk,hr];refine kt (jhO M e.seq (by omega)) λη=>?_
  simp only [go_sem,jb,jk];by_cases dM:e.seq∈M
  ·have Z:jM y=false:=ko λh=>by
    rw [<-hM] at dM;obtain ⟨e2,h3,h4⟩:=aCY.1 dM;obtain ⟨m,hm,rfl⟩:=aBS h3;have sH:m<j:=by rw [aBA] at hm;omega
    rw [List.getElem_take] at h4;exact jk3 he sH (aAT (by omega)) h4 (by rw [<-hF];exact h.seqs.apart)
   simp only [go_sem,jb,jk,dM,Z]
  ·simp only [go_sem,jb,jk,dM,cZ,dC,vz,hw]
   intro lP fQ;exact ⟨(j+1,fQ),⟨bE,λe2 Y=>by rw [aAX,he] at Y;rcases aAS.1 Y with Y|Y;exact cH e2 Y;simp at Y;subst Y;exact cM,jk2 he (by rw [hM];exact lH) (λe2 Y h3=>dM (by rw [<-hM];exact aCY.2 ⟨e2,Y,h3⟩))⟩,(jJ [100,5,6900] (by simp only [go_sem,jb,xI]<;>trivial)),by (try dsimp only);omega⟩
 have aR:¬(j:Int)<F.length:=by omega
 rw [aAW (by omega)] at cH lH
 simp only [go_sem,jb,aR];refine vn (λi:Nat=>St.of [(1,Bx 100 b),(5,Hd 5 (fC 0)),(72,Ro (jC y.aAG)),(73,Ni y.aAG.length),(74,Ni i)] [(100,Bi b _ (jb y)),(5,.loose (jo F) (fC 0))]) (λi=>i<=y.aAG.length/\∀(k:Nat) (r:Rn),k<i->y.aAG[k]?=some r->jc5 r/\qj y r.id=k/\jht y r F) (λi=>y.aAG.length-i) 0 (jJ [100,5] (by simp only [go_sem,jb]<;>trivial)) ?_
 rintro m ⟨hm,lD⟩;by_cases fP:m<y.aAG.length
 ·have dG:(m:Int)<y.aAG.length:=by omega
  obtain ⟨r,hr⟩:=jd fP;have hw:=qg m
  have w6:r.aAF.aAC.length<=4000000:=by
   have h5:=kj (tot:=qh) hr;have h6:=kS qh y.aAG (m+1);have h7:jP qh y.aAG<=2000000:=by simp only [jG,qE] at ht;omega
   have h8:r.aAF.aAC.length<=qh r:=by simp only [qh,jcf];omega
   omega
  simp only [go_sem,jb,fP,dG,qp hr,jc,ja];intro b10;refine kt (jgB r w6) λη=>?_
  simp only [go_sem,jb,jc,ja];cases hs:kb r
  ·have Z:jM y=false:=ko λh=>by have:=runOk_iff.2 (h.right r (aAY hr));rw [hs] at this;cases this
   simp only [go_sem,jb,hs,Z]
  have nB:=runOk_iff.1 hs;obtain ⟨n,hn,dB,dN,fA,cI,aY,-,-,lR⟩:=jpG nB.aAF;have aJ:=nB.len;simp only [go_sem,jb,hs,jc,ja];refine kt (jgC y r.id) λη=>?_
  simp only [go_sem,jb,jc,ja];cases e8:qj y r.id !=(m:Int);rotate_left
  ·have Z:jM y=false:=ko λh=>by have:=h.place m r hr;simp [this] at e8
   simp only [go_sem,jb,e8,Z]
  have mQ:qj y r.id=m:=by simpa using e8
  simp only [go_sem,jb,e8,jc,ja];refine kt (jfG y r F (by omega) (by omega) f0 lR) λη=>?_
  simp only [go_sem,jb,jc,ja];cases rC:ql y r F
  ·have Z:jM y=false:=ko λh=>by have:=jbb (h.aAG r (aAY hr));rw [hF,rC] at this;cases this
   simp only [go_sem,jb,rC,Z]
  ·simp only [go_sem,jb,rC,hw]
   exact ⟨m+1,⟨fP,λk2 r2 Y bV=>by rcases Nat.lt_or_ge k2 m with h'|h';exact lD k2 r2 h' bV;obtain rfl:k2=m:=(by omega);rw [hr] at bV;cases bV;exact ⟨nB,mQ,runIn_iff.1 rC⟩⟩,(jJ [100,5] (by simp only [go_sem,jb]<;>trivial)),by (try dsimp only);omega⟩
 have dG:¬(m:Int)<y.aAG.length:=by omega
 have bU:∀(k:Nat) (r:Rn),y.aAG[k]?=some r->jc5 r/\qj y r.id=k/\jht y r F:=λk r h=>lD k r (by have:=(aAR.1 h).1;omega) h
 simp only [go_sem,jb,dG];refine kt (jeY y ht) λη=>?_
 simp only [go_sem,jb]
 have Z:jM y=decide (qW y<=40):=by
  by_cases iZ:qW y<=40
  ·rw [jim ⟨f0,hH,pM,by omega,bF,by rw [hF];exact ⟨cH,lH⟩,λr hr=>by obtain ⟨k,hk,rfl⟩:=aBS hr;exact (bU k _ (aAT hk)).1,λk r hr=>(bU k r hr).2.1,λr hr=>by obtain ⟨k,hk,rfl⟩:=aBS hr;rw [hF];exact (bU k _ (aAT hk)).2.2,iZ⟩]
   simp [iZ]
  ·rw [ko λh=>iZ h.slots];simp [iZ]
 simp only [go_sem,Z]
