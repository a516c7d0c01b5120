/- Parts. -/
import Derived.Test.YtcehjhiglmifjaaGreatQNew
set_option linter.all false
set_option maxHeartbeats 16000000
set_option maxRecDepth 100000
namespace Go.Proofs.YtcehjhiglmifjaaGreat
open Go.RowKit Go.Sort
def jjj:C:=iS [iA 2 (.box 44 4 (.t 0)),iA 3 (.box 44 4 (.t 1)),aO 4 false] (iS [aF 5 0 2,aL 6 5,aF 7 0 3,aL 8 7,aP 9 .gtr 3 6 8,aM 10 9,iB 11 10 false (iF 0 2),iB 12 10 false (iL 11),iB 13 10 false (iF 0 3),iB 14 10 false (iL 13),iB 15 10 false (iP .eql 3 12 14),iB 16 10 false (iM 15),iB 17 16 true (iF 1 2),iB 18 16 true (iL 17),iB 19 16 true (iF 1 3),iB 20 16 true (iL 19),iB 21 16 true (iP .lss 3 18 20),iB 22 10 false (iY 16 (.t 21) (oF)),iA 23 (iY 10 (oT) (.t 22)),aM 4 23] .ret)
theorem jlC:fnC Tryz.prog Tryz.f180=some (jjj,[.t 4],24):=by kernel_rfl
def jjr:C:=iS [iA 2 (.box 44 4 (.t 0)),iA 3 (.box 44 4 (.t 1)),aO 4 false] (iS [aF 5 0 2,aL 6 5,aF 7 0 3,aL 8 7,aP 9 .gtr 3 6 8,aM 10 9,iB 11 10 false (iF 0 2),iB 12 10 false (iL 11),iB 13 10 false (iF 0 3),iB 14 10 false (iL 13),iB 15 10 false (iP .eql 3 12 14),iB 16 10 false (iM 15),iB 17 16 true (iF 1 2),iB 18 16 true (iL 17),iB 19 16 true (iF 1 3),iB 20 16 true (iL 19),iB 21 16 true (iP .lss 3 18 20),iB 22 10 false (iY 16 (.t 21) (oF)),iA 23 (iY 10 (oT) (.t 22)),aM 4 23] .ret)
theorem jlL:fnC Tryz.prog Tryz.f138=some (jjr,[.t 4],24):=by kernel_rfl
def jfi:C:=iS [aO 2 false] (.seq (iS [aM 4 0,aG 5 4,aQ 6 .gtr 3 5 80] (iD 6 (iS [aO 2 false] .ret) .skip)) (.seq (iS [aN 3 1] (.blk 0 (.loop (.seq (iS [aM 7 3,aM 8 0,aG 9 8,aP 10 .lss 3 7 9] (iD 10 .skip (.exit 0))) (.seq (.blk 1 (.seq (.dreg (tA 0 13 (iM 0) (tA 1 14 (iM 3) (tA 2 15 (iQ .sub 3 14 1) (tA 3 16 (iI 4 13 15) (tA 4 17 (iT 4 16) (tA 5 18 (iM 0) (tA 6 19 (iM 3) (tA 7 20 (iI 4 18 19) (tA 8 21 (iT 4 20) (tC 22 (iK 180 [17,21]) [] (tA 10 23 (iU 22) .done) .stop))))))))))) (iD 23 (iS [aO 2 false] .ret) .skip))) (.reg [aM 11 3,aQ 12 .add 3 11 1,aM 3 12])))))) (iS [aO 2 true] .ret)))
theorem jiE:fnC Tryz.prog Tryz.f177=some (jfi,[.t 2],24):=by kernel_rfl
def jfu:C:=iS [aO 2 false] (.seq (iS [aN 3 1] (.blk 0 (.loop (.seq (iS [aM 4 3,aM 5 0,aG 6 5,aP 7 .lss 3 4 6] (iD 7 .skip (.exit 0))) (.seq (.blk 1 (.seq (.dreg (tA 0 10 (iM 0) (tA 1 11 (iM 3) (tA 2 12 (iQ .sub 3 11 1) (tA 3 13 (iI 4 10 12) (tA 4 14 (iT 4 13) (tA 5 15 (iM 0) (tA 6 16 (iM 3) (tA 7 17 (iI 4 15 16) (tA 8 18 (iT 4 17) (tC 19 (iK 138 [14,18]) [] (tA 10 20 (iU 19) .done) .stop))))))))))) (iD 20 (iS [aO 2 false] .ret) .skip))) (.reg [aM 8 3,aQ 9 .add 3 8 1,aM 3 9])))))) (iS [aM 21 0,aG 22 21,aQ 23 .leq 3 22 80,aM 2 23] .ret))
theorem jiQ:fnC Tryz.prog Tryz.f78=some (jfu,[.t 2],24):=by kernel_rfl
def zx:C:=iS [aN 4 0] (.seq (iS [aM 6 0,aG 7 6,aN 8 0] (.blk 0 (.loop (iS [aP 9 .lss 3 8 7] (.seq (iD 9 .skip (.exit 0)) (.seq (.blk 1 (iS [aM 10 8,aM 5 10] (iS [aM 11 1,aM 12 0,aM 13 5,aI 14 1 12 13,aL 15 14,aP 16 .eql 3 11 15] (iD 16 (iS [aM 17 5,aM 4 17] .ret) .skip)))) (.reg [aQ 18 .add 3 8 1,aM 8 18]))))))) (iS [aN 4 (-1)] .ret))
theorem jba:fnC Tryz.prog Tryz.f139=some (zx,[.t 4],19):=by kernel_rfl
def vC:C:=iS [aO 4 false] (iS [aM 5 0,aM 6 1,iA 7 (iK 139 [5,6]),aQ 8 .geq 3 7 0,aM 4 8] .ret)
theorem jan:fnC Tryz.prog Tryz.f80=some (vC,[.t 4],9):=by kernel_rfl
theorem ji6 (x y:En):jW Tryz.prog 180 [.agg (jk x),.agg (jk y)] (.c (.val (.bool (kn x y)))):=by
 refine pf_ jlC ?_;unfold jjj;simp only [go_sem,jk];intro b b2;by_cases h1:x.aNI>y.aNI
 ·have hb:kn x y=true:=by simp [kn,h1]
  simp only [go_sem,h1,hb]
 ·cases h2:x.aNI==y.aNI
  ·have hb:kn x y=false:=by
    have:¬x.aNI=y.aNI:=by simpa using h2
    simp only [kn,aOV];omega
   simp only [go_sem,h1,h2,hb]
  ·have hb:kn x y=decide (x.seq<y.seq):=by
    have:x.aNI=y.aNI:=by simpa using h2
    simp only [kn,this,Int.lt_irrefl,gt_iff_lt,false_or,true_and]
   simp only [go_sem,h1,h2,hb]
theorem jja (x y:En):jW Tryz.prog 138 [.agg (jk x),.agg (jk y)] (.c (.val (.bool (kn x y)))):=by
 refine pf_ jlL ?_;unfold jjr;simp only [go_sem,jk];intro b b2;by_cases h1:x.aNI>y.aNI
 ·have hb:kn x y=true:=by simp [kn,h1]
  simp only [go_sem,h1,hb]
 ·cases h2:x.aNI==y.aNI
  ·have hb:kn x y=false:=by
    have:¬x.aNI=y.aNI:=by simpa using h2
    simp only [kn,aOV];omega
   simp only [go_sem,h1,h2,hb]
  ·have hb:kn x y=decide (x.seq<y.seq):=by
    have:x.aNI=y.aNI:=by simpa using h2
    simp only [kn,this,Int.lt_irrefl,gt_iff_lt,false_or,true_and]
   simp only [go_sem,h1,h2,hb]
theorem jmb (l:List En) (hl:l.length<=4000000):jW Tryz.prog 177 [.c (jg l)] (.c (.val (.bool (jap l)))):=by
 refine pf_ jiE ?_;unfold jfi;simp only [go_sem];by_cases h80:80<l.length
 ·have mG:(l.length:Int)>80:=by omega
  have hb:jap l=false:=jkj λh=>by have:=h.aNN;omega
  simp only [go_sem,mG,hb]
 have mG:¬(l.length:Int)>80:=by omega
 simp only [go_sem,mG];refine kg (λi:Nat=>St.of [(0,Ro (jg l)),(3,Ni i)] []) (λi=>1<=i/\(i<=l.length\/i=1)/\∀(k:Nat) (a b:En),k+1<i->l[k]?=some a->l[k+1]?=some b->kn a b=true) (λi=>l.length-i) 1 (⟨by omega,.inr rfl,λk a b h=>by omega⟩) (ze [] (by simp only [go_sem]<;>trivial)) ?_
 rintro i ⟨gS,hi2,xZ⟩;by_cases aB:i<l.length
 ·have aA:(i:Int)<l.length:=by omega
  obtain ⟨j,rfl⟩:∃j,i=j+1:=⟨i-1,by omega⟩
  obtain ⟨x,hx⟩:=ja (show j<l.length by omega)
  obtain ⟨y,hy⟩:=ja aB;have bN:j<l.length:=by omega
  have hw:IntKind.i64.wrap (((j+1:Nat):Int)+1)=((j+1+1:Nat):Int):=vF;have e9:IntKind.i64.wrap (((j+1:Nat):Int)-1)=(j:Int):=by rw [kS (by omega) (by omega)];omega
  simp only [go_sem,aA,aB,bN,e9,jZ hx,jZ hy,jk];refine jm (ji6 x y) λη=>?_
  simp only [go_sem];cases ha:kn x y
  ·have hb:jap l=false:=jkj λh=>by have:=h.ahead j x y hx hy;rw [ha] at this;cases this
   simp only [go_sem,hb]
  ·simp only [go_sem,hw]
   exact ⟨j+1+1,⟨by omega,.inl (by omega),λk a b hk uR aZ=>by rcases Nat.lt_or_ge (k+1) (j+1) with h'|h';exact xZ k a b h' uR aZ;obtain rfl:k=j:=(by omega);rw [hx] at uR;rw [hy] at aZ;cases uR;cases aZ;exact ha⟩,(ze [] (by simp only [go_sem]<;>trivial)),by (try dsimp only);omega⟩
 have aA:¬(i:Int)<l.length:=by omega
 have hb:jap l=true:=jgh ⟨by omega,λk a b ha hb=>xZ k a b (by have:=(aNP.1 hb).1;omega) ha hb⟩
 simp only [go_sem,aA,hb]
theorem jmh (l:List En) (hl:l.length<=4000000):jW Tryz.prog 78 [.c (jg l)] (.c (.val (.bool (jap l)))):=by
 refine pf_ jiQ ?_;unfold jfu;simp only [go_sem];refine kg (λi:Nat=>St.of [(0,Ro (jg l)),(3,Ni i)] []) (λi=>1<=i/\(i<=l.length\/i=1)/\∀(k:Nat) (a b:En),k+1<i->l[k]?=some a->l[k+1]?=some b->kn a b=true) (λi=>l.length-i) 1 (⟨by omega,.inr rfl,λk a b h=>by omega⟩) (ze [] (by simp only [go_sem]<;>trivial)) ?_
 rintro i ⟨gS,hi2,xZ⟩;by_cases aB:i<l.length
 ·have aA:(i:Int)<l.length:=by omega
  obtain ⟨j,rfl⟩:∃j,i=j+1:=⟨i-1,by omega⟩
  obtain ⟨x,hx⟩:=ja (show j<l.length by omega)
  obtain ⟨y,hy⟩:=ja aB;have bN:j<l.length:=by omega
  have hw:IntKind.i64.wrap (((j+1:Nat):Int)+1)=((j+1+1:Nat):Int):=vF;have e9:IntKind.i64.wrap (((j+1:Nat):Int)-1)=(j:Int):=by rw [kS (by omega) (by omega)];omega
  simp only [go_sem,aA,aB,bN,e9,jZ hx,jZ hy,jk];refine jm (jja x y) λη=>?_
  simp only [go_sem];cases ha:kn x y
  ·have hb:jap l=false:=jkj λh=>by have:=h.ahead j x y hx hy;rw [ha] at this;cases this
   simp only [go_sem,hb]
  ·simp only [go_sem,hw]
   exact ⟨j+1+1,⟨by omega,.inl (by omega),λk a b hk uR aZ=>by rcases Nat.lt_or_ge (k+1) (j+1) with h'|h';exact xZ k a b h' uR aZ;obtain rfl:k=j:=(by omega);rw [hx] at uR;rw [hy] at aZ;cases uR;cases aZ;exact ha⟩,(ze [] (by simp only [go_sem]<;>trivial)),by (try dsimp only);omega⟩
 have aA:¬(i:Int)<l.length:=by omega
 by_cases h80:l.length<=80
 ·have mG:(l.length:Int)<=80:=by omega
  have hb:jap l=true:=jgh ⟨h80,λk a b ha hb=>xZ k a b (by have:=(aNP.1 hb).1;omega) ha hb⟩
  simp only [go_sem,aA,mG,hb]
 ·have mG:¬(l.length:Int)<=80:=by omega
  have hb:jap l=false:=jkj λh=>h80 h.aNN
  simp only [go_sem,aA,mG,hb]
theorem jAv (l:List Int) (e:Int) (hl:l.length<=4000000):jW Tryz.prog 139 [.c (jb l),.c (.val (.int .i64 e))] (.c (.val (.int .i64 (jeB (λx=>e==x) l)))):=by
 refine pf_ jba ?_;unfold zx;simp only [go_sem];refine qY (λi:Nat=>St.of [(0,Ro (jb l)),(1,Ni e),(7,Ni l.length),(8,Ni i)] []) (λi=>i<=l.length/\∀y∈l.take i,(λx=>e==x) y=false) (λi=>l.length-i) 0 (ze [] (by simp only [go_sem]<;>trivial)) ?_
 rintro k ⟨hk,cT⟩;by_cases aB:k<l.length
 ·have aA:(k:Int)<l.length:=by omega
  obtain ⟨x,hx⟩:=ja aB;have hw:=kx k;cases eR:e==x
  ·simp only [go_sem,aB,aA,zd hx,eR,hw]
   exact ⟨k+1,⟨aB,jnG hx eR cT⟩,(ze [] (by simp only [go_sem]<;>trivial)),by (try dsimp only);omega⟩
  ·simp only [go_sem,aB,aA,zd hx,eR,jbQ hx eR cT]
 ·have aA:¬(k:Int)<l.length:=by omega
  rw [aNU (by omega)] at cT
  simp only [go_sem,aA,jaI cT]
theorem jk8 (l:List Int) (e:Int) (hl:l.length<=4000000):jW Tryz.prog 80 [.c (jb l),.c (.val (.int .i64 e))] (.c (.val (.bool (decide (e∈l))))):=by
 refine pf_ jan ?_;unfold vC;simp only [go_sem];refine jm (jAv l e hl) λη=>?_
 simp only [go_sem];rcases zO (λx=>e==x) l with ⟨h1,h2⟩|⟨k,x,h1,h2,h3,-⟩
 ·have hm:decide (e∈l)=false:=decide_eq_false λh=>by have:=h2 e h;simp at this
  rw [h1,hm];simp only [go_sem]
 ·have hm:decide (e∈l)=true:=decide_eq_true (by have h4:e=x:=by simpa using h3
                                                exact h4▸aNQ h2)
  have hk:=qX k;rw [h1,hm];simp only [go_sem,hk]
def jhh:C:=iS [iA 3 (.box 27 4 (.t 0)),iA 4 (.box 52 8 (.t 1)),aO 6 false] (.seq (iS [aN 7 0] (.blk 0 (.loop (.seq (iS [aM 10 7,aF 11 7 4,aL 12 11,aG 13 12,aP 14 .lss 3 10 13] (iD 14 .skip (.exit 0))) (.seq (.blk 1 (iS [aN 8 0] (.seq (iS [aN 9 0] (.blk 2 (.loop (.seq (iS [aM 17 9,aM 18 2,aG 19 18,aP 20 .lss 3 17 19] (iD 20 .skip (.exit 2))) (.seq (.blk 3 (.seq (.dreg (tA 0 23 (iM 2) (tA 1 24 (iM 9) (tA 2 25 (iI 4 23 24) (tA 3 26 (iF 2 25) (tA 4 27 (iL 26) (tA 5 28 (iF 0 4) (tA 6 29 (iL 28) (tA 7 30 (iP .eql 3 27 29) (tA 8 31 (iM 30) (tB 9 32 31 true (iM 2) (tB 10 33 31 true (iM 9) (tB 11 34 31 true (iI 4 32 33) (tB 12 35 31 true (iF 3 34) (tB 13 36 31 true (iL 35) (tB 14 37 31 true (iM 7) (tB 15 38 31 true (iP .eql 3 36 37) (tA 16 39 (iY 31 (.t 38) (oF)) .done)))))))))))))))))) (iD 39 (iS [aM 40 8,aQ 41 .add 3 40 1,aM 8 41] (.seq (.dreg (tA 0 42 (iF 7 4) (tA 1 43 (iL 42) (tA 2 44 (iM 7) (tA 3 45 (iI 4 43 44) (tA 4 46 (iF 0 45) (tA 5 47 (iL 46) (tA 6 48 (iQ .eql 3 47 2) (tA 7 49 (iM 48) (tB 8 50 49 true (iM 2) (tB 9 51 49 true (iM 9) (tB 10 52 49 true (iI 4 50 51) (tB 11 53 49 true (iF 0 52) (tB 12 54 49 true (iL 53) (tB 13 55 49 true (iF 1 4) (tB 14 56 49 true (iF 0 55) (tB 15 57 49 true (iL 56) (tB 16 58 49 true (iP .neq 3 54 57) (tA 17 59 (iY 49 (.t 58) (oF)) .done))))))))))))))))))) (iD 59 (iS [aO 6 false] .ret) .skip))) .skip))) (.reg [aM 21 9,aQ 22 .add 3 21 1,aM 9 22])))))) (.seq (.dreg (tA 0 60 (iF 7 4) (tA 1 61 (iL 60) (tA 2 62 (iM 7) (tA 3 63 (iI 4 61 62) (tA 4 64 (iF 0 63) (tA 5 65 (iL 64) (tA 6 66 (iQ .eql 3 65 2) (tA 7 67 (iM 66) (tB 8 68 67 true (iM 8) (tB 9 69 67 true (iQ .neq 3 68 1) (tA 10 70 (iY 67 (.t 69) (oF)) (tA 11 71 (iM 70) (tB 12 72 71 false (iF 7 4) (tB 13 73 71 false (iL 72) (tB 14 74 71 false (iM 7) (tB 15 75 71 false (iI 4 73 74) (tB 16 76 71 false (iF 0 75) (tB 17 77 71 false (iL 76) (tB 18 78 71 false (iQ .eql 3 77 3) (tB 19 79 71 false (iM 78) (tB 20 80 79 true (iF 7 4) (tB 21 81 79 true (iL 80) (tB 22 82 79 true (iM 7) (tB 23 83 79 true (iI 4 81 82) (tB 24 84 79 true (iF 3 83) (tB 25 85 79 true (iL 84) (tB 26 86 79 true (iF 0 3) (tB 27 87 79 true (iL 86) (tB 28 88 79 true (iQ .add 3 87 1) (tB 29 89 79 true (iF 0 3) (tB 30 90 79 true (iL 89) (tB 31 91 79 true (iF 1 4) (tB 32 92 79 true (iF 2 91) (tB 33 93 79 true (iL 92) (tB 34 94 79 true (iP .add 3 90 93) (.alt (iB 95 79 true (iK 68 [85,88,94])) [] (tB 36 96 79 true (iU 95) (tB 37 97 71 false (iY 79 (.t 96) (oF)) (tA 38 98 (iY 71 (oT) (.t 97)) .done))) .stop))))))))))))))))))))))))))))))))))))) (iD 98 (iS [aO 6 false] .ret) .skip))))) (.reg [aM 15 7,aQ 16 .add 3 15 1,aM 7 16])))))) (iS [aO 6 true] .ret))
theorem jjH:fnC Tryz.prog Tryz.f131=some (jhh,[.t 6],99):=by kernel_rfl
def jhu:C:=iS [iA 3 (.box 27 4 (.t 0)),iA 4 (.box 52 8 (.t 1)),aO 6 false] (.seq (iS [aF 12 7 4,aL 13 12,aG 14 13,aN 15 0] (.blk 0 (.loop (iS [aP 16 .lss 3 15 14] (.seq (iD 16 .skip (.exit 0)) (.seq (.blk 1 (iS [aM 17 15,aI 18 4 13 15,aT 19 4 18,iA 8 wAO,aM 7 17,wAB 8 19] (iS [aN 9 0] (.seq (iS [aM 20 2,aG 21 20,aN 22 0] (.blk 2 (.loop (iS [aP 23 .lss 3 22 21] (.seq (iD 23 .skip (.exit 2)) (.seq (.blk 3 (iS [aI 24 4 20 22,aT 25 4 24,iA 11 wAQ,wAB 11 25] (iS [aF 26 2 11,aL 27 26,aF 28 0 4,aL 29 28,aP 30 .eql 3 27 29,aM 31 30,iB 32 31 true (iF 3 11),iB 33 31 true (iL 32),iB 34 31 true (iM 7),iB 35 31 true (iP .eql 3 33 34),iA 36 (iY 31 (.t 35) (oF))] (iD 36 (.seq (iS [aF 37 0 8,aL 38 37,aQ 39 .eql 3 38 2,aM 40 39,iB 41 40 true (iF 0 11),iB 42 40 true (iL 41),iB 43 40 true (iF 1 4),iB 44 40 true (iF 0 43),iB 45 40 true (iL 44),iB 46 40 true (iP .neq 3 42 45),iA 47 (iY 40 (.t 46) (oF))] (iD 47 (iS [aO 6 false] .ret) .skip)) (.reg [aM 48 9,aQ 49 .add 3 48 1,aM 9 49])) .skip)))) (.reg [aQ 50 .add 3 22 1,aM 22 50]))))))) (iS [aF 51 0 8,aL 52 51,aQ 53 .eql 3 52 2,aM 54 53,iB 55 54 true (iM 9),iB 56 54 true (iQ .neq 3 55 1),iA 57 (iY 54 (.t 56) (oF)),aM 58 57,iB 59 58 false (iF 0 8),iB 60 58 false (iL 59),iB 61 58 false (iQ .eql 3 60 3),iB 62 58 false (iM 61),iB 63 62 true (iF 3 8),iB 64 62 true (iL 63),iB 65 62 true (iF 0 3),iB 66 62 true (iL 65),iB 67 62 true (iQ .add 3 66 1),iB 68 62 true (iF 0 3),iB 69 62 true (iL 68),iB 70 62 true (iF 1 4),iB 71 62 true (iF 2 70),iB 72 62 true (iL 71),iB 73 62 true (iP .add 3 69 72),iB 74 62 true (iK 62 [64,67,73]),iB 75 62 true (iU 74),iB 76 58 false (iY 62 (.t 75) (oF)),iA 77 (iY 58 (oT) (.t 76))] (iD 77 (iS [aO 6 false] .ret) .skip)))))) (.reg [aQ 78 .add 3 15 1,aM 15 78]))))))) (iS [aO 6 true] .ret))
theorem jjU:fnC Tryz.prog Tryz.f82=some (jhu,[.t 6],79):=by kernel_rfl
theorem jn1 (y:Yd) (r:Rn) (l:List En) (hl:l.length<=4000000) (ht:r.aNA.length<=4000000) (hy:0<=y.now/\y.now<=999999980) (m9:1<=r.aNB.aNM/\r.aNB.aNM<=20):jW Tryz.prog 131 [.agg (jc y),.agg (je r),.c (jg l)] (.c (.val (.bool (zB y r l)))):=by
 refine pf_ jjH ?_;unfold jhh;have pK:IntKind.i64.wrap (y.now+1)=y.now+1:=vF;have hww:IntKind.i64.wrap (y.now+r.aNB.aNM)=y.now+r.aNB.aNM:=vF;simp only [go_sem,jc,je,jd];intro b3 b4;refine qY (λi:Nat=>St.of [(2,Ro (jg l)),(3,Bx 300 b3),(4,Bx 400 b4),(7,Ni i)] [(300,Bi b3 _ (jc y)),(400,Bi b4 _ (je r))]) (λi=>i<=r.aNA.length/\∀(t:Nat) (x:Tk),t<i->r.aNA[t]?=some x->jkB y r l t x) (λi=>r.aNA.length-i) 0 (jt [300,400] (by simp only [go_sem,jc,je,jd]<;>trivial)) ?_
 rintro k ⟨hk,cT⟩;by_cases aB:k<r.aNA.length
 ·have aA:(k:Int)<r.aNA.length:=by omega
  have bJ:=qX k;obtain ⟨x,hx⟩:=ja aB;have hw:=kx k;simp only [go_sem,jc,je,jd,aA];refine qY (λi:Nat=>St.of [(2,Ro (jg l)),(3,Bx 300 b3),(4,Bx 400 b4),(7,Ni k),(8,Ni (jaj r.id k (l.take i))),(9,Ni i)] [(300,Bi b3 _ (jc y)),(400,Bi b4 _ (je r))]) (λi=>i<=l.length/\(x.aND=2->∀e∈l.take i,e.run=r.id->e.aNH=k->e.aNI=r.aNB.aNI)) (λi=>l.length-i) 0 (jt [300,400] (by simp only [go_sem,jc,je,jd,aOW,jaj,List.filter_nil,aOR]<;>trivial)) ?_
  rintro j ⟨hj,eE⟩;by_cases bN:j<l.length
  ·as_aux_lemma=>
    have a9:(j:Int)<l.length:=by omega
    obtain ⟨e,he⟩:=ja bN;have dF:=kx j;have cV:=jyY (l.take j) r.id k;rw [aNV] at cV;have y5:IntKind.i64.wrap ((jaj r.id k (l.take j):Int)+1)=((jaj r.id k (l.take j)+1:Nat):Int):=vF
    have cH:¬(e.run=r.id/\e.aNH=k)->(x.aND=2->∀e∈l.take (j+1),e.run=r.id->e.aNH=k->e.aNI=r.aNB.aNI):=λeK h2 e2 cC h3 h4=>by
     rw [aOA,he] at cC;rcases aNT.1 cC with cC|cC
     ·exact eE h2 e2 cC h3 h4
     ·simp at cC;subst cC;exact absurd ⟨h3,h4⟩ eK
    simp only [go_sem,jc,je,jd,jk,bN,a9,jZ he];cases hr:e.run==r.id
    ·have hs:=joT (id:=r.id) (t:=k) he (λh=>by have:=h.1;simp [this] at hr)
     simp only [go_sem,dF];exact ⟨j+1,⟨bN,cH (λh=>by have:=h.1;simp [this] at hr)⟩,(jt [300,400] (by simp only [go_sem,hs]<;>trivial)),by (try dsimp only);omega⟩
    have bH:e.run=r.id:=by simpa using hr
    cases dV:e.aNH==(k:Int)
    ·have hs:=joT (id:=r.id) (t:=k) he (λh=>by have:=h.2;simp [this] at dV)
     simp only [go_sem,jk,bN,jZ he,dV,dF];exact ⟨j+1,⟨bN,cH (λh=>by have:=h.2;simp [this] at dV)⟩,(jt [300,400] (by simp only [go_sem,hs]<;>trivial)),by (try dsimp only);omega⟩
    have oC:e.aNH=k:=by simpa using dV
    have hs:=jt3 he bH oC;simp only [go_sem,jH,jk,bN,jZ he,dV,y5,aB,bJ,jP hx];cases h2:x.aND==2
    ·simp only [go_sem,dF]
     exact ⟨j+1,⟨bN,λh=>by simp [h] at h2⟩,(jt [300,400] (by simp only [go_sem,hs]<;>trivial)),by (try dsimp only);omega⟩
    have bI:x.aND=2:=by simpa using h2
    cases hp:e.aNI !=r.aNB.aNI
    ·have l9:e.aNI=r.aNB.aNI:=by simpa using hp
     simp only [go_sem,jk,bN,jZ he,hp,dF];exact ⟨j+1,⟨bN,λ_ e2 cC h3 h4=>by rw [aOA,he] at cC;rcases aNT.1 cC with cC|cC;exact eE bI e2 cC h3 h4;simp at cC;subst cC;exact l9⟩,(jt [300,400] (by simp only [go_sem,hs]<;>trivial)),by (try dsimp only);omega⟩
    ·have hb:zB y r l=false:=jeh λh=>by
      have:=((h k x hx).1 bI).1 e (aNQ he) bH oC;simp [this] at hp
     simp only [go_sem,jk,bN,jZ he,hp,hb]
  as_aux_lemma=>
   have a9:¬(j:Int)<l.length:=by omega
   rw [aNU (by omega)] at eE
   rw [aNU (by omega)]
   have fA:jkB y r l k x->∀(t:Nat) (z:Tk),t<k+1->r.aNA[t]?=some z->jkB y r l t z:=λh t z ht hz=>by
    rcases Nat.lt_or_ge t k with h'|h'
    ·exact cT t z h' hz
    ·obtain rfl:t=k:=by omega
     rw [hx] at hz;cases hz;exact h
   cases h2:x.aND==2;rotate_left
   ·have bI:x.aND=2:=by simpa using h2
    have h3:(x.aND==3)=false:=by simp [bI]
    cases hc:((jaj r.id k l:Nat):Int) !=1
    ·as_aux_lemma=>
      have hc':jaj r.id k l=1:=by have:((jaj r.id k l:Nat):Int)=1:=by simpa only [bne_eq_false_iff_eq] using hc
                                  omega
      simp only [go_sem,jc,je,jd,jH,a9,aB,bJ,jP hx,h2,hc,h3,hw];exact ⟨k+1,⟨aB,fA ⟨λ_=>⟨eE bI,hc'⟩,λh=>by omega⟩⟩,(jt [300,400]),by (try dsimp only);omega⟩
    ·as_aux_lemma=>
      have hb:zB y r l=false:=jeh λh=>by
       have:=((h k x hx).1 bI).2;rw [this] at hc;cases hc
      simp only [go_sem,jc,je,jd,jH,a9,aB,bJ,jP hx,h2,hc,hb]
   ·have bI:¬x.aND=2:=by simpa using h2
    cases h3:x.aND==3
    ·as_aux_lemma=>
      have lG:¬x.aND=3:=by simpa using h3
      simp only [go_sem,jc,je,jd,jH,a9,aB,bJ,jP hx,h2,h3,hw];exact ⟨k+1,⟨aB,fA ⟨λh=>absurd h bI,λh=>absurd h lG⟩⟩,(jt [300,400]),by (try dsimp only);omega⟩
    ·have lG:x.aND=3:=by simpa using h3
     as_aux_lemma=>
      simp only [go_sem,jc,je,jd,jH,a9,aB,bJ,jP hx,h2,h3,pK,hww];refine jm (jI x.til (y.now+1) (y.now+r.aNB.aNM)) λη=>?_
      simp only [go_sem];cases ht:decide (y.now+1<=x.til/\x.til<=y.now+r.aNB.aNM)
      ·have hb:zB y r l=false:=jeh λh=>by
        have:=(h k x hx).2 lG;simp [this] at ht
       simp only [go_sem,hb]
      ·have dN:y.now+1<=x.til/\x.til<=y.now+r.aNB.aNM:=aOY ht
       simp only [go_sem,hw];exact ⟨k+1,⟨aB,fA ⟨λh=>absurd h bI,λ_=>dN⟩⟩,(jt [300,400]),by (try dsimp only);omega⟩
 have aA:¬(k:Int)<r.aNA.length:=by omega
 have hb:zB y r l=true:=jgk λt x hx=>cT t x (by have:=(aNP.1 hx).1;omega) hx
 simp only [go_sem,jc,je,jd,aA,hb]
theorem job (y:Yd) (r:Rn) (l:List En) (hl:l.length<=4000000) (ht:r.aNA.length<=4000000) (hy:0<=y.now/\y.now<=999999980) (m9:1<=r.aNB.aNM/\r.aNB.aNM<=20):jW Tryz.prog 82 [.agg (jc y),.agg (je r),.c (jg l)] (.c (.val (.bool (zB y r l)))):=by
 refine pf_ jjU ?_;unfold jhu;have pK:IntKind.i64.wrap (y.now+1)=y.now+1:=vF;have hww:IntKind.i64.wrap (y.now+r.aNB.aNM)=y.now+r.aNB.aNM:=vF;simp only [go_sem,jc,je,jd];intro b3 b4;refine qY (λi:Nat=>St.of [(2,Ro (jg l)),(3,Bx 300 b3),(4,Bx 400 b4),(13,Ro (jx r.aNA)),(14,Ni r.aNA.length),(15,Ni i)] [(300,Bi b3 _ (jc y)),(400,Bi b4 _ (je r))]) (λi=>i<=r.aNA.length/\∀(t:Nat) (x:Tk),t<i->r.aNA[t]?=some x->jkB y r l t x) (λi=>r.aNA.length-i) 0 (jt [300,400] (by simp only [go_sem,jc,je,jd]<;>trivial)) ?_
 rintro k ⟨hk,cT⟩;by_cases aB:k<r.aNA.length
 ·have aA:(k:Int)<r.aNA.length:=by omega
  have bJ:=qX k;obtain ⟨x,hx⟩:=ja aB;have hw:=kx k;simp only [go_sem,jc,je,jd,jH,aB,aA,jP hx];intro b8;refine qY (λi:Nat=>St.of [(2,Ro (jg l)),(3,Bx 300 b3),(4,Bx 400 b4),(7,Ni k),(8,Bx 800 b8),(9,Ni (jaj r.id k (l.take i))),(13,Ro (jx r.aNA)),(14,Ni r.aNA.length),(15,Ni k),(20,Ro (jg l)),(21,Ni l.length),(22,Ni i)] [(300,Bi b3 _ (jc y)),(400,Bi b4 _ (je r)),(800,Bi b8 _ (jH x))]) (λi=>i<=l.length/\(x.aND=2->∀e∈l.take i,e.run=r.id->e.aNH=k->e.aNI=r.aNB.aNI)) (λi=>l.length-i) 0 (jt [300,400,800] (by simp only [go_sem,jc,je,jd,jH,aOW,jaj,List.filter_nil,aOR]<;>trivial)) ?_
  rintro j ⟨hj,eE⟩;by_cases bN:j<l.length
  ·as_aux_lemma=>
    have a9:(j:Int)<l.length:=by omega
    obtain ⟨e,he⟩:=ja bN;have dF:=kx j;have cV:=jyY (l.take j) r.id k;rw [aNV] at cV;have y5:IntKind.i64.wrap ((jaj r.id k (l.take j):Int)+1)=((jaj r.id k (l.take j)+1:Nat):Int):=vF
    have cH:¬(e.run=r.id/\e.aNH=k)->(x.aND=2->∀e∈l.take (j+1),e.run=r.id->e.aNH=k->e.aNI=r.aNB.aNI):=λeK h2 e2 cC h3 h4=>by
     rw [aOA,he] at cC;rcases aNT.1 cC with cC|cC
     ·exact eE h2 e2 cC h3 h4
     ·simp at cC;subst cC;exact absurd ⟨h3,h4⟩ eK
    simp only [go_sem,jc,je,jd,jH,jk,bN,a9,jZ he];intro b11;cases hr:e.run==r.id
    ·have hs:=joT (id:=r.id) (t:=k) he (λh=>by have:=h.1;simp [this] at hr)
     simp only [go_sem,dF];exact ⟨j+1,⟨bN,cH (λh=>by have:=h.1;simp [this] at hr)⟩,(jt [300,400,800] (by simp only [go_sem,hs]<;>trivial)),by (try dsimp only);omega⟩
    have bH:e.run=r.id:=by simpa using hr
    cases dV:e.aNH==(k:Int)
    ·have hs:=joT (id:=r.id) (t:=k) he (λh=>by have:=h.2;simp [this] at dV)
     simp only [go_sem,dV,dF];exact ⟨j+1,⟨bN,cH (λh=>by have:=h.2;simp [this] at dV)⟩,(jt [300,400,800] (by simp only [go_sem,hs]<;>trivial)),by (try dsimp only);omega⟩
    have oC:e.aNH=k:=by simpa using dV
    have hs:=jt3 he bH oC;simp only [go_sem,dV];cases h2:x.aND==2
    ·simp only [go_sem,dF,y5]
     exact ⟨j+1,⟨bN,λh=>by simp [h] at h2⟩,(jt [300,400,800] (by simp only [go_sem,hs]<;>trivial)),by (try dsimp only);omega⟩
    have bI:x.aND=2:=by simpa using h2
    cases hp:e.aNI !=r.aNB.aNI
    ·have l9:e.aNI=r.aNB.aNI:=by simpa using hp
     simp only [go_sem,hp,dF,y5];exact ⟨j+1,⟨bN,λ_ e2 cC h3 h4=>by rw [aOA,he] at cC;rcases aNT.1 cC with cC|cC;exact eE bI e2 cC h3 h4;simp at cC;subst cC;exact l9⟩,(jt [300,400,800] (by simp only [go_sem,hs]<;>trivial)),by (try dsimp only);omega⟩
    ·have hb:zB y r l=false:=jeh λh=>by
      have:=((h k x hx).1 bI).1 e (aNQ he) bH oC;simp [this] at hp
     simp only [go_sem,hp,hb]
  as_aux_lemma=>
   have a9:¬(j:Int)<l.length:=by omega
   rw [aNU (by omega)] at eE
   rw [aNU (by omega)]
   have fA:jkB y r l k x->∀(t:Nat) (z:Tk),t<k+1->r.aNA[t]?=some z->jkB y r l t z:=λh t z ht hz=>by
    rcases Nat.lt_or_ge t k with h'|h'
    ·exact cT t z h' hz
    ·obtain rfl:t=k:=by omega
     rw [hx] at hz;cases hz;exact h
   simp only [go_sem,jc,je,jd,jH,a9];cases h2:x.aND==2;rotate_left
   ·have bI:x.aND=2:=by simpa using h2
    have h3:(x.aND==3)=false:=by simp [bI]
    cases hc:((jaj r.id k l:Nat):Int) !=1
    ·have hc':jaj r.id k l=1:=by have:((jaj r.id k l:Nat):Int)=1:=by simpa only [bne_eq_false_iff_eq] using hc
                                 omega
     simp only [go_sem,hc,h3,hw];exact ⟨k+1,⟨aB,fA ⟨λ_=>⟨eE bI,hc'⟩,λh=>by omega⟩⟩,(jt [300,400]),by (try dsimp only);omega⟩
    ·have hb:zB y r l=false:=jeh λh=>by
      have:=((h k x hx).1 bI).2;rw [this] at hc;cases hc
     simp only [go_sem,hc,hb]
   ·have bI:¬x.aND=2:=by simpa using h2
    cases h3:x.aND==3
    ·have lG:¬x.aND=3:=by simpa using h3
     simp only [go_sem,h3,hw];exact ⟨k+1,⟨aB,fA ⟨λh=>absurd h bI,λh=>absurd h lG⟩⟩,(jt [300,400]),by (try dsimp only);omega⟩
    ·have lG:x.aND=3:=by simpa using h3
     simp only [go_sem,h3,pK,hww];refine jm (jw x.til (y.now+1) (y.now+r.aNB.aNM)) λη=>?_
     simp only [go_sem];cases ht:decide (y.now+1<=x.til/\x.til<=y.now+r.aNB.aNM)
     ·have hb:zB y r l=false:=jeh λh=>by
       have:=(h k x hx).2 lG;simp [this] at ht
      simp only [go_sem,hb]
     ·have dN:y.now+1<=x.til/\x.til<=y.now+r.aNB.aNM:=aOY ht
      simp only [go_sem,hw];exact ⟨k+1,⟨aB,fA ⟨λh=>absurd h bI,λ_=>dN⟩⟩,(jt [300,400]),by (try dsimp only);omega⟩
 have aA:¬(k:Int)<r.aNA.length:=by omega
 have hb:zB y r l=true:=jgk λt x hx=>cT t x (by have:=(aNP.1 hx).1;omega) hx
 simp only [go_sem,jc,je,jd,aA,hb]
def jbX:C:=iS [iA 1 (.box 27 4 (.t 0)),aO 2 false] (.seq (iS [aF 7 2 1,aL 8 7,aG 9 8,aQ 10 .neq 3 9 4] (iD 10 (iS [aO 2 false] .ret) .skip)) (.seq (iS [aN 3 0] (.blk 0 (.loop (.seq (iS [aM 11 3,aF 12 2 1,aL 13 12,aG 14 13,aP 15 .lss 3 11 14] (iD 15 .skip (.exit 0))) (.seq (.blk 1 (iS [aF 18 2 1,aL 19 18,aM 20 3,aI 21 1 19 20,aL 22 21,iA 23 (iK 177 [22]),aU 24 23] (iD 24 (iS [aO 2 false] .ret) .skip))) (.reg [aM 16 3,aQ 17 .add 3 16 1,aM 3 17])))))) (iS [aT 25 4 1,iA 26 (iK 74 [25]),aM 4 26] (.seq (iS [aN 5 0] (.blk 2 (.loop (.seq (iS [aM 27 5,aM 28 4,aG 29 28,aP 30 .lss 3 27 29] (iD 30 .skip (.exit 2))) (.seq (.blk 3 (.seq (.seq (.dreg (tA 0 33 (iM 4) (tA 1 34 (iM 5) (tA 2 35 (iI 4 33 34) (tA 3 36 (iF 1 35) (tA 4 37 (iL 36) (tA 5 38 (iF 1 1) (tA 6 39 (iL 38) (tA 7 40 (iQ .sub 3 39 1) (tC 41 (.call 68 [.t 37,oI 1,.t 40]) [] (tA 9 42 (iU 41) .done) .stop)))))))))) (iD 42 (iS [aO 2 false] .ret) .skip)) (iS [aN 6 0] (.blk 4 (.loop (.seq (iS [aM 43 6,aM 44 5,aP 45 .lss 3 43 44] (iD 45 .skip (.exit 4))) (.seq (.blk 5 (.seq (.dreg (tA 0 48 (iM 4) (tA 1 49 (iM 6) (tA 2 50 (iI 4 48 49) (tA 3 51 (iF 1 50) (tA 4 52 (iL 51) (tA 5 53 (iM 4) (tA 6 54 (iM 5) (tA 7 55 (iI 4 53 54) (tA 8 56 (iF 1 55) (tA 9 57 (iL 56) (tA 10 58 (iP .eql 3 52 57) .done)))))))))))) (iD 58 (iS [aO 2 false] .ret) .skip))) (.reg [aM 46 6,aQ 47 .add 3 46 1,aM 6 47])))))))) (.reg [aM 31 5,aQ 32 .add 3 31 1,aM 5 32])))))) (iS [aO 2 true] .ret)))))
theorem jeC:fnC Tryz.prog Tryz.f129=some (jbX,[.t 2],59):=by kernel_rfl
def jhj:C:=iS [iA 1 (.box 27 4 (.t 0)),aO 2 false] (.seq (iS [aF 6 0 1,aL 7 6,iA 8 (.call 68 [.t 7,oI 0,oI 999999980]),aU 9 8,aM 10 9,iB 11 10 false (iF 1 1),iB 12 10 false (iL 11),iB 13 10 false (.call 68 [.t 12,oI 1,oI 1000000000]),iB 14 10 false (iU 13),iA 15 (iY 10 (oT) (.t 14)),aM 16 15,iB 17 16 false (iF 3 1),iB 18 16 false (iL 17),iB 19 16 false (iG 18),iB 20 16 false (iQ .gtr 3 19 8),iA 21 (iY 16 (oT) (.t 20)),aM 22 21,iB 23 22 false (iT 4 1),iB 24 22 false (iK 129 [23]),iB 25 22 false (iU 24),iA 26 (iY 22 (oT) (.t 25))] (iD 26 (iS [aO 2 false] .ret) .skip)) (.seq (iS [aN 3 0] (.blk 0 (.loop (.seq (iS [aM 27 3,aF 28 3 1,aL 29 28,aG 30 29,aP 31 .lss 3 27 30] (iD 31 .skip (.exit 0))) (.seq (.blk 1 (.seq (.dreg (tA 0 34 (iF 3 1) (tA 1 35 (iL 34) (tA 2 36 (iM 3) (tA 3 37 (iI 8 35 36) (tA 4 38 (iT 8 37) (tC 39 (iK 130 [38]) [] (tA 6 40 (iU 39) (tA 7 41 (iM 40) (tB 8 42 41 false (iT 4 1) (tB 9 43 41 false (iF 3 1) (tB 10 44 41 false (iL 43) (tB 11 45 41 false (iM 3) (tB 12 46 41 false (iI 8 44 45) (tB 13 47 41 false (iF 0 46) (tB 14 48 41 false (iL 47) (tB 16 50 41 false (iM 3) (.alt (iB 49 41 false (iK 26 [42,48])) [16] (tB 17 51 41 false (iP .neq 3 49 50) (tA 18 52 (iY 41 (oT) (.t 51)) .done)) .stop))))))))))) .stop))))))) (iD 52 (iS [aO 2 false] .ret) .skip))) (.reg [aM 32 3,aQ 33 .add 3 32 1,aM 3 33])))))) (iS [aT 53 4 1,iA 54 (iK 74 [53]),aM 4 54] (.seq (iS [aN 5 0] (.blk 2 (.loop (.seq (iS [aM 55 5,aF 56 3 1,aL 57 56,aG 58 57,aP 59 .lss 3 55 58] (iD 59 .skip (.exit 2))) (.seq (.blk 3 (.seq (.dreg (tA 0 62 (iT 4 1) (tA 1 63 (iF 3 1) (tA 2 64 (iL 63) (tA 3 65 (iM 5) (tA 4 66 (iI 8 64 65) (tA 5 67 (iT 8 66) (tA 6 68 (iM 4) (tC 69 (iK 131 [62,67,68]) [] (tA 8 70 (iU 69) .done) .stop))))))))) (iD 70 (iS [aO 2 false] .ret) .skip))) (.reg [aM 60 5,aQ 61 .add 3 60 1,aM 5 61])))))) (iS [aT 71 4 1,iA 72 (iK 132 [71]),aQ 73 .leq 3 72 40,aM 2 73] .ret)))))
theorem jjJ:fnC Tryz.prog Tryz.f66=some (jhj,[.t 2],74):=by kernel_rfl
def jhx:C:=iS [iA 1 (.box 27 4 (.t 0)),aO 2 false] (.seq (iS [aF 11 0 1,aL 12 11,iA 13 (.call 62 [.t 12,oI 0,oI 999999980]),aU 14 13,aM 15 14,iB 16 15 false (iF 1 1),iB 17 15 false (iL 16),iB 18 15 false (.call 62 [.t 17,oI 1,oI 1000000000]),iB 19 15 false (iU 18),iA 20 (iY 15 (oT) (.t 19)),aM 21 20,iB 22 21 false (iF 2 1),iB 23 21 false (iL 22),iB 24 21 false (iG 23),iB 25 21 false (iQ .neq 3 24 4),iA 26 (iY 21 (oT) (.t 25)),aM 27 26,iB 28 27 false (iF 3 1),iB 29 27 false (iL 28),iB 30 27 false (iG 29),iB 31 27 false (iQ .gtr 3 30 8),iA 32 (iY 27 (oT) (.t 31))] (iD 32 (iS [aO 2 false] .ret) .skip)) (.seq (iS [aF 33 2 1,aL 34 33,aG 35 34,aN 36 0] (.blk 0 (.loop (iS [aP 37 .lss 3 36 35] (.seq (iD 37 .skip (.exit 0)) (.seq (.blk 1 (iS [aI 38 1 34 36,aL 39 38,aM 4 39] (iS [aM 40 4,iA 41 (iK 78 [40]),aU 42 41] (iD 42 (iS [aO 2 false] .ret) .skip)))) (.reg [aQ 43 .add 3 36 1,aM 36 43]))))))) (iS [aT 44 4 1,iA 45 (iK 79 [44]),aM 5 45] (iS [iA 6 (.mov (.c (.slice none 0 0)))] (.seq (iS [aM 46 5,aG 47 46,aN 48 0] (.blk 2 (.loop (iS [aP 49 .lss 3 48 47] (.seq (iD 49 .skip (.exit 2)) (.seq (.blk 3 (iS [aI 50 4 46 48,aT 51 4 50,iA 8 wAQ,wAB 8 51] (.seq (iS [aF 52 1 8,aL 53 52,aF 54 1 1,aL 55 54,aQ 56 .sub 3 55 1,iA 57 (.call 62 [.t 53,oI 1,.t 56]),aU 58 57,aM 59 58,iB 60 59 false (iM 6),iB 61 59 false (iF 1 8),iB 62 59 false (iL 61),iB 63 59 false (iK 80 [60,62]),iA 64 (iY 59 (oT) (.t 63))] (iD 64 (iS [aO 2 false] .ret) .skip)) (.reg [aM 65 6,aF 66 1 8,aL 67 66,iA 68 (wA1 [(0,1,.t 67)]),iA 69 (wBA 65 68),aM 6 69])))) (.reg [aQ 70 .add 3 48 1,aM 48 70]))))))) (.seq (iS [aF 71 3 1,aL 72 71,aG 73 72,aN 74 0] (.blk 4 (.loop (iS [aP 75 .lss 3 74 73] (.seq (iD 75 .skip (.exit 4)) (.seq (.blk 5 (iS [aM 76 74,aI 77 8 72 74,aT 78 8 77,iA 10 wAN,aM 9 76,wAC 10 78] (iS [aT 79 8 10,iA 80 (iK 81 [79]),aU 81 80,aM 82 81,iB 83 82 false (iT 4 1),iB 84 82 false (iF 0 10),iB 85 82 false (iL 84),iB 86 82 false (iK 25 [83,85]),iB 87 82 false (iM 9),iB 88 82 false (iP .neq 3 86 87),iA 89 (iY 82 (oT) (.t 88)),aM 90 89,iB 91 90 false (iT 4 1),iB 92 90 false (iT 8 10),iB 93 90 false (iM 5),iB 94 90 false (iK 82 [91,92,93]),iB 95 90 false (iU 94),iA 96 (iY 90 (oT) (.t 95))] (iD 96 (iS [aO 2 false] .ret) .skip)))) (.reg [aQ 97 .add 3 74 1,aM 74 97]))))))) (iS [aT 98 4 1,iA 99 (iK 21 [98]),aQ 100 .leq 3 99 40,aM 2 100] .ret)))))))
theorem jjX:fnC Tryz.prog Tryz.f18=some (jhx,[.t 2],101):=by kernel_rfl
theorem qs (y:Yd) (id:Int):jW Tryz.prog 26 [.agg (jc y),.c (.val (.int .i64 id))] (.c (.val (.int .i64 (runAt y id)))):=jrH ⟨_,Tryz.func26,by kernel_rfl,by kernel_rfl⟩ λw a b ⟨S,ha⟩ hb=>by rw [zU hb];exact jbb y id a S w false ha
theorem qv (y:Yd) (id:Int):jW Tryz.prog 25 [.agg (jc y),.c (.val (.int .i64 id))] (.c (.val (.int .i64 (runAt y id)))):=jrH ⟨_,Tryz.func25,by kernel_rfl,by kernel_rfl⟩ λw a b ⟨S,ha⟩ hb=>by rw [zU hb];exact jbh y id a S w false ha
theorem jma (y:Yd) (ht:jn y<=2000000):jW Tryz.prog 132 [.agg (jc y)] (.c (.val (.int .i64 (qj y)))):=jFX ⟨_,Tryz.func132,by kernel_rfl,by kernel_rfl⟩ λw a ⟨S,ha⟩=>jmR y a S w false ha ht
theorem jmg (y:Yd) (ht:jn y<=2000000):jW Tryz.prog 21 [.agg (jc y)] (.c (.val (.int .i64 (qj y)))):=jFX ⟨_,Tryz.func21,by kernel_rfl,by kernel_rfl⟩ λw a ⟨S,ha⟩=>jnc y a S w false ha ht
structure jkx (y:Yd):Prop where
 four:y.aNC.length=4
 shelves:∀l∈y.aNC,jhN l
 seqs:SeqP y.seq y.aNC.flatten
open Classical in
noncomputable def vz (y:Yd):Bool:=decide (jkx y)
theorem jkK {y:Yd} (h:jkx y):vz y=true:=by simp [vz,h]
theorem jef {y:Yd} (h:¬jkx y):vz y=false:=by simp [vz,h]
theorem shelves_iff {y:Yd}:vz y=true↔jkx y:=by simp [vz]
theorem jpp {y:Yd} (ht:jn y<=2000000) {l:List En} (h:l∈y.aNC):l.length<=4000000:=by
 obtain ⟨k,hk,rfl⟩:=aOZ h;have h1:=jlj (aNS hk);have h2:=jdy y.aNC (k+1);have h3:=zI ht;rw [h1,aNR] at h2;omega
theorem jh8 (y:Yd) (ht:jn y<=2000000) (hq:1<=y.seq/\y.seq<=1000000000):jW Tryz.prog 129 [.agg (jc y)] (.c (.val (.bool (vz y)))):=by
 refine pf_ jeC ?_;unfold jbX;have hsf:=zI ht;have tS:IntKind.i64.wrap (y.seq-1)=y.seq-1:=vF;simp only [go_sem,jc];intro b;cases h4:(y.aNC.length:Int) !=4;rotate_left
 ·have hb:vz y=false:=jef λh=>by have:=h.four;rw [this] at h4;cases h4
  simp only [go_sem,hb]
 have sD:y.aNC.length=4:=by have:(y.aNC.length:Int)=4:=by simpa only [bne_eq_false_iff_eq] using h4
                            omega
 simp only [go_sem];refine qY (λi:Nat=>St.of [(1,Bx 100 b),(3,Ni i)] [(100,Bi b _ (jc y))]) (λi=>i<=y.aNC.length/\∀l∈y.aNC.take i,jhN l) (λi=>y.aNC.length-i) 0 (jt [100] (by simp only [go_sem,jc]<;>trivial)) ?_
 rintro k ⟨hk,cT⟩;by_cases aB:k<y.aNC.length
 ·have aA:(k:Int)<y.aNC.length:=by omega
  obtain ⟨l,hl⟩:=ja aB;have lC:=aNQ hl;have hw:=kx k;simp only [go_sem,jc,aB,aA,qg hl];refine jm (jmb l (jpp ht lC)) λη=>?_
  simp only [go_sem];cases hs:jap l
  ·have hb:vz y=false:=jef λh=>by have:=jgh (h.shelves l lC);rw [hs] at this;cases this
   simp only [go_sem,hb]
  ·simp only [go_sem,hw]
   exact ⟨k+1,⟨aB,λl2 h2=>by rw [aOA,hl] at h2;rcases aNT.1 h2 with h2|h2;exact cT l2 h2;simp at h2;subst h2;exact shelf_iff.1 hs⟩,(jt [100]),by (try dsimp only);omega⟩
 have aA:¬(k:Int)<y.aNC.length:=by omega
 rw [aNU (by omega)] at cT
 simp only [go_sem,jc,aA];refine jm (jbK y ht) λlH=>?_
 simp only [go_sem];generalize hF:y.aNC.flatten=F at*;refine qY (λi:Nat=>St.of [(1,Bx 100 b),(4,Hd 4 (lH 0)),(5,Ni i)] [(100,Bi b _ (jc y)),(4,.loose (jg F) (lH 0))]) (λi=>i<=F.length/\(∀e∈F.take i,1<=e.seq/\e.seq<=y.seq-1)/\((F.take i).map (·.seq)).Nodup) (λi=>F.length-i) 0 (jt [100,2600] (by simp only [go_sem,jc]<;>trivial)) ?_
 rintro j ⟨hj,eE,sY⟩;by_cases bN:j<F.length
 ·have a9:(j:Int)<F.length:=by omega
  have dX:=qX j;obtain ⟨e,he⟩:=ja bN;have hw:=kx j;simp only [go_sem,jc,bN,a9,dX,jq6 he,jqr he,tS];refine jm (jI e.seq 1 (y.seq-1)) λη=>?_
  simp only [go_sem];cases hr:decide (1<=e.seq/\e.seq<=y.seq-1)
  ·have hb:vz y=false:=jef λh=>by
    have:=h.seqs.range e (by rw [hF];exact aNQ he)
    simp [this] at hr
   simp only [go_sem,hb]
  have bH:1<=e.seq/\e.seq<=y.seq-1:=aOY hr;simp only [go_sem];refine qY (λi:Nat=>St.of [(1,Bx 100 b),(4,Hd 4 (lH 0)),(5,Ni j),(6,Ni i)] [(100,Bi b _ (jc y)),(4,.loose (jg F) (lH 0))]) (λi=>i<=j/\∀e2∈F.take i,e2.seq≠e.seq) (λi=>j-i) 0 (jt [100,4] (by simp only [go_sem,jc]<;>trivial)) ?_
  rintro m ⟨hm,pV⟩;by_cases eA:m<j
  ·have eL:(m:Int)<j:=by omega
   have h0m:=qX m;have oN:m<F.length:=by omega
   obtain ⟨e2,cC⟩:=ja oN;have wU:=kx m;cases mM:e2.seq==e.seq
   ·have tZ:¬e2.seq=e.seq:=by simpa using mM
    simp only [go_sem,jc,eL,oN,h0m,bN,dX,jq6 he,jqr he,jq6 cC,jqr cC,mM,wU];exact ⟨m+1,⟨eA,λe3 h3=>by rw [aOA,cC] at h3;rcases aNT.1 h3 with h3|h3;exact pV e3 h3;simp at h3;subst h3;exact tZ⟩,(jt [100,4]),by (try dsimp only);omega⟩
   ·have tZ:e2.seq=e.seq:=by simpa using mM
    have hb:vz y=false:=jef λh=>jwY he eA cC tZ (by rw [<-hF];exact h.seqs.apart)
    simp only [go_sem,jc,eL,oN,h0m,bN,dX,jq6 he,jqr he,jq6 cC,jqr cC,mM,hb]
  ·have eL:¬(m:Int)<j:=by omega
   obtain rfl:m=j:=by omega
   simp only [go_sem,jc,eL,hw];exact ⟨m+1,⟨bN,λe2 h2=>by rw [aOA,he] at h2;rcases aNT.1 h2 with h2|h2;exact eE e2 h2;simp at h2;subst h2;exact bH,jwX he sY pV⟩,(jt [100,4]),by (try dsimp only);omega⟩
 have a9:¬(j:Int)<F.length:=by omega
 rw [aNU (by omega)] at eE sY
 have hb:vz y=true:=jkK ⟨sD,cT,by rw [hF];exact ⟨eE,sY⟩⟩
 simp only [go_sem,a9,hb]
theorem qr (y:Yd) (ht:jn y<=2000000):jW Tryz.prog 66 [.agg (jc y)] (.c (.val (.bool (ju y)))):=by
 refine pf_ jjJ ?_;unfold jhj;have hsf:=zI ht;have bR:=jhW ht;simp only [go_sem,jc];intro b;refine jm (jI y.now 0 999999980) λη=>?_
 simp only [go_sem];cases h1:decide (0<=y.now/\y.now<=999999980)
 ·have hb:ju y=false:=qR λh=>by have:=h.now;simp [this] at h1
  simp only [go_sem,hb]
 have gQ:=aOY h1;simp only [go_sem];refine jm (jI y.seq 1 1000000000) λη=>?_
 simp only [go_sem];cases h2:decide (1<=y.seq/\y.seq<=1000000000)
 ·have hb:ju y=false:=qR λh=>by have:=h.seq;simp [this] at h2
  simp only [go_sem,hb]
 have rF:=aOY h2;by_cases h8:8<y.aNE.length
 ·have gX:(y.aNE.length:Int)>8:=by omega
  have hb:ju y=false:=qR λh=>by have:=h.eight;omega
  simp only [go_sem,gX,hb]
 have gX:¬(y.aNE.length:Int)>8:=by omega
 simp only [go_sem,gX];refine jm (jh8 y ht rF) λη=>?_
 simp only [go_sem];cases eD:vz y
 ·have hb:ju y=false:=qR λh=>by have:=jkK ⟨h.four,h.shelves,h.seqs⟩;rw [eD] at this;cases this
  simp only [go_sem,hb]
 have tY:=shelves_iff.1 eD;simp only [go_sem];refine qY (λi:Nat=>St.of [(1,Bx 100 b),(3,Ni i)] [(100,Bi b _ (jc y))]) (λi=>i<=y.aNE.length/\∀(k:Nat) (r:Rn),k<i->y.aNE[k]?=some r->RunOkP r/\runAt y r.id=k) (λi=>y.aNE.length-i) 0 (jt [100] (by simp only [go_sem,jc]<;>trivial)) ?_
 rintro k ⟨hk,cT⟩;by_cases aB:k<y.aNE.length
 ·have aA:(k:Int)<y.aNE.length:=by omega
  obtain ⟨r,hr⟩:=ja aB;have hw:=kx k;simp only [go_sem,jc,aB,aA,jT hr,je,jd];refine jm (jdl r) λη=>?_
  simp only [go_sem];cases hs:kH r
  ·have hb:ju y=false:=qR λh=>by have:=runOk_iff.2 (h.right r (aNQ hr));rw [hs] at this;cases this
   simp only [go_sem,hb]
  simp only [go_sem,aB,jT hr,je,jd];refine jm (qs y r.id) λη=>?_
  simp only [go_sem];cases fP:runAt y r.id !=(k:Int)
  ·have uP:runAt y r.id=k:=by simpa using fP
   simp only [go_sem,hw];exact ⟨k+1,⟨aB,λk2 r2 h2 cR=>by rcases Nat.lt_or_ge k2 k with h'|h';exact cT k2 r2 h' cR;obtain rfl:k2=k:=(by omega);rw [hr] at cR;cases cR;exact ⟨runOk_iff.1 hs,uP⟩⟩,(jt [100]),by (try dsimp only);omega⟩
  ·have hb:ju y=false:=qR λh=>by have:=h.place k r hr;simp [this] at fP
   simp only [go_sem,hb]
 have aA:¬(k:Int)<y.aNE.length:=by omega
 have cX:∀(k:Nat) (r:Rn),y.aNE[k]?=some r->RunOkP r/\runAt y r.id=k:=λk r h=>cT k r (by have:=(aNP.1 h).1;omega) h
 simp only [go_sem,jc,aA];refine jm (jbK y ht) λlH=>?_
 simp only [go_sem];generalize hF:y.aNC.flatten=F at*;refine qY (λi:Nat=>St.of [(1,Bx 100 b),(4,Hd 4 (lH 0)),(5,Ni i)] [(100,Bi b _ (jc y)),(4,.loose (jg F) (lH 0))]) (λi=>i<=y.aNE.length/\∀(k:Nat) (r:Rn),k<i->y.aNE[k]?=some r->jq9 y r F) (λi=>y.aNE.length-i) 0 (jt [100,5400] (by simp only [go_sem,jc]<;>trivial)) ?_
 rintro j ⟨hj,eE⟩;by_cases bN:j<y.aNE.length
 ·have a9:(j:Int)<y.aNE.length:=by omega
  obtain ⟨r,hr⟩:=ja bN;have hw:=kx j;have v9:=(cX j r hr).1;obtain ⟨n,hn,d9,cF,dH,bU,aW,-,-,m9⟩:=jbJ v9.aNB;have aD:=v9.len;simp only [go_sem,jc,bN,a9,jT hr,je,jd];refine jm (jn1 y r F (by omega) (by omega) gQ m9) λη=>?_
  simp only [go_sem];cases hs:zB y r F
  ·have hb:ju y=false:=qR λh=>by have:=jgk (h.aNE r (aNQ hr));rw [hF,hs] at this;cases this
   simp only [go_sem,hb]
  ·simp only [go_sem,hw]
   exact ⟨j+1,⟨bN,λk2 r2 h2 cR=>by rcases Nat.lt_or_ge k2 j with h'|h';exact eE k2 r2 h' cR;obtain rfl:k2=j:=(by omega);rw [hr] at cR;cases cR;exact runIn_iff.1 hs⟩,(jt [100,4]),by (try dsimp only);omega⟩
 have a9:¬(j:Int)<y.aNE.length:=by omega
 simp only [go_sem,jc,a9];refine jm (jma y ht) λη=>?_
 simp only [go_sem]
 have hb:ju y=decide (qj y<=40):=by
  by_cases sC:qj y<=40
  ·rw [zS ⟨gQ,rF,tY.four,by omega,tY.shelves,tY.seqs,λr hr=>by obtain ⟨k,hk,rfl⟩:=aOZ hr;exact (cX k _ (aNS hk)).1,λk r hr=>(cX k r hr).2,λr hr=>by obtain ⟨k,hk,rfl⟩:=aOZ hr;rw [hF];exact eE k _ (by omega) (aNS hk),sC⟩]
   simp [sC]
  ·rw [qR λh=>sC h.slots];simp [sC]
 simp only [go_sem,hb]
theorem kK (y:Yd) (ht:jn y<=2000000):jW Tryz.prog 18 [.agg (jc y)] (.c (.val (.bool (ju y)))):=by
 refine pf_ jjX ?_;unfold jhx;have hsf:=zI ht;have bR:=jhW ht;simp only [go_sem,jc];intro b;refine jm (jw y.now 0 999999980) λη=>?_
 simp only [go_sem];cases h1:decide (0<=y.now/\y.now<=999999980)
 ·have hb:ju y=false:=qR λh=>by have:=h.now;simp [this] at h1
  simp only [go_sem,hb]
 have gQ:=aOY h1;simp only [go_sem];refine jm (jw y.seq 1 1000000000) λη=>?_
 simp only [go_sem];cases h2:decide (1<=y.seq/\y.seq<=1000000000)
 ·have hb:ju y=false:=qR λh=>by have:=h.seq;simp [this] at h2
  simp only [go_sem,hb]
 have rF:=aOY h2;have tS:IntKind.i64.wrap (y.seq-1)=y.seq-1:=vF;cases h4:(y.aNC.length:Int) !=4;rotate_left
 ·have hb:ju y=false:=qR λh=>by have:=h.four;rw [this] at h4;cases h4
  simp only [go_sem,h4,hb]
 have sD:y.aNC.length=4:=by have:(y.aNC.length:Int)=4:=by simpa only [bne_eq_false_iff_eq] using h4
                            omega
 by_cases h8:8<y.aNE.length
 ·have gX:(y.aNE.length:Int)>8:=by omega
  have hb:ju y=false:=qR λh=>by have:=h.eight;omega
  simp only [go_sem,h4,gX,hb]
 have gX:¬(y.aNE.length:Int)>8:=by omega
 simp only [go_sem,h4,gX];refine qY (λi:Nat=>St.of [(1,Bx 100 b),(34,Ro (ki y.aNC)),(35,Ni y.aNC.length),(36,Ni i)] [(100,Bi b _ (jc y))]) (λi=>i<=y.aNC.length/\∀l∈y.aNC.take i,jhN l) (λi=>y.aNC.length-i) 0 (jt [100] (by simp only [go_sem,jc]<;>trivial)) ?_
 rintro k ⟨hk,cT⟩;by_cases aB:k<y.aNC.length
 ·have aA:(k:Int)<y.aNC.length:=by omega
  obtain ⟨l,hl⟩:=ja aB;have lC:=aNQ hl;have hw:=kx k;simp only [go_sem,jc,aB,aA,qg hl];refine jm (jmh l (jpp ht lC)) λη=>?_
  simp only [go_sem];cases hs:jap l
  ·have hb:ju y=false:=qR λh=>by have:=jgh (h.shelves l lC);rw [hs] at this;cases this
   simp only [go_sem,hb]
  ·simp only [go_sem,hw]
   exact ⟨k+1,⟨aB,λl2 h2=>by rw [aOA,hl] at h2;rcases aNT.1 h2 with h2|h2;exact cT l2 h2;simp at h2;subst h2;exact shelf_iff.1 hs⟩,(jt [100]),by (try dsimp only);omega⟩
 have aA:¬(k:Int)<y.aNC.length:=by omega
 rw [aNU (by omega)] at cT
 simp only [go_sem,jc,aA];refine jm (jib y ht) λlH=>?_
 simp only [go_sem];generalize hF:y.aNC.flatten=F at*;refine qY (λi:Nat×jf=>St.of [(1,Bx 100 b),(5,Hd 5 (lH 0)),(6,Hd 6 i.2),(46,Hd 5 (lH 0)),(47,Ni F.length),(48,Ni i.1)] [(100,Bi b _ (jc y)),(5,.loose (jg F) (lH 0)),(6,.loose (jb ((F.take i.1).map (·.seq))) i.2)]) (λi=>i.1<=F.length/\(∀e∈F.take i.1,1<=e.seq/\e.seq<=y.seq-1)/\((F.take i.1).map (·.seq)).Nodup) (λi=>F.length-i.1) (0,jbL) (ze [some 100,some 4500,none] (by simp only [go_sem,jc]<;>trivial)) ?_
 rintro ⟨j,y1⟩ ⟨hj,eE,sY⟩;dsimp only at hj eE sY;by_cases bN:j<F.length
 ·have a9:(j:Int)<F.length:=by omega
  have dX:=qX j;obtain ⟨e,he⟩:=ja bN;have hw:=kx j;have eA:((F.take j).map (·.seq)).length<=2000000:=by rw [aPA,aNV];omega
  have hmt:(F.take (j+1)).map (·.seq)=(F.take j).map (·.seq)++[e.seq]:=by rw [aOA,he];simp
  generalize hM:(F.take j).map (·.seq)=M at*
  have dI:M.length+1<=maxLen:=zy;have eB:(M.length+1)*8<=140737488355328:=by omega
  simp only [go_sem,jc,bN,a9,dX,jvS he,jvs he,jk];intro b8;simp only [go_sem,tS];refine jm (jw e.seq 1 (y.seq-1)) λη=>?_
  simp only [go_sem];cases hr:decide (1<=e.seq/\e.seq<=y.seq-1)
  ·have hb:ju y=false:=qR λh=>by
    have:=h.seqs.range e (by rw [hF];exact aNQ he)
    simp [this] at hr
   simp only [go_sem,hb]
  have bH:1<=e.seq/\e.seq<=y.seq-1:=aOY hr;simp only [go_sem];refine jm (jk8 M e.seq (by omega)) λη=>?_
  simp only [go_sem];by_cases bW:e.seq∈M
  ·have hb:ju y=false:=qR λh=>by
    rw [<-hM] at bW;obtain ⟨e2,h3,h4⟩:=aPS.1 bW;obtain ⟨m,hm,rfl⟩:=aOZ h3;have fT:m<j:=by rw [aNV] at hm;omega
    rw [List.getElem_take] at h4;exact jwY he fT (aNS (by omega)) h4 (by rw [<-hF];exact h.seqs.apart)
   simp only [go_sem,bW,hb]
  ·simp only [go_sem,bW,dI,eB,kT,hw]
   intro bF l6;exact ⟨(j+1,l6),⟨bN,λe2 h2=>by rw [aOA,he] at h2;rcases aNT.1 h2 with h2|h2;exact eE e2 h2;simp at h2;subst h2;exact bH,jwX he (by rw [hM];exact sY) (λe2 h2 h3=>bW (by rw [<-hM];exact aPS.2 ⟨e2,h2,h3⟩))⟩,(jt [100,5,6900] (by simp only [go_sem,hmt]<;>trivial)),by (try dsimp only);omega⟩
 have a9:¬(j:Int)<F.length:=by omega
 rw [aNU (by omega)] at eE sY
 simp only [go_sem,jc,a9];refine qY (λi:Nat=>St.of [(1,Bx 100 b),(5,Hd 5 (lH 0)),(72,Ro (jE y.aNE)),(73,Ni y.aNE.length),(74,Ni i)] [(100,Bi b _ (jc y)),(5,.loose (jg F) (lH 0))]) (λi=>i<=y.aNE.length/\∀(k:Nat) (r:Rn),k<i->y.aNE[k]?=some r->RunOkP r/\runAt y r.id=k/\jq9 y r F) (λi=>y.aNE.length-i) 0 (jt [100,5] (by simp only [go_sem,jc]<;>trivial)) ?_
 rintro m ⟨hm,pV⟩;by_cases eA:m<y.aNE.length
 ·have eL:(m:Int)<y.aNE.length:=by omega
  obtain ⟨r,hr⟩:=ja eA;have hw:=kx m
  have hre:r.aNB.aNF.length<=4000000:=by
   have h5:=vd (tot:=kz) hr;have h6:=zm kz y.aNE (m+1);have h7:qh kz y.aNE<=2000000:=by simp only [jn,zn] at ht;omega
   have h8:r.aNB.aNF.length<=kz r:=by simp only [kz,jc4];omega
   omega
  simp only [go_sem,jc,eA,eL,jT hr,je,jd];intro b10;refine jm (ji9 r hre) λη=>?_
  simp only [go_sem];cases hs:kH r
  ·have hb:ju y=false:=qR λh=>by have:=runOk_iff.2 (h.right r (aNQ hr));rw [hs] at this;cases this
   simp only [go_sem,hb]
  have v9:=runOk_iff.1 hs;obtain ⟨n,hn,d9,cF,dH,bU,aW,-,-,m9⟩:=jbJ v9.aNB;have aD:=v9.len;simp only [go_sem];refine jm (qv y r.id) λη=>?_
  simp only [go_sem];cases fP:runAt y r.id !=(m:Int);rotate_left
  ·have hb:ju y=false:=qR λh=>by have:=h.place m r hr;simp [this] at fP
   simp only [go_sem,hb]
  have uP:runAt y r.id=m:=by simpa using fP
  simp only [go_sem];refine jm (job y r F (by omega) (by omega) gQ m9) λη=>?_
  simp only [go_sem];cases z1:zB y r F
  ·have hb:ju y=false:=qR λh=>by have:=jgk (h.aNE r (aNQ hr));rw [hF,z1] at this;cases this
   simp only [go_sem,hb]
  ·simp only [go_sem,hw]
   exact ⟨m+1,⟨eA,λk2 r2 h2 cR=>by rcases Nat.lt_or_ge k2 m with h'|h';exact pV k2 r2 h' cR;obtain rfl:k2=m:=(by omega);rw [hr] at cR;cases cR;exact ⟨v9,uP,runIn_iff.1 z1⟩⟩,(jt [100,5]),by (try dsimp only);omega⟩
 have eL:¬(m:Int)<y.aNE.length:=by omega
 have cX:∀(k:Nat) (r:Rn),y.aNE[k]?=some r->RunOkP r/\runAt y r.id=k/\jq9 y r F:=λk r h=>pV k r (by have:=(aNP.1 h).1;omega) h
 simp only [go_sem,jc,eL];refine jm (jmg y ht) λη=>?_
 simp only [go_sem]
 have hb:ju y=decide (qj y<=40):=by
  by_cases sC:qj y<=40
  ·rw [zS ⟨gQ,rF,sD,by omega,cT,by rw [hF];exact ⟨eE,sY⟩,λr hr=>by obtain ⟨k,hk,rfl⟩:=aOZ hr;exact (cX k _ (aNS hk)).1,λk r hr=>(cX k r hr).2.1,λr hr=>by obtain ⟨k,hk,rfl⟩:=aOZ hr;rw [hF];exact (cX k _ (aNS hk)).2.2,sC⟩]
   simp [sC]
  ·rw [qR λh=>sC h.slots];simp [sC]
 simp only [go_sem,hb]
