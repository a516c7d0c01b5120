/- Parts. -/
import Derived.Test.YtcehjhiglmifjaaGreatQRunD
set_option linter.all false
set_option maxHeartbeats 16000000
set_option maxRecDepth 100000
namespace Go.Proofs.YtcehjhiglmifjaaGreat
open Go.RowKit Go.Sort
def jij:C:=iS [iA 2 (.box 44 4 (.t 0)),iA 3 (.box 44 4 (.t 1)),aO 4 false] (iS [aF 5 0 2,aL 6 5,aF 7 0 3,aL 8 7,aP 9 .gtr 3 6 8,aM 10 9,iB 11 10 false (iF 0 2),iB 12 10 false (iL 11),iB 13 10 false (iF 0 3),iB 14 10 false (iL 13),iB 15 10 false (iP .eql 3 12 14),iB 16 10 false (iM 15),iB 17 16 true (iF 1 2),iB 18 16 true (iL 17),iB 19 16 true (iF 1 3),iB 20 16 true (iL 19),iB 21 16 true (iP .lss 3 18 20),iB 22 10 false (iY 16 (.t 21) (oF)),iA 23 (iY 10 (oT) (.t 22)),aM 4 23] .ret)
theorem jkr:fnC Tryz.prog Tryz.f180=some (jij,[.t 4],24):=by kernel_rfl
def jip:C:=iS [iA 2 (.box 44 4 (.t 0)),iA 3 (.box 44 4 (.t 1)),aO 4 false] (iS [aF 5 0 2,aL 6 5,aF 7 0 3,aL 8 7,aP 9 .gtr 3 6 8,aM 10 9,iB 11 10 false (iF 0 2),iB 12 10 false (iL 11),iB 13 10 false (iF 0 3),iB 14 10 false (iL 13),iB 15 10 false (iP .eql 3 12 14),iB 16 10 false (iM 15),iB 17 16 true (iF 1 2),iB 18 16 true (iL 17),iB 19 16 true (iF 1 3),iB 20 16 true (iL 19),iB 21 16 true (iP .lss 3 18 20),iB 22 10 false (iY 16 (.t 21) (oF)),iA 23 (iY 10 (oT) (.t 22)),aM 4 23] .ret)
theorem jky:fnC Tryz.prog Tryz.f138=some (jip,[.t 4],24):=by kernel_rfl
def jeC:C:=iS [aO 2 false] (.seq (iS [aM 4 0,aG 5 4,aQ 6 .gtr 3 5 80] (iD 6 (iS [aO 2 false] .ret) .skip)) (.seq (iS [aN 3 1] (.blk 0 (.loop (.seq (iS [aM 7 3,aM 8 0,aG 9 8,aP 10 .lss 3 7 9] (iD 10 .skip (.exit 0))) (.seq (.blk 1 (.seq (.dreg (tA 0 13 (iM 0) (tA 1 14 (iM 3) (tA 2 15 (iQ .sub 3 14 1) (tA 3 16 (iI 4 13 15) (tA 4 17 (iT 4 16) (tA 5 18 (iM 0) (tA 6 19 (iM 3) (tA 7 20 (iI 4 18 19) (tA 8 21 (iT 4 20) (tC 22 (iK 180 [17,21]) [] (tA 10 23 (iU 22) .done) .stop))))))))))) (iD 23 (iS [aO 2 false] .ret) .skip))) (.reg [aM 11 3,aQ 12 .add 3 11 1,aM 3 12])))))) (iS [aO 2 true] .ret)))
theorem jhF:fnC Tryz.prog Tryz.f177=some (jeC,[.t 2],24):=by kernel_rfl
def jeP:C:=iS [aO 2 false] (.seq (iS [aN 3 1] (.blk 0 (.loop (.seq (iS [aM 4 3,aM 5 0,aG 6 5,aP 7 .lss 3 4 6] (iD 7 .skip (.exit 0))) (.seq (.blk 1 (.seq (.dreg (tA 0 10 (iM 0) (tA 1 11 (iM 3) (tA 2 12 (iQ .sub 3 11 1) (tA 3 13 (iI 4 10 12) (tA 4 14 (iT 4 13) (tA 5 15 (iM 0) (tA 6 16 (iM 3) (tA 7 17 (iI 4 15 16) (tA 8 18 (iT 4 17) (tC 19 (iK 138 [14,18]) [] (tA 10 20 (iU 19) .done) .stop))))))))))) (iD 20 (iS [aO 2 false] .ret) .skip))) (.reg [aM 8 3,aQ 9 .add 3 8 1,aM 3 9])))))) (iS [aM 21 0,aG 22 21,aQ 23 .leq 3 22 80,aM 2 23] .ret))
theorem jhS:fnC Tryz.prog Tryz.f78=some (jeP,[.t 2],24):=by kernel_rfl
def zw:C:=iS [aN 4 0] (.seq (iS [aM 6 0,aG 7 6,aN 8 0] (.blk 0 (.loop (iS [aP 9 .lss 3 8 7] (.seq (iD 9 .skip (.exit 0)) (.seq (.blk 1 (iS [aM 10 8,aM 5 10] (iS [aM 11 1,aM 12 0,aM 13 5,aI 14 1 12 13,aL 15 14,aP 16 .eql 3 11 15] (iD 16 (iS [aM 17 5,aM 4 17] .ret) .skip)))) (.reg [aQ 18 .add 3 8 1,aM 8 18]))))))) (iS [aN 4 (-1)] .ret))
theorem ja9:fnC Tryz.prog Tryz.f139=some (zw,[.t 4],19):=by kernel_rfl
def vF:C:=iS [aO 4 false] (iS [aM 5 0,aM 6 1,iA 7 (iK 139 [5,6]),aQ 8 .geq 3 7 0,aM 4 8] .ret)
theorem jap:fnC Tryz.prog Tryz.f80=some (vF,[.t 4],9):=by kernel_rfl
theorem jh8 (x y:En):kg Tryz.prog 180 [.agg (jh x),.agg (jh y)] (.c (.val (.bool (kr x y)))):=by
 refine pf_ jkr ?_;unfold jij;simp only [go_sem,jh];intro b b2;by_cases h1:x.aMC>y.aMC
 ·have hb:kr x y=true:=by simp [kr,h1]
  simp only [go_sem,jh,h1,hb]
 ·cases h2:x.aMC==y.aMC
  ·have hb:kr x y=false:=by
    have:¬x.aMC=y.aMC:=by simpa using h2
    simp only [kr,aNK];omega
   simp only [go_sem,jh,h1,h2,hb]
  ·have hb:kr x y=decide (x.seq<y.seq):=by
    have:x.aMC=y.aMC:=by simpa using h2
    simp only [kr,this,Int.lt_irrefl,gt_iff_lt,false_or,true_and]
   simp only [go_sem,jh,h1,h2,hb]
theorem jib (x y:En):kg Tryz.prog 138 [.agg (jh x),.agg (jh y)] (.c (.val (.bool (kr x y)))):=by
 refine pf_ jky ?_;unfold jip;simp only [go_sem,jh];intro b b2;by_cases h1:x.aMC>y.aMC
 ·have hb:kr x y=true:=by simp [kr,h1]
  simp only [go_sem,jh,h1,hb]
 ·cases h2:x.aMC==y.aMC
  ·have hb:kr x y=false:=by
    have:¬x.aMC=y.aMC:=by simpa using h2
    simp only [kr,aNK];omega
   simp only [go_sem,jh,h1,h2,hb]
  ·have hb:kr x y=decide (x.seq<y.seq):=by
    have:x.aMC=y.aMC:=by simpa using h2
    simp only [kr,this,Int.lt_irrefl,gt_iff_lt,false_or,true_and]
   simp only [go_sem,jh,h1,h2,hb]
theorem jkW (l:List En) (hl:l.length<=4000000):kg Tryz.prog 177 [.c (ji l)] (.c (.val (.bool (jar l)))):=by
 refine pf_ jhF ?_;unfold jeC;simp only [go_sem];by_cases h80:80<l.length
 ·have mB:(l.length:Int)>80:=by omega
  have hb:jar l=false:=jjc λh=>by have:=h.aMG;omega
  simp only [go_sem,mB,hb]
 have mB:¬(l.length:Int)>80:=by omega
 simp only [go_sem,mB];refine kN (λi:Nat=>St.of [(0,Ro (ji l)),(3,Ni i)] []) (λi=>1<=i/\(i<=l.length\/i=1)/\∀(k:Nat) (a b:En),k+1<i->l[k]?=some a->l[k+1]?=some b->kr a b=true) (λi=>l.length-i) 1 (⟨by omega,.inr rfl,λk a b h=>by omega⟩) (zo [] (by simp only [go_sem]<;>trivial)) ?_
 rintro i ⟨gJ,hi2,xK⟩;by_cases aB:i<l.length
 ·have aA:(i:Int)<l.length:=by omega
  obtain ⟨j,rfl⟩:∃j,i=j+1:=⟨i-1,by omega⟩
  obtain ⟨x,hx⟩:=jd (show j<l.length by omega)
  obtain ⟨y,hy⟩:=jd aB;have bJ:j<l.length:=by omega
  have hw:IntKind.i64.wrap (((j+1:Nat):Int)+1)=((j+1+1:Nat):Int):=zy;have eL:IntKind.i64.wrap (((j+1:Nat):Int)-1)=(j:Int):=by rw [qE (by omega) (by omega)];omega
  simp only [go_sem,aA,aB,bJ,eL,jH hx,jH hy,jh];refine jx (jh8 x y) λη=>?_
  simp only [go_sem,jh];cases ha:kr x y
  ·have hb:jar l=false:=jjc λh=>by have:=h.ahead j x y hx hy;rw [ha] at this;cases this
   simp only [go_sem,ha,hb]
  ·simp only [go_sem,ha,hw]
   exact ⟨j+1+1,⟨by omega,.inl (by omega),λk a b hk t9 bA=>by rcases Nat.lt_or_ge (k+1) (j+1) with h'|h';exact xK k a b h' t9 bA;obtain rfl:k=j:=(by omega);rw [hx] at t9;rw [hy] at bA;cases t9;cases bA;exact ha⟩,(zo [] (by simp only [go_sem]<;>trivial)),by (try dsimp only);omega⟩
 have aA:¬(i:Int)<l.length:=by omega
 have hb:jar l=true:=jfE ⟨by omega,λk a b ha hb=>xK k a b (by have:=(aMI.1 hb).1;omega) ha hb⟩
 simp only [go_sem,aA,hb]
theorem jk3 (l:List En) (hl:l.length<=4000000):kg Tryz.prog 78 [.c (ji l)] (.c (.val (.bool (jar l)))):=by
 refine pf_ jhS ?_;unfold jeP;simp only [go_sem];refine kN (λi:Nat=>St.of [(0,Ro (ji l)),(3,Ni i)] []) (λi=>1<=i/\(i<=l.length\/i=1)/\∀(k:Nat) (a b:En),k+1<i->l[k]?=some a->l[k+1]?=some b->kr a b=true) (λi=>l.length-i) 1 (⟨by omega,.inr rfl,λk a b h=>by omega⟩) (zo [] (by simp only [go_sem]<;>trivial)) ?_
 rintro i ⟨gJ,hi2,xK⟩;by_cases aB:i<l.length
 ·have aA:(i:Int)<l.length:=by omega
  obtain ⟨j,rfl⟩:∃j,i=j+1:=⟨i-1,by omega⟩
  obtain ⟨x,hx⟩:=jd (show j<l.length by omega)
  obtain ⟨y,hy⟩:=jd aB;have bJ:j<l.length:=by omega
  have hw:IntKind.i64.wrap (((j+1:Nat):Int)+1)=((j+1+1:Nat):Int):=zy;have eL:IntKind.i64.wrap (((j+1:Nat):Int)-1)=(j:Int):=by rw [qE (by omega) (by omega)];omega
  simp only [go_sem,aA,aB,bJ,eL,jH hx,jH hy,jh];refine jx (jib x y) λη=>?_
  simp only [go_sem,jh];cases ha:kr x y
  ·have hb:jar l=false:=jjc λh=>by have:=h.ahead j x y hx hy;rw [ha] at this;cases this
   simp only [go_sem,ha,hb]
  ·simp only [go_sem,ha,hw]
   exact ⟨j+1+1,⟨by omega,.inl (by omega),λk a b hk t9 bA=>by rcases Nat.lt_or_ge (k+1) (j+1) with h'|h';exact xK k a b h' t9 bA;obtain rfl:k=j:=(by omega);rw [hx] at t9;rw [hy] at bA;cases t9;cases bA;exact ha⟩,(zo [] (by simp only [go_sem]<;>trivial)),by (try dsimp only);omega⟩
 have aA:¬(i:Int)<l.length:=by omega
 by_cases h80:l.length<=80
 ·have mB:(l.length:Int)<=80:=by omega
  have hb:jar l=true:=jfE ⟨h80,λk a b ha hb=>xK k a b (by have:=(aMI.1 hb).1;omega) ha hb⟩
  simp only [go_sem,aA,mB,hb]
 ·have mB:¬(l.length:Int)<=80:=by omega
  have hb:jar l=false:=jjc λh=>h80 h.aMG
  simp only [go_sem,aA,mB,hb]
theorem jxr (l:List Int) (e:Int) (hl:l.length<=4000000):kg Tryz.prog 139 [.c (je l),.c (.val (.int .i64 e))] (.c (.val (.int .i64 (jdY (λx=>e==x) l)))):=by
 refine pf_ ja9 ?_;unfold zw;simp only [go_sem];refine vo (λi:Nat=>St.of [(0,Ro (je l)),(1,Ni e),(7,Ni l.length),(8,Ni i)] []) (λi=>i<=l.length/\∀y∈l.take i,(λx=>e==x) y=false) (λi=>l.length-i) 0 (zo [] (by simp only [go_sem]<;>trivial)) ?_
 rintro k ⟨hk,cM⟩;by_cases aB:k<l.length
 ·have aA:(k:Int)<l.length:=by omega
  obtain ⟨x,hx⟩:=jd aB;have hw:=kX k;cases fD:e==x
  ·simp only [go_sem,aB,aA,jc5 hx,fD,hw]
   exact ⟨k+1,⟨aB,jmq hx fD cM⟩,(zo [] (by simp only [go_sem]<;>trivial)),by (try dsimp only);omega⟩
  ·simp only [go_sem,aB,aA,jc5 hx,fD,jbN hx fD cM]
 ·have aA:¬(k:Int)<l.length:=by omega
  rw [aMO (by omega)] at cM
  simp only [go_sem,aA,jaC cM]
theorem jjW (l:List Int) (e:Int) (hl:l.length<=4000000):kg Tryz.prog 80 [.c (je l),.c (.val (.int .i64 e))] (.c (.val (.bool (decide (e∈l))))):=by
 refine pf_ jap ?_;unfold vF;simp only [go_sem];refine jx (jxr l e hl) λη=>?_
 simp only [go_sem];rcases zO (λx=>e==x) l with ⟨h1,h2⟩|⟨k,x,h1,h2,h3,-⟩
 ·have hm:decide (e∈l)=false:=decide_eq_false λh=>by have:=h2 e h;simp at this
  rw [h1,hm];simp only [go_sem]
 ·have hm:decide (e∈l)=true:=decide_eq_true (by have h4:e=x:=by simpa using h3
                                                exact h4▸aMJ h2)
  have hk:=qT k;rw [h1,hm];simp only [go_sem,hk]
def jgz:C:=iS [iA 3 (.box 27 4 (.t 0)),iA 4 (.box 52 8 (.t 1)),aO 6 false] (.seq (iS [aN 7 0] (.blk 0 (.loop (.seq (iS [aM 10 7,aF 11 7 4,aL 12 11,aG 13 12,aP 14 .lss 3 10 13] (iD 14 .skip (.exit 0))) (.seq (.blk 1 (iS [aN 8 0] (.seq (iS [aN 9 0] (.blk 2 (.loop (.seq (iS [aM 17 9,aM 18 2,aG 19 18,aP 20 .lss 3 17 19] (iD 20 .skip (.exit 2))) (.seq (.blk 3 (.seq (.dreg (tA 0 23 (iM 2) (tA 1 24 (iM 9) (tA 2 25 (iI 4 23 24) (tA 3 26 (iF 2 25) (tA 4 27 (iL 26) (tA 5 28 (iF 0 4) (tA 6 29 (iL 28) (tA 7 30 (iP .eql 3 27 29) (tA 8 31 (iM 30) (tB 9 32 31 true (iM 2) (tB 10 33 31 true (iM 9) (tB 11 34 31 true (iI 4 32 33) (tB 12 35 31 true (iF 3 34) (tB 13 36 31 true (iL 35) (tB 14 37 31 true (iM 7) (tB 15 38 31 true (iP .eql 3 36 37) (tA 16 39 (iY 31 (.t 38) (oF)) .done)))))))))))))))))) (iD 39 (iS [aM 40 8,aQ 41 .add 3 40 1,aM 8 41] (.seq (.dreg (tA 0 42 (iF 7 4) (tA 1 43 (iL 42) (tA 2 44 (iM 7) (tA 3 45 (iI 4 43 44) (tA 4 46 (iF 0 45) (tA 5 47 (iL 46) (tA 6 48 (iQ .eql 3 47 2) (tA 7 49 (iM 48) (tB 8 50 49 true (iM 2) (tB 9 51 49 true (iM 9) (tB 10 52 49 true (iI 4 50 51) (tB 11 53 49 true (iF 0 52) (tB 12 54 49 true (iL 53) (tB 13 55 49 true (iF 1 4) (tB 14 56 49 true (iF 0 55) (tB 15 57 49 true (iL 56) (tB 16 58 49 true (iP .neq 3 54 57) (tA 17 59 (iY 49 (.t 58) (oF)) .done))))))))))))))))))) (iD 59 (iS [aO 6 false] .ret) .skip))) .skip))) (.reg [aM 21 9,aQ 22 .add 3 21 1,aM 9 22])))))) (.seq (.dreg (tA 0 60 (iF 7 4) (tA 1 61 (iL 60) (tA 2 62 (iM 7) (tA 3 63 (iI 4 61 62) (tA 4 64 (iF 0 63) (tA 5 65 (iL 64) (tA 6 66 (iQ .eql 3 65 2) (tA 7 67 (iM 66) (tB 8 68 67 true (iM 8) (tB 9 69 67 true (iQ .neq 3 68 1) (tA 10 70 (iY 67 (.t 69) (oF)) (tA 11 71 (iM 70) (tB 12 72 71 false (iF 7 4) (tB 13 73 71 false (iL 72) (tB 14 74 71 false (iM 7) (tB 15 75 71 false (iI 4 73 74) (tB 16 76 71 false (iF 0 75) (tB 17 77 71 false (iL 76) (tB 18 78 71 false (iQ .eql 3 77 3) (tB 19 79 71 false (iM 78) (tB 20 80 79 true (iF 7 4) (tB 21 81 79 true (iL 80) (tB 22 82 79 true (iM 7) (tB 23 83 79 true (iI 4 81 82) (tB 24 84 79 true (iF 3 83) (tB 25 85 79 true (iL 84) (tB 26 86 79 true (iF 0 3) (tB 27 87 79 true (iL 86) (tB 28 88 79 true (iQ .add 3 87 1) (tB 29 89 79 true (iF 0 3) (tB 30 90 79 true (iL 89) (tB 31 91 79 true (iF 1 4) (tB 32 92 79 true (iF 2 91) (tB 33 93 79 true (iL 92) (tB 34 94 79 true (iP .add 3 90 93) (.alt (iB 95 79 true (iK 68 [85,88,94])) [] (tB 36 96 79 true (iU 95) (tB 37 97 71 false (iY 79 (.t 96) (oF)) (tA 38 98 (iY 71 (oT) (.t 97)) .done))) .stop))))))))))))))))))))))))))))))))))))) (iD 98 (iS [aO 6 false] .ret) .skip))))) (.reg [aM 15 7,aQ 16 .add 3 15 1,aM 7 16])))))) (iS [aO 6 true] .ret))
theorem jiE:fnC Tryz.prog Tryz.f131=some (jgz,[.t 6],99):=by kernel_rfl
def jgM:C:=iS [iA 3 (.box 27 4 (.t 0)),iA 4 (.box 52 8 (.t 1)),aO 6 false] (.seq (iS [aF 12 7 4,aL 13 12,aG 14 13,aN 15 0] (.blk 0 (.loop (iS [aP 16 .lss 3 15 14] (.seq (iD 16 .skip (.exit 0)) (.seq (.blk 1 (iS [aM 17 15,aI 18 4 13 15,aT 19 4 18,iA 8 wAN,aM 7 17,wAB 8 19] (iS [aN 9 0] (.seq (iS [aM 20 2,aG 21 20,aN 22 0] (.blk 2 (.loop (iS [aP 23 .lss 3 22 21] (.seq (iD 23 .skip (.exit 2)) (.seq (.blk 3 (iS [aI 24 4 20 22,aT 25 4 24,iA 11 wAP,wAB 11 25] (iS [aF 26 2 11,aL 27 26,aF 28 0 4,aL 29 28,aP 30 .eql 3 27 29,aM 31 30,iB 32 31 true (iF 3 11),iB 33 31 true (iL 32),iB 34 31 true (iM 7),iB 35 31 true (iP .eql 3 33 34),iA 36 (iY 31 (.t 35) (oF))] (iD 36 (.seq (iS [aF 37 0 8,aL 38 37,aQ 39 .eql 3 38 2,aM 40 39,iB 41 40 true (iF 0 11),iB 42 40 true (iL 41),iB 43 40 true (iF 1 4),iB 44 40 true (iF 0 43),iB 45 40 true (iL 44),iB 46 40 true (iP .neq 3 42 45),iA 47 (iY 40 (.t 46) (oF))] (iD 47 (iS [aO 6 false] .ret) .skip)) (.reg [aM 48 9,aQ 49 .add 3 48 1,aM 9 49])) .skip)))) (.reg [aQ 50 .add 3 22 1,aM 22 50]))))))) (iS [aF 51 0 8,aL 52 51,aQ 53 .eql 3 52 2,aM 54 53,iB 55 54 true (iM 9),iB 56 54 true (iQ .neq 3 55 1),iA 57 (iY 54 (.t 56) (oF)),aM 58 57,iB 59 58 false (iF 0 8),iB 60 58 false (iL 59),iB 61 58 false (iQ .eql 3 60 3),iB 62 58 false (iM 61),iB 63 62 true (iF 3 8),iB 64 62 true (iL 63),iB 65 62 true (iF 0 3),iB 66 62 true (iL 65),iB 67 62 true (iQ .add 3 66 1),iB 68 62 true (iF 0 3),iB 69 62 true (iL 68),iB 70 62 true (iF 1 4),iB 71 62 true (iF 2 70),iB 72 62 true (iL 71),iB 73 62 true (iP .add 3 69 72),iB 74 62 true (iK 62 [64,67,73]),iB 75 62 true (iU 74),iB 76 58 false (iY 62 (.t 75) (oF)),iA 77 (iY 58 (oT) (.t 76))] (iD 77 (iS [aO 6 false] .ret) .skip)))))) (.reg [aQ 78 .add 3 15 1,aM 15 78]))))))) (iS [aO 6 true] .ret))
theorem jiR:fnC Tryz.prog Tryz.f82=some (jgM,[.t 6],79):=by kernel_rfl
theorem jmK (y:Yd) (r:Rn) (l:List En) (hl:l.length<=4000000) (ht:r.aLT.length<=4000000) (hy:0<=y.now/\y.now<=999999980) (lU:1<=r.aLW.aMF/\r.aLW.aMF<=20):kg Tryz.prog 131 [.agg (jb y),.agg (jc r),.c (ji l)] (.c (.val (.bool (zB y r l)))):=by
 refine pf_ jiE ?_;unfold jgz;have lV:IntKind.i64.wrap (y.now+1)=y.now+1:=zy;have sY:IntKind.i64.wrap (y.now+r.aLW.aMF)=y.now+r.aLW.aMF:=zy;simp only [go_sem,jb,jc,ja,jk,jh];intro b3 b4;refine vo (λi:Nat=>St.of [(2,Ro (ji l)),(3,Bx 300 b3),(4,Bx 400 b4),(7,Ni i)] [(300,Bi b3 _ (jb y)),(400,Bi b4 _ (jc r))]) (λi=>i<=r.aLT.length/\∀(t:Nat) (x:Tk),t<i->r.aLT[t]?=some x->jjx y r l t x) (λi=>r.aLT.length-i) 0 (jy [300,400] (by simp only [go_sem,jb,jc,ja,jk,jh]<;>trivial)) ?_
 rintro k ⟨hk,cM⟩;by_cases aB:k<r.aLT.length
 ·have aA:(k:Int)<r.aLT.length:=by omega
  have bD:=qT k;obtain ⟨x,hx⟩:=jd aB;have hw:=kX k;simp only [go_sem,jb,jc,ja,jk,jh,aA];refine vo (λi:Nat=>St.of [(2,Ro (ji l)),(3,Bx 300 b3),(4,Bx 400 b4),(7,Ni k),(8,Ni (jaj r.id k (l.take i))),(9,Ni i)] [(300,Bi b3 _ (jb y)),(400,Bi b4 _ (jc r))]) (λi=>i<=l.length/\(x.aLV=2->∀e∈l.take i,e.run=r.id->e.aMA=k->e.aMC=r.aLW.aMC)) (λi=>l.length-i) 0 (jy [300,400] (by simp only [go_sem,jb,jc,ja,jk,jh,aNM,jaj,List.filter_nil,aOM]<;>trivial)) ?_
  rintro j ⟨hj,eA⟩;by_cases bJ:j<l.length
  ·as_aux_lemma=>
    have aY:(j:Int)<l.length:=by omega
    obtain ⟨e,he⟩:=jd bJ;have dM:=kX j;have dG:=jwc (l.take j) r.id k;rw [aMP] at dG;have sZ:IntKind.i64.wrap ((jaj r.id k (l.take j):Int)+1)=((jaj r.id k (l.take j)+1:Nat):Int):=zy
    have cQ:¬(e.run=r.id/\e.aMA=k)->(x.aLV=2->∀e∈l.take (j+1),e.run=r.id->e.aMA=k->e.aMC=r.aLW.aMC):=λd7 h2 e2 cB h3 h4=>by
     rw [aMT,he] at cB;rcases aMN.1 cB with cB|cB
     ·exact eA h2 e2 cB h3 h4
     ·simp at cB;subst cB;exact absurd ⟨h3,h4⟩ d7
    simp only [go_sem,jb,jc,ja,jk,jh,bJ,aY,jH he];cases hr:e.run==r.id
    ·have hs:=jnv (id:=r.id) (t:=k) he (λh=>by have:=h.1;simp [this] at hr)
     simp only [go_sem,jb,jc,ja,jk,jh,bJ,aY,jH he,hr,dM];exact ⟨j+1,⟨bJ,cQ (λh=>by have:=h.1;simp [this] at hr)⟩,(jy [300,400] (by simp only [go_sem,jb,jc,ja,jk,jh,hs]<;>trivial)),by (try dsimp only);omega⟩
    have bE:e.run=r.id:=by simpa using hr
    cases dO:e.aMA==(k:Int)
    ·have hs:=jnv (id:=r.id) (t:=k) he (λh=>by have:=h.2;simp [this] at dO)
     simp only [go_sem,jb,jc,ja,jk,jh,bJ,aY,jH he,hr,dO,dM];exact ⟨j+1,⟨bJ,cQ (λh=>by have:=h.2;simp [this] at dO)⟩,(jy [300,400] (by simp only [go_sem,jb,jc,ja,jk,jh,hs]<;>trivial)),by (try dsimp only);omega⟩
    have n8:e.aMA=k:=by simpa using dO
    have hs:=jrX he bE n8;simp only [go_sem,jb,jc,ja,jk,jh,bJ,aY,jH he,hr,dO,sZ,aB,aA,bD,jS hx];cases h2:x.aLV==2
    ·simp only [go_sem,jb,jc,ja,jk,jh,bJ,aY,jH he,h2,dM,sZ]
     exact ⟨j+1,⟨bJ,λh=>by simp [h] at h2⟩,(jy [300,400] (by simp only [go_sem,jb,jc,ja,jk,jh,hs]<;>trivial)),by (try dsimp only);omega⟩
    have bI:x.aLV=2:=by simpa using h2
    cases hp:e.aMC !=r.aLW.aMC
    ·have nA:e.aMC=r.aLW.aMC:=by simpa using hp
     simp only [go_sem,jb,jc,ja,jk,jh,bJ,aY,jH he,h2,hp,dM,sZ];exact ⟨j+1,⟨bJ,λ_ e2 cB h3 h4=>by rw [aMT,he] at cB;rcases aMN.1 cB with cB|cB;exact eA bI e2 cB h3 h4;simp at cB;subst cB;exact nA⟩,(jy [300,400] (by simp only [go_sem,jb,jc,ja,jk,jh,hs]<;>trivial)),by (try dsimp only);omega⟩
    ·have hb:zB y r l=false:=jdE λh=>by
      have:=((h k x hx).1 bI).1 e (aMJ he) bE n8;simp [this] at hp
     simp only [go_sem,jb,jc,ja,jk,jh,bJ,aY,jH he,h2,hp,hb]
  as_aux_lemma=>
   have aY:¬(j:Int)<l.length:=by omega
   rw [aMO (by omega)] at eA
   rw [aMO (by omega)]
   have l5:jjx y r l k x->∀(t:Nat) (z:Tk),t<k+1->r.aLT[t]?=some z->jjx y r l t z:=λh t z ht hz=>by
    rcases Nat.lt_or_ge t k with h'|h'
    ·exact cM t z h' hz
    ·obtain rfl:t=k:=by omega
     rw [hx] at hz;cases hz;exact h
   cases h2:x.aLV==2;rotate_left
   ·have bI:x.aLV=2:=by simpa using h2
    have h3:(x.aLV==3)=false:=by simp [bI]
    cases hc:((jaj r.id k l:Nat):Int) !=1
    ·as_aux_lemma=>
      have hc':jaj r.id k l=1:=by have:((jaj r.id k l:Nat):Int)=1:=by simpa only [bne_eq_false_iff_eq] using hc
                                  omega
      simp only [go_sem,jb,jc,ja,jk,jh,aY,aB,aA,bD,jS hx,h2,hc,h3,hw];exact ⟨k+1,⟨aB,l5 ⟨λ_=>⟨eA bI,hc'⟩,λh=>by omega⟩⟩,(jy [300,400] (by simp only [go_sem,jb,jc,ja,jk,jh]<;>trivial)),by (try dsimp only);omega⟩
    ·as_aux_lemma=>
      have hb:zB y r l=false:=jdE λh=>by
       have:=((h k x hx).1 bI).2;rw [this] at hc;cases hc
      simp only [go_sem,jb,jc,ja,jk,jh,aY,aB,aA,bD,jS hx,h2,hc,hb]
   ·have bI:¬x.aLV=2:=by simpa using h2
    cases h3:x.aLV==3
    ·as_aux_lemma=>
      have i8:¬x.aLV=3:=by simpa using h3
      simp only [go_sem,jb,jc,ja,jk,jh,aY,aB,aA,bD,jS hx,h2,h3,hw];exact ⟨k+1,⟨aB,l5 ⟨λh=>absurd h bI,λh=>absurd h i8⟩⟩,(jy [300,400] (by simp only [go_sem,jb,jc,ja,jk,jh]<;>trivial)),by (try dsimp only);omega⟩
    ·have i8:x.aLV=3:=by simpa using h3
     as_aux_lemma=>
      simp only [go_sem,jb,jc,ja,jk,jh,aY,aB,aA,bD,jS hx,h2,h3,lV,sY];refine jn (jJ x.til (y.now+1) (y.now+r.aLW.aMF)) (by simp only [go_sem,jb,jc,ja,jk,jh,lV,sY]) λη=>?_
      simp only [go_sem,jb,jc,ja,jk,jh,lV,sY];cases ht:decide (y.now+1<=x.til/\x.til<=y.now+r.aLW.aMF)
      ·have hb:zB y r l=false:=jdE λh=>by
        have:=(h k x hx).2 i8;simp [this] at ht
       simp only [go_sem,jb,jc,ja,jk,jh,ht,hb]
      ·have dK:y.now+1<=x.til/\x.til<=y.now+r.aLW.aMF:=aNS ht
       simp only [go_sem,jb,jc,ja,jk,jh,ht,hw];exact ⟨k+1,⟨aB,l5 ⟨λh=>absurd h bI,λ_=>dK⟩⟩,(jy [300,400] (by simp only [go_sem,jb,jc,ja,jk,jh]<;>trivial)),by (try dsimp only);omega⟩
 have aA:¬(k:Int)<r.aLT.length:=by omega
 have hb:zB y r l=true:=jfH λt x hx=>cM t x (by have:=(aMI.1 hx).1;omega) hx
 simp only [go_sem,jb,jc,ja,jk,jh,aA,hb]
theorem jmU (y:Yd) (r:Rn) (l:List En) (hl:l.length<=4000000) (ht:r.aLT.length<=4000000) (hy:0<=y.now/\y.now<=999999980) (lU:1<=r.aLW.aMF/\r.aLW.aMF<=20):kg Tryz.prog 82 [.agg (jb y),.agg (jc r),.c (ji l)] (.c (.val (.bool (zB y r l)))):=by
 refine pf_ jiR ?_;unfold jgM;have lV:IntKind.i64.wrap (y.now+1)=y.now+1:=zy;have sY:IntKind.i64.wrap (y.now+r.aLW.aMF)=y.now+r.aLW.aMF:=zy;simp only [go_sem,jb,jc,ja,jk,jh];intro b3 b4;refine vo (λi:Nat=>St.of [(2,Ro (ji l)),(3,Bx 300 b3),(4,Bx 400 b4),(13,Ro (jC r.aLT)),(14,Ni r.aLT.length),(15,Ni i)] [(300,Bi b3 _ (jb y)),(400,Bi b4 _ (jc r))]) (λi=>i<=r.aLT.length/\∀(t:Nat) (x:Tk),t<i->r.aLT[t]?=some x->jjx y r l t x) (λi=>r.aLT.length-i) 0 (jy [300,400] (by simp only [go_sem,jb,jc,ja,jk,jh]<;>trivial)) ?_
 rintro k ⟨hk,cM⟩;by_cases aB:k<r.aLT.length
 ·have aA:(k:Int)<r.aLT.length:=by omega
  have bD:=qT k;obtain ⟨x,hx⟩:=jd aB;have hw:=kX k;simp only [go_sem,jb,jc,ja,jk,jh,aB,aA,jS hx];intro b8;refine vo (λi:Nat=>St.of [(2,Ro (ji l)),(3,Bx 300 b3),(4,Bx 400 b4),(7,Ni k),(8,Bx 800 b8),(9,Ni (jaj r.id k (l.take i))),(13,Ro (jC r.aLT)),(14,Ni r.aLT.length),(15,Ni k),(20,Ro (ji l)),(21,Ni l.length),(22,Ni i)] [(300,Bi b3 _ (jb y)),(400,Bi b4 _ (jc r)),(800,Bi b8 _ (jk x))]) (λi=>i<=l.length/\(x.aLV=2->∀e∈l.take i,e.run=r.id->e.aMA=k->e.aMC=r.aLW.aMC)) (λi=>l.length-i) 0 (jy [300,400,800] (by simp only [go_sem,jb,jc,ja,jk,jh,aNM,jaj,List.filter_nil,aOM]<;>trivial)) ?_
  rintro j ⟨hj,eA⟩;by_cases bJ:j<l.length
  ·as_aux_lemma=>
    have aY:(j:Int)<l.length:=by omega
    obtain ⟨e,he⟩:=jd bJ;have dM:=kX j;have dG:=jwc (l.take j) r.id k;rw [aMP] at dG;have sZ:IntKind.i64.wrap ((jaj r.id k (l.take j):Int)+1)=((jaj r.id k (l.take j)+1:Nat):Int):=zy
    have cQ:¬(e.run=r.id/\e.aMA=k)->(x.aLV=2->∀e∈l.take (j+1),e.run=r.id->e.aMA=k->e.aMC=r.aLW.aMC):=λd7 h2 e2 cB h3 h4=>by
     rw [aMT,he] at cB;rcases aMN.1 cB with cB|cB
     ·exact eA h2 e2 cB h3 h4
     ·simp at cB;subst cB;exact absurd ⟨h3,h4⟩ d7
    simp only [go_sem,jb,jc,ja,jk,jh,bJ,aY,jH he];intro b11;cases hr:e.run==r.id
    ·have hs:=jnv (id:=r.id) (t:=k) he (λh=>by have:=h.1;simp [this] at hr)
     simp only [go_sem,jb,jc,ja,jk,jh,bJ,aY,jH he,hr,dM];exact ⟨j+1,⟨bJ,cQ (λh=>by have:=h.1;simp [this] at hr)⟩,(jy [300,400,800] (by simp only [go_sem,jb,jc,ja,jk,jh,hs]<;>trivial)),by (try dsimp only);omega⟩
    have bE:e.run=r.id:=by simpa using hr
    cases dO:e.aMA==(k:Int)
    ·have hs:=jnv (id:=r.id) (t:=k) he (λh=>by have:=h.2;simp [this] at dO)
     simp only [go_sem,jb,jc,ja,jk,jh,bJ,aY,jH he,hr,dO,dM];exact ⟨j+1,⟨bJ,cQ (λh=>by have:=h.2;simp [this] at dO)⟩,(jy [300,400,800] (by simp only [go_sem,jb,jc,ja,jk,jh,hs]<;>trivial)),by (try dsimp only);omega⟩
    have n8:e.aMA=k:=by simpa using dO
    have hs:=jrX he bE n8;simp only [go_sem,jb,jc,ja,jk,jh,bJ,aY,jH he,hr,dO,sZ,aB,aA,bD];cases h2:x.aLV==2
    ·simp only [go_sem,jb,jc,ja,jk,jh,bJ,aY,jH he,h2,dM,sZ]
     exact ⟨j+1,⟨bJ,λh=>by simp [h] at h2⟩,(jy [300,400,800] (by simp only [go_sem,jb,jc,ja,jk,jh,hs]<;>trivial)),by (try dsimp only);omega⟩
    have bI:x.aLV=2:=by simpa using h2
    cases hp:e.aMC !=r.aLW.aMC
    ·have nA:e.aMC=r.aLW.aMC:=by simpa using hp
     simp only [go_sem,jb,jc,ja,jk,jh,bJ,aY,jH he,h2,hp,dM,sZ];exact ⟨j+1,⟨bJ,λ_ e2 cB h3 h4=>by rw [aMT,he] at cB;rcases aMN.1 cB with cB|cB;exact eA bI e2 cB h3 h4;simp at cB;subst cB;exact nA⟩,(jy [300,400,800] (by simp only [go_sem,jb,jc,ja,jk,jh,hs]<;>trivial)),by (try dsimp only);omega⟩
    ·have hb:zB y r l=false:=jdE λh=>by
      have:=((h k x hx).1 bI).1 e (aMJ he) bE n8;simp [this] at hp
     simp only [go_sem,jb,jc,ja,jk,jh,bJ,aY,jH he,h2,hp,hb]
  as_aux_lemma=>
   have aY:¬(j:Int)<l.length:=by omega
   rw [aMO (by omega)] at eA
   rw [aMO (by omega)]
   have l5:jjx y r l k x->∀(t:Nat) (z:Tk),t<k+1->r.aLT[t]?=some z->jjx y r l t z:=λh t z ht hz=>by
    rcases Nat.lt_or_ge t k with h'|h'
    ·exact cM t z h' hz
    ·obtain rfl:t=k:=by omega
     rw [hx] at hz;cases hz;exact h
   simp only [go_sem,jb,jc,ja,jk,jh,aY,aB,aA,bD];cases h2:x.aLV==2;rotate_left
   ·have bI:x.aLV=2:=by simpa using h2
    have h3:(x.aLV==3)=false:=by simp [bI]
    cases hc:((jaj r.id k l:Nat):Int) !=1
    ·have hc':jaj r.id k l=1:=by have:((jaj r.id k l:Nat):Int)=1:=by simpa only [bne_eq_false_iff_eq] using hc
                                 omega
     simp only [go_sem,jb,jc,ja,jk,jh,h2,hc,h3,hw,aB,aA,bD];exact ⟨k+1,⟨aB,l5 ⟨λ_=>⟨eA bI,hc'⟩,λh=>by omega⟩⟩,(jy [300,400] (by simp only [go_sem,jb,jc,ja,jk,jh]<;>trivial)),by (try dsimp only);omega⟩
    ·have hb:zB y r l=false:=jdE λh=>by
      have:=((h k x hx).1 bI).2;rw [this] at hc;cases hc
     simp only [go_sem,jb,jc,ja,jk,jh,h2,hc,hb]
   ·have bI:¬x.aLV=2:=by simpa using h2
    cases h3:x.aLV==3
    ·have i8:¬x.aLV=3:=by simpa using h3
     simp only [go_sem,jb,jc,ja,jk,jh,h2,h3,hw,aB,aA,bD];exact ⟨k+1,⟨aB,l5 ⟨λh=>absurd h bI,λh=>absurd h i8⟩⟩,(jy [300,400] (by simp only [go_sem,jb,jc,ja,jk,jh]<;>trivial)),by (try dsimp only);omega⟩
    ·have i8:x.aLV=3:=by simpa using h3
     simp only [go_sem,jb,jc,ja,jk,jh,h2,h3,lV,sY,aB,aA,bD];refine jn (jE x.til (y.now+1) (y.now+r.aLW.aMF)) (by simp only [go_sem,jb,jc,ja,jk,jh,lV,sY]) λη=>?_
     simp only [go_sem,jb,jc,ja,jk,jh,lV,sY];cases ht:decide (y.now+1<=x.til/\x.til<=y.now+r.aLW.aMF)
     ·have hb:zB y r l=false:=jdE λh=>by
       have:=(h k x hx).2 i8;simp [this] at ht
      simp only [go_sem,jb,jc,ja,jk,jh,ht,hb]
     ·have dK:y.now+1<=x.til/\x.til<=y.now+r.aLW.aMF:=aNS ht
      simp only [go_sem,jb,jc,ja,jk,jh,ht,hw];exact ⟨k+1,⟨aB,l5 ⟨λh=>absurd h bI,λ_=>dK⟩⟩,(jy [300,400] (by simp only [go_sem,jb,jc,ja,jk,jh]<;>trivial)),by (try dsimp only);omega⟩
 have aA:¬(k:Int)<r.aLT.length:=by omega
 have hb:zB y r l=true:=jfH λt x hx=>cM t x (by have:=(aMI.1 hx).1;omega) hx
 simp only [go_sem,jb,jc,ja,jk,jh,aA,hb]
def jbP:C:=iS [iA 1 (.box 27 4 (.t 0)),aO 2 false] (.seq (iS [aF 7 2 1,aL 8 7,aG 9 8,aQ 10 .neq 3 9 4] (iD 10 (iS [aO 2 false] .ret) .skip)) (.seq (iS [aN 3 0] (.blk 0 (.loop (.seq (iS [aM 11 3,aF 12 2 1,aL 13 12,aG 14 13,aP 15 .lss 3 11 14] (iD 15 .skip (.exit 0))) (.seq (.blk 1 (iS [aF 18 2 1,aL 19 18,aM 20 3,aI 21 1 19 20,aL 22 21,iA 23 (iK 177 [22]),aU 24 23] (iD 24 (iS [aO 2 false] .ret) .skip))) (.reg [aM 16 3,aQ 17 .add 3 16 1,aM 3 17])))))) (iS [aT 25 4 1,iA 26 (iK 74 [25]),aM 4 26] (.seq (iS [aN 5 0] (.blk 2 (.loop (.seq (iS [aM 27 5,aM 28 4,aG 29 28,aP 30 .lss 3 27 29] (iD 30 .skip (.exit 2))) (.seq (.blk 3 (.seq (.seq (.dreg (tA 0 33 (iM 4) (tA 1 34 (iM 5) (tA 2 35 (iI 4 33 34) (tA 3 36 (iF 1 35) (tA 4 37 (iL 36) (tA 5 38 (iF 1 1) (tA 6 39 (iL 38) (tA 7 40 (iQ .sub 3 39 1) (tC 41 (.call 68 [.t 37,oI 1,.t 40]) [] (tA 9 42 (iU 41) .done) .stop)))))))))) (iD 42 (iS [aO 2 false] .ret) .skip)) (iS [aN 6 0] (.blk 4 (.loop (.seq (iS [aM 43 6,aM 44 5,aP 45 .lss 3 43 44] (iD 45 .skip (.exit 4))) (.seq (.blk 5 (.seq (.dreg (tA 0 48 (iM 4) (tA 1 49 (iM 6) (tA 2 50 (iI 4 48 49) (tA 3 51 (iF 1 50) (tA 4 52 (iL 51) (tA 5 53 (iM 4) (tA 6 54 (iM 5) (tA 7 55 (iI 4 53 54) (tA 8 56 (iF 1 55) (tA 9 57 (iL 56) (tA 10 58 (iP .eql 3 52 57) .done)))))))))))) (iD 58 (iS [aO 2 false] .ret) .skip))) (.reg [aM 46 6,aQ 47 .add 3 46 1,aM 6 47])))))))) (.reg [aM 31 5,aQ 32 .add 3 31 1,aM 5 32])))))) (iS [aO 2 true] .ret)))))
theorem jdZ:fnC Tryz.prog Tryz.f129=some (jbP,[.t 2],59):=by kernel_rfl
def jgB:C:=iS [iA 1 (.box 27 4 (.t 0)),aO 2 false] (.seq (iS [aF 6 0 1,aL 7 6,iA 8 (.call 68 [.t 7,oI 0,oI 999999980]),aU 9 8,aM 10 9,iB 11 10 false (iF 1 1),iB 12 10 false (iL 11),iB 13 10 false (.call 68 [.t 12,oI 1,oI 1000000000]),iB 14 10 false (iU 13),iA 15 (iY 10 (oT) (.t 14)),aM 16 15,iB 17 16 false (iF 3 1),iB 18 16 false (iL 17),iB 19 16 false (iG 18),iB 20 16 false (iQ .gtr 3 19 8),iA 21 (iY 16 (oT) (.t 20)),aM 22 21,iB 23 22 false (iT 4 1),iB 24 22 false (iK 129 [23]),iB 25 22 false (iU 24),iA 26 (iY 22 (oT) (.t 25))] (iD 26 (iS [aO 2 false] .ret) .skip)) (.seq (iS [aN 3 0] (.blk 0 (.loop (.seq (iS [aM 27 3,aF 28 3 1,aL 29 28,aG 30 29,aP 31 .lss 3 27 30] (iD 31 .skip (.exit 0))) (.seq (.blk 1 (.seq (.dreg (tA 0 34 (iF 3 1) (tA 1 35 (iL 34) (tA 2 36 (iM 3) (tA 3 37 (iI 8 35 36) (tA 4 38 (iT 8 37) (tC 39 (iK 130 [38]) [] (tA 6 40 (iU 39) (tA 7 41 (iM 40) (tB 8 42 41 false (iT 4 1) (tB 9 43 41 false (iF 3 1) (tB 10 44 41 false (iL 43) (tB 11 45 41 false (iM 3) (tB 12 46 41 false (iI 8 44 45) (tB 13 47 41 false (iF 0 46) (tB 14 48 41 false (iL 47) (tB 16 50 41 false (iM 3) (.alt (iB 49 41 false (iK 26 [42,48])) [16] (tB 17 51 41 false (iP .neq 3 49 50) (tA 18 52 (iY 41 (oT) (.t 51)) .done)) .stop))))))))))) .stop))))))) (iD 52 (iS [aO 2 false] .ret) .skip))) (.reg [aM 32 3,aQ 33 .add 3 32 1,aM 3 33])))))) (iS [aT 53 4 1,iA 54 (iK 74 [53]),aM 4 54] (.seq (iS [aN 5 0] (.blk 2 (.loop (.seq (iS [aM 55 5,aF 56 3 1,aL 57 56,aG 58 57,aP 59 .lss 3 55 58] (iD 59 .skip (.exit 2))) (.seq (.blk 3 (.seq (.dreg (tA 0 62 (iT 4 1) (tA 1 63 (iF 3 1) (tA 2 64 (iL 63) (tA 3 65 (iM 5) (tA 4 66 (iI 8 64 65) (tA 5 67 (iT 8 66) (tA 6 68 (iM 4) (tC 69 (iK 131 [62,67,68]) [] (tA 8 70 (iU 69) .done) .stop))))))))) (iD 70 (iS [aO 2 false] .ret) .skip))) (.reg [aM 60 5,aQ 61 .add 3 60 1,aM 5 61])))))) (iS [aT 71 4 1,iA 72 (iK 132 [71]),aQ 73 .leq 3 72 40,aM 2 73] .ret)))))
theorem jiG:fnC Tryz.prog Tryz.f66=some (jgB,[.t 2],74):=by kernel_rfl
def jgP:C:=iS [iA 1 (.box 27 4 (.t 0)),aO 2 false] (.seq (iS [aF 11 0 1,aL 12 11,iA 13 (.call 62 [.t 12,oI 0,oI 999999980]),aU 14 13,aM 15 14,iB 16 15 false (iF 1 1),iB 17 15 false (iL 16),iB 18 15 false (.call 62 [.t 17,oI 1,oI 1000000000]),iB 19 15 false (iU 18),iA 20 (iY 15 (oT) (.t 19)),aM 21 20,iB 22 21 false (iF 2 1),iB 23 21 false (iL 22),iB 24 21 false (iG 23),iB 25 21 false (iQ .neq 3 24 4),iA 26 (iY 21 (oT) (.t 25)),aM 27 26,iB 28 27 false (iF 3 1),iB 29 27 false (iL 28),iB 30 27 false (iG 29),iB 31 27 false (iQ .gtr 3 30 8),iA 32 (iY 27 (oT) (.t 31))] (iD 32 (iS [aO 2 false] .ret) .skip)) (.seq (iS [aF 33 2 1,aL 34 33,aG 35 34,aN 36 0] (.blk 0 (.loop (iS [aP 37 .lss 3 36 35] (.seq (iD 37 .skip (.exit 0)) (.seq (.blk 1 (iS [aI 38 1 34 36,aL 39 38,aM 4 39] (iS [aM 40 4,iA 41 (iK 78 [40]),aU 42 41] (iD 42 (iS [aO 2 false] .ret) .skip)))) (.reg [aQ 43 .add 3 36 1,aM 36 43]))))))) (iS [aT 44 4 1,iA 45 (iK 79 [44]),aM 5 45] (iS [iA 6 (.mov (.c (.slice none 0 0)))] (.seq (iS [aM 46 5,aG 47 46,aN 48 0] (.blk 2 (.loop (iS [aP 49 .lss 3 48 47] (.seq (iD 49 .skip (.exit 2)) (.seq (.blk 3 (iS [aI 50 4 46 48,aT 51 4 50,iA 8 wAP,wAB 8 51] (.seq (iS [aF 52 1 8,aL 53 52,aF 54 1 1,aL 55 54,aQ 56 .sub 3 55 1,iA 57 (.call 62 [.t 53,oI 1,.t 56]),aU 58 57,aM 59 58,iB 60 59 false (iM 6),iB 61 59 false (iF 1 8),iB 62 59 false (iL 61),iB 63 59 false (iK 80 [60,62]),iA 64 (iY 59 (oT) (.t 63))] (iD 64 (iS [aO 2 false] .ret) .skip)) (.reg [aM 65 6,aF 66 1 8,aL 67 66,iA 68 (wAW [(0,1,.t 67)]),iA 69 (wA3 65 68),aM 6 69])))) (.reg [aQ 70 .add 3 48 1,aM 48 70]))))))) (.seq (iS [aF 71 3 1,aL 72 71,aG 73 72,aN 74 0] (.blk 4 (.loop (iS [aP 75 .lss 3 74 73] (.seq (iD 75 .skip (.exit 4)) (.seq (.blk 5 (iS [aM 76 74,aI 77 8 72 74,aT 78 8 77,iA 10 wAL,aM 9 76,wAC 10 78] (iS [aT 79 8 10,iA 80 (iK 81 [79]),aU 81 80,aM 82 81,iB 83 82 false (iT 4 1),iB 84 82 false (iF 0 10),iB 85 82 false (iL 84),iB 86 82 false (iK 25 [83,85]),iB 87 82 false (iM 9),iB 88 82 false (iP .neq 3 86 87),iA 89 (iY 82 (oT) (.t 88)),aM 90 89,iB 91 90 false (iT 4 1),iB 92 90 false (iT 8 10),iB 93 90 false (iM 5),iB 94 90 false (iK 82 [91,92,93]),iB 95 90 false (iU 94),iA 96 (iY 90 (oT) (.t 95))] (iD 96 (iS [aO 2 false] .ret) .skip)))) (.reg [aQ 97 .add 3 74 1,aM 74 97]))))))) (iS [aT 98 4 1,iA 99 (iK 21 [98]),aQ 100 .leq 3 99 40,aM 2 100] .ret)))))))
theorem jiU:fnC Tryz.prog Tryz.f18=some (jgP,[.t 2],101):=by kernel_rfl
theorem qr (y:Yd) (id:Int):kg Tryz.prog 26 [.agg (jb y),.c (.val (.int .i64 id))] (.c (.val (.int .i64 (runAt y id)))):=jpV ⟨_,Tryz.func26,by kernel_rfl,by kernel_rfl⟩ λw a b ⟨S,ha⟩ hb=>by rw [jba hb];exact jbb y id a S w false ha
theorem qg (y:Yd) (id:Int):kg Tryz.prog 25 [.agg (jb y),.c (.val (.int .i64 id))] (.c (.val (.int .i64 (runAt y id)))):=jpV ⟨_,Tryz.func25,by kernel_rfl,by kernel_rfl⟩ λw a b ⟨S,ha⟩ hb=>by rw [jba hb];exact jbg y id a S w false ha
theorem jkV (y:Yd) (ht:jt y<=2000000):kg Tryz.prog 132 [.agg (jb y)] (.c (.val (.int .i64 (kw y)))):=jB1 ⟨_,Tryz.func132,by kernel_rfl,by kernel_rfl⟩ λw a ⟨S,ha⟩=>jlD y a S w false ha ht
theorem jk2 (y:Yd) (ht:jt y<=2000000):kg Tryz.prog 21 [.agg (jb y)] (.c (.val (.int .i64 (kw y)))):=jB1 ⟨_,Tryz.func21,by kernel_rfl,by kernel_rfl⟩ λw a ⟨S,ha⟩=>jl1 y a S w false ha ht
structure jjt (y:Yd):Prop where
 four:y.aLU.length=4
 shelves:∀l∈y.aLU,jir l
 seqs:SeqP y.seq y.aLU.flatten
open Classical in
noncomputable def vz (y:Yd):Bool:=decide (jjt y)
theorem jjD {y:Yd} (h:jjt y):vz y=true:=by simp [vz,h]
theorem jdC {y:Yd} (h:¬jjt y):vz y=false:=by simp [vz,h]
theorem shelves_iff {y:Yd}:vz y=true↔jjt y:=by simp [vz]
theorem jnU {y:Yd} (ht:jt y<=2000000) {l:List En} (h:l∈y.aLU):l.length<=4000000:=by
 obtain ⟨k,hk,rfl⟩:=aNO h;have h1:=jka (aMK hk);have h2:=jc3 y.aLU (k+1);have h3:=zH ht;rw [h1,aMR] at h2;omega
theorem jhh (y:Yd) (ht:jt y<=2000000) (hq:1<=y.seq/\y.seq<=1000000000):kg Tryz.prog 129 [.agg (jb y)] (.c (.val (.bool (vz y)))):=by
 refine pf_ jdZ ?_;unfold jbP;have hsf:=zH ht;have mY:IntKind.i64.wrap (y.seq-1)=y.seq-1:=zy;simp only [go_sem,jb];intro b;cases h4:(y.aLU.length:Int) !=4;rotate_left
 ·have hb:vz y=false:=jdC λh=>by have:=h.four;rw [this] at h4;cases h4
  simp only [go_sem,jb,h4,hb]
 have rQ:y.aLU.length=4:=by have:(y.aLU.length:Int)=4:=by simpa only [bne_eq_false_iff_eq] using h4
                            omega
 simp only [go_sem,jb,h4];refine vo (λi:Nat=>St.of [(1,Bx 100 b),(3,Ni i)] [(100,Bi b _ (jb y))]) (λi=>i<=y.aLU.length/\∀l∈y.aLU.take i,jir l) (λi=>y.aLU.length-i) 0 (jy [100] (by simp only [go_sem,jb]<;>trivial)) ?_
 rintro k ⟨hk,cM⟩;by_cases aB:k<y.aLU.length
 ·have aA:(k:Int)<y.aLU.length:=by omega
  obtain ⟨l,hl⟩:=jd aB;have iX:=aMJ hl;have hw:=kX k;simp only [go_sem,jb,aB,aA,kY hl];refine jx (jkW l (jnU ht iX)) λη=>?_
  simp only [go_sem,jb];cases hs:jar l
  ·have hb:vz y=false:=jdC λh=>by have:=jfE (h.shelves l iX);rw [hs] at this;cases this
   simp only [go_sem,jb,hs,hb]
  ·simp only [go_sem,jb,hs,hw]
   exact ⟨k+1,⟨aB,λl2 h2=>by rw [aMT,hl] at h2;rcases aMN.1 h2 with h2|h2;exact cM l2 h2;simp at h2;subst h2;exact shelf_iff.1 hs⟩,(jy [100] (by simp only [go_sem,jb]<;>trivial)),by (try dsimp only);omega⟩
 have aA:¬(k:Int)<y.aLU.length:=by omega
 rw [aMO (by omega)] at cM
 simp only [go_sem,jb,aA];refine jx (jbI y ht) λlP=>?_
 simp only [go_sem,jb];generalize hF:y.aLU.flatten=F at*;refine vo (λi:Nat=>St.of [(1,Bx 100 b),(4,Hd 4 (lP 0)),(5,Ni i)] [(100,Bi b _ (jb y)),(4,.loose (ji F) (lP 0))]) (λi=>i<=F.length/\(∀e∈F.take i,1<=e.seq/\e.seq<=y.seq-1)/\((F.take i).map (·.seq)).Nodup) (λi=>F.length-i) 0 (jy [100,2600] (by simp only [go_sem,jb]<;>trivial)) ?_
 rintro j ⟨hj,eA,sH⟩;by_cases bJ:j<F.length
 ·have aY:(j:Int)<F.length:=by omega
  have dU:=qT j;obtain ⟨e,he⟩:=jd bJ;have hw:=kX j;simp only [go_sem,jb,bJ,aY,dU,jpr he,joP he,mY];refine jx (jJ e.seq 1 (y.seq-1)) λη=>?_
  simp only [go_sem,jb];cases hr:decide (1<=e.seq/\e.seq<=y.seq-1)
  ·have hb:vz y=false:=jdC λh=>by
    have:=h.seqs.range e (by rw [hF];exact aMJ he)
    simp [this] at hr
   simp only [go_sem,jb,hr,hb]
  have bE:1<=e.seq/\e.seq<=y.seq-1:=aNS hr;simp only [go_sem,jb,hr];refine vo (λi:Nat=>St.of [(1,Bx 100 b),(4,Hd 4 (lP 0)),(5,Ni j),(6,Ni i)] [(100,Bi b _ (jb y)),(4,.loose (ji F) (lP 0))]) (λi=>i<=j/\∀e2∈F.take i,e2.seq≠e.seq) (λi=>j-i) 0 (jy [100,4] (by simp only [go_sem,jb]<;>trivial)) ?_
  rintro m ⟨hm,sC⟩;by_cases d9:m<j
  ·have fL:(m:Int)<j:=by omega
   have z7:=qT m;have tN:m<F.length:=by omega
   obtain ⟨e2,cB⟩:=jd tN;have hwm:=kX m;cases mJ:e2.seq==e.seq
   ·have tG:¬e2.seq=e.seq:=by simpa using mJ
    simp only [go_sem,jb,fL,tN,z7,bJ,dU,jpr he,joP he,jpr cB,joP cB,mJ,hwm];exact ⟨m+1,⟨d9,λe3 h3=>by rw [aMT,cB] at h3;rcases aMN.1 h3 with h3|h3;exact sC e3 h3;simp at h3;subst h3;exact tG⟩,(jy [100,4] (by simp only [go_sem,jb]<;>trivial)),by (try dsimp only);omega⟩
   ·have tG:e2.seq=e.seq:=by simpa using mJ
    have hb:vz y=false:=jdC λh=>jux he d9 cB tG (by rw [<-hF];exact h.seqs.apart)
    simp only [go_sem,jb,fL,tN,z7,bJ,dU,jpr he,joP he,jpr cB,joP cB,mJ,hb]
  ·have fL:¬(m:Int)<j:=by omega
   obtain rfl:m=j:=by omega
   simp only [go_sem,jb,fL,hw];exact ⟨m+1,⟨bJ,λe2 h2=>by rw [aMT,he] at h2;rcases aMN.1 h2 with h2|h2;exact eA e2 h2;simp at h2;subst h2;exact bE,juw he sH sC⟩,(jy [100,4] (by simp only [go_sem,jb]<;>trivial)),by (try dsimp only);omega⟩
 have aY:¬(j:Int)<F.length:=by omega
 rw [aMO (by omega)] at eA sH
 have hb:vz y=true:=jjD ⟨rQ,cM,by rw [hF];exact ⟨eA,sH⟩⟩
 simp only [go_sem,aY,hb]
theorem qq (y:Yd) (ht:jt y<=2000000):kg Tryz.prog 66 [.agg (jb y)] (.c (.val (.bool (jw y)))):=by
 refine pf_ jiG ?_;unfold jgB;have hsf:=zH ht;have bZ:=jg7 ht;simp only [go_sem,jb];intro b;refine jx (jJ y.now 0 999999980) λη=>?_
 simp only [go_sem,jb];cases h1:decide (0<=y.now/\y.now<=999999980)
 ·have hb:jw y=false:=qX λh=>by have:=h.now;simp [this] at h1
  simp only [go_sem,jb,h1,hb]
 have gW:=aNS h1;simp only [go_sem,jb,h1];refine jx (jJ y.seq 1 1000000000) λη=>?_
 simp only [go_sem,jb];cases h2:decide (1<=y.seq/\y.seq<=1000000000)
 ·have hb:jw y=false:=qX λh=>by have:=h.seq;simp [this] at h2
  simp only [go_sem,jb,h2,hb]
 have pU:=aNS h2;by_cases h8:8<y.aLX.length
 ·have mC:(y.aLX.length:Int)>8:=by omega
  have hb:jw y=false:=qX λh=>by have:=h.eight;omega
  simp only [go_sem,jb,h2,mC,hb]
 have mC:¬(y.aLX.length:Int)>8:=by omega
 simp only [go_sem,jb,h2,mC];refine jx (jhh y ht pU) λη=>?_
 simp only [go_sem,jb];cases fH:vz y
 ·have hb:jw y=false:=qX λh=>by have:=jjD ⟨h.four,h.shelves,h.seqs⟩;rw [fH] at this;cases this
  simp only [go_sem,jb,fH,hb]
 have tF:=shelves_iff.1 fH;simp only [go_sem,jb,fH];refine vo (λi:Nat=>St.of [(1,Bx 100 b),(3,Ni i)] [(100,Bi b _ (jb y))]) (λi=>i<=y.aLX.length/\∀(k:Nat) (r:Rn),k<i->y.aLX[k]?=some r->RunOkP r/\runAt y r.id=k) (λi=>y.aLX.length-i) 0 (jy [100] (by simp only [go_sem,jb]<;>trivial)) ?_
 rintro k ⟨hk,cM⟩;by_cases aB:k<y.aLX.length
 ·have aA:(k:Int)<y.aLX.length:=by omega
  obtain ⟨r,hr⟩:=jd aB;have hw:=kX k;simp only [go_sem,jb,aB,aA,jU hr,jc,ja];refine jx (jcV r) λη=>?_
  simp only [go_sem,jb,jc,ja];cases hs:kO r
  ·have hb:jw y=false:=qX λh=>by have:=runOk_iff.2 (h.right r (aMJ hr));rw [hs] at this;cases this
   simp only [go_sem,jb,hs,hb]
  simp only [go_sem,jb,hs,aB,aA,jU hr,jc,ja];refine jx (qr y r.id) λη=>?_
  simp only [go_sem,jb];cases eD:runAt y r.id !=(k:Int)
  ·have t6:runAt y r.id=k:=by simpa using eD
   simp only [go_sem,jb,eD,hw];exact ⟨k+1,⟨aB,λk2 r2 h2 cL=>by rcases Nat.lt_or_ge k2 k with h'|h';exact cM k2 r2 h' cL;obtain rfl:k2=k:=(by omega);rw [hr] at cL;cases cL;exact ⟨runOk_iff.1 hs,t6⟩⟩,(jy [100] (by simp only [go_sem,jb]<;>trivial)),by (try dsimp only);omega⟩
  ·have hb:jw y=false:=qX λh=>by have:=h.place k r hr;simp [this] at eD
   simp only [go_sem,jb,eD,hb]
 have aA:¬(k:Int)<y.aLX.length:=by omega
 have cK:∀(k:Nat) (r:Rn),y.aLX[k]?=some r->RunOkP r/\runAt y r.id=k:=λk r h=>cM k r (by have:=(aMI.1 h).1;omega) h
 simp only [go_sem,jb,aA];refine jx (jbI y ht) λlP=>?_
 simp only [go_sem,jb];generalize hF:y.aLU.flatten=F at*;refine vo (λi:Nat=>St.of [(1,Bx 100 b),(4,Hd 4 (lP 0)),(5,Ni i)] [(100,Bi b _ (jb y)),(4,.loose (ji F) (lP 0))]) (λi=>i<=y.aLX.length/\∀(k:Nat) (r:Rn),k<i->y.aLX[k]?=some r->jpv y r F) (λi=>y.aLX.length-i) 0 (jy [100,5400] (by simp only [go_sem,jb]<;>trivial)) ?_
 rintro j ⟨hj,eA⟩;by_cases bJ:j<y.aLX.length
 ·have aY:(j:Int)<y.aLX.length:=by omega
  obtain ⟨r,hr⟩:=jd bJ;have hw:=kX j;have uU:=(cK j r hr).1;obtain ⟨n,hn,d8,cC,dS,bV,aX,-,-,lU⟩:=jcH uU.aLW;have aD:=uU.len;simp only [go_sem,jb,bJ,aY,jU hr,jc,ja];refine jx (jmK y r F (by omega) (by omega) gW lU) λη=>?_
  simp only [go_sem,jb,jc,ja];cases hs:zB y r F
  ·have hb:jw y=false:=qX λh=>by have:=jfH (h.aLX r (aMJ hr));rw [hF,hs] at this;cases this
   simp only [go_sem,jb,hs,hb]
  ·simp only [go_sem,jb,hs,hw]
   exact ⟨j+1,⟨bJ,λk2 r2 h2 cL=>by rcases Nat.lt_or_ge k2 j with h'|h';exact eA k2 r2 h' cL;obtain rfl:k2=j:=(by omega);rw [hr] at cL;cases cL;exact runIn_iff.1 hs⟩,(jy [100,4] (by simp only [go_sem,jb]<;>trivial)),by (try dsimp only);omega⟩
 have aY:¬(j:Int)<y.aLX.length:=by omega
 simp only [go_sem,jb,aY];refine jx (jkV y ht) λη=>?_
 simp only [go_sem,jb]
 have hb:jw y=decide (kw y<=40):=by
  by_cases rP:kw y<=40
  ·rw [qF ⟨gW,pU,tF.four,by omega,tF.shelves,tF.seqs,λr hr=>by obtain ⟨k,hk,rfl⟩:=aNO hr;exact (cK k _ (aMK hk)).1,λk r hr=>(cK k r hr).2,λr hr=>by obtain ⟨k,hk,rfl⟩:=aNO hr;rw [hF];exact eA k _ (by omega) (aMK hk),rP⟩]
   simp [rP]
  ·rw [qX λh=>rP h.slots];simp [rP]
 simp only [go_sem,hb]
theorem kJ (y:Yd) (ht:jt y<=2000000):kg Tryz.prog 18 [.agg (jb y)] (.c (.val (.bool (jw y)))):=by
 refine pf_ jiU ?_;unfold jgP;have hsf:=zH ht;have bZ:=jg7 ht;simp only [go_sem,jb];intro b;refine jx (jE y.now 0 999999980) λη=>?_
 simp only [go_sem,jb];cases h1:decide (0<=y.now/\y.now<=999999980)
 ·have hb:jw y=false:=qX λh=>by have:=h.now;simp [this] at h1
  simp only [go_sem,jb,h1,hb]
 have gW:=aNS h1;simp only [go_sem,jb,h1];refine jx (jE y.seq 1 1000000000) λη=>?_
 simp only [go_sem,jb];cases h2:decide (1<=y.seq/\y.seq<=1000000000)
 ·have hb:jw y=false:=qX λh=>by have:=h.seq;simp [this] at h2
  simp only [go_sem,jb,h2,hb]
 have pU:=aNS h2;have mY:IntKind.i64.wrap (y.seq-1)=y.seq-1:=zy;cases h4:(y.aLU.length:Int) !=4;rotate_left
 ·have hb:jw y=false:=qX λh=>by have:=h.four;rw [this] at h4;cases h4
  simp only [go_sem,jb,h2,h4,hb]
 have rQ:y.aLU.length=4:=by have:(y.aLU.length:Int)=4:=by simpa only [bne_eq_false_iff_eq] using h4
                            omega
 by_cases h8:8<y.aLX.length
 ·have mC:(y.aLX.length:Int)>8:=by omega
  have hb:jw y=false:=qX λh=>by have:=h.eight;omega
  simp only [go_sem,jb,h2,h4,mC,hb]
 have mC:¬(y.aLX.length:Int)>8:=by omega
 simp only [go_sem,jb,h2,h4,mC];refine vo (λi:Nat=>St.of [(1,Bx 100 b),(34,Ro (ku y.aLU)),(35,Ni y.aLU.length),(36,Ni i)] [(100,Bi b _ (jb y))]) (λi=>i<=y.aLU.length/\∀l∈y.aLU.take i,jir l) (λi=>y.aLU.length-i) 0 (jy [100] (by simp only [go_sem,jb]<;>trivial)) ?_
 rintro k ⟨hk,cM⟩;by_cases aB:k<y.aLU.length
 ·have aA:(k:Int)<y.aLU.length:=by omega
  obtain ⟨l,hl⟩:=jd aB;have iX:=aMJ hl;have hw:=kX k;simp only [go_sem,jb,aB,aA,kY hl];refine jx (jk3 l (jnU ht iX)) λη=>?_
  simp only [go_sem,jb];cases hs:jar l
  ·have hb:jw y=false:=qX λh=>by have:=jfE (h.shelves l iX);rw [hs] at this;cases this
   simp only [go_sem,jb,hs,hb]
  ·simp only [go_sem,jb,hs,hw]
   exact ⟨k+1,⟨aB,λl2 h2=>by rw [aMT,hl] at h2;rcases aMN.1 h2 with h2|h2;exact cM l2 h2;simp at h2;subst h2;exact shelf_iff.1 hs⟩,(jy [100] (by simp only [go_sem,jb]<;>trivial)),by (try dsimp only);omega⟩
 have aA:¬(k:Int)<y.aLU.length:=by omega
 rw [aMO (by omega)] at cM
 simp only [go_sem,jb,aA];refine jx (jhj y ht) λlP=>?_
 simp only [go_sem,jb];generalize hF:y.aLU.flatten=F at*;refine vo (λi:Nat×jm=>St.of [(1,Bx 100 b),(5,Hd 5 (lP 0)),(6,Hd 6 i.2),(46,Hd 5 (lP 0)),(47,Ni F.length),(48,Ni i.1)] [(100,Bi b _ (jb y)),(5,.loose (ji F) (lP 0)),(6,.loose (je ((F.take i.1).map (·.seq))) i.2)]) (λi=>i.1<=F.length/\(∀e∈F.take i.1,1<=e.seq/\e.seq<=y.seq-1)/\((F.take i.1).map (·.seq)).Nodup) (λi=>F.length-i.1) (0,jcF) (zo [some 100,some 4500,none] (by simp only [go_sem,jb]<;>trivial)) ?_
 rintro ⟨j,v9⟩ ⟨hj,eA,sH⟩;dsimp only at hj eA sH;by_cases bJ:j<F.length
 ·have aY:(j:Int)<F.length:=by omega
  have dU:=qT j;obtain ⟨e,he⟩:=jd bJ;have hw:=kX j;have d9:((F.take j).map (·.seq)).length<=2000000:=by rw [aNT,aMP];omega
  have hmt:(F.take (j+1)).map (·.seq)=(F.take j).map (·.seq)++[e.seq]:=by rw [aMT,he];simp
  generalize hM:(F.take j).map (·.seq)=M at*
  have eI:M.length+1<=maxLen:=by unfold maxLen;omega
  have eC:(M.length+1)*8<=140737488355328:=by omega
  simp only [go_sem,jb,bJ,aY,dU,jtH he,jtj he,jh];intro b8;simp only [go_sem,jb,jh,mY];refine jn (jE e.seq 1 (y.seq-1)) (by simp only [go_sem,jb,jh,mY]) λη=>?_
  simp only [go_sem,jb,jh,mY];cases hr:decide (1<=e.seq/\e.seq<=y.seq-1)
  ·have hb:jw y=false:=qX λh=>by
    have:=h.seqs.range e (by rw [hF];exact aMJ he)
    simp [this] at hr
   simp only [go_sem,jb,hr,hb]
  have bE:1<=e.seq/\e.seq<=y.seq-1:=aNS hr;simp only [go_sem,jb,jh,hr];refine jx (jjW M e.seq (by omega)) λη=>?_
  simp only [go_sem,jb,jh];by_cases dC:e.seq∈M
  ·have hb:jw y=false:=qX λh=>by
    rw [<-hM] at dC;obtain ⟨e2,h3,h4⟩:=aOB.1 dC;obtain ⟨m,hm,rfl⟩:=aNO h3;have nC:m<j:=by rw [aMP] at hm;omega
    rw [List.getElem_take] at h4;exact jux he nC (aMK (by omega)) h4 (by rw [<-hF];exact h.seqs.apart)
   simp only [go_sem,jb,jh,dC,hb]
  ·simp only [go_sem,jb,jh,dC,eI,eC,vC,hw]
   intro bF mF;exact ⟨(j+1,mF),⟨bJ,λe2 h2=>by rw [aMT,he] at h2;rcases aMN.1 h2 with h2|h2;exact eA e2 h2;simp at h2;subst h2;exact bE,juw he (by rw [hM];exact sH) (λe2 h2 h3=>dC (by rw [<-hM];exact aOB.2 ⟨e2,h2,h3⟩))⟩,(jy [100,5,6900] (by simp only [go_sem,jb,hmt]<;>trivial)),by (try dsimp only);omega⟩
 have aY:¬(j:Int)<F.length:=by omega
 rw [aMO (by omega)] at eA sH
 simp only [go_sem,jb,aY];refine vo (λi:Nat=>St.of [(1,Bx 100 b),(5,Hd 5 (lP 0)),(72,Ro (jI y.aLX)),(73,Ni y.aLX.length),(74,Ni i)] [(100,Bi b _ (jb y)),(5,.loose (ji F) (lP 0))]) (λi=>i<=y.aLX.length/\∀(k:Nat) (r:Rn),k<i->y.aLX[k]?=some r->RunOkP r/\runAt y r.id=k/\jpv y r F) (λi=>y.aLX.length-i) 0 (jy [100,5] (by simp only [go_sem,jb]<;>trivial)) ?_
 rintro m ⟨hm,sC⟩;by_cases d9:m<y.aLX.length
 ·have fL:(m:Int)<y.aLX.length:=by omega
  obtain ⟨r,hr⟩:=jd d9;have hw:=kX m
  have hre:r.aLW.aLY.length<=4000000:=by
   have h5:=vK (tot:=kQ) hr;have h6:=jak kQ y.aLX (m+1);have h7:qN kQ y.aLX<=2000000:=by simp only [jt,jac] at ht;omega
   have h8:r.aLW.aLY.length<=kQ r:=by simp only [kQ,jeZ];omega
   omega
  simp only [go_sem,jb,d9,fL,jU hr,jc,ja];intro b10;refine jx (jia r hre) λη=>?_
  simp only [go_sem,jb,jc,ja];cases hs:kO r
  ·have hb:jw y=false:=qX λh=>by have:=runOk_iff.2 (h.right r (aMJ hr));rw [hs] at this;cases this
   simp only [go_sem,jb,hs,hb]
  have uU:=runOk_iff.1 hs;obtain ⟨n,hn,d8,cC,dS,bV,aX,-,-,lU⟩:=jcH uU.aLW;have aD:=uU.len;simp only [go_sem,jb,hs,jc,ja];refine jx (qg y r.id) λη=>?_
  simp only [go_sem,jb,jc,ja];cases eD:runAt y r.id !=(m:Int);rotate_left
  ·have hb:jw y=false:=qX λh=>by have:=h.place m r hr;simp [this] at eD
   simp only [go_sem,jb,eD,hb]
  have t6:runAt y r.id=m:=by simpa using eD
  simp only [go_sem,jb,eD,jc,ja];refine jx (jmU y r F (by omega) (by omega) gW lU) λη=>?_
  simp only [go_sem,jb,jc,ja];cases uT:zB y r F
  ·have hb:jw y=false:=qX λh=>by have:=jfH (h.aLX r (aMJ hr));rw [hF,uT] at this;cases this
   simp only [go_sem,jb,uT,hb]
  ·simp only [go_sem,jb,uT,hw]
   exact ⟨m+1,⟨d9,λk2 r2 h2 cL=>by rcases Nat.lt_or_ge k2 m with h'|h';exact sC k2 r2 h' cL;obtain rfl:k2=m:=(by omega);rw [hr] at cL;cases cL;exact ⟨uU,t6,runIn_iff.1 uT⟩⟩,(jy [100,5] (by simp only [go_sem,jb]<;>trivial)),by (try dsimp only);omega⟩
 have fL:¬(m:Int)<y.aLX.length:=by omega
 have cK:∀(k:Nat) (r:Rn),y.aLX[k]?=some r->RunOkP r/\runAt y r.id=k/\jpv y r F:=λk r h=>sC k r (by have:=(aMI.1 h).1;omega) h
 simp only [go_sem,jb,fL];refine jx (jk2 y ht) λη=>?_
 simp only [go_sem,jb]
 have hb:jw y=decide (kw y<=40):=by
  by_cases rP:kw y<=40
  ·rw [qF ⟨gW,pU,rQ,by omega,cM,by rw [hF];exact ⟨eA,sH⟩,λr hr=>by obtain ⟨k,hk,rfl⟩:=aNO hr;exact (cK k _ (aMK hk)).1,λk r hr=>(cK k r hr).2.1,λr hr=>by obtain ⟨k,hk,rfl⟩:=aNO hr;rw [hF];exact (cK k _ (aMK hk)).2.2,rP⟩]
   simp [rP]
  ·rw [qX λh=>rP h.slots];simp [rP]
 simp only [go_sem,hb]
