/- Parts. -/
import Derived.Test.YtcehjhiglmifjaaGreatQDeedB
set_option linter.all false
set_option maxHeartbeats 8000000
set_option maxRecDepth 100000
namespace Go.Proofs.YtcehjhiglmifjaaGreat
open Go.RowKit Go.Sort
def je7:C:=iS [iA 1 (.box 49 5 (.t 0)),aO 2 false] (iS [aF 3 3 1,aL 4 3,iA 5 (.call 68 [.t 4,oI 1,oI 12]),aU 6 5,aM 7 6,iB 8 7 false (iF 4 1),iB 9 7 false (iL 8),iB 10 7 false (iG 9),iB 11 7 false (iQ .gtr 3 10 30),iA 12 (iY 7 (oT) (.t 11)),aM 13 12,iB 14 13 false (iF 0 1),iB 15 13 false (iL 14),iB 16 13 false (.call 68 [.t 15,oI 0,oI 9]),iB 17 13 false (iU 16),iA 18 (iY 13 (oT) (.t 17)),aM 19 18,iB 20 19 false (iF 1 1),iB 21 19 false (iL 20),iB 22 19 false (.call 68 [.t 21,oI 1,oI 5]),iB 23 19 false (iU 22),iA 24 (iY 19 (oT) (.t 23)),aM 25 24,iB 26 25 false (iF 2 1),iB 27 25 false (iL 26),iB 28 25 false (.call 68 [.t 27,oI 1,oI 20]),iB 29 25 false (iU 28),iA 30 (iY 25 (oT) (.t 29)),aM 2 30] .ret)
theorem jiw:fnC Tryz.prog Tryz.f166=some (je7,[.t 2],31):=by kernel_rfl
def je8:C:=iS [iA 2 (.box 49 5 (.t 0)),iA 4 (.mov (.c (.slice none 0 0)))] (iS [aF 10 3 2,aL 11 10,iA 12 (.mks 4 1 1 [D.val (.bool false)] (.t 11) (.t 11)),aM 5 12] (iS [aM 13 1,iA 14 (wAY [(0,1,.t 13)]),aM 6 14] (.seq (iS [aN 7 0] (.blk 0 (.loop (.seq (iS [aM 15 7,aM 16 6,aG 17 16,aP 18 .lss 3 15 17] (iD 18 .skip (.exit 0))) (.seq (.blk 1 (iS [aN 8 0] (.blk 2 (.loop (.seq (iS [aM 21 8,aF 22 4 2,aL 23 22,aG 24 23,aP 25 .lss 3 21 24] (iD 25 .skip (.exit 2))) (.seq (.blk 3 (iS [aF 28 4 2,aL 29 28,aM 30 8,aI 31 2 29 30,aT 32 2 31,iA 9 wAQ,wAH 9 32] (.seq (.dreg (tA 0 33 (iF 0 9) (tA 1 34 (iL 33) (tA 2 35 (iM 6) (tA 3 36 (iM 7) (tA 4 37 (iI 1 35 36) (tA 5 38 (iL 37) (tA 6 39 (iP .eql 3 34 38) (tA 7 40 (iM 39) (tB 8 41 40 true (iM 5) (tB 9 42 40 true (iF 1 9) (tB 10 43 40 true (iL 42) (tB 11 44 40 true (iI 1 41 43) (tB 12 45 40 true (iL 44) (tB 13 46 40 true (iU 45) (tA 14 47 (iY 40 (.t 46) (oF)) .done)))))))))))))))) (iD 47 (iS [aM 48 5,aF 49 1 9,aL 50 49,aI 51 1 48 50,iC (.st 1 [none] (.t 51) (oT))] (.reg [aM 52 6,aF 53 1 9,aL 54 53,iA 55 (wAY [(0,1,.t 54)]),iA 56 (wA7 52 55),aM 6 56])) .skip)))) (.reg [aM 26 8,aQ 27 .add 3 26 1,aM 8 27]))))))) (.reg [aM 19 7,aQ 20 .add 3 19 1,aM 7 20])))))) (iS [aM 57 5,aM 4 57] .ret))))
theorem jix:fnC Tryz.prog Tryz.f167=some (je8,[.t 4],58):=by kernel_rfl
def jcL:C:=iS [iA 1 (.box 49 5 (.t 0)),aN 2 0] (.seq (iS [aT 7 5 1,iA 8 (iK 166 [7])] (iD 8 (iS [aN 2 1] .ret) .skip)) (.seq (iS [aN 3 0] (.blk 0 (.loop (.seq (iS [aM 9 3,aF 10 4 1,aL 11 10,aG 12 11,aP 13 .lss 3 9 12] (iD 13 .skip (.exit 0))) (.seq (.blk 1 (.seq (.dreg (tA 0 16 (iF 4 1) (tA 1 17 (iL 16) (tA 2 18 (iM 3) (tA 3 19 (iI 2 17 18) (tA 4 20 (iF 0 19) (tA 5 21 (iL 20) (tA 6 22 (iF 3 1) (tA 7 23 (iL 22) (tA 8 24 (iQ .sub 3 23 1) (tC 25 (.call 68 [.t 21,oI 0,.t 24]) [] (tA 10 26 (iU 25) (tA 11 27 (iM 26) (tB 12 28 27 false (iF 4 1) (tB 13 29 27 false (iL 28) (tB 14 30 27 false (iM 3) (tB 15 31 27 false (iI 2 29 30) (tB 16 32 27 false (iF 1 31) (tB 17 33 27 false (iL 32) (tB 18 34 27 false (iF 3 1) (tB 19 35 27 false (iL 34) (tB 20 36 27 false (iQ .sub 3 35 1) (.alt (iB 37 27 false (.call 68 [.t 33,oI 0,.t 36])) [] (tB 22 38 27 false (iU 37) (tA 23 39 (iY 27 (oT) (.t 38)) .done)) .stop)))))))))))) .stop))))))))))) (iD 39 (iS [aN 2 2] .ret) .skip))) (.reg [aM 14 3,aQ 15 .add 3 14 1,aM 3 15])))))) (.seq (iS [aN 4 0] (.blk 2 (.loop (.seq (iS [aM 40 4,aF 41 4 1,aL 42 41,aG 43 42,aP 44 .lss 3 40 43] (iD 44 .skip (.exit 2))) (.seq (.blk 3 (iS [aN 5 0] (.blk 4 (.loop (.seq (iS [aM 47 5,aM 48 4,aP 49 .lss 3 47 48] (iD 49 .skip (.exit 4))) (.seq (.blk 5 (.seq (.dreg (tA 0 52 (iF 4 1) (tA 1 53 (iL 52) (tA 2 54 (iM 4) (tA 3 55 (iI 2 53 54) (tA 4 56 (iT 2 55) (tA 5 57 (iF 4 1) (tA 6 58 (iL 57) (tA 7 59 (iM 5) (tA 8 60 (iI 2 58 59) (tA 9 61 (iT 2 60) (tA 10 62 (iP .eql 161 56 61) .done)))))))))))) (iD 62 (iS [aN 2 3] .ret) .skip))) (.reg [aM 50 5,aQ 51 .add 3 50 1,aM 5 51]))))))) (.reg [aM 45 4,aQ 46 .add 3 45 1,aM 4 46])))))) (.seq (iS [aN 6 0] (.blk 6 (.loop (.seq (iS [aM 63 6,aF 64 3 1,aL 65 64,aP 66 .lss 3 63 65] (iD 66 .skip (.exit 6))) (.seq (.blk 7 (iS [aT 69 5 1,aM 70 6,iA 71 (iK 167 [69,70]),aM 72 6,aI 73 1 71 72,aL 74 73] (iD 74 (iS [aN 2 4] .ret) .skip))) (.reg [aM 67 6,aQ 68 .add 3 67 1,aM 6 68])))))) (iS [aN 2 0] .ret)))))
theorem jfS:fnC Tryz.prog Tryz.f112=some (jcL,[.t 2],75):=by kernel_rfl
def qq:C:=iS [iA 3 (.box 161 2 (.t 1)),aN 4 0] (.seq (iS [aM 6 0,aG 7 6,aN 8 0] (.blk 0 (.loop (iS [aP 9 .lss 3 8 7] (.seq (iD 9 .skip (.exit 0)) (.seq (.blk 1 (iS [aM 10 8,aM 5 10] (.seq (.dreg (tA 0 11 (iT 2 3) (tA 1 12 (iM 0) (tA 2 13 (iM 5) (tA 3 14 (iI 2 12 13) (tA 4 15 (iT 2 14) (tA 5 16 (iP .eql 161 11 15) .done))))))) (iD 16 (iS [aM 17 5,aM 4 17] .ret) .skip)))) (.reg [aQ 18 .add 3 8 1,aM 8 18]))))))) (iS [aN 4 (-1)] .ret))
theorem vG:fnC Tryz.prog Tryz.f193=some (qq,[.t 4],19):=by kernel_rfl
def kV:C:=iS [iA 3 (.box 161 2 (.t 1)),aO 4 false] (iS [aM 5 0,aT 6 2 3,iA 7 (iK 193 [5,6]),aQ 8 .geq 3 7 0,aM 4 8] .ret)
theorem vo:fnC Tryz.prog Tryz.f161=some (kV,[.t 4],9):=by kernel_rfl
theorem jl6 (p:Pl):jZ Tryz.prog 166 [.agg (je p)] (.c (.val (.bool (vY p)))):=by
 refine pf_ jiw ?_;unfold je7;simp only [go_sem,je];intro b;refine jk (jK p.aOD 1 12) λη=>?_
 simp only [go_sem];cases h1:decide (1<=p.aOD/\p.aOD<=12)
 ·simp only [go_sem,h1,vY,inB]
 ·by_cases h2:30<p.aOI.length
  ·have bP:(p.aOI.length:Int)>30:=by omega
   simp only [go_sem,h1,h2,bP,vY,inB]
  ·have bP:¬(p.aOI.length:Int)>30:=by omega
   simp only [go_sem,bP];refine jk (jK p.aOL 0 9) λη=>?_
   simp only [go_sem];cases h3:decide (0<=p.aOL/\p.aOL<=9)
   ·simp only [go_sem,h1,h2,h3,vY,inB]
   ·simp only [go_sem]
    refine jk (jK p.aOQ 1 5) λη=>?_
    simp only [go_sem];cases h4:decide (1<=p.aOQ/\p.aOQ<=5)
    ·simp only [go_sem,h1,h2,h3,h4,vY,inB]
    ·simp only [go_sem]
     refine jk (jK p.aOP 1 20) λη=>?_
     simp only [go_sem];cases h5:decide (1<=p.aOP/\p.aOP<=20)
     ·simp only [go_sem,h1,h2,h3,h4,h5,vY,inB]
     ·simp only [go_sem,h1,h2,h3,h4,h5,vY,inB]
theorem jl7 (p:Pl) (n:Nat) (hn:p.aOD=n) (cC:n<=12) (dI:p.aOI.length<=30) (bU:∀e∈p.aOI,okE n e) (t:Nat) (ht:t<n):jZ Tryz.prog 167 [.agg (je p),.c (.val (.int .i64 t))] (.c (qJ (jli p.aOI n t))):=by
 refine pf_ jix ?_;unfold je8;have hm:1*n<=281474976710656:=by omega
 have dX:n<=maxLen:=vT
 have bH:D.sl 1 jBL (List.replicate n [D.val (.bool false)]).flatten=qJ (jqM n []):=by
  rw [jzD]
  congr 1
  apply aRB
  intro k;by_cases hk:k<n
  ·rw [jkl hk];simp [hk]
  ·rw [aQQ (by simp;omega),aQQ (by rw [jcv];omega)]
 have aDM:D.sl 1 jes [D.val (.int .i64 t)]=jc [(t:Int)]:=by simp [jc]
 simp only [go_sem,je,hn];intro b;rw [jra];refine ⟨.i64,.i64,n,by simp only [go_sem],by simp only [go_sem],hm,dX,λη=>?_⟩
 simp only [go_sem,bH,aDM];intro dF;refine kh (λi:Nat×List Int×jg×jg=>St.of [(2,Bx 200 b),(5,Hd 5 i.2.2.1),(6,Hd 6 i.2.2.2),(7,Ni i.1)] [(200,Bi b _ (je p)),(5,.loose (qJ (jqM n i.2.1)) i.2.2.1),(6,.loose (jc ((t:Int)::i.2.1)) i.2.2.2)]) (λi=>jDz p.aOI n t i.1 i.2.1) (λi=>n+1-i.1) (0,[],η,dF) (jF2) (js [200,1200,1400] (by simp only [go_sem,je,hn]<;>trivial)) ?_
 rintro ⟨h,r,aS,bY⟩ hb;dsimp only at hb;have cH:=jtJ hb;have eR:((t:Int)::r).length=r.length+1:=rfl;by_cases aB:h<r.length+1
 ·have aA:(h:Int)<((r.length+1:Nat):Int):=by omega
  obtain ⟨x,hx⟩:=ja (l:=(t:Int)::r) aB;have hwh:=kw h;simp only [go_sem,aA];refine kh (λi:Nat×List Int×jg×jg=>St.of [(2,Bx 200 b),(5,Hd 5 i.2.2.1),(6,Hd 6 i.2.2.2),(7,Ni h),(8,Ni i.1)] [(200,Bi b _ (je p)),(5,.loose (qJ (jqM n i.2.1)) i.2.2.1),(6,.loose (jc ((t:Int)::i.2.1)) i.2.2.2)]) (λi=>BIn p.aOI n t h x i.1 i.2.1/\i.1<=p.aOI.length) (λi=>p.aOI.length-i.1) (0,r,aS,bY) (⟨bIn_0 hb hx,aPP _⟩) (js [200,5,6] (by simp only [go_sem,je,hn]<;>trivial)) ?_
  rintro ⟨j,r1,eO,bR⟩ ⟨hj,bJ⟩;dsimp only at hj bJ;have aJH:=jtJ hj.1;have aDG:((t:Int)::r1).length=r1.length+1:=rfl;by_cases d7:j<p.aOI.length
  ·have bB:(j:Int)<p.aOI.length:=by omega
   obtain ⟨e,he⟩:=ja d7;obtain ⟨⟨e1,e2⟩,e3,e4⟩:=bU e (aOT he);have cZ:=kw j;have hqx:((t:Int)::r1)[h]?=some x:=hj.2.1;have fS:h<((t:Int)::r1).length:=(aOS.1 hqx).1;have hd:e.dst.toNat<n:=by omega
   have hdi:((e.dst.toNat:Nat):Int)=e.dst:=by omega
   have yP:(jqM n r1)[e.dst.toNat]?=some (decide (e.dst∈r1)):=by rw [jkl hd,hdi]
   have fV:e.dst.toNat<(jqM n r1).length:=by rw [jcv];exact hd
   have cU:(jqM n r1).set e.dst.toNat true=jqM n (r1++[e.dst]):=by rw [jAt hd,hdi]
   have eK:1<=maxLen:=vT;have gK:((t:Int)::r1).length+1<=maxLen:=vT;have gS:(((t:Int)::r1).length+1)*8<=140737488355328:=by omega
   have aGL:D.sl 1 jes [D.val (.int .i64 e.dst)]=jc [e.dst]:=by simp [jc]
   dsimp only;generalize hq:(t:Int)::r1=q at hqx fS aDG gK gS⊢;simp only [go_sem,je,hn,d7,bB,jE he,kb];intro b2;simp only [go_sem,jq hqx,jp fS,fS];cases n6:(e.src==x)
   ·have aK:e.src≠x:=by simpa using n6
    simp only [go_sem,cZ];exact ⟨(j+1,r1,eO,bR),⟨jBs hj he λh'=>absurd h' aK,by omega⟩,(js [200,5,6] (by simp only [go_sem,<-hq]<;>trivial)),by (try dsimp only);omega⟩
   ·have m8:e.src=x:=by simpa using n6
    simp only [go_sem,e3,hd,jcv,jf3 yP,jcn fV];by_cases cJ:e.dst∈r1
    ·simp only [go_sem,cJ,cZ]
     exact ⟨(j+1,r1,eO,bR),⟨jBs hj he λ_=>cJ,by omega⟩,(js [200,5,6] (by simp only [go_sem,<-hq]<;>trivial)),by (try dsimp only);omega⟩
    ·simp only [go_sem,cJ,cZ,e3,hd,jcv,jpy true fV,jcn fV,cU,gK,gS,jzM,ko]
     intro wX bK;exact ⟨(j+1,r1++[e.dst],eO,bK),⟨jDu hj he m8 cJ ⟨e3,e4⟩ (λh0=>by subst h0;simpa using hj.2.1.symm),by omega⟩,(js [200,5,5600] (by simp only [go_sem,<-hq,aRE]<;>trivial)),by (try dsimp only);omega⟩
  ·have bB:¬(j:Int)<p.aOI.length:=by omega
   simp only [go_sem,je,hn,bB,hwh];exact ⟨(h+1,r1,eO,bR),jyd hj (by omega),(js [200,5,6]),by (try dsimp only);omega⟩
 ·have aA:¬(h:Int)<((r.length+1:Nat):Int):=by omega
  simp only [go_sem,je,hn,aA,jye hb (by omega)]
theorem jwY {p:Pl} (h:vY p=false):∃n:Nat,p.aOD=n/\1<=n/\n<=12/\p.aOI.length<=30/\(0<=p.aOL/\p.aOL<=9)/\(1<=p.aOQ/\p.aOQ<=5)/\(1<=p.aOP/\p.aOP<=20):=by
 simp only [vY,inB,Bool.or_eq_false_iff,Bool.not_eq_false',aPM,aPX] at h;obtain ⟨⟨⟨⟨h1,h2⟩,h3⟩,h4⟩,h5⟩:=h;exact ⟨p.aOD.toNat,by omega,by omega,by omega,by omega,h3,h4,h5⟩
theorem jib {p:Pl} (h:vY p=true):jm p=1:=by simp [jm,h]
theorem jnX {p:Pl} (h:vY p=false) {e:Ed} (he:e∈p.aOI) (h2:jkk p.aOD e=true):jm p=2:=by
 have:p.aOI.any (jkk p.aOD)=true:=List.any_eq_true.2 ⟨e,he,h2⟩;simp [jm,h,this]
theorem jA2 {p:Pl} (h:vY p=false) (h2:p.aOI.any (jkk p.aOD)=false) (h3:¬p.aOI.Nodup):jm p=3:=by simp [jm,h,h2,h3]
theorem jA3 {p:Pl} (h:vY p=false) (h2:p.aOI.any (jkk p.aOD)=false) (h3:p.aOI.Nodup) {t:Nat} (ht:(t:Int)<p.aOD) (h4:Rc p.aOI t t):jm p=4:=by
 have:jFV p=true:=by simp only [jFV,aPM];exact ⟨t,ht,h4⟩
 simp [jm,h,h2,h3,this]
theorem jCw {p:Pl} (h:vY p=false) (h2:p.aOI.any (jkk p.aOD)=false) (h3:p.aOI.Nodup) (h4:∀t:Nat,(t:Int)<p.aOD->¬Rc p.aOI t t):jm p=0:=by
 have:jFV p=false:=by simp only [jFV,aPX,not_exists,not_and];exact h4
 simp [jm,h,h2,h3,this]
theorem jtN {α:Type} {f:α->Bool} {l:List α} {k:Nat} {x:α} (h:l[k]?=some x) (hx:f x=false) (hn:(l.take k).any f=false):(l.take (k+1)).any f=false:=by
 rw [aPE,h];simp_all
theorem jtt {l:List Ed} {k j:Nat} {x:Ed} (h:l[k]?=some x) (hj:j<k) (hx:l[j]?=some x):¬l.Nodup:=by
 intro hd;obtain ⟨h1,h2⟩:=aOS.1 h;obtain ⟨h3,h4⟩:=aOS.1 hx;exact List.pairwise_iff_getElem.1 hd j k h3 h1 hj (h4.trans h2.symm)
theorem jm0 {l:List Ed} {k:Nat} {x:Ed} (h:l[k]?=some x) (hn:(l.take k).Nodup) (hx:x∉l.take k):(l.take (k+1)).Nodup:=by
 rw [aPE,h];simp only [Option.toList_some];rw [aPC];exact ⟨hn,by simp,λa ha b hb e=>by simp at hb;subst hb;exact hx (e▸ha)⟩
theorem vS (p:Pl):jZ Tryz.prog 112 [.agg (je p)] (.c (.val (.int .i64 (jm p)))):=by
 refine pf_ jfS ?_;unfold jcL;simp only [go_sem,je];intro b;refine jk (jl6 p) λη=>?_
 simp only [go_sem];cases hm:vY p;rotate_left
 ·simp only [go_sem,jib hm]
 obtain ⟨n,hn,eB,nQ,hel,-⟩:=jwY hm;have fK:IntKind.i64.wrap ((n:Int)-1)=n-1:=zm;simp only [go_sem];refine qP (λi:Nat=>St.of [(1,Bx 100 b),(3,Ni i)] [(100,Bi b _ (je p))]) (λi=>i<=p.aOI.length/\(p.aOI.take i).any (jkk n)=false) (λi=>p.aOI.length-i) 0 (js [100] (by simp only [go_sem,je]<;>trivial)) ?_
 rintro k ⟨hk,cX⟩;by_cases aB:k<p.aOI.length
 ·have aA:(k:Int)<p.aOI.length:=by omega
  obtain ⟨e,he⟩:=ja aB;have hw:=kw k;simp only [go_sem,je,hn,aB,aA,jE he,kb,fK];refine jk (jK e.src 0 (n-1)) λη=>?_
  simp only [go_sem];cases h1:decide (0<=e.src/\e.src<=n-1)
  ·have gN:jkk p.aOD e=true:=by simp [jkk,inB,hn,h1]
   simp only [go_sem,jnX hm (aOT he) gN]
  ·simp only [go_sem,aB,jE he,kb,fK]
   refine jk (jK e.dst 0 (n-1)) λη=>?_
   simp only [go_sem];cases h2:decide (0<=e.dst/\e.dst<=n-1)
   ·have gN:jkk p.aOD e=true:=by simp [jkk,inB,hn,h2]
    simp only [go_sem,jnX hm (aOT he) gN]
   ·have gN:jkk n e=false:=by simp [jkk,inB,h1,h2]
    simp only [go_sem,hw];exact ⟨k+1,⟨aB,jtN he gN cX⟩,(js [100]),by (try dsimp only);omega⟩
 have aA:¬(k:Int)<p.aOI.length:=by omega
 rw [aOW (by omega),<-hn] at cX
 have bU:=jwS cX;simp only [go_sem,je,aA];refine qP (λi:Nat=>St.of [(1,Bx 100 b),(4,Ni i)] [(100,Bi b _ (je p))]) (λi=>i<=p.aOI.length/\(p.aOI.take i).Nodup) (λi=>p.aOI.length-i) 0 (js [100] (by simp only [go_sem,je]<;>trivial)) ?_
 rintro j ⟨hj,eE⟩;by_cases bJ:j<p.aOI.length
 ·have aX:(j:Int)<p.aOI.length:=by omega
  obtain ⟨e,he⟩:=ja bJ;have hw:=kw j;simp only [go_sem,je,aX];refine qP (λi:Nat=>St.of [(1,Bx 100 b),(4,Ni j),(5,Ni i)] [(100,Bi b _ (je p))]) (λi=>i<=j/\e∉p.aOI.take i) (λi=>j-i) 0 (js [100] (by simp only [go_sem,je]<;>trivial)) ?_
  rintro m ⟨dU,rD⟩;by_cases dX:m<j
  ·have dS:(m:Int)<j:=by omega
   obtain ⟨e2,cA⟩:=ja (show m<p.aOI.length by omega)
   have bX:=kw m;have hm3:m<p.aOI.length:=by omega
   have aJW:(m:Int)<p.aOI.length:=by omega
   by_cases dJ:e=e2
   ·subst dJ
    simp only [go_sem,je,dS,bJ,hm3,jE he,jE cA,kb,jA2 hm cX (jtt he dX cA)]
   ·simp only [go_sem,je,dS,bJ,hm3,jE he,jE cA,kb,dJ,bX]
    exact ⟨m+1,⟨dX,λh'=>by rw [aPE,cA] at h';simp at h';rcases h' with h'|h';exact rD h';exact dJ h'⟩,(js [100]),by (try dsimp only);omega⟩
  ·have dS:¬(m:Int)<j:=by omega
   obtain rfl:m=j:=by omega
   simp only [go_sem,je,dS,hw];exact ⟨m+1,⟨bJ,jm0 he eE rD⟩,(js [100]),by (try dsimp only);omega⟩
 have aX:¬(j:Int)<p.aOI.length:=by omega
 rw [aOW (by omega)] at eE
 simp only [go_sem,je,aX];refine qP (λi:Nat=>St.of [(1,Bx 100 b),(6,Ni i)] [(100,Bi b _ (je p))]) (λi=>i<=n/\∀t:Nat,t<i->¬Rc p.aOI t t) (λi=>n-i) 0 (js [100] (by simp only [go_sem,je]<;>trivial)) ?_
 rintro t ⟨ht,xF⟩;by_cases dD:t<n
 ·have eH:(t:Int)<n:=by omega
  have hw:=kw t;have pF:∀e∈p.aOI,okE n e:=λe he=>by have:=bU e he;rwa [hn,aPB] at this
  simp only [go_sem,je,hn,eH];refine jw (jl7 p n hn nQ hel pF t dD) (by simp only [go_sem,je,hn]) λη=>?_
  simp only [go_sem];cases hr:rcB p.aOI t t
  ·have hg:(jli p.aOI n t)[t]?=some false:=by rw [jqj dD,hr]
   simp only [go_sem,dD,jgK,jf3 hg,jcn (show t<(jli p.aOI n t).length by rw [jgK];exact dD),hw]
   exact ⟨t+1,⟨dD,λs hs h'=>by rcases Nat.lt_or_ge s t with h2|h2;exact xF s h2 h';obtain rfl:s=t:=(by omega);rw [rcB_iff.2 h'] at hr;cases hr⟩,(js [100]),by (try dsimp only);omega⟩
  ·have hg:(jli p.aOI n t)[t]?=some true:=by rw [jqj dD,hr]
   simp only [go_sem,dD,jgK,jf3 hg,jcn (show t<(jli p.aOI n t).length by rw [jgK];exact dD),jA3 hm cX eE (by rw [hn];exact eH) (rcB_iff.1 hr)]
 ·have eH:¬(t:Int)<n:=by omega
  simp only [go_sem,je,hn,eH,jCw hm cX eE (λs hs=>xF s (by omega))]
theorem jwL (l:List Ed) (e:Ed) (hl:l.length<=4000000):jZ Tryz.prog 193 [.c (jn l),.agg (kb e)] (.c (.val (.int .i64 (jew (λx=>decide (e=x)) l)))):=by
 refine pf_ vG ?_;unfold qq;simp only [go_sem,kb];intro b;refine qP (λi:Nat=>St.of [(0,Ro (jn l)),(3,Bx 300 b),(7,Ni l.length),(8,Ni i)] [(300,Bi b _ (kb e))]) (λi=>i<=l.length/\∀y∈l.take i,(λx=>decide (e=x)) y=false) (λi=>l.length-i) 0 (js [300] (by simp only [go_sem,kb]<;>trivial)) ?_
 rintro k ⟨hk,cX⟩;by_cases aB:k<l.length
 ·have aA:(k:Int)<l.length:=by omega
  obtain ⟨x,hx⟩:=ja aB;have hw:=kw k;by_cases dJ:e=x
  ·subst dJ
   simp only [go_sem,kb,aB,aA,jE hx,jbW hx (decide_eq_true rfl) cX]
  ·simp only [go_sem,kb,aB,aA,jE hx,dJ,hw]
   exact ⟨k+1,⟨aB,jnD hx (decide_eq_false dJ) cX⟩,(js [300]),by (try dsimp only);omega⟩
 ·have aA:¬(k:Int)<l.length:=by omega
  rw [aOW (by omega)] at cX
  simp only [go_sem,kb,aA,jaO cX]
theorem jpP (l:List Ed) (e:Ed) (hl:l.length<=4000000):jZ Tryz.prog 161 [.c (jn l),.agg (kb e)] (.c (.val (.bool (decide (e∈l))))):=by
 refine pf_ vo ?_;unfold kV;simp only [go_sem,kb];intro b;refine jk (jwL l e hl) λη=>?_
 simp only [go_sem];rcases zW (λx=>decide (e=x)) l with ⟨h1,h2⟩|⟨k,x,h1,h2,h3,-⟩
 ·have hm:decide (e∈l)=false:=decide_eq_false λh=>by have:=h2 e h;simp at this
  rw [h1,hm];simp only [go_sem]
 ·have hm:decide (e∈l)=true:=decide_eq_true (by have:e=x:=by simpa using h3
                                                exact this▸aOT h2)
  have hk:=qN k;rw [h1,hm];simp only [go_sem,hk]
theorem jr9 {a:Nat} (h:a<4096):(BitVec.ofInt 64 (a:Int))=BitVec.ofNat 64 a:=by
 apply BitVec.eq_of_toNat_eq
 simp
theorem jzt {a b:Nat} (ha:a<4096) (hb:b<4096):IntKind.i64.wrap ((BitVec.ofInt 64 (a:Int)|||BitVec.ofInt 64 (b:Int)).toNat:Int)=((a|||b:Nat):Int):=by
 have n4:a|||b<2^12:=Nat.or_lt_two_pow ha hb
 have e:(BitVec.ofInt 64 (a:Int)|||BitVec.ofInt 64 (b:Int)).toNat=a|||b:=by
  rw [jr9 ha,jr9 hb,BitVec.toNat_or,BitVec.toNat_ofNat,BitVec.toNat_ofNat,Nat.mod_eq_of_lt (by omega),Nat.mod_eq_of_lt (by omega)]
 rw [e];exact kU (by omega) (by omega)
theorem jv1 {d:Int} (h0:0<=d) (h:d<12):IntKind.i64.wrap (1*2^min d.toNat 64)=((2^d.toNat:Nat):Int):=by
 have e:min d.toNat 64=d.toNat:=aQL (by omega)
 have aB:2^d.toNat<4096:=(show 2^d.toNat<2^12 from Nat.pow_lt_pow_right (by omega) (by omega))
 rw [e,Int.one_mul,show (2:Int)^d.toNat=((2^d.toNat:Nat):Int) by simp]
 generalize 2^d.toNat=q at*;exact kU (by omega) (by omega)
theorem jAp {a t:Nat} (ha:a<4096) (ht:t<12):(IntKind.i64.wrap ((BitVec.ofInt 64 (Int.fdiv (a:Int) (2^min t 64))&&&BitVec.ofInt 64 1).toNat:Int)==1)=a.testBit t:=by
 have e:min t 64=t:=aQL (by omega)
 have e1:Int.fdiv (a:Int) (2^t)=((a/2^t:Nat):Int):=by
  rw [show (2:Int)^t=((2^t:Nat):Int) by simp,Int.fdiv_eq_ediv_of_nonneg _ (Int.natCast_nonneg _)];rfl
 have hq:a/2^t<4096:=Nat.lt_of_le_of_lt (Nat.div_le_self _ _) ha
 have e2:(BitVec.ofInt 64 ((a/2^t:Nat):Int)&&&BitVec.ofInt 64 1).toNat=(a/2^t)%2:=by
  rw [jr9 hq,show BitVec.ofInt 64 1=BitVec.ofNat 64 1 from rfl,BitVec.toNat_and,BitVec.toNat_ofNat,BitVec.toNat_ofNat,Nat.mod_eq_of_lt (by omega),Nat.mod_eq_of_lt (by omega)]
  exact Nat.and_one_is_mod _
 rw [e,e1,e2,kU (by omega) (by omega),Nat.testBit_eq_decide_div_mod_eq]
 by_cases h:a/2^t%2=1
 ·rw [h];rfl
 ·have h0:a/2^t%2=0:=by omega
  rw [h0];rfl
theorem jpR {a b:Nat} (ha:a<4096) (hb:b<4096):IntKind.i64.wrap ((@BitVec.toNat 64 (@HOr.hOr (BitVec 64) (BitVec 64) (BitVec 64) (@instHOrOfOrOp (BitVec IntKind.i64.bits) (@BitVec.instOrOp IntKind.i64.bits)) (BitVec.ofInt 64 (a:Int)) (BitVec.ofInt 64 (b:Int))):Nat):Int)=((a|||b:Nat):Int):=jzt ha hb
theorem jx5 {a t:Nat} (ha:a<4096) (ht:t<12):(IntKind.i64.wrap ((@BitVec.toNat 64 (@HAnd.hAnd (BitVec 64) (BitVec 64) (BitVec 64) (@instHAndOfAndOp (BitVec IntKind.i64.bits) (@BitVec.instAndOp IntKind.i64.bits)) (BitVec.ofInt 64 (Int.fdiv (a:Int) (2^min t 64))) (BitVec.ofInt 64 1)):Nat):Int)==1)=a.testBit t:=jAp ha ht
def zL (S:List Nat):List Int:=S.map λ(k:Nat)=>(k:Int)
theorem ji2 (S:List Nat):(zL S).length=S.length:=by simp [zL]
theorem jvu {S:List Nat} {k:Nat} (h:k<S.length):(zL S)[k]?=some ((S.getD k 0:Nat):Int):=by simp [zL,h]
theorem jDG (S:List Nat) (k v:Nat):(zL S).set k (v:Int)=zL (S.set k v):=by simp [zL,List.map_set]
theorem jzc {es:List Ed} {k:Nat} {e:Ed} (h:es[k]?=some e) (S:List Nat):(es.take (k+1)).foldl jar S=jar ((es.take k).foldl jar S) e:=by
 rw [aPE,h];simp
theorem jrW {n:Nat}:∀{l:List Ed} {S:List Nat},(∀e∈l,okE n e)->(∀x∈S,x<2^n)->∀x∈l.foldl jar S,x<2^n
 |[],_,_,h=>h
 |e::l,S,hl,h=>jrW (l:=l) (S:=jar S e) (λe he=>hl e (by simp [he])) (jBN (hl e (by simp)) h)
theorem jre {n:Nat} {es:List Ed} (bU:∀e∈es,okE n e):∀(k:Nat),∀x∈jqV es k (List.replicate n 0),x<2^n
 |0=>λx hx=>by simp [jqV] at hx;have:=Nat.two_pow_pos n;omega
 |k+1=>jrW bU (jre bU k)
theorem jrV {S:List Nat} {n:Nat} (h:∀x∈S,x<2^n) (hn:n<=12) (k:Nat):S.getD k 0<4096:=by
 have h2:2^n<=2^12:=Nat.pow_le_pow_right (by omega) hn
 rw [aQV];cases hk:S[k]? with
 |none=>simp
 |some v=>have:=h v (aOT hk);simp;omega
def jjj:C:=iS [iA 1 (.box 49 5 (.t 0)),iA 2 (.mov (.c (.slice none 0 0)))] (iS [aF 6 3 1,aL 7 6,iA 8 (.mks 3 1 8 [D.val (.int .i64 0)] (.t 7) (.t 7)),aM 3 8] (.seq (iS [aF 9 3 1,aL 10 9,aN 11 0] (.blk 0 (.loop (iS [aP 12 .lss 3 11 10] (.seq (iD 12 .skip (.exit 0)) (.seq (.blk 1 (iS [aF 13 4 1,aL 14 13,aG 15 14,aN 16 0] (.blk 2 (.loop (iS [aP 17 .lss 3 16 15] (.seq (iD 17 .skip (.exit 2)) (.seq (.blk 3 (iS [aI 18 2 14 16,aT 19 2 18,iA 5 wAQ,wAH 5 19] (.dreg (tA 0 20 (iM 3) (tA 1 21 (iF 0 5) (tA 2 22 (iL 21) (tA 3 23 (iI 1 20 22) (tA 4 24 (iL 23) (tA 5 25 (iF 1 5) (tA 6 26 (iL 25) (tA 7 27 (.bin .shl 3 (oI 1) (.t 26)) (tA 8 28 (iM 3) (tA 9 29 (iF 1 5) (tA 10 30 (iL 29) (tA 11 31 (iI 1 28 30) (tA 12 32 (iL 31) (tA 13 33 (iP .or 3 27 32) (tA 14 34 (iP .or 3 24 33) (tA 15 35 (iI 1 20 22) (.alt (wAD 35 34) [] .done .stop)))))))))))))))))))) (.reg [aQ 36 .add 3 16 1,aM 16 36])))))))) (.reg [aQ 37 .add 3 11 1,aM 11 37]))))))) (iS [aM 38 3,aM 2 38] .ret)))
theorem jlD:fnC Tryz.prog Tryz.f162=some (jjj,[.t 2],39):=by kernel_rfl
def jcT:C:=iS [iA 1 (.box 49 5 (.t 0)),aN 2 0] (.seq (iS [aF 9 3 1,aL 10 9,iA 11 (.call 62 [.t 10,oI 1,oI 12]),aU 12 11,aM 13 12,iB 14 13 false (iF 4 1),iB 15 13 false (iL 14),iB 16 13 false (iG 15),iB 17 13 false (iQ .gtr 3 16 30),iA 18 (iY 13 (oT) (.t 17)),aM 19 18,iB 20 19 false (iF 0 1),iB 21 19 false (iL 20),iB 22 19 false (.call 62 [.t 21,oI 0,oI 9]),iB 23 19 false (iU 22),iA 24 (iY 19 (oT) (.t 23)),aM 25 24,iB 26 25 false (iF 1 1),iB 27 25 false (iL 26),iB 28 25 false (.call 62 [.t 27,oI 1,oI 5]),iB 29 25 false (iU 28),iA 30 (iY 25 (oT) (.t 29)),aM 31 30,iB 32 31 false (iF 2 1),iB 33 31 false (iL 32),iB 34 31 false (.call 62 [.t 33,oI 1,oI 20]),iB 35 31 false (iU 34),iA 36 (iY 31 (oT) (.t 35))] (iD 36 (iS [aN 2 1] .ret) .skip)) (.seq (iS [aF 37 4 1,aL 38 37,aG 39 38,aN 40 0] (.blk 0 (.loop (iS [aP 41 .lss 3 40 39] (.seq (iD 41 .skip (.exit 0)) (.seq (.blk 1 (iS [aI 42 2 38 40,aT 43 2 42,iA 4 wAQ,wAH 4 43] (iS [aF 44 0 4,aL 45 44,aF 46 3 1,aL 47 46,aQ 48 .sub 3 47 1,iA 49 (.call 62 [.t 45,oI 0,.t 48]),aU 50 49,aM 51 50,iB 52 51 false (iF 1 4),iB 53 51 false (iL 52),iB 54 51 false (iF 3 1),iB 55 51 false (iL 54),iB 56 51 false (iQ .sub 3 55 1),iB 57 51 false (.call 62 [.t 53,oI 0,.t 56]),iB 58 51 false (iU 57),iA 59 (iY 51 (oT) (.t 58))] (iD 59 (iS [aN 2 2] .ret) .skip)))) (.reg [aQ 60 .add 3 40 1,aM 40 60]))))))) (.seq (iS [aF 61 4 1,aL 62 61,aG 63 62,aN 64 0] (.blk 2 (.loop (iS [aP 65 .lss 3 64 63] (.seq (iD 65 .skip (.exit 2)) (.seq (.blk 3 (iS [aM 66 64,aI 67 2 62 64,aT 68 2 67,iA 6 wAQ,aM 5 66,wAH 6 68] (.seq (.dreg (tA 0 69 (iF 4 1) (tA 1 70 (iL 69) (tA 2 71 (iM 5) (tA 3 72 (.sl 2 (.t 70) none (some (.t 71))) (tA 4 73 (iT 2 6) (tC 74 (iK 161 [72,73]) [] .done .stop))))))) (iD 74 (iS [aN 2 3] .ret) .skip)))) (.reg [aQ 75 .add 3 64 1,aM 64 75]))))))) (.seq (iS [aT 76 5 1,iA 77 (iK 162 [76]),aG 78 77,aN 79 0] (.blk 4 (.loop (iS [aP 80 .lss 3 79 78] (.seq (iD 80 .skip (.exit 4)) (.seq (.blk 5 (iS [aM 81 79,aI 82 1 77 79,aL 83 82,aM 7 81,aM 8 83] (iS [aM 84 8,aM 85 7,aP 86 .shr 3 84 85,aQ 87 .and 3 86 1,aQ 88 .eql 3 87 1] (iD 88 (iS [aN 2 4] .ret) .skip)))) (.reg [aQ 89 .add 3 79 1,aM 79 89]))))))) (iS [aN 2 0] .ret)))))
theorem jf0:fnC Tryz.prog Tryz.f109=some (jcT,[.t 2],90):=by kernel_rfl
theorem jpM (p:Pl) (n:Nat) (hn:p.aOD=n) (cC:n<=12) (dI:p.aOI.length<=30) (bU:∀e∈p.aOI,okE n e):jZ Tryz.prog 162 [.agg (je p)] (.c (jc (zL (jeI p.aOI n)))):=by
 refine pf_ jlD ?_;unfold jjj;have bH:jc (List.replicate n 0)=jc (zL (jqV p.aOI 0 (List.replicate n 0))):=by simp [jqV,zL]
 simp only [go_sem,je,hn];intro b;rw [jra];refine ⟨.i64,.i64,n,by simp only [go_sem],by simp only [go_sem],by omega,by unfold maxLen;omega,λη=>?_⟩
 simp only [go_sem,jCE,bH];refine qP (λi:Nat×jg=>St.of [(1,Bx 100 b),(3,Hd 3 i.2),(10,Ni n),(11,Ni i.1)] [(100,Bi b _ (je p)),(3,.loose (jc (zL (jqV p.aOI i.1 (List.replicate n 0)))) i.2)]) (λi=>i.1<=n) (λi=>n-i.1) (0,η) (js [100,800] (by simp only [go_sem,je,hn]<;>trivial)) ?_
 rintro ⟨k,dF⟩ hk;dsimp only at hk;by_cases aB:k<n
 ·have aA:(k:Int)<n:=by omega
  have hw:=kw k;have l8:=jsK (es:=p.aOI) k (List.replicate n 0);have hSb:=jre bU k;rw [aRW] at l8;have fE:jqV p.aOI (k+1) (List.replicate n 0)=p.aOI.foldl jar (jqV p.aOI k (List.replicate n 0)):=rfl;dsimp only;generalize jqV p.aOI k (List.replicate n 0)=S at*;simp only [go_sem,je,aA,hn];refine qP (λi:Nat×jg=>St.of [(1,Bx 100 b),(3,Hd 3 i.2),(10,Ni n),(11,Ni k),(14,Ro (jn p.aOI)),(15,Ni p.aOI.length),(16,Ni i.1)] [(100,Bi b _ (je p)),(3,.loose (jc (zL ((p.aOI.take i.1).foldl jar S))) i.2)]) (λi=>i.1<=p.aOI.length) (λi=>p.aOI.length-i.1) (0,dF) (js [100,3] (by simp only [go_sem,je,hn,aQH,List.foldl_nil]<;>trivial)) ?_
  rintro ⟨j,aS⟩ hj;dsimp only at hj;by_cases d7:j<p.aOI.length
  ·have bB:(j:Int)<p.aOI.length:=by omega
   obtain ⟨e,he⟩:=ja d7;have hm:e∈p.aOI:=aOT he;obtain ⟨⟨e1,e2⟩,e3,e4⟩:=bU e hm;have cZ:=kw j;have hTl:=joy (p.aOI.take j) S;have hTb:=jrW (n:=n) (l:=p.aOI.take j) (S:=S) (λe he=>bU e (aRU he)) hSb
   have dV:=jzc he S;dsimp only;generalize (p.aOI.take j).foldl jar S=U at*;have fH:e.src.toNat<U.length:=by omega
   have fV:e.dst.toNat<U.length:=by omega
   have nA:=jvu fH;have oH:=jvu fV;have nM:e.src.toNat<(zL U).length:=by rw [ji2];exact fH
   have hzd:e.dst.toNat<(zL U).length:=by rw [ji2];exact fV
   have hu1:=jrV hTb cC e.src.toNat;have sR:=jrV hTb cC e.dst.toNat;have hp:2^e.dst.toNat<4096:=(show 2^e.dst.toNat<2^12 from Nat.pow_lt_pow_right (by omega) (by omega))
   have ho:2^e.dst.toNat|||U.getD e.dst.toNat 0<4096:=Nat.or_lt_two_pow (n:=12) hp sR
   have aJ:(zL U).set e.src.toNat ((U.getD e.src.toNat 0|||(2^e.dst.toNat|||U.getD e.dst.toNat 0):Nat):Int)=zL (jar U e):=jDG _ _ _
   simp only [go_sem,je,hn,d7,bB,jE he,kb,e1,e3,fH,fV,ji2];intro b2;simp only [go_sem,e1,fH,ji2,jq nA,jp nM,jq oH,jp hzd,jv1 e3 (by omega),jpR hp sR,jpR hu1 ho,jci _ nM,aJ,cZ]
   exact qc (j+1,aS) (js [100,3] (by simp only [go_sem,dV]<;>trivial))
  ·have bB:¬(j:Int)<p.aOI.length:=by omega
   rw [aOW (by omega)]
   simp only [go_sem,je,hn,bB,hw];exact qc (k+1,aS) (js [100,3] (by simp only [go_sem,fE]<;>trivial))
 ·have aA:¬(k:Int)<n:=by omega
  obtain rfl:k=n:=by omega
  simp only [go_sem,je,hn,aA,jeI]
theorem qw (p:Pl) (gL:p.aOI.length<=4000000):jZ Tryz.prog 109 [.agg (je p)] (.c (.val (.int .i64 (jm p)))):=by
 refine pf_ jf0 ?_;unfold jcT;simp only [go_sem,je];intro b;refine jk (jx p.aOD 1 12) λη=>?_
 simp only [go_sem];cases h1:decide (1<=p.aOD/\p.aOD<=12)
 ·simp only [go_sem,jib (show vY p=true by simp [vY,inB,h1])]
 by_cases h2:30<p.aOI.length
 ·have bP:(p.aOI.length:Int)>30:=by omega
  simp only [go_sem,bP,jib (show vY p=true by simp [vY,inB,h1,h2])]
 have bP:¬(p.aOI.length:Int)>30:=by omega
 simp only [go_sem,bP];refine jk (jx p.aOL 0 9) λη=>?_
 simp only [go_sem];cases h3:decide (0<=p.aOL/\p.aOL<=9)
 ·simp only [go_sem,jib (show vY p=true by simp [vY,inB,h3])]
 simp only [go_sem];refine jk (jx p.aOQ 1 5) λη=>?_
 simp only [go_sem];cases h4:decide (1<=p.aOQ/\p.aOQ<=5)
 ·simp only [go_sem,jib (show vY p=true by simp [vY,inB,h4])]
 simp only [go_sem];refine jk (jx p.aOP 1 20) λη=>?_
 simp only [go_sem];cases h5:decide (1<=p.aOP/\p.aOP<=20)
 ·simp only [go_sem,jib (show vY p=true by simp [vY,inB,h5])]
 have hm:vY p=false:=by simp [vY,inB,h1,h2,h3,h4,h5]
 obtain ⟨n,hn,eB,nQ,hel,-⟩:=jwY hm;have fK:IntKind.i64.wrap ((n:Int)-1)=n-1:=zm;simp only [go_sem,hn];refine qP (λi:Nat=>St.of [(1,Bx 100 b),(38,Ro (jn p.aOI)),(39,Ni p.aOI.length),(40,Ni i)] [(100,Bi b _ (je p))]) (λi=>i<=p.aOI.length/\(p.aOI.take i).any (jkk n)=false) (λi=>p.aOI.length-i) 0 (js [100] (by simp only [go_sem,je,hn]<;>trivial)) ?_
 rintro k ⟨hk,cX⟩;by_cases aB:k<p.aOI.length
 ·have aA:(k:Int)<p.aOI.length:=by omega
  obtain ⟨e,he⟩:=ja aB;have hw:=kw k;simp only [go_sem,je,hn,aB,aA,jE he,kb,fK];intro b2;refine jk (jx e.src 0 (n-1)) λη=>?_
  simp only [go_sem];cases h1:decide (0<=e.src/\e.src<=n-1)
  ·have gN:jkk p.aOD e=true:=by simp [jkk,inB,hn,h1]
   simp only [go_sem,jnX hm (aOT he) gN]
  ·simp only [go_sem,fK]
   refine jk (jx e.dst 0 (n-1)) λη=>?_
   simp only [go_sem];cases h2:decide (0<=e.dst/\e.dst<=n-1)
   ·have gN:jkk p.aOD e=true:=by simp [jkk,inB,hn,h2]
    simp only [go_sem,jnX hm (aOT he) gN]
   ·have gN:jkk n e=false:=by simp [jkk,inB,h1,h2]
    simp only [go_sem,hw];exact ⟨k+1,⟨aB,jtN he gN cX⟩,(js [100]),by (try dsimp only);omega⟩
 have aA:¬(k:Int)<p.aOI.length:=by omega
 rw [aOW (by omega),<-hn] at cX
 have bU:=jwS cX;have pF:∀e∈p.aOI,okE n e:=λe he=>by have:=bU e he;rwa [hn,aPB] at this
 simp only [go_sem,je,aA,hn];refine qP (λi:Nat=>St.of [(1,Bx 100 b),(62,Ro (jn p.aOI)),(63,Ni p.aOI.length),(64,Ni i)] [(100,Bi b _ (je p))]) (λi=>i<=p.aOI.length/\(p.aOI.take i).Nodup) (λi=>p.aOI.length-i) 0 (js [100] (by simp only [go_sem,je,hn]<;>trivial)) ?_
 rintro j ⟨hj,eE⟩;by_cases bJ:j<p.aOI.length
 ·have aX:(j:Int)<p.aOI.length:=by omega
  obtain ⟨e,he⟩:=ja bJ;have hw:=kw j;have aDK:j<=p.aOI.length:=by omega
  simp only [go_sem,je,bJ,aX,aDK,jE he,kb,hn];intro b2;refine jk (jpP (p.aOI.take j) e (by rw [aOZ];omega)) λη=>?_
  simp only [go_sem];by_cases cJ:e∈p.aOI.take j
  ·have hd:¬p.aOI.Nodup:=by
    obtain ⟨m,dU,eG⟩:=aPY cJ;rw [aOZ] at dU;rw [List.getElem_take] at eG;exact jtt he (show m<j by omega) (by rw [aOV (by omega),eG])
   simp only [go_sem,cJ,jA2 hm cX hd]
  ·simp only [go_sem,cJ,hw]
   exact ⟨j+1,⟨bJ,jm0 he eE cJ⟩,(js [100]),by (try dsimp only);omega⟩
 have aX:¬(j:Int)<p.aOI.length:=by omega
 rw [aOW (by omega)] at eE
 simp only [go_sem,je,aX,hn];refine jw (jpM p n hn nQ hel pF) (by simp only [go_sem,je,hn]) λη=>?_
 simp only [go_sem];have hwl:=jvA (es:=p.aOI) (n:=n);have hwb:=jvB (n:=n) pF;have xC:∀k:Nat,(jeI p.aOI n).getD k 0<4096:=jrV (jre pF n) nQ;simp only [go_sem,ji2,hwl];refine qP (λi:Nat=>St.of [(77,Hd 7700 (η 0)),(78,Ni n),(79,Ni i)] [(7700,.loose (jc (zL (jeI p.aOI n))) (η 0))]) (λi=>i<=n/\∀t:Nat,t<i->¬Rc p.aOI t t) (λi=>n-i) 0 (js [7700]) ?_
 rintro t ⟨ht,xF⟩;by_cases dD:t<n
 ·have eH:(t:Int)<n:=by omega
  have hw:=kw t;have htw:t<(jeI p.aOI n).length:=by rw [hwl];exact dD
  have hg:=jvu htw;have t8:t<(zL (jeI p.aOI n)).length:=by rw [ji2];exact htw
  have hbt:=jx5 (xC t) (show t<12 by omega)
  have eT:=qN t;cases hr:((jeI p.aOI n).getD t 0).testBit t
  ·rw [hr] at hbt
   simp only [go_sem,dD,eH,ji2,hwl,jq hg,jp t8,hbt,hw];exact ⟨t+1,⟨dD,λs hs h'=>by rcases Nat.lt_or_ge s t with h2|h2;exact xF s h2 h';obtain rfl:s=t:=(by omega);rw [(hwb s s).2 h'] at hr;cases hr⟩,(js [7700]),by (try dsimp only);omega⟩
  ·rw [hr] at hbt
   simp only [go_sem,dD,eH,ji2,hwl,jq hg,jp t8,hbt,jA3 hm cX eE (by rw [hn];exact eH) ((hwb t t).1 hr)]
 ·have eH:¬(t:Int)<n:=by omega
  simp only [go_sem,eH,jCw hm cX eE (λs hs=>xF s (by omega))]
def jcI:C:=iS [iA 2 (.box 49 5 (.t 0)),iA 4 (.mov (.c (.slice none 0 0)))] (iS [iA 8 (wA1 []),aM 5 8] (.seq (iS [aN 6 0] (.blk 0 (.loop (.seq (iS [aM 9 6,aF 10 3 2,aL 11 10,aP 12 .lss 3 9 11] (iD 12 .skip (.exit 0))) (.seq (.blk 1 (iS [aN 7 0] (.blk 2 (.loop (.seq (iS [aM 15 7,aF 16 4 2,aL 17 16,aG 18 17,aP 19 .lss 3 15 18] (iD 19 .skip (.exit 2))) (.seq (.blk 3 (iS [aF 22 4 2,aL 23 22,aM 24 7,aI 25 2 23 24,aF 26 0 25,aL 27 26,aM 28 6,aP 29 .eql 3 27 28,aM 30 29,iB 31 30 true (iF 4 2),iB 32 30 true (iL 31),iB 33 30 true (iM 7),iB 34 30 true (iI 2 32 33),iB 35 30 true (iF 1 34),iB 36 30 true (iL 35),iB 37 30 true (iM 1),iB 38 30 true (iP .eql 3 36 37),iA 39 (iY 30 (.t 38) (oF))] (iD 39 (.reg [aM 40 5,aM 41 6,iA 42 (wAY [(0,1,.t 41)]),iA 43 (wA7 40 42),aM 5 43]) .skip))) (.reg [aM 20 7,aQ 21 .add 3 20 1,aM 7 21]))))))) (.reg [aM 13 6,aQ 14 .add 3 13 1,aM 6 14])))))) (iS [aM 44 5,aM 4 44] .ret)))
theorem jfP:fnC Tryz.prog Tryz.f169=some (jcI,[.t 4],45):=by kernel_rfl
def jcH:C:=iS [iA 2 (.box 49 5 (.t 0)),iA 4 (.mov (.c (.slice none 0 0)))] (iS [iA 8 (wA1 []),aM 5 8] (.seq (iS [aN 6 0] (.blk 0 (.loop (.seq (iS [aM 9 6,aF 10 3 2,aL 11 10,aP 12 .lss 3 9 11] (iD 12 .skip (.exit 0))) (.seq (.blk 1 (iS [aN 7 0] (.blk 2 (.loop (.seq (iS [aM 15 7,aF 16 4 2,aL 17 16,aG 18 17,aP 19 .lss 3 15 18] (iD 19 .skip (.exit 2))) (.seq (.blk 3 (iS [aF 22 4 2,aL 23 22,aM 24 7,aI 25 2 23 24,aF 26 0 25,aL 27 26,aM 28 1,aP 29 .eql 3 27 28,aM 30 29,iB 31 30 true (iF 4 2),iB 32 30 true (iL 31),iB 33 30 true (iM 7),iB 34 30 true (iI 2 32 33),iB 35 30 true (iF 1 34),iB 36 30 true (iL 35),iB 37 30 true (iM 6),iB 38 30 true (iP .eql 3 36 37),iA 39 (iY 30 (.t 38) (oF))] (iD 39 (.reg [aM 40 5,aM 41 6,iA 42 (wAY [(0,1,.t 41)]),iA 43 (wA7 40 42),aM 5 43]) .skip))) (.reg [aM 20 7,aQ 21 .add 3 20 1,aM 7 21]))))))) (.reg [aM 13 6,aQ 14 .add 3 13 1,aM 6 14])))))) (iS [aM 44 5,aM 4 44] .ret)))
theorem jfO:fnC Tryz.prog Tryz.f201=some (jcH,[.t 4],45):=by kernel_rfl
def jd4:C:=iS [iA 2 (.box 49 5 (.t 0)),iA 4 (.mov (.c (.slice none 0 0)))] (.seq (iS [aT 8 5 2,iA 9 (iK 109 [8]),aQ 10 .neq 3 9 0] (iD 10 (iS [iA 4 (.mov (.c (.slice none 0 0)))] .ret) .skip)) (iS [iA 5 (.mov (.c (.slice none 0 0)))] (.seq (iS [aF 11 4 2,aL 12 11,aG 13 12,aN 14 0] (.blk 0 (.loop (iS [aP 15 .lss 3 14 13] (.seq (iD 15 .skip (.exit 0)) (.seq (.blk 1 (iS [aI 16 2 12 14,aT 17 2 16,iA 7 wAQ,wAH 7 17] (iS [aF 18 1 7,aL 19 18,aM 20 1,aP 21 .eql 3 19 20] (iD 21 (.reg [aM 22 5,aF 23 0 7,aL 24 23,iA 25 (wAY [(0,1,.t 24)]),iA 26 (wA7 22 25),aM 5 26]) .skip)))) (.reg [aQ 27 .add 3 14 1,aM 14 27]))))))) (iS [aM 28 5,iA 29 (iK 194 [28])] (iS [aM 30 5,aM 4 30] .ret)))))
theorem jhi:fnC Tryz.prog Tryz.f164=some (jd4,[.t 4],31):=by kernel_rfl
def jd3:C:=iS [iA 2 (.box 49 5 (.t 0)),iA 4 (.mov (.c (.slice none 0 0)))] (.seq (iS [aT 8 5 2,iA 9 (iK 109 [8]),aQ 10 .neq 3 9 0] (iD 10 (iS [iA 4 (.mov (.c (.slice none 0 0)))] .ret) .skip)) (iS [iA 5 (.mov (.c (.slice none 0 0)))] (.seq (iS [aF 11 4 2,aL 12 11,aG 13 12,aN 14 0] (.blk 0 (.loop (iS [aP 15 .lss 3 14 13] (.seq (iD 15 .skip (.exit 0)) (.seq (.blk 1 (iS [aI 16 2 12 14,aT 17 2 16,iA 7 wAQ,wAH 7 17] (iS [aF 18 0 7,aL 19 18,aM 20 1,aP 21 .eql 3 19 20] (iD 21 (.reg [aM 22 5,aF 23 1 7,aL 24 23,iA 25 (wAY [(0,1,.t 24)]),iA 26 (wA7 22 25),aM 5 26]) .skip)))) (.reg [aQ 27 .add 3 14 1,aM 14 27]))))))) (iS [aM 28 5,iA 29 (iK 194 [28])] (iS [aM 30 5,aM 4 30] .ret)))))
theorem jhh:fnC Tryz.prog Tryz.f174=some (jd3,[.t 4],31):=by kernel_rfl
theorem jnH (A:List Int):∀n:Nat,(jkB n A).length<=n*A.length
 |0=>by simp [jkB]
 |n+1=>by
  rw [jc9,aOU,aRW,Nat.succ_mul];have:=jnH A n;have:=List.count_le_length (a:=(n:Int)) (l:=A);omega
def jmS (F:List Ed->List Int) (es:List Ed) (x j:Nat):List Int:=jkB x (F es)++List.replicate ((F (es.take j)).count (x:Int)) (x:Int)
section
variable {F:List Ed->List Int} {es:List Ed} {x j:Nat}
theorem jAQ (h:F []=[]):jmS F es x 0=jkB x (F es):=by simp [jmS,h]
theorem jsJ:jmS F es x es.length=jkB (x+1) (F es):=by simp [jmS,jc9]
theorem jsH (h:(F (es.take (j+1))).count (x:Int)=(F (es.take j)).count (x:Int)+1):jmS F es x (j+1)=jmS F es x j++[(x:Int)]:=by simp only [jmS,h,List.replicate_succ',aPH]
theorem jnN (h:(F (es.take (j+1))).count (x:Int)=(F (es.take j)).count (x:Int)):jmS F es x (j+1)=jmS F es x j:=by simp only [jmS,h]
theorem jsI (hF:∀l:List Ed,(F l).length<=l.length) (hx:x<=12) (he:es.length<=30):(jmS F es x j).length<=1000:=by
 have h1:=jnH (F es) x;have h2:=List.count_le_length (a:=(x:Int)) (l:=F (es.take j));have h3:=hF es;have h4:=hF (es.take j);rw [aOZ] at h4;have h5:x*(F es).length<=12*30:=Nat.mul_le_mul hx (by omega)
 simp only [jmS,aOU,aRW];omega
end
theorem jsd (l:List Ed) (t:Int):(jf6 l t).length<=l.length:=by simp only [jf6,aQI];exact aPT _ _
theorem jsb (l:List Ed) (t:Int):(jf5 l t).length<=l.length:=by simp only [jf5,aQI];exact aPT _ _
theorem jcz (p:Pl) (t:Int) (n:Nat) (hn:p.aOD=n) (cC:n<=12) (dI:p.aOI.length<=30):jZ Tryz.prog 169 [.agg (je p),.c (.val (.int .i64 t))] (.c (jc (zK p t))):=by
 refine pf_ jfP ?_;unfold jcI;simp only [go_sem,je];intro b eP;refine qP (λi:Nat×jg=>St.of [(1,Ni t),(2,Bx 200 b),(5,Hd 5 i.2),(6,Ni i.1)] [(200,Bi b _ (je p)),(5,.loose (jc (jkB i.1 (jf6 p.aOI t))) i.2)]) (λi=>i.1<=n) (λi=>n-i.1) (0,eP) (js [200,800] (by simp only [go_sem,je,jAI]<;>trivial)) ?_
 rintro ⟨x,dF⟩ hx;dsimp only at hx;by_cases aB:x<n
 ·have aA:(x:Int)<n:=by omega
  have hw:=kw x;have h0:=jAQ (F:=λl=>jf6 l t) (es:=p.aOI) (x:=x) rfl
  have he:=jsJ (F:=λl=>jf6 l t) (es:=p.aOI) (x:=x)
  simp only [go_sem,je,hn,aA];refine qP (λi:Nat×jg=>St.of [(1,Ni t),(2,Bx 200 b),(5,Hd 5 i.2),(6,Ni x),(7,Ni i.1)] [(200,Bi b _ (je p)),(5,.loose (jc (jmS (λl=>jf6 l t) p.aOI x i.1)) i.2)]) (λi=>i.1<=p.aOI.length) (λi=>p.aOI.length-i.1) (0,dF) (js [200,5] (by simp only [go_sem,je,hn,h0]<;>trivial)) ?_
  rintro ⟨j,aS⟩ hj;dsimp only at hj;by_cases d7:j<p.aOI.length
  ·have bB:(j:Int)<p.aOI.length:=by omega
   obtain ⟨e,l5⟩:=ja d7;have cZ:=kw j;have hc:=jvh l5 x t;have cR:=jsI (F:=λl=>jf6 l t) (es:=p.aOI) (x:=x) (j:=j) (λl=>jsd l t) (by omega) dI
   have dU:(jmS (λl=>jf6 l t) p.aOI x j).length+1<=maxLen:=vT
   have eG:((jmS (λl=>jf6 l t) p.aOI x j).length+1)*8<=140737488355328:=by omega
   by_cases h1:e.src=x
   ·by_cases h2:e.dst=t
    ·have hs:=jsH (F:=λl=>jf6 l t) (es:=p.aOI) (x:=x) (j:=j) (by rw [hc,if_pos ⟨h1,h2⟩])
     have dG:(e.src==(x:Int))=true:=by simpa using h1
     have bP:(e.dst==t)=true:=by simpa using h2
     generalize jmS (λl=>jf6 l t) p.aOI x j=R at*
     simp only [go_sem,je,hn,d7,bB,jE l5,kb,dG,bP,cZ,dU,eG,ko];intro bY eO;exact qc (j+1,eO) (js [200,4300] (by simp only [go_sem,hs]<;>trivial))
    ·have hs:=jnN (F:=λl=>jf6 l t) (es:=p.aOI) (x:=x) (j:=j) (by rw [hc,if_neg (λh=>h2 h.2)];rfl)
     have dG:(e.src==(x:Int))=true:=by simpa using h1
     have bP:(e.dst==t)=false:=by simpa using h2
     simp only [go_sem,je,hn,d7,bB,jE l5,kb,dG,bP,cZ];exact qc (j+1,aS) (js [200,5] (by simp only [go_sem,hs]<;>trivial))
   ·have hs:=jnN (F:=λl=>jf6 l t) (es:=p.aOI) (x:=x) (j:=j) (by rw [hc,if_neg (λh=>h1 h.1)];rfl)
    have dG:(e.src==(x:Int))=false:=by simpa using h1
    simp only [go_sem,je,hn,d7,bB,jE l5,kb,dG,cZ];exact qc (j+1,aS) (js [200,5] (by simp only [go_sem,hs]<;>trivial))
  ·have bB:¬(j:Int)<p.aOI.length:=by omega
   obtain rfl:j=p.aOI.length:=by omega
   simp only [go_sem,je,hn,bB,hw];exact qc (x+1,aS) (js [200,5] (by simp only [go_sem,he]<;>trivial))
 ·have aA:¬(x:Int)<n:=by omega
  obtain rfl:x=n:=by omega
  simp only [go_sem,je,hn,aA,zK,aPB]
theorem jjt (p:Pl) (t:Int) (n:Nat) (hn:p.aOD=n) (cC:n<=12) (dI:p.aOI.length<=30):jZ Tryz.prog 201 [.agg (je p),.c (.val (.int .i64 t))] (.c (jc (jca p t))):=by
 refine pf_ jfO ?_;unfold jcH;simp only [go_sem,je];intro b eP;refine qP (λi:Nat×jg=>St.of [(1,Ni t),(2,Bx 200 b),(5,Hd 5 i.2),(6,Ni i.1)] [(200,Bi b _ (je p)),(5,.loose (jc (jkB i.1 (jf5 p.aOI t))) i.2)]) (λi=>i.1<=n) (λi=>n-i.1) (0,eP) (js [200,800] (by simp only [go_sem,je,jAI]<;>trivial)) ?_
 rintro ⟨x,dF⟩ hx;dsimp only at hx;by_cases aB:x<n
 ·have aA:(x:Int)<n:=by omega
  have hw:=kw x;have h0:=jAQ (F:=λl=>jf5 l t) (es:=p.aOI) (x:=x) rfl
  have he:=jsJ (F:=λl=>jf5 l t) (es:=p.aOI) (x:=x)
  simp only [go_sem,je,hn,aA];refine qP (λi:Nat×jg=>St.of [(1,Ni t),(2,Bx 200 b),(5,Hd 5 i.2),(6,Ni x),(7,Ni i.1)] [(200,Bi b _ (je p)),(5,.loose (jc (jmS (λl=>jf5 l t) p.aOI x i.1)) i.2)]) (λi=>i.1<=p.aOI.length) (λi=>p.aOI.length-i.1) (0,dF) (js [200,5] (by simp only [go_sem,je,hn,h0]<;>trivial)) ?_
  rintro ⟨j,aS⟩ hj;dsimp only at hj;by_cases d7:j<p.aOI.length
  ·have bB:(j:Int)<p.aOI.length:=by omega
   obtain ⟨e,l5⟩:=ja d7;have cZ:=kw j;have hc:=jvf l5 x t;have cR:=jsI (F:=λl=>jf5 l t) (es:=p.aOI) (x:=x) (j:=j) (λl=>jsb l t) (by omega) dI
   have dU:(jmS (λl=>jf5 l t) p.aOI x j).length+1<=maxLen:=vT
   have eG:((jmS (λl=>jf5 l t) p.aOI x j).length+1)*8<=140737488355328:=by omega
   by_cases h1:e.src=t
   ·by_cases h2:e.dst=x
    ·have hs:=jsH (F:=λl=>jf5 l t) (es:=p.aOI) (x:=x) (j:=j) (by rw [hc,if_pos ⟨h1,h2⟩])
     have dG:(e.src==t)=true:=by simpa using h1
     have bP:(e.dst==(x:Int))=true:=by simpa using h2
     generalize jmS (λl=>jf5 l t) p.aOI x j=R at*
     simp only [go_sem,je,hn,d7,bB,jE l5,kb,dG,bP,cZ,dU,eG,ko];intro bY eO;exact qc (j+1,eO) (js [200,4300] (by simp only [go_sem,hs]<;>trivial))
    ·have hs:=jnN (F:=λl=>jf5 l t) (es:=p.aOI) (x:=x) (j:=j) (by rw [hc,if_neg (λh=>h2 h.2)];rfl)
     have dG:(e.src==t)=true:=by simpa using h1
     have bP:(e.dst==(x:Int))=false:=by simpa using h2
     simp only [go_sem,je,hn,d7,bB,jE l5,kb,dG,bP,cZ];exact qc (j+1,aS) (js [200,5] (by simp only [go_sem,hs]<;>trivial))
   ·have hs:=jnN (F:=λl=>jf5 l t) (es:=p.aOI) (x:=x) (j:=j) (by rw [hc,if_neg (λh=>h1 h.1)];rfl)
    have dG:(e.src==t)=false:=by simpa using h1
    simp only [go_sem,je,hn,d7,bB,jE l5,kb,dG,cZ];exact qc (j+1,aS) (js [200,5] (by simp only [go_sem,hs]<;>trivial))
  ·have bB:¬(j:Int)<p.aOI.length:=by omega
   obtain rfl:j=p.aOI.length:=by omega
   simp only [go_sem,je,hn,bB,hw];exact qc (x+1,aS) (js [200,5] (by simp only [go_sem,he]<;>trivial))
 ·have aA:¬(x:Int)<n:=by omega
  obtain rfl:x=n:=by omega
  simp only [go_sem,je,hn,aA,jca,aPB]
theorem jdp (p:Pl) (t:Int) (h0:jm p=0):jZ Tryz.prog 164 [.agg (je p),.c (.val (.int .i64 t))] (.c (jc (zK p t))):=by
 obtain ⟨n,hn,eB,cC,dI,bU,aY,-⟩:=ja8 h0;refine pf_ jhi ?_;unfold jd4;simp only [go_sem,je];intro b;refine jk (qw p (by omega)) λη=>?_
 simp only [go_sem];simp only [go_sem,h0,aRI];refine qP (λi:Nat×jg=>St.of [(1,Ni t),(5,Hd 5 i.2),(12,Ro (jn p.aOI)),(13,Ni p.aOI.length),(14,Ni i.1)] [(5,.loose (jc (jf6 (p.aOI.take i.1) t)) i.2)]) (λi=>i.1<=p.aOI.length) (λi=>p.aOI.length-i.1) (0,jcb) (vU [none] (by simp only [go_sem]<;>trivial)) ?_
 rintro ⟨j,aS⟩ hj;dsimp only at hj;by_cases d7:j<p.aOI.length
 ·have bB:(j:Int)<p.aOI.length:=by omega
  obtain ⟨e,l5⟩:=ja d7;have cZ:=kw j;have hc:=jqL l5 t;have cR:=jsd (p.aOI.take j) t;rw [aOZ] at cR;generalize jf6 (p.aOI.take j) t=R at*;have dU:R.length+1<=maxLen:=vT;have eG:(R.length+1)*8<=140737488355328:=by omega
  by_cases h2:e.dst=t
  ·have bP:(e.dst==t)=true:=by simpa using h2
   rw [if_pos h2] at hc;simp only [go_sem,d7,bB,jE l5,kb];intro b2;simp only [go_sem,bP,cZ,dU,eG,ko];intro bY eO;exact qc (j+1,eO) (js [2600] (by simp only [go_sem,hc]<;>trivial))
  ·have bP:(e.dst==t)=false:=by simpa using h2
   rw [if_neg h2,aPR] at hc;simp only [go_sem,d7,bB,jE l5,kb];intro b2;simp only [go_sem,bP,cZ];exact qc (j+1,aS) (js [5] (by simp only [go_sem,hc]<;>trivial))
 ·have bB:¬(j:Int)<p.aOI.length:=by omega
  rw [aOW (by omega)]
  have hA:=jtI aY bU t;simp only [go_sem,bB];refine kW (jkh (jtb (jf6 p.aOI t) (by omega) _ 5 aS (by simp only [go_sem])) ?_)
  rintro av o' ⟨rfl,l,i,rfl,h1,h2⟩;obtain rfl:=jAH (jlU bU t) h1 (by rw [h1.1.length_eq];exact h2)
  simp only [go_sem,jsm,zK,hn,aPB]
theorem jk3 (p:Pl) (t:Int) (h0:jm p=0):jZ Tryz.prog 174 [.agg (je p),.c (.val (.int .i64 t))] (.c (jc (jca p t))):=by
 obtain ⟨n,hn,eB,cC,dI,bU,aY,-⟩:=ja8 h0;refine pf_ jhh ?_;unfold jd3;simp only [go_sem,je];intro b;refine jk (qw p (by omega)) λη=>?_
 simp only [go_sem];simp only [go_sem,h0,aRI];refine qP (λi:Nat×jg=>St.of [(1,Ni t),(5,Hd 5 i.2),(12,Ro (jn p.aOI)),(13,Ni p.aOI.length),(14,Ni i.1)] [(5,.loose (jc (jf5 (p.aOI.take i.1) t)) i.2)]) (λi=>i.1<=p.aOI.length) (λi=>p.aOI.length-i.1) (0,jcb) (vU [none] (by simp only [go_sem]<;>trivial)) ?_
 rintro ⟨j,aS⟩ hj;dsimp only at hj;by_cases d7:j<p.aOI.length
 ·have bB:(j:Int)<p.aOI.length:=by omega
  obtain ⟨e,l5⟩:=ja d7;have cZ:=kw j;have hc:=jqK l5 t;have cR:=jsb (p.aOI.take j) t;rw [aOZ] at cR;generalize jf5 (p.aOI.take j) t=R at*;have dU:R.length+1<=maxLen:=vT;have eG:(R.length+1)*8<=140737488355328:=by omega
  by_cases h2:e.src=t
  ·have bP:(e.src==t)=true:=by simpa using h2
   rw [if_pos h2] at hc;simp only [go_sem,d7,bB,jE l5,kb];intro b2;simp only [go_sem,bP,cZ,dU,eG,ko];intro bY eO;exact qc (j+1,eO) (js [2600] (by simp only [go_sem,hc]<;>trivial))
  ·have bP:(e.src==t)=false:=by simpa using h2
   rw [if_neg h2,aPR] at hc;simp only [go_sem,d7,bB,jE l5,kb];intro b2;simp only [go_sem,bP,cZ];exact qc (j+1,aS) (js [5] (by simp only [go_sem,hc]<;>trivial))
 ·have bB:¬(j:Int)<p.aOI.length:=by omega
  rw [aOW (by omega)]
  have hA:=jAs aY bU t;simp only [go_sem,bB];refine kW (jkh (jtb (jf5 p.aOI t) (by omega) _ 5 aS (by simp only [go_sem])) ?_)
  rintro av o' ⟨rfl,l,i,rfl,h1,h2⟩;obtain rfl:=jAH (joQ bU t) h1 (by rw [h1.1.length_eq];exact h2)
  simp only [go_sem,jsm,jca,hn,aPB]
def je3:C:=iS [iA 2 (.box 52 8 (.t 0)),aO 4 false] (iS [aF 9 7 2,aL 10 9,aM 11 1,aI 12 4 10 11,aT 13 4 12,iA 5 wAN,wAB 5 13] (iS [aN 6 0] (iS [aF 14 1 2,aT 15 5 14,aM 16 1,iA 17 (iK 169 [15,16]),aM 7 17] (.seq (iS [aN 8 0] (.blk 0 (.loop (.seq (iS [aM 18 8,aM 19 7,aG 20 19,aP 21 .lss 3 18 20] (iD 21 .skip (.exit 0))) (.seq (.blk 1 (.seq (.dreg (tA 0 24 (iF 7 2) (tA 1 25 (iL 24) (tA 2 26 (iM 7) (tA 3 27 (iM 8) (tA 4 28 (iI 1 26 27) (tA 5 29 (iL 28) (tA 6 30 (iI 4 25 29) (tA 7 31 (iF 0 30) (tA 8 32 (iL 31) (tA 9 33 (iQ .neq 3 32 4) .done))))))))))) (iD 33 (.reg [aM 34 6,aQ 35 .add 3 34 1,aM 6 35]) .skip))) (.reg [aM 22 8,aQ 23 .add 3 22 1,aM 8 23])))))) (.seq (iS [aF 36 1 5,aL 37 36,aM 38 6,aP 39 .neq 3 37 38,aM 40 39,iB 41 40 false (iF 2 5),iB 42 40 false (iL 41),iB 43 40 false (iF 1 2),iB 44 40 false (iF 1 43),iB 45 40 false (iL 44),iB 46 40 false (.call 68 [.t 42,oI 0,.t 45]),iB 47 40 false (iU 46),iA 48 (iY 40 (oT) (.t 47))] (iD 48 (iS [aO 4 false] .ret) .skip)) (.seq (iS [aF 49 0 5,aL 50 49,aQ 51 .eql 3 50 3,aM 52 51,iB 53 52 true (iF 3 5),iB 54 52 true (iL 53),iB 55 52 true (.call 68 [.t 54,oI 1,oI 1000000000]),iB 56 52 true (iU 55),iA 57 (iY 52 (.t 56) (oF)),aM 58 57,iB 59 58 false (iF 0 5),iB 60 58 false (iL 59),iB 61 58 false (iQ .neq 3 60 3),iB 62 58 false (iM 61),iB 63 62 true (iF 3 5),iB 64 62 true (iL 63),iB 65 62 true (iQ .neq 3 64 0),iB 66 58 false (iY 62 (.t 65) (oF)),iA 67 (iY 58 (oT) (.t 66))] (iD 67 (iS [aO 4 false] .ret) .skip)) (.seq (iS [aF 68 0 5,aL 69 68] (.blk 2 (iS [aQ 71 .eql 3 69 1,aM 70 71] (iD 70 (iS [aM 72 6,aQ 73 .gtr 3 72 0,aM 4 73] .ret) (iS [aQ 75 .eql 3 69 2,aM 74 75] (iD 74 (iS [aM 76 6,aQ 77 .eql 3 76 0,aM 78 77,iB 79 78 true (iF 2 5),iB 80 78 true (iL 79),iB 81 78 true (iF 1 2),iB 82 78 true (iF 1 81),iB 83 78 true (iL 82),iB 84 78 true (iP .lss 3 80 83),iA 85 (iY 78 (.t 84) (oF)),aM 4 85] .ret) (.seq (iS [aQ 87 .eql 3 69 3,aM 86 87] (iD 86 .skip (iS [aQ 88 .eql 3 69 4,aM 86 88] (iD 86 .skip (.reg [aQ 89 .eql 3 69 5,aM 86 89]))))) (iD 86 (iS [aM 90 6,aQ 91 .eql 3 90 0,aM 92 91,iB 93 92 true (iF 2 5),iB 94 92 true (iL 93),iB 95 92 true (iQ .geq 3 94 1),iA 96 (iY 92 (.t 95) (oF)),aM 4 96] .ret) .skip)))))))) (iS [aF 97 0 5,aL 98 97,aQ 99 .eql 3 98 6,aM 4 99] .ret))))))))
theorem jis:fnC Tryz.prog Tryz.f178=some (je3,[.t 4],100):=by kernel_rfl
def jdG:C:=iS [iA 1 (.box 52 8 (.t 0)),aN 2 0] (iS [iA 6 (.bsl 3 1 7 [none,none,none,none,none,none,none] [(0,1,oI 0),(1,1,oI 0),(2,1,oI 0),(3,1,oI 0),(4,1,oI 0),(5,1,oI 0),(6,1,oI 0)]),aM 3 6] (.seq (iS [aN 4 0] (.blk 0 (.loop (.seq (iS [aM 7 4,aF 8 7 1,aL 9 8,aG 10 9,aP 11 .lss 3 7 10] (iD 11 .skip (.exit 0))) (.seq (.blk 1 (.reg [aM 14 3,aF 15 7 1,aL 16 15,aM 17 4,aI 18 4 16 17,aF 19 0 18,aL 20 19,aI 21 1 14 20,aL 22 21,aQ 23 .add 3 22 1,aI 24 1 14 20,wAD 24 23])) (.reg [aM 12 4,aQ 13 .add 3 12 1,aM 4 13])))))) (.seq (.dreg (tA 0 25 (iM 3) (tA 1 26 (.ia 1 (.t 25) (oI 1)) (tA 2 27 (iL 26) (tA 3 28 (iM 3) (tA 4 29 (.ia 1 (.t 28) (oI 2)) (tA 5 30 (iL 29) (tA 6 31 (iP .add 3 27 30) (tA 7 32 (iM 3) (tA 8 33 (.ia 1 (.t 32) (oI 3)) (tA 9 34 (iL 33) (tA 10 35 (iP .add 3 31 34) (tA 11 5 (iM 35) .done))))))))))))) (.seq (.blk 2 (.seq (.dreg (tA 0 37 (iM 3) (tA 1 38 (.ia 1 (.t 37) (oI 4)) (tA 2 39 (iL 38) (tA 3 40 (iF 7 1) (tA 4 41 (iL 40) (tA 5 42 (iG 41) (tA 6 43 (iP .eql 3 39 42) (tA 7 36 (iM 43) .done))))))))) (iD 36 (iS [aN 2 2] .ret) (iS [aM 45 3,iA 46 (.ia 1 (.t 45) (oI 5)),aL 47 46,aQ 48 .eql 3 47 1,aM 49 48,iB 50 49 true (iM 5),iB 51 49 true (iQ .eql 3 50 0),iA 52 (iY 49 (.t 51) (oF)),aM 44 52] (iD 44 (iS [aN 2 3] .ret) (iS [aM 54 3,iA 55 (.ia 1 (.t 54) (oI 5)),aL 56 55,aQ 57 .eql 3 56 0,aM 58 57,iB 59 58 true (iM 3),iB 60 58 true (.ia 1 (.t 59) (oI 6)),iB 61 58 true (iL 60),iB 62 58 true (iQ .gtr 3 61 0),iA 63 (iY 58 (.t 62) (oF)),aM 64 63,iB 65 64 true (iM 5),iB 66 64 true (iQ .eql 3 65 0),iA 67 (iY 64 (.t 66) (oF)),aM 53 67] (iD 53 (iS [aN 2 4] .ret) (iS [aM 69 3,iA 70 (.ia 1 (.t 69) (oI 5)),aL 71 70,aQ 72 .eql 3 71 0,aM 73 72,iB 74 73 true (iM 3),iB 75 73 true (.ia 1 (.t 74) (oI 6)),iB 76 73 true (iL 75),iB 77 73 true (iQ .eql 3 76 0),iA 78 (iY 73 (.t 77) (oF)),aM 68 78] (iD 68 (iS [aN 2 1] .ret) .skip))))))))) (iS [aN 2 0] .ret)))))
theorem jgX:fnC Tryz.prog Tryz.f179=some (jdG,[.t 2],79):=by kernel_rfl
def jjh:C:=iS [iA 1 (.box 52 8 (.t 0)),aO 2 false] (.seq (iS [aF 5 0 1,aL 6 5,iA 7 (.call 68 [.t 6,oI 1,oI 9999]),aU 8 7,aM 9 8,iB 10 9 false (iF 1 1),iB 11 9 false (iT 5 10),iB 12 9 false (iK 112 [11]),iB 13 9 false (iQ .neq 3 12 0),iA 14 (iY 9 (oT) (.t 13)),aM 15 14,iB 16 15 false (iF 7 1),iB 17 15 false (iL 16),iB 18 15 false (iG 17),iB 19 15 false (iF 1 1),iB 20 15 false (iF 3 19),iB 21 15 false (iL 20),iB 22 15 false (iP .neq 3 18 21),iA 23 (iY 15 (oT) (.t 22))] (iD 23 (iS [aO 2 false] .ret) .skip)) (.seq (iS [aN 3 0] (.blk 0 (.loop (.seq (iS [aM 24 3,aF 25 7 1,aL 26 25,aG 27 26,aP 28 .lss 3 24 27] (iD 28 .skip (.exit 0))) (.seq (.blk 1 (iS [aF 31 7 1,aL 32 31,aM 33 3,aI 34 4 32 33,aF 35 0 34,aL 36 35,iA 37 (.call 68 [.t 36,oI 1,oI 6]),aU 38 37] (iD 38 (iS [aO 2 false] .ret) .skip))) (.reg [aM 29 3,aQ 30 .add 3 29 1,aM 3 30])))))) (.seq (iS [aN 4 0] (.blk 2 (.loop (.seq (iS [aM 39 4,aF 40 7 1,aL 41 40,aG 42 41,aP 43 .lss 3 39 42] (iD 43 .skip (.exit 2))) (.seq (.blk 3 (iS [aT 46 8 1,aM 47 4,iA 48 (iK 178 [46,47]),aU 49 48] (iD 49 (iS [aO 2 false] .ret) .skip))) (.reg [aM 44 4,aQ 45 .add 3 44 1,aM 4 45])))))) (.seq (.dreg (tA 0 50 (iF 6 1) (tA 1 51 (iL 50) (tA 2 52 (iT 8 1) (tC 53 (iK 179 [52]) [1,0] (tA 4 54 (iP .eql 3 51 53) (tA 5 55 (iM 54) (tB 6 56 55 true (iF 6 1) (tB 7 57 55 true (iL 56) (tB 8 58 55 true (iQ .neq 3 57 0) (tA 9 59 (iY 55 (.t 58) (oF)) (tA 10 2 (iM 59) .done))))))) .stop))))) .ret))))
theorem jlB:fnC Tryz.prog Tryz.f130=some (jjh,[.t 2],60):=by kernel_rfl
def jnl (ts:List Tk) (l:List Int):Nat:=(l.filter λb=>stT ts b !=4).length
theorem jtA {ts:List Tk} {l:List Int} {k:Nat} {v:Int} {y:Tk} (hv:l[k]?=some v) (hy:ts[v.toNat]?=some y) (h:(y.aOG !=4)=true):jnl ts (l.take (k+1))=jnl ts (l.take k)+1:=by
 rw [aPE,hv];simp [jnl,aRD,jnG hy,h]
theorem jxS {ts:List Tk} {l:List Int} {k:Nat} {v:Int} {y:Tk} (hv:l[k]?=some v) (hy:ts[v.toNat]?=some y) (h:(y.aOG !=4)=false):jnl ts (l.take (k+1))=jnl ts (l.take k):=by
 rw [aPE,hv];simp [jnl,aRD,jnG hy,h]
theorem jxT (ts:List Tk) (l:List Int):jnl ts l<=l.length:=aPT _ _
theorem jyc {p:Pl} {n:Nat} (hn:p.aOD=n) {t v:Int} (h:v∈zK p t):0<=v/\v<n:=by
 have:=(jge h).1;rw [hn,aPB] at this;exact this
theorem joR {p:Pl} {n:Nat} (hn:p.aOD=n) (cC:n<=12) (dI:p.aOI.length<=30) (t:Int):(zK p t).length<=1000:=by
 have h1:=jnH (jf6 p.aOI t) p.aOD.toNat;have h3:=jsd p.aOI t;have h5:p.aOD.toNat*(jf6 p.aOI t).length<=12*30:=Nat.mul_le_mul (by omega) (by omega)
 unfold zK;omega
theorem jsa {p:Pl} {n:Nat} (hn:p.aOD=n) {t v:Int} (h:v∈jca p t):0<=v/\v<n:=by
 have:=(jge h).1;rw [hn,aPB] at this;exact this
theorem jtH {p:Pl} {n:Nat} (hn:p.aOD=n) (cC:n<=12) (dI:p.aOI.length<=30) (t:Int):(jca p t).length<=1000:=by
 have h1:=jnH (jf5 p.aOI t) p.aOD.toNat;have h3:=jsb p.aOI t;have h5:p.aOD.toNat*(jf5 p.aOI t).length<=12*30:=Nat.mul_le_mul (by omega) (by omega)
 unfold jca;omega
theorem jvQ (s:Int):s=1\/s=2\/s=3\/s=4\/s=5\/s=6\/((s==1)=false/\(s==2)=false/\(s==3)=false/\(s==4)=false/\(s==5)=false/\(s==6)=false):=by
 by_cases h1:s=1; · simp [h1]
 by_cases h2:s=2; · simp [h2]
 by_cases h3:s=3; · simp [h3]
 by_cases h4:s=4; · simp [h4]
 by_cases h5:s=5; · simp [h5]
 by_cases h6:s=6; · simp [h6]
 simp [h1,h2,h3,h4,h5,h6]
theorem jl5 (r:Rn) (t:Nat) (x:Tk) (hx:r.aOD[t]?=some x) (h0:jm r.aOF=0) (aC:(r.aOD.length:Int)=r.aOF.aOD):jZ Tryz.prog 178 [.agg (jd r),.c (.val (.int .i64 t))] (.c (.val (.bool (jT r.aOF r.aOD t x)))):=by
 obtain ⟨n,hn,eB,cC,dI,bU,aY,-⟩:=ja8 h0;have dD:=(aOS.1 hx).1;refine pf_ jis ?_;unfold je3;have uV:=joR hn cC dI t;have eT:=qN t;simp only [go_sem,jd,je,dD,eT,jL hx,jz];intro b b2;refine jk (jcz r.aOF t n hn cC dI) λη=>?_
 simp only [go_sem];refine qP (λi:Nat=>St.of [(2,Bx 200 b),(5,Bx 500 b2),(6,Ni (jnl r.aOD ((zK r.aOF t).take i))),(7,Hd 7 (η 0)),(8,Ni i)] [(200,Bi b _ (jd r)),(500,Bi b2 _ (jz x)),(7,.loose (jc (zK r.aOF t)) (η 0))]) (λi=>i<=(zK r.aOF t).length) (λi=>(zK r.aOF t).length-i) 0 (js [200,500,1700] (by simp only [go_sem,jd,je,jz,aQH,jnl,List.filter_nil,aPU]<;>trivial)) ?_
 rintro k hk;by_cases aB:k<(zK r.aOF t).length
 ·have aA:(k:Int)<(zK r.aOF t).length:=by omega
  obtain ⟨v,hv⟩:=ja aB;have p8:=jyc hn (aOT hv);have bO:v.toNat<r.aOD.length:=by omega
  have oA:=p8.1;obtain ⟨y,hy⟩:=ja bO;have hw:=kw k;have dN:=jxT r.aOD ((zK r.aOF t).take k);rw [aOZ] at dN;have bX:IntKind.i64.wrap ((jnl r.aOD ((zK r.aOF t).take k):Int)+1)=((jnl r.aOD ((zK r.aOF t).take k)+1:Nat):Int):=zm;cases hc:y.aOG !=4
  ·have hs:=jxS hv hy hc
   simp only [go_sem,jd,je,aB,aA,jq hv,jp aB,bO,oA,jL hy,jz,hc,hw];exact qc (k+1) (js [200,500,7] (by simp only [go_sem,hs]<;>trivial))
  ·have hs:=jtA hv hy hc
   simp only [go_sem,jd,je,aB,aA,jq hv,jp aB,bO,oA,jL hy,jz,hc,hw,bX];exact qc (k+1) (js [200,500,7] (by simp only [go_sem,hs]<;>trivial))
 have aA:¬(k:Int)<(zK r.aOF t).length:=by omega
 rw [aOW (by omega)]
 have aY:jaZ r.aOF r.aOD t=(jnl r.aOD (zK r.aOF t):Int):=rfl;generalize jnl r.aOD (zK r.aOF t)=N at*;cases aK:x.aOO !=(N:Int);rotate_left
 ·have hb:jT r.aOF r.aOD t x=false:=by
   have:¬x.aOO=N:=by simpa using aK
   simp [jT,aY,this]
  simp only [go_sem,jd,je,jz,aA,aK,hb]
 have bS:x.aOO=N:=by simpa using aK
 simp only [go_sem,jd,je,jz,aA,aK];refine jk (jK x.tri 0 r.aOF.aOQ) λη=>?_
 simp only [go_sem];cases i9:decide (0<=x.tri/\x.tri<=r.aOF.aOQ)
 ·have hb:jT r.aOF r.aOD t x=false:=by simp [jT,inB,i9]
  simp only [go_sem,hb]
 have dP:0<=x.tri/\x.tri<=r.aOF.aOQ:=by simpa using i9
 rcases jvQ x.aOG with hs|hs|hs|hs|hs|hs|⟨s1,s2,s3,s4,s5,s6⟩
 ·cases ht:x.til !=0
  rotate_left
  ·have hb:jT r.aOF r.aOD t x=false:=by
    have:¬x.til=0:=by simpa using ht
    simp [jT,jbB,hs,this]
   simp only [go_sem,hs,ht,hb]
  have dQ:x.til=0:=by simpa using ht
  have hb:jT r.aOF r.aOD t x=decide ((N:Int)>0):=by simp [jT,jbB,vn,inB,hs,aY,bS,dQ,dP]
  simp only [go_sem,hs,ht,hb]
 ·cases ht:x.til !=0
  rotate_left
  ·have hb:jT r.aOF r.aOD t x=false:=by
    have:¬x.til=0:=by simpa using ht
    simp [jT,jbB,hs,this]
   simp only [go_sem,hs,ht,hb]
  have dQ:x.til=0:=by simpa using ht
  cases hz:(N:Int)==0
  ·have cQ:¬N=0:=by simpa using hz
   have hb:jT r.aOF r.aOD t x=false:=by simp [jT,jbB,vn,inB,hs,aY,bS,dQ,dP,cQ]
   simp only [go_sem,hs,ht,hz,hb]
  ·have cQ:N=0:=by simpa using hz
   have hb:jT r.aOF r.aOD t x=decide (x.tri<r.aOF.aOQ):=by simp [jT,jbB,vn,inB,hs,aY,bS,dQ,dP,cQ]
   simp only [go_sem,hs,ht,hz,hb]
 ·simp only [go_sem,hs]
  refine jk (jK x.til 1 1000000000) λη=>?_
  simp only [go_sem];cases ht:decide (1<=x.til/\x.til<=1000000000)
  ·have hb:jT r.aOF r.aOD t x=false:=by simp [jT,jbB,inB,hs,ht]
   simp only [go_sem,hb]
  have dQ:1<=x.til/\x.til<=1000000000:=by simpa using ht
  cases hz:(N:Int)==0
  ·have cQ:¬N=0:=by simpa using hz
   have hb:jT r.aOF r.aOD t x=false:=by simp [jT,jbB,vn,inB,hs,aY,bS,dQ,dP,cQ]
   simp only [go_sem,hz,hb]
  ·have cQ:N=0:=by simpa using hz
   have hb:jT r.aOF r.aOD t x=decide (x.tri>=1):=by simp [jT,jbB,vn,inB,hs,aY,bS,dQ,dP,cQ]
   simp only [go_sem,hz,hb]
 ·cases ht:x.til !=0
  rotate_left
  ·have hb:jT r.aOF r.aOD t x=false:=by
    have:¬x.til=0:=by simpa using ht
    simp [jT,jbB,hs,this]
   simp only [go_sem,hs,ht,hb]
  have dQ:x.til=0:=by simpa using ht
  cases hz:(N:Int)==0
  ·have cQ:¬N=0:=by simpa using hz
   have hb:jT r.aOF r.aOD t x=false:=by simp [jT,jbB,vn,inB,hs,aY,bS,dQ,dP,cQ]
   simp only [go_sem,hs,ht,hz,hb]
  ·have cQ:N=0:=by simpa using hz
   have hb:jT r.aOF r.aOD t x=decide (x.tri>=1):=by simp [jT,jbB,vn,inB,hs,aY,bS,dQ,dP,cQ]
   simp only [go_sem,hs,ht,hz,hb]
 ·cases ht:x.til !=0
  rotate_left
  ·have hb:jT r.aOF r.aOD t x=false:=by
    have:¬x.til=0:=by simpa using ht
    simp [jT,jbB,hs,this]
   simp only [go_sem,hs,ht,hb]
  have dQ:x.til=0:=by simpa using ht
  cases hz:(N:Int)==0
  ·have cQ:¬N=0:=by simpa using hz
   have hb:jT r.aOF r.aOD t x=false:=by simp [jT,jbB,vn,inB,hs,aY,bS,dQ,dP,cQ]
   simp only [go_sem,hs,ht,hz,hb]
  ·have cQ:N=0:=by simpa using hz
   have hb:jT r.aOF r.aOD t x=decide (x.tri>=1):=by simp [jT,jbB,vn,inB,hs,aY,bS,dQ,dP,cQ]
   simp only [go_sem,hs,ht,hz,hb]
 ·cases ht:x.til !=0
  rotate_left
  ·have hb:jT r.aOF r.aOD t x=false:=by
    have:¬x.til=0:=by simpa using ht
    simp [jT,jbB,hs,this]
   simp only [go_sem,hs,ht,hb]
  have dQ:x.til=0:=by simpa using ht
  have hb:jT r.aOF r.aOD t x=true:=by simp [jT,jbB,vn,inB,hs,aY,bS,dQ,dP]
  simp only [go_sem,hs,ht,hb]
 ·have hb:jT r.aOF r.aOD t x=false:=by
   have h1:¬x.aOG=1:=by simpa using s1
   have h2:¬x.aOG=2:=by simpa using s2
   have h3:¬x.aOG=3:=by simpa using s3
   have h4:¬x.aOG=4:=by simpa using s4
   have h5:¬x.aOG=5:=by simpa using s5
   have h6:¬x.aOG=6:=by simpa using s6
   have:¬(1<=x.aOG/\x.aOG<=6):=by omega
   simp [jT,inB,this]
  have s3':(x.aOG !=3)=true:=by simp [bne,s3]
  cases ht:x.til !=0
  ·simp only [go_sem,s1,s2,s3,s3',s4,s5,s6,ht,hb]
  ·simp only [go_sem,s3,s3',ht,hb]
theorem jxk {a b:Nat} (h:((a:Int)==(b:Int))=true):a=b:=by have:=eq_of_beq h;omega
theorem jxl {a b:Nat} (h:((a:Int)==(b:Int))=false):¬a=b:=by have:=ne_of_beq_false h;omega
def cN (ts:List Tk) (k:Nat):List Int:=(List.range 7).map λ(s:Nat)=>(((zk (s:Int) ts k).length:Nat):Int)
theorem jqI (ts:List Tk) (k:Nat):(cN ts k).length=7:=by simp [cN]
theorem jfz {ts:List Tk} {k s:Nat} (h:s<7):(cN ts k)[s]?=some (((zk (s:Int) ts k).length:Nat):Int):=by simp [cN,h]
theorem jDt {ts:List Tk} {k:Nat} {x:Tk} (hx:ts[k]?=some x) (h:1<=x.aOG/\x.aOG<=6):(cN ts k).set x.aOG.toNat (((zk x.aOG ts k).length+1:Nat):Int)=cN ts (k+1):=by
 apply aRB
 intro s;rw [aQK,jqI];by_cases e:x.aOG.toNat=s
 ·subst e
  rw [if_pos rfl,if_pos (by omega),jfz (by omega),jc6 hx]
  have:((x.aOG.toNat:Nat):Int)=x.aOG:=by omega
  simp [this]
 ·rw [if_neg e]
  by_cases hs:s<7
  ·rw [jfz hs,jfz hs,jc6 hx,if_neg (by omega)];simp
  ·rw [aQQ (by rw [jqI];omega),aQQ (by rw [jqI];omega)]
theorem jdh (r:Rn) (aJ:∀x∈r.aOD,1<=x.aOG/\x.aOG<=6) (hl:r.aOD.length<=2000000):jZ Tryz.prog 179 [.agg (jd r)] (.c (.val (.int .i64 (jgd r.aOD)))):=by
 refine pf_ jgX ?_;unfold jdG;have hz:D.sl 1 jes [.val (.int .i64 0),.val (.int .i64 0),.val (.int .i64 0),.val (.int .i64 0),.val (.int .i64 0),.val (.int .i64 0),.val (.int .i64 0)]=jc (cN r.aOD 0):=rfl;simp only [go_sem,jd,je,hz];intro b eP;refine qP (λi:Nat×jg=>St.of [(1,Bx 100 b),(3,Hd 3 i.2),(4,Ni i.1)] [(100,Bi b _ (jd r)),(3,.loose (jc (cN r.aOD i.1)) i.2)]) (λi=>i.1<=r.aOD.length) (λi=>r.aOD.length-i.1) (0,eP) (js [100,600] (by simp only [go_sem,jd,je]<;>trivial)) ?_
 rintro ⟨k,η⟩ hk;dsimp only at hk;by_cases aB:k<r.aOD.length
 ·have aA:(k:Int)<r.aOD.length:=by omega
  obtain ⟨x,hx⟩:=ja aB;have hs:=aJ x (aOT hx);have hs0:=hs.1;have fN:x.aOG>=0:=by omega
  have fM:0<=x.aOG:=by omega
  have hs7:x.aOG.toNat<7:=by omega
  have lI:x.aOG.toNat<(cN r.aOD k).length:=by rw [jqI];exact hs7
  have hw:=kw k;have hg:=jfz (ts:=r.aOD) (k:=k) hs7;rw [show ((x.aOG.toNat:Nat):Int)=x.aOG by omega] at hg
  have cR:=va x.aOG r.aOD k;have bX:IntKind.i64.wrap (((zk x.aOG r.aOD k).length:Int)+1)=(((zk x.aOG r.aOD k).length+1:Nat):Int):=zm;have cU:=jDt hx hs;generalize cN r.aOD k=L at*;simp only [go_sem,jd,je,aB,aA,jL hx,jz,fN,lI,jq hg,jp lI,bX,jci _ lI,cU,hw];exact qc (k+1,η) (js [100,3])
 have aA:¬(k:Int)<r.aOD.length:=by omega
 obtain rfl:k=r.aOD.length:=by omega
 have eI:=jc5 aJ r.aOD.length (aPD _);have gY:jgd r.aOD=if (zk 4 r.aOD r.aOD.length).length=r.aOD.length then 2 else if (zk 5 r.aOD r.aOD.length).length=1/\(zk 4 r.aOD r.aOD.length).length+(zk 5 r.aOD r.aOD.length).length+(zk 6 r.aOD r.aOD.length).length=r.aOD.length then 3 else if (zk 5 r.aOD r.aOD.length).length=0/\0<(zk 6 r.aOD r.aOD.length).length/\(zk 4 r.aOD r.aOD.length).length+(zk 5 r.aOD r.aOD.length).length+(zk 6 r.aOD r.aOD.length).length=r.aOD.length then 4 else if (zk 5 r.aOD r.aOD.length).length=0/\(zk 6 r.aOD r.aOD.length).length=0 then 1 else 0:=rfl
 have g1:(cN r.aOD r.aOD.length)[1]?=some (((zk 1 r.aOD r.aOD.length).length:Nat):Int):=jfz (s:=1) (by omega)
 have g2:(cN r.aOD r.aOD.length)[2]?=some (((zk 2 r.aOD r.aOD.length).length:Nat):Int):=jfz (s:=2) (by omega)
 have g3:(cN r.aOD r.aOD.length)[3]?=some (((zk 3 r.aOD r.aOD.length).length:Nat):Int):=jfz (s:=3) (by omega)
 have g4:(cN r.aOD r.aOD.length)[4]?=some (((zk 4 r.aOD r.aOD.length).length:Nat):Int):=jfz (s:=4) (by omega)
 have g5:(cN r.aOD r.aOD.length)[5]?=some (((zk 5 r.aOD r.aOD.length).length:Nat):Int):=jfz (s:=5) (by omega)
 have g6:(cN r.aOD r.aOD.length)[6]?=some (((zk 6 r.aOD r.aOD.length).length:Nat):Int):=jfz (s:=6) (by omega)
 have dN:=jqI r.aOD r.aOD.length;rw [gY];generalize hL:r.aOD.length=len at*;generalize (zk 1 r.aOD len).length=c1 at*;generalize (zk 2 r.aOD len).length=c2 at*;generalize (zk 3 r.aOD len).length=c3 at*;generalize (zk 4 r.aOD len).length=c4 at*;generalize (zk 5 r.aOD len).length=c5 at*;generalize (zk 6 r.aOD len).length=c6 at*;generalize cN r.aOD len=L at*;clear gY;have i1:1<L.length:=by omega
 have i2:2<L.length:=by omega
 have i3:3<L.length:=by omega
 have i4:4<L.length:=by omega
 have i5:5<L.length:=by omega
 have i6:6<L.length:=by omega
 have w12:IntKind.i64.wrap ((c1:Int)+c2)=((c1+c2:Nat):Int):=by rw [kU (by omega) (by omega)];omega
 have w123:IntKind.i64.wrap (((c1+c2:Nat):Int)+c3)=((c1+c2+c3:Nat):Int):=by rw [kU (by omega) (by omega)];omega
 simp only [go_sem,jd,je,hL,aA,i1,i2,i3,i4,jq g1,jq g2,jq g3,jq g4,jp i1,jp i2,jp i3,jp i4,w12,w123];cases hA:(c4:Int)==len;rotate_left
 ·have wE:c4=len:=jxk hA
  rw [if_pos (by omega)]
  simp only [go_sem]
 have wE:¬c4=len:=jxl hA;cases hB:(c5:Int)==1;rotate_left
 ·have z4:c5=1:=jxk hB
  have tT:((c5:Int)==0)=false:=by rw [z4];rfl
  cases hR:((c1+c2+c3:Nat):Int)==0
  ·have v6:¬c1+c2+c3=0:=jxl hR
   rw [if_neg (by omega),if_neg (by omega),if_neg (by omega),if_neg (by omega)]
   simp only [go_sem,i5,jq g5,jp i5,hB,tT,hR]
  ·have v6:c1+c2+c3=0:=jxk hR
   rw [if_neg (by omega),if_pos (by omega)]
   simp only [go_sem,i5,jq g5,jp i5,hB,hR]
 have z4:¬c5=1:=jxl hB;cases hC:(c5:Int)==0
 ·have hC':¬c5=0:=jxl hC
  rw [if_neg (by omega),if_neg (by omega),if_neg (by omega),if_neg (by omega)]
  simp only [go_sem,i5,jq g5,jp i5,hB,hC]
 have hC':c5=0:=jxk hC;by_cases h6:0<c6
 ·have sG:(c6:Int)>0:=by omega
  have wF:((c6:Int)==0)=false:=by simp only [beq_eq_false_iff_ne,ne_eq];omega
  cases hR:((c1+c2+c3:Nat):Int)==0
  ·have v6:¬c1+c2+c3=0:=jxl hR
   rw [if_neg (by omega),if_neg (by omega),if_neg (by omega),if_neg (by omega)]
   simp only [go_sem,i5,i6,jq g5,jq g6,jp i5,jp i6,hB,hC,sG,wF,hR]
  ·have v6:c1+c2+c3=0:=jxk hR
   rw [if_neg (by omega),if_neg (by omega),if_pos (by omega)]
   simp only [go_sem,i5,i6,jq g5,jq g6,jp i5,jp i6,hB,hC,sG,hR]
 ·have sG:¬(c6:Int)>0:=by omega
  have wF:((c6:Int)==0)=true:=by simp only [aQW];omega
  rw [if_neg (by omega),if_neg (by omega),if_neg (by omega),if_pos (by omega)]
  simp only [go_sem,i5,i6,jq g5,jq g6,jp i5,jp i6,hB,hC,sG,wF]
theorem jpm {r:Rn} (h1:inB r.id 1 9999=true) (h2:jm r.aOF=0) (h3:(r.aOD.length:Int)=r.aOF.aOD) (h4:∀(t:Nat) (x:Tk),r.aOD[t]?=some x->jT r.aOF r.aOD t x=true) (h5:r.aOG=jgd r.aOD) (h6:r.aOG≠0):kI r=true:=runOk_iff.2 ⟨h1,h2,h3,h4,h5,h6⟩
theorem jsp {p:Pl} {ts:List Tk} {t:Nat} {x:Tk} (h:¬(1<=x.aOG/\x.aOG<=6)):jT p ts t x=false:=by simp [jT,inB,h]
theorem jdj (r:Rn):jZ Tryz.prog 130 [.agg (jd r)] (.c (.val (.bool (kI r)))):=by
 refine pf_ jlB ?_;unfold jjh;simp only [go_sem,jd,je];intro b;refine jk (jK r.id 1 9999) λη=>?_
 simp only [go_sem];cases h1:decide (1<=r.id/\r.id<=9999)
 ·have hb:kI r=false:=vd λh=>by have:=h.id;simp [inB,h1] at this
  simp only [go_sem,hb]
 simp only [go_sem];refine jk (vS r.aOF) λη=>?_
 simp only [go_sem];cases h2:jm r.aOF !=0;rotate_left
 ·have hb:kI r=false:=vd λh=>by have:=h.aOF;simp [this] at h2
  simp only [go_sem,hb]
 have h0:jm r.aOF=0:=by simpa using h2
 obtain ⟨n,hn,eB,cC,dI,bU,aY,-⟩:=ja8 h0;simp only [go_sem];cases h3:(r.aOD.length:Int) !=r.aOF.aOD;rotate_left
 ·have hb:kI r=false:=vd λh=>by have:=h.len;simp [this] at h3
  simp only [go_sem,hb]
 have aC:(r.aOD.length:Int)=r.aOF.aOD:=by simpa using h3
 have hlb:r.aOD.length<=12:=by omega
 simp only [go_sem];refine qP (λi:Nat=>St.of [(1,Bx 100 b),(3,Ni i)] [(100,Bi b _ (jd r))]) (λi=>i<=r.aOD.length/\∀x∈r.aOD.take i,1<=x.aOG/\x.aOG<=6) (λi=>r.aOD.length-i) 0 (js [100] (by simp only [go_sem,jd,je]<;>trivial)) ?_
 rintro k ⟨hk,cX⟩;by_cases aB:k<r.aOD.length
 ·have aA:(k:Int)<r.aOD.length:=by omega
  obtain ⟨x,hx⟩:=ja aB;have hw:=kw k;simp only [go_sem,jd,je,aB,aA,jL hx,jz];refine jk (jK x.aOG 1 6) λη=>?_
  simp only [go_sem];cases hs:decide (1<=x.aOG/\x.aOG<=6)
  ·have hb:kI r=false:=vd λh=>by have:=h.aOD k x hx;rw [jsp (by simpa using hs)] at this;cases this
   simp only [go_sem,hb]
  ·have nA:1<=x.aOG/\x.aOG<=6:=by simpa using hs
   simp only [go_sem,hw];exact ⟨k+1,⟨aB,λy hy=>by rw [aPE,hx] at hy;simp at hy;rcases hy with hy|hy;exact cX y hy;exact hy▸nA⟩,(js [100]),by (try dsimp only);omega⟩
 have aA:¬(k:Int)<r.aOD.length:=by omega
 rw [aOW (by omega)] at cX
 simp only [go_sem,jd,je,aA];refine qP (λi:Nat=>St.of [(1,Bx 100 b),(4,Ni i)] [(100,Bi b _ (jd r))]) (λi=>i<=r.aOD.length/\∀(t:Nat) (x:Tk),t<i->r.aOD[t]?=some x->jT r.aOF r.aOD t x=true) (λi=>r.aOD.length-i) 0 (js [100] (by simp only [go_sem,jd,je]<;>trivial)) ?_
 rintro j ⟨hj,eE⟩;by_cases bJ:j<r.aOD.length
 ·have aX:(j:Int)<r.aOD.length:=by omega
  obtain ⟨x,hx⟩:=ja bJ;have hw:=kw j;simp only [go_sem,jd,je,aX];refine jk (jl5 r j x hx h0 aC) λη=>?_
  simp only [go_sem];cases hs:jT r.aOF r.aOD j x
  ·have hb:kI r=false:=vd λh=>by have:=h.aOD j x hx;rw [hs] at this;cases this
   simp only [go_sem,hb]
  ·simp only [go_sem,hw]
   exact ⟨j+1,⟨bJ,λt y ht hy=>by rcases Nat.lt_or_ge t j with h'|h';exact eE t y h' hy;obtain rfl:t=j:=(by omega);rw [hx] at hy;cases hy;exact hs⟩,(js [100]),by (try dsimp only);omega⟩
 have aX:¬(j:Int)<r.aOD.length:=by omega
 have cV:∀(t:Nat) (x:Tk),r.aOD[t]?=some x->jT r.aOF r.aOD t x=true:=λt x hx=>eE t x (by have:=(aOS.1 hx).1;omega) hx
 simp only [go_sem,jd,je,aX];refine jk (jdh r cX (by omega)) λη=>?_
 simp only [go_sem];cases h5:r.aOG==jgd r.aOD
 ·have hb:kI r=false:=vd λh=>by have:=h.aOG;simp [<-this] at h5
  simp only [go_sem,hb]
 cases h6:r.aOG !=0
 ·have hb:kI r=false:=vd λh=>h.live (by simpa using h6)
  simp only [go_sem,h6,hb]
 ·have hb:kI r=true:=jpm (by simpa [inB] using h1) h0 aC cV (by simpa using h5) (by simpa using h6)
  simp only [go_sem,h6,hb]
def jhC:C:=iS [iA 2 (.box 52 8 (.t 0)),aN 4 0] (iS [aN 5 0] (.seq (iS [aF 8 1 2,aT 9 5 8,aM 10 1,iA 11 (iK 164 [9,10]),aG 12 11,aN 13 0] (.blk 0 (.loop (iS [aP 14 .lss 3 13 12] (.seq (iD 14 .skip (.exit 0)) (.seq (.blk 1 (iS [aI 15 1 11 13,aL 16 15,aM 7 16] (iS [aF 17 7 2,aL 18 17,aM 19 7,aI 20 4 18 19,aF 21 0 20,aL 22 21,aQ 23 .neq 3 22 4] (iD 23 (.reg [aM 24 5,aQ 25 .add 3 24 1,aM 5 25]) .skip)))) (.reg [aQ 26 .add 3 13 1,aM 13 26]))))))) (iS [aM 27 5,aM 4 27] .ret)))
theorem jjR:fnC Tryz.prog Tryz.f183=some (jhC,[.t 4],28):=by kernel_rfl
def jhA:C:=iS [iA 2 (.box 52 8 (.t 0)),aO 4 false] (iS [aF 6 7 2,aL 7 6,aM 8 1,aI 9 4 7 8,aT 10 4 9,iA 5 wAN,wAB 5 10] (.seq (.seq (.dreg (tA 0 11 (iF 0 5) (tA 1 12 (iL 11) (tC 13 (.call 62 [.t 12,oI 1,oI 6]) [] (tA 3 14 (iU 13) (tA 4 15 (iM 14) (tB 5 16 15 false (iF 1 5) (tB 6 17 15 false (iL 16) (tB 7 18 15 false (iT 8 2) (tB 8 19 15 false (iM 1) (.alt (iB 20 15 false (iK 183 [18,19])) [6,5] (tB 10 21 15 false (iP .neq 3 17 20) (tA 11 22 (iY 15 (oT) (.t 21)) (tA 12 23 (iM 22) (tB 13 24 23 false (iF 2 5) (tB 14 25 23 false (iL 24) (tB 15 26 23 false (iF 1 2) (tB 16 27 23 false (iF 1 26) (tB 17 28 23 false (iL 27) (.alt (iB 29 23 false (.call 62 [.t 25,oI 0,.t 28])) [] (tB 19 30 23 false (iU 29) (tA 20 31 (iY 23 (oT) (.t 30)) .done)) .stop))))))))) .stop))))))) .stop)))) (iD 31 (iS [aO 4 false] .ret) .skip)) (.seq (iS [aF 32 0 5,aL 33 32,aQ 34 .eql 3 33 3,aM 35 34,iB 36 35 true (iF 3 5),iB 37 35 true (iL 36),iB 38 35 true (.call 62 [.t 37,oI 1,oI 1000000000]),iB 39 35 true (iU 38),iA 40 (iY 35 (.t 39) (oF)),aM 41 40,iB 42 41 false (iF 0 5),iB 43 41 false (iL 42),iB 44 41 false (iQ .neq 3 43 3),iB 45 41 false (iM 44),iB 46 45 true (iF 3 5),iB 47 45 true (iL 46),iB 48 45 true (iQ .neq 3 47 0),iB 49 41 false (iY 45 (.t 48) (oF)),iA 50 (iY 41 (oT) (.t 49))] (iD 50 (iS [aO 4 false] .ret) .skip)) (.seq (iS [aF 51 0 5,aL 52 51] (.blk 0 (iS [aQ 54 .eql 3 52 1,aM 53 54] (iD 53 (iS [aF 55 1 5,aL 56 55,aQ 57 .gtr 3 56 0,aM 4 57] .ret) (iS [aQ 59 .eql 3 52 2,aM 58 59] (iD 58 (iS [aF 60 1 5,aL 61 60,aQ 62 .eql 3 61 0,aM 63 62,iB 64 63 true (iF 2 5),iB 65 63 true (iL 64),iB 66 63 true (iF 1 2),iB 67 63 true (iF 1 66),iB 68 63 true (iL 67),iB 69 63 true (iP .lss 3 65 68),iA 70 (iY 63 (.t 69) (oF)),aM 4 70] .ret) (.seq (iS [aQ 72 .eql 3 52 3,aM 71 72] (iD 71 .skip (iS [aQ 73 .eql 3 52 4,aM 71 73] (iD 71 .skip (.reg [aQ 74 .eql 3 52 5,aM 71 74]))))) (iD 71 (iS [aF 75 1 5,aL 76 75,aQ 77 .eql 3 76 0,aM 78 77,iB 79 78 true (iF 2 5),iB 80 78 true (iL 79),iB 81 78 true (iQ .geq 3 80 1),iA 82 (iY 78 (.t 81) (oF)),aM 4 82] .ret) .skip)))))))) (iS [aO 4 true] .ret)))))
theorem jjP:fnC Tryz.prog Tryz.f140=some (jhA,[.t 4],83):=by kernel_rfl
def jfr:C:=iS [iA 2 (.box 52 8 (.t 0)),iA 4 (.mov (.c (.slice none 0 0)))] (iS [iA 5 (.mov (.c (.slice none 0 0)))] (.seq (iS [aF 8 7 2,aL 9 8,aG 10 9,aN 11 0] (.blk 0 (.loop (iS [aP 12 .lss 3 11 10] (.seq (iD 12 .skip (.exit 0)) (.seq (.blk 1 (iS [aM 13 11,aI 14 4 9 11,aT 15 4 14,iA 7 wAN,aM 6 13,wAB 7 15] (iS [aF 16 0 7,aL 17 16,aM 18 1,aP 19 .eql 3 17 18] (iD 19 (.reg [aM 20 5,aM 21 6,iA 22 (wAY [(0,1,.t 21)]),iA 23 (wA7 20 22),aM 5 23]) .skip)))) (.reg [aQ 24 .add 3 11 1,aM 11 24]))))))) (iS [aM 25 5,aM 4 25] .ret)))
theorem jiQ:fnC Tryz.prog Tryz.f47=some (jfr,[.t 4],26):=by kernel_rfl
def jjn:C:=iS [iA 1 (.box 52 8 (.t 0)),aO 2 false] (.seq (iS [aF 8 0 1,aL 9 8,iA 10 (.call 62 [.t 9,oI 1,oI 9999]),aU 11 10,aM 12 11,iB 13 12 false (iF 1 1),iB 14 12 false (iT 5 13),iB 15 12 false (iK 109 [14]),iB 16 12 false (iQ .neq 3 15 0),iA 17 (iY 12 (oT) (.t 16)),aM 18 17,iB 19 18 false (iF 7 1),iB 20 18 false (iL 19),iB 21 18 false (iG 20),iB 22 18 false (iF 1 1),iB 23 18 false (iF 3 22),iB 24 18 false (iL 23),iB 25 18 false (iP .neq 3 21 24),iA 26 (iY 18 (oT) (.t 25))] (iD 26 (iS [aO 2 false] .ret) .skip)) (.seq (iS [aF 27 7 1,aL 28 27,aG 29 28,aN 30 0] (.blk 0 (.loop (iS [aP 31 .lss 3 30 29] (.seq (iD 31 .skip (.exit 0)) (.seq (.blk 1 (iS [aM 32 30,aM 3 32] (iS [aT 33 8 1,aM 34 3,iA 35 (iK 140 [33,34]),aU 36 35] (iD 36 (iS [aO 2 false] .ret) .skip)))) (.reg [aQ 37 .add 3 30 1,aM 30 37]))))))) (.seq (.dreg (tA 0 38 (iT 8 1) (tA 3 41 (iT 8 1) (tA 6 44 (iT 8 1) (tC 39 (.call 47 [.t 38,oI 4]) [6,3] (tA 2 40 (iG 39) (tC 42 (.call 47 [.t 41,oI 5]) [2,6] (tA 5 43 (iG 42) (tC 45 (.call 47 [.t 44,oI 6]) [5,2] (tA 8 46 (iG 45) (tA 9 4 (iM 40) (tA 10 5 (iM 43) (tA 11 6 (iM 46) .done)))) .stop)) .stop)) .stop))))) (iS [aM 47 4,aM 48 5,aP 49 .add 3 47 48,aM 50 6,aP 51 .add 3 49 50,aF 52 7 1,aL 53 52,aG 54 53,aP 55 .eql 3 51 54,aM 7 55] (.seq (.blk 2 (iS [aM 57 4,aF 58 7 1,aL 59 58,aG 60 59,aP 61 .eql 3 57 60,aM 56 61] (iD 56 (iS [aF 62 6 1,aL 63 62,aQ 64 .eql 3 63 2,aM 2 64] .ret) (iS [aM 66 5,aQ 67 .eql 3 66 1,aM 68 67,iB 69 68 true (iM 7),iA 70 (iY 68 (.t 69) (oF)),aM 65 70] (iD 65 (iS [aF 71 6 1,aL 72 71,aQ 73 .eql 3 72 3,aM 2 73] .ret) (iS [aM 75 5,aQ 76 .eql 3 75 0,aM 77 76,iB 78 77 true (iM 6),iB 79 77 true (iQ .gtr 3 78 0),iA 80 (iY 77 (.t 79) (oF)),aM 81 80,iB 82 81 true (iM 7),iA 83 (iY 81 (.t 82) (oF)),aM 74 83] (iD 74 (iS [aF 84 6 1,aL 85 84,aQ 86 .eql 3 85 4,aM 2 86] .ret) .skip))))))) (iS [aF 87 6 1,aL 88 87,aQ 89 .eql 3 88 1,aM 90 89,iB 91 90 true (iM 5),iB 92 90 true (iQ .eql 3 91 0),iA 93 (iY 90 (.t 92) (oF)),aM 94 93,iB 95 94 true (iM 6),iB 96 94 true (iQ .eql 3 95 0),iA 97 (iY 94 (.t 96) (oF)),aM 2 97] .ret))))))
theorem jlI:fnC Tryz.prog Tryz.f81=some (jjn,[.t 2],98):=by kernel_rfl
theorem jn8 (r:Rn) (t:Nat) (h0:jm r.aOF=0) (aC:(r.aOD.length:Int)=r.aOF.aOD):jZ Tryz.prog 183 [.agg (jd r),.c (.val (.int .i64 t))] (.c (.val (.int .i64 (jnl r.aOD (zK r.aOF t))))):=by
 obtain ⟨n,hn,eB,cC,dI,bU,aY,-⟩:=ja8 h0;refine pf_ jjR ?_;unfold jhC;have uV:=joR hn cC dI t;simp only [go_sem,jd,je];intro b;refine jk (jdp r.aOF t h0) λη=>?_
 simp only [go_sem];refine qP (λi:Nat=>St.of [(2,Bx 200 b),(5,Ni (jnl r.aOD ((zK r.aOF t).take i))),(11,Hd 11 (η 0)),(12,Ni (zK r.aOF t).length),(13,Ni i)] [(200,Bi b _ (jd r)),(11,.loose (jc (zK r.aOF t)) (η 0))]) (λi=>i<=(zK r.aOF t).length) (λi=>(zK r.aOF t).length-i) 0 (js [200,1100] (by simp only [go_sem,jd,je,aQH,jnl,List.filter_nil,aPU]<;>trivial)) ?_
 rintro k hk;by_cases aB:k<(zK r.aOF t).length
 ·have aA:(k:Int)<(zK r.aOF t).length:=by omega
  obtain ⟨v,hv⟩:=ja aB;have p8:=jyc hn (aOT hv);have bO:v.toNat<r.aOD.length:=by omega
  have oA:=p8.1;obtain ⟨y,hy⟩:=ja bO;have hw:=kw k;have dN:=jxT r.aOD ((zK r.aOF t).take k);rw [aOZ] at dN;have bX:IntKind.i64.wrap ((jnl r.aOD ((zK r.aOF t).take k):Int)+1)=((jnl r.aOD ((zK r.aOF t).take k)+1:Nat):Int):=zm;cases hc:y.aOG !=4
  ·have hs:=jxS hv hy hc
   simp only [go_sem,jd,je,aB,aA,jq hv,jp aB,bO,oA,jL hy,jz,hc,hw];exact qc (k+1) (js [200,11] (by simp only [go_sem,hs]<;>trivial))
  ·have hs:=jtA hv hy hc
   simp only [go_sem,jd,je,aB,aA,jq hv,jp aB,bO,oA,jL hy,jz,hc,hw,bX];exact qc (k+1) (js [200,11] (by simp only [go_sem,hs]<;>trivial))
 have aA:¬(k:Int)<(zK r.aOF t).length:=by omega
 rw [aOW (by omega)]
 simp only [go_sem,aA]
theorem qg (r:Rn) (s:Int) (hl:r.aOD.length<=2000000):jZ Tryz.prog 47 [.agg (jd r),.c (.val (.int .i64 s))] (.c (jc (qG s r.aOD))):=by
 refine pf_ jiQ ?_;unfold jfr;simp only [go_sem,jd,je];intro b;refine qP (λi:Nat×jg=>St.of [(1,Ni s),(5,Hd 5 i.2),(9,Ro (ju r.aOD)),(10,Ni r.aOD.length),(11,Ni i.1)] [(5,.loose (jc (zk s r.aOD i.1)) i.2)]) (λi=>i.1<=r.aOD.length) (λi=>r.aOD.length-i.1) (0,jcb) (vU [none] (by simp only [go_sem,jAD]<;>trivial)) ?_
 rintro ⟨k,η⟩ hk;dsimp only at hk;by_cases aB:k<r.aOD.length
 ·have aA:(k:Int)<r.aOD.length:=by omega
  obtain ⟨x,hx⟩:=ja aB;have hw:=kw k;have hc:=jc6 hx s;have cR:=va s r.aOD k;generalize zk s r.aOD k=R at*;have dU:R.length+1<=maxLen:=vT;have eG:(R.length+1)*8<=140737488355328:=by omega
  by_cases h2:x.aOG=s
  ·have bP:(x.aOG==s)=true:=by simpa using h2
   rw [if_pos h2] at hc;simp only [go_sem,aB,aA,jL hx,jz];intro b2;simp only [go_sem,bP,hw,dU,eG,ko];intro bY eO;exact qc (k+1,eO) (js [2300] (by simp only [go_sem,hc]<;>trivial))
  ·have bP:(x.aOG==s)=false:=by simpa using h2
   rw [if_neg h2,aPR] at hc;simp only [go_sem,aB,aA,jL hx,jz];intro b2;simp only [go_sem,bP,hw];exact qc (k+1,η) (js [5] (by simp only [go_sem,hc]<;>trivial))
 have aA:¬(k:Int)<r.aOD.length:=by omega
 obtain rfl:k=r.aOD.length:=by omega
 simp only [go_sem,aA,qG]
theorem jn6 (r:Rn) (t:Nat) (x:Tk) (hx:r.aOD[t]?=some x) (h0:jm r.aOF=0) (aC:(r.aOD.length:Int)=r.aOF.aOD):jZ Tryz.prog 140 [.agg (jd r),.c (.val (.int .i64 t))] (.c (.val (.bool (jT r.aOF r.aOD t x)))):=by
 have dD:=(aOS.1 hx).1;refine pf_ jjP ?_;unfold jhA;have eT:=qN t;simp only [go_sem,jd,je,dD,eT,jL hx,jz];intro b b2;refine jk (jx x.aOG 1 6) λη=>?_
 simp only [go_sem];cases uD:decide (1<=x.aOG/\x.aOG<=6)
 ·have hb:jT r.aOF r.aOD t x=false:=jsp (by simpa using uD)
  simp only [go_sem,hb]
 simp only [go_sem];refine jk (jn8 r t h0 aC) λη=>?_
 simp only [go_sem];have aY:jaZ r.aOF r.aOD t=(jnl r.aOD (zK r.aOF t):Int):=rfl;generalize jnl r.aOD (zK r.aOF t)=N at*;cases aK:x.aOO !=(N:Int);rotate_left
 ·have hb:jT r.aOF r.aOD t x=false:=by
   have:¬x.aOO=N:=by simpa using aK
   simp [jT,aY,this]
  simp only [go_sem,hb]
 have bS:x.aOO=N:=by simpa using aK
 simp only [go_sem];refine jk (jx x.tri 0 r.aOF.aOQ) λη=>?_
 simp only [go_sem];cases i9:decide (0<=x.tri/\x.tri<=r.aOF.aOQ)
 ·have hb:jT r.aOF r.aOD t x=false:=by simp [jT,inB,i9]
  simp only [go_sem,hb]
 have dP:0<=x.tri/\x.tri<=r.aOF.aOQ:=by simpa using i9
 rcases jvQ x.aOG with hs|hs|hs|hs|hs|hs|⟨s1,s2,s3,s4,s5,s6⟩
 ·cases ht:x.til !=0
  rotate_left
  ·have hb:jT r.aOF r.aOD t x=false:=by
    have:¬x.til=0:=by simpa using ht
    simp [jT,jbB,hs,this]
   simp only [go_sem,hs,ht,hb]
  have dQ:x.til=0:=by simpa using ht
  have hb:jT r.aOF r.aOD t x=decide ((N:Int)>0):=by simp [jT,jbB,vn,inB,hs,aY,bS,dQ,dP]
  simp only [go_sem,hs,ht,hb,bS]
 ·cases ht:x.til !=0
  rotate_left
  ·have hb:jT r.aOF r.aOD t x=false:=by
    have:¬x.til=0:=by simpa using ht
    simp [jT,jbB,hs,this]
   simp only [go_sem,hs,ht,hb]
  have dQ:x.til=0:=by simpa using ht
  cases hz:(N:Int)==0
  ·have cQ:¬N=0:=by simpa using hz
   have hb:jT r.aOF r.aOD t x=false:=by simp [jT,jbB,vn,inB,hs,aY,bS,dQ,dP,cQ]
   simp only [go_sem,hs,ht,hz,hb,bS]
  ·have cQ:N=0:=by simpa using hz
   have hb:jT r.aOF r.aOD t x=decide (x.tri<r.aOF.aOQ):=by simp [jT,jbB,vn,inB,hs,aY,bS,dQ,dP,cQ]
   simp only [go_sem,hs,ht,hz,hb,bS]
 ·simp only [go_sem,hs]
  refine jk (jx x.til 1 1000000000) λη=>?_
  simp only [go_sem];cases ht:decide (1<=x.til/\x.til<=1000000000)
  ·have hb:jT r.aOF r.aOD t x=false:=by simp [jT,jbB,inB,hs,ht]
   simp only [go_sem,hb]
  have dQ:1<=x.til/\x.til<=1000000000:=by simpa using ht
  cases hz:(N:Int)==0
  ·have cQ:¬N=0:=by simpa using hz
   have hb:jT r.aOF r.aOD t x=false:=by simp [jT,jbB,vn,inB,hs,aY,bS,dQ,dP,cQ]
   simp only [go_sem,hz,hb,bS]
  ·have cQ:N=0:=by simpa using hz
   have hb:jT r.aOF r.aOD t x=decide (x.tri>=1):=by simp [jT,jbB,vn,inB,hs,aY,bS,dQ,dP,cQ]
   simp only [go_sem,hz,hb,bS]
 ·cases ht:x.til !=0
  rotate_left
  ·have hb:jT r.aOF r.aOD t x=false:=by
    have:¬x.til=0:=by simpa using ht
    simp [jT,jbB,hs,this]
   simp only [go_sem,hs,ht,hb]
  have dQ:x.til=0:=by simpa using ht
  cases hz:(N:Int)==0
  ·have cQ:¬N=0:=by simpa using hz
   have hb:jT r.aOF r.aOD t x=false:=by simp [jT,jbB,vn,inB,hs,aY,bS,dQ,dP,cQ]
   simp only [go_sem,hs,ht,hz,hb,bS]
  ·have cQ:N=0:=by simpa using hz
   have hb:jT r.aOF r.aOD t x=decide (x.tri>=1):=by simp [jT,jbB,vn,inB,hs,aY,bS,dQ,dP,cQ]
   simp only [go_sem,hs,ht,hz,hb,bS]
 ·cases ht:x.til !=0
  rotate_left
  ·have hb:jT r.aOF r.aOD t x=false:=by
    have:¬x.til=0:=by simpa using ht
    simp [jT,jbB,hs,this]
   simp only [go_sem,hs,ht,hb]
  have dQ:x.til=0:=by simpa using ht
  cases hz:(N:Int)==0
  ·have cQ:¬N=0:=by simpa using hz
   have hb:jT r.aOF r.aOD t x=false:=by simp [jT,jbB,vn,inB,hs,aY,bS,dQ,dP,cQ]
   simp only [go_sem,hs,ht,hz,hb,bS]
  ·have cQ:N=0:=by simpa using hz
   have hb:jT r.aOF r.aOD t x=decide (x.tri>=1):=by simp [jT,jbB,vn,inB,hs,aY,bS,dQ,dP,cQ]
   simp only [go_sem,hs,ht,hz,hb,bS]
 ·cases ht:x.til !=0
  rotate_left
  ·have hb:jT r.aOF r.aOD t x=false:=by
    have:¬x.til=0:=by simpa using ht
    simp [jT,jbB,hs,this]
   simp only [go_sem,hs,ht,hb]
  have dQ:x.til=0:=by simpa using ht
  have hb:jT r.aOF r.aOD t x=true:=by simp [jT,jbB,vn,inB,hs,aY,bS,dQ,dP]
  simp only [go_sem,hs,ht,hb]
 ·have:=aPV uD
  have h1:¬x.aOG=1:=by simpa using s1
  have h2:¬x.aOG=2:=by simpa using s2
  have h3:¬x.aOG=3:=by simpa using s3
  have h4:¬x.aOG=4:=by simpa using s4
  have h5:¬x.aOG=5:=by simpa using s5
  have h6:¬x.aOG=6:=by simpa using s6
  omega
theorem jue {r:Rn} {v:Int} (h1:inB r.id 1 9999=true) (h2:jm r.aOF=0) (h3:(r.aOD.length:Int)=r.aOF.aOD) (h4:∀(t:Nat) (x:Tk),r.aOD[t]?=some x->jT r.aOF r.aOD t x=true) (hv:jgd r.aOD=v) (h0:v≠0):kI r=(r.aOG==v):=by
 by_cases h:r.aOG=v
 ·rw [jpm h1 h2 h3 h4 (h.trans hv.symm) (h▸h0)];simp [h]
 ·rw [vd λh'=>h (h'.aOG.trans hv)];simp [h]
theorem ji9 (r:Rn) (cW:r.aOF.aOI.length<=4000000):jZ Tryz.prog 81 [.agg (jd r)] (.c (.val (.bool (kI r)))):=by
 refine pf_ jlI ?_;unfold jjn;simp only [go_sem,jd,je];intro b;refine jk (jx r.id 1 9999) λη=>?_
 simp only [go_sem];cases h1:decide (1<=r.id/\r.id<=9999)
 ·have hb:kI r=false:=vd λh=>by have:=h.id;simp [inB,h1] at this
  simp only [go_sem,hb]
 simp only [go_sem];refine jk (qw r.aOF cW) λη=>?_
 simp only [go_sem];cases h2:jm r.aOF !=0;rotate_left
 ·have hb:kI r=false:=vd λh=>by have:=h.aOF;simp [this] at h2
  simp only [go_sem,hb]
 have h0:jm r.aOF=0:=by simpa using h2
 obtain ⟨n,hn,eB,cC,dI,bU,aY,-⟩:=ja8 h0;simp only [go_sem];cases h3:(r.aOD.length:Int) !=r.aOF.aOD;rotate_left
 ·have hb:kI r=false:=vd λh=>by have:=h.len;simp [this] at h3
  simp only [go_sem,hb]
 have aC:(r.aOD.length:Int)=r.aOF.aOD:=by simpa using h3
 have hlb:r.aOD.length<=12:=by omega
 simp only [go_sem];refine qP (λi:Nat=>St.of [(1,Bx 100 b),(29,Ni r.aOD.length),(30,Ni i)] [(100,Bi b _ (jd r))]) (λi=>i<=r.aOD.length/\∀(t:Nat) (x:Tk),t<i->r.aOD[t]?=some x->jT r.aOF r.aOD t x=true) (λi=>r.aOD.length-i) 0 (js [100] (by simp only [go_sem,jd,je]<;>trivial)) ?_
 rintro j ⟨hj,eE⟩;by_cases bJ:j<r.aOD.length
 ·have aX:(j:Int)<r.aOD.length:=by omega
  obtain ⟨x,hx⟩:=ja bJ;have hw:=kw j;simp only [go_sem,jd,je,aX];refine jk (jn6 r j x hx h0 aC) λη=>?_
  simp only [go_sem];cases hs:jT r.aOF r.aOD j x
  ·have hb:kI r=false:=vd λh=>by have:=h.aOD j x hx;rw [hs] at this;cases this
   simp only [go_sem,hb]
  ·simp only [go_sem,hw]
   exact ⟨j+1,⟨bJ,λt y ht hy=>by rcases Nat.lt_or_ge t j with h'|h';exact eE t y h' hy;obtain rfl:t=j:=(by omega);rw [hx] at hy;cases hy;exact hs⟩,(js [100]),by (try dsimp only);omega⟩
 have aX:¬(j:Int)<r.aOD.length:=by omega
 have cV:∀(t:Nat) (x:Tk),r.aOD[t]?=some x->jT r.aOF r.aOD t x=true:=λt x hx=>eE t x (by have:=(aOS.1 hx).1;omega) hx
 simp only [go_sem,jd,je,aX];refine jk (qg r 4 (by omega)) λη=>?_
 simp only [go_sem];refine jk (qg r 5 (by omega)) λη=>?_
 simp only [go_sem];refine jk (qg r 6 (by omega)) λη=>?_
 simp only [go_sem];have gO:∀v:Int,jgd r.aOD=v->v≠0->kI r=(r.aOG==v):=λv hv eU=>jue (by simpa [inB] using h1) h0 aC cV hv eU
 have gY:jgd r.aOD=if (qG 4 r.aOD).length=r.aOD.length then 2 else if (qG 5 r.aOD).length=1/\(qG 4 r.aOD).length+(qG 5 r.aOD).length+(qG 6 r.aOD).length=r.aOD.length then 3 else if (qG 5 r.aOD).length=0/\0<(qG 6 r.aOD).length/\(qG 4 r.aOD).length+(qG 5 r.aOD).length+(qG 6 r.aOD).length=r.aOD.length then 4 else if (qG 5 r.aOD).length=0/\(qG 6 r.aOD).length=0 then 1 else 0:=rfl
 have b4:=va 4 r.aOD r.aOD.length;have b5:=va 5 r.aOD r.aOD.length;have b6:=va 6 r.aOD r.aOD.length;change (qG 4 r.aOD).length<=_ at b4;change (qG 5 r.aOD).length<=_ at b5;change (qG 6 r.aOD).length<=_ at b6;generalize (qG 4 r.aOD).length=c4 at*;generalize (qG 5 r.aOD).length=c5 at*;generalize (qG 6 r.aOD).length=c6 at*;generalize r.aOD.length=L at*;have w45:IntKind.i64.wrap ((c4:Int)+c5)=((c4+c5:Nat):Int):=by rw [kU (by omega) (by omega)];omega
 have w456:IntKind.i64.wrap (((c4+c5:Nat):Int)+c6)=((c4+c5+c6:Nat):Int):=by rw [kU (by omega) (by omega)];omega
 simp only [go_sem,w45,w456];cases hA:(c4:Int)==L;rotate_left
 ·have wE:c4=L:=jxk hA
  have aJ:jgd r.aOD=2:=by rw [gY,if_pos (by omega)]
  have hb:kI r=(r.aOG==2):=gO _ aJ (by decide)
  simp only [go_sem,hb]
 have wE:¬c4=L:=jxl hA;cases hB:(c5:Int)==1;rotate_left
 ·have z4:c5=1:=jxk hB
  have tT:((c5:Int)==0)=false:=by rw [z4];rfl
  cases hR:((c4+c5+c6:Nat):Int)==L
  ·have v6:¬c4+c5+c6=L:=jxl hR
   have aJ:jgd r.aOD=0:=by rw [gY,if_neg (by omega),if_neg (by omega),if_neg (by omega),if_neg (by omega)]
   have hb:kI r=false:=vd λh=>h.live (h.aOG.trans aJ)
   simp only [go_sem,hB,tT,hb];cases fN:r.aOG==1
   ·simp only [go_sem]
   ·simp only [go_sem,tT]
  ·have v6:c4+c5+c6=L:=jxk hR
   have aJ:jgd r.aOD=3:=by rw [gY,if_neg (by omega),if_pos (by omega)]
   have hb:kI r=(r.aOG==3):=gO _ aJ (by decide)
   simp only [go_sem,hB,hb]
 have z4:¬c5=1:=jxl hB;cases hC:(c5:Int)==0
 ·have hC':¬c5=0:=jxl hC
  have aJ:jgd r.aOD=0:=by rw [gY,if_neg (by omega),if_neg (by omega),if_neg (by omega),if_neg (by omega)]
  have hb:kI r=false:=vd λh=>h.live (h.aOG.trans aJ)
  simp only [go_sem,hB,hC,hb];cases fN:r.aOG==1
  ·simp only [go_sem]
  ·simp only [go_sem,hC]
 have hC':c5=0:=jxk hC;by_cases h6:0<c6
 ·have sG:(c6:Int)>0:=by omega
  have wF:((c6:Int)==0)=false:=by simp only [beq_eq_false_iff_ne,ne_eq];omega
  cases hR:((c4+c5+c6:Nat):Int)==L
  ·have v6:¬c4+c5+c6=L:=jxl hR
   have aJ:jgd r.aOD=0:=by rw [gY,if_neg (by omega),if_neg (by omega),if_neg (by omega),if_neg (by omega)]
   have hb:kI r=false:=vd λh=>h.live (h.aOG.trans aJ)
   simp only [go_sem,hB,hC,sG,hb];cases fN:r.aOG==1
   ·simp only [go_sem]
   ·simp only [go_sem,hC,wF]
  ·have v6:c4+c5+c6=L:=jxk hR
   have aJ:jgd r.aOD=4:=by rw [gY,if_neg (by omega),if_neg (by omega),if_pos (by omega)]
   have hb:kI r=(r.aOG==4):=gO _ aJ (by decide)
   simp only [go_sem,hB,hC,sG,hb]
 ·have sG:¬(c6:Int)>0:=by omega
  have wF:((c6:Int)==0)=true:=by simp only [aQW];omega
  have aJ:jgd r.aOD=1:=by rw [gY,if_neg (by omega),if_neg (by omega),if_neg (by omega),if_pos (by omega)]
  have hb:kI r=(r.aOG==1):=gO _ aJ (by decide)
  simp only [go_sem,hB,hC,sG,hb];cases fN:r.aOG==1
  ·rw [fN] at hb
   simp only [go_sem]
  ·rw [fN] at hb
   simp only [go_sem,hC,wF]
