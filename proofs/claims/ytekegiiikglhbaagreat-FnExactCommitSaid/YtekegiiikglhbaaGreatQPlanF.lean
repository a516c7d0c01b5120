/- Parts. -/
import Derived.Test.YtekegiiikglhbaaGreatQBnd
set_option linter.all false
set_option maxHeartbeats 4000000
set_option maxRecDepth 100000
namespace Go.Proofs.YtekegiiikglhbaaGreat
open Go.RowKit Go.Sort
def jav:C:=iS [iA 1 (.box 109 5 (.t 0)),aO 2 false] (iS [aF 3 3 1,aL 4 3,iA 5 (.call 41 [.t 4,oI 1,oI 12]),aU 6 5,aM 7 6,iB 8 7 false (iF 4 1),iB 9 7 false (iL 8),iB 10 7 false (iG 9),iB 11 7 false (iQ .gtr 3 10 30),iA 12 (iY 7 (oT) (.t 11)),aM 13 12,iB 14 13 false (iF 0 1),iB 15 13 false (iL 14),iB 16 13 false (.call 41 [.t 15,oI 0,oI 9]),iB 17 13 false (iU 16),iA 18 (iY 13 (oT) (.t 17)),aM 19 18,iB 20 19 false (iF 1 1),iB 21 19 false (iL 20),iB 22 19 false (.call 41 [.t 21,oI 1,oI 5]),iB 23 19 false (iU 22),iA 24 (iY 19 (oT) (.t 23)),aM 25 24,iB 26 25 false (iF 2 1),iB 27 25 false (iL 26),iB 28 25 false (.call 41 [.t 27,oI 1,oI 20]),iB 29 25 false (iU 28),iA 30 (iY 25 (oT) (.t 29)),aM 2 30] .ret)
theorem jcw:fnC Tryz.prog Tryz.f125=some (jav,[.t 2],31):=by kernel_rfl
def jaw:C:=iS [iA 2 (.box 109 5 (.t 0)),iA 4 (.mov (.c (.slice none 0 0)))] (iS [aF 10 3 2,aL 11 10,iA 12 (.mks 4 1 1 [D.val (.bool false)] (.t 11) (.t 11)),aM 5 12] (iS [aM 13 1,iA 14 (wAW [(0,1,.t 13)]),aM 6 14] (.seq (iS [aN 7 0] (.blk 0 (.loop (.seq (iS [aM 15 7,aM 16 6,aG 17 16,aP 18 .lss 3 15 17] (iD 18 .skip (.exit 0))) (.seq (.blk 1 (iS [aN 8 0] (.blk 2 (.loop (.seq (iS [aM 21 8,aF 22 4 2,aL 23 22,aG 24 23,aP 25 .lss 3 21 24] (iD 25 .skip (.exit 2))) (.seq (.blk 3 (iS [aF 28 4 2,aL 29 28,aM 30 8,aI 31 2 29 30,aT 32 2 31,iA 9 wAN,wAF 9 32] (.seq (.dreg (tA 0 33 (iF 0 9) (tA 1 34 (iL 33) (tA 2 35 (iM 6) (tA 3 36 (iM 7) (tA 4 37 (iI 1 35 36) (tA 5 38 (iL 37) (tA 6 39 (iP .eql 3 34 38) (tA 7 40 (iM 39) (tB 8 41 40 true (iM 5) (tB 9 42 40 true (iF 1 9) (tB 10 43 40 true (iL 42) (tB 11 44 40 true (iI 1 41 43) (tB 12 45 40 true (iL 44) (tB 13 46 40 true (iU 45) (tA 14 47 (iY 40 (.t 46) (oF)) .done)))))))))))))))) (iD 47 (iS [aM 48 5,aF 49 1 9,aL 50 49,aI 51 1 48 50,iC (.st 1 [none] (.t 51) (oT))] (.reg [aM 52 6,aF 53 1 9,aL 54 53,iA 55 (wAW [(0,1,.t 54)]),iA 56 (.app 3 1 8 (.t 52) (.t 55)),aM 6 56])) .skip)))) (.reg [aM 26 8,aQ 27 .add 3 26 1,aM 8 27]))))))) (.reg [aM 19 7,aQ 20 .add 3 19 1,aM 7 20])))))) (iS [aM 57 5,aM 4 57] .ret))))
theorem jcx:fnC Tryz.prog Tryz.f126=some (jaw,[.t 4],58):=by kernel_rfl
def za:C:=iS [iA 1 (.box 109 5 (.t 0)),aN 2 0] (.seq (iS [aT 7 5 1,iA 8 (iK 125 [7])] (iD 8 (iS [aN 2 1] .ret) .skip)) (.seq (iS [aN 3 0] (.blk 0 (.loop (.seq (iS [aM 9 3,aF 10 4 1,aL 11 10,aG 12 11,aP 13 .lss 3 9 12] (iD 13 .skip (.exit 0))) (.seq (.blk 1 (.seq (.dreg (tA 0 16 (iF 4 1) (tA 1 17 (iL 16) (tA 2 18 (iM 3) (tA 3 19 (iI 2 17 18) (tA 4 20 (iF 0 19) (tA 5 21 (iL 20) (tA 6 22 (iF 3 1) (tA 7 23 (iL 22) (tA 8 24 (iQ .sub 3 23 1) (tC 25 (.call 41 [.t 21,oI 0,.t 24]) [] (tA 10 26 (iU 25) (tA 11 27 (iM 26) (tB 12 28 27 false (iF 4 1) (tB 13 29 27 false (iL 28) (tB 14 30 27 false (iM 3) (tB 15 31 27 false (iI 2 29 30) (tB 16 32 27 false (iF 1 31) (tB 17 33 27 false (iL 32) (tB 18 34 27 false (iF 3 1) (tB 19 35 27 false (iL 34) (tB 20 36 27 false (iQ .sub 3 35 1) (.alt (iB 37 27 false (.call 41 [.t 33,oI 0,.t 36])) [] (tB 22 38 27 false (iU 37) (tA 23 39 (iY 27 (oT) (.t 38)) .done)) .stop)))))))))))) .stop))))))))))) (iD 39 (iS [aN 2 2] .ret) .skip))) (.reg [aM 14 3,aQ 15 .add 3 14 1,aM 3 15])))))) (.seq (iS [aN 4 0] (.blk 2 (.loop (.seq (iS [aM 40 4,aF 41 4 1,aL 42 41,aG 43 42,aP 44 .lss 3 40 43] (iD 44 .skip (.exit 2))) (.seq (.blk 3 (iS [aN 5 0] (.blk 4 (.loop (.seq (iS [aM 47 5,aM 48 4,aP 49 .lss 3 47 48] (iD 49 .skip (.exit 4))) (.seq (.blk 5 (.seq (.dreg (tA 0 52 (iF 4 1) (tA 1 53 (iL 52) (tA 2 54 (iM 4) (tA 3 55 (iI 2 53 54) (tA 4 56 (iT 2 55) (tA 5 57 (iF 4 1) (tA 6 58 (iL 57) (tA 7 59 (iM 5) (tA 8 60 (iI 2 58 59) (tA 9 61 (iT 2 60) (tA 10 62 (iP .eql 158 56 61) .done)))))))))))) (iD 62 (iS [aN 2 3] .ret) .skip))) (.reg [aM 50 5,aQ 51 .add 3 50 1,aM 5 51]))))))) (.reg [aM 45 4,aQ 46 .add 3 45 1,aM 4 46])))))) (.seq (iS [aN 6 0] (.blk 6 (.loop (.seq (iS [aM 63 6,aF 64 3 1,aL 65 64,aP 66 .lss 3 63 65] (iD 66 .skip (.exit 6))) (.seq (.blk 7 (iS [aT 69 5 1,aM 70 6,iA 71 (iK 126 [69,70]),aM 72 6,aI 73 1 71 72,aL 74 73] (iD 74 (iS [aN 2 4] .ret) .skip))) (.reg [aM 67 6,aQ 68 .add 3 67 1,aM 6 68])))))) (iS [aN 2 0] .ret)))))
theorem jaV:fnC Tryz.prog Tryz.f104=some (za,[.t 2],75):=by kernel_rfl
def ka:C:=iS [iA 3 (.box 158 2 (.t 1)),aN 4 0] (.seq (iS [aM 6 0,aG 7 6,aN 8 0] (.blk 0 (.loop (iS [aP 9 .lss 3 8 7] (.seq (iD 9 .skip (.exit 0)) (.seq (.blk 1 (iS [aM 10 8,aM 5 10] (.seq (.dreg (tA 0 11 (iT 2 3) (tA 1 12 (iM 0) (tA 2 13 (iM 5) (tA 3 14 (iI 2 12 13) (tA 4 15 (iT 2 14) (tA 5 16 (iP .eql 158 11 15) .done))))))) (iD 16 (iS [aM 17 5,aM 4 17] .ret) .skip)))) (.reg [aQ 18 .add 3 8 1,aM 8 18]))))))) (iS [aN 4 (-1)] .ret))
theorem kI:fnC Tryz.prog Tryz.f136=some (ka,[.t 4],19):=by kernel_rfl
def jV:C:=iS [iA 3 (.box 158 2 (.t 1)),aO 4 false] (iS [aM 5 0,aT 6 2 3,iA 7 (iK 136 [5,6]),aQ 8 .geq 3 7 0,aM 4 8] .ret)
theorem kx:fnC Tryz.prog Tryz.f130=some (jV,[.t 4],9):=by kernel_rfl
theorem jeR (p:Pl):jR Tryz.prog 125 [.agg (ja p)] (.c (.val (.bool (kY p)))):=by
 refine pf_ jcw ?_;unfold jav;simp only [go_sem,ja];intro b;refine kt (jt p.aAB 1 12) λη=>?_
 simp only [go_sem,ja];cases V:decide (1<=p.aAB/\p.aAB<=12)
 ·simp only [go_sem,ja,V,kY,inB]
 ·by_cases Y:30<p.aAC.length
  ·have bP:(p.aAC.length:Int)>30:=by omega
   simp only [go_sem,ja,V,Y,bP,kY,inB]
  ·have bP:¬(p.aAC.length:Int)>30:=by omega
   simp only [go_sem,ja,V,Y,bP];refine kt (jt p.aAH 0 9) λη=>?_
   simp only [go_sem,ja];cases h3:decide (0<=p.aAH/\p.aAH<=9)
   ·simp only [go_sem,ja,V,Y,bP,h3,kY,inB]
   ·simp only [go_sem,ja,V,Y,bP,h3]
    refine kt (jt p.aAK 1 5) λη=>?_
    simp only [go_sem,ja];cases h4:decide (1<=p.aAK/\p.aAK<=5)
    ·simp only [go_sem,ja,V,Y,bP,h3,h4,kY,inB]
    ·simp only [go_sem,ja,V,Y,bP,h3,h4]
     refine kt (jt p.aAJ 1 20) λη=>?_
     simp only [go_sem,ja];cases h5:decide (1<=p.aAJ/\p.aAJ<=20)
     ·simp only [go_sem,ja,V,Y,bP,h3,h4,h5,kY,inB]
     ·simp only [go_sem,ja,V,Y,bP,h3,h4,h5,kY,inB]
theorem jeS (p:Pl) (n:Nat) (hn:p.aAB=n) (dN:n<=12) (fA:p.aAC.length<=30) (cI:∀e∈p.aAC,okE n e) (t:Nat) (ht:t<n):jR Tryz.prog 126 [.agg (ja p),.c (.val (.int .i64 t))] (.c (ki (jeo p.aAC n t))):=by
 refine pf_ jcx ?_;unfold jaw;have hm:1*n<=281474976710656:=by omega
 have fP:n<=maxLen:=jco
 have aD:D.sl 1 jo0 (List.replicate n [D.val (.bool false)]).flatten=ki (jhp n []):=by
  rw [jnO]
  congr 1
  apply aCH
  intro k;by_cases hk:k<n
  ·rw [jdM hk];simp [hk]
  ·rw [aBD (by simp;omega),aBD (by rw [qO];omega)]
 have sQ:D.sl 1 jmV [D.val (.int .i64 t)]=jp [(t:Int)]:=by simp [jp]
 simp only [go_sem,ja,hn];intro b;rw [jfx];refine ⟨.i64,.i64,n,by simp only [go_sem],by simp only [go_sem],hm,fP,λη=>?_⟩
 simp only [go_sem,ja,hn,aD,sQ];intro eI;refine kp (λi:Nat×List Int×jl×jl=>St.of [(2,Bx 200 b),(5,Hd 5 i.2.2.1),(6,Hd 6 i.2.2.2),(7,Ni i.1)] [(200,Bi b _ (ja p)),(5,.loose (ki (jhp n i.2.1)) i.2.2.1),(6,.loose (jp ((t:Int)::i.2.1)) i.2.2.2)]) (λi=>jqG p.aAC n t i.1 i.2.1) (λi=>n+1-i.1) (0,[],η,eI) (jsK) (jJ [200,1200,1400] (by simp only [go_sem,ja,hn]<;>trivial)) ?_
 rintro ⟨h,r,bC,dE⟩ Z;dsimp only at Z;have cU:=jiY Z;have oU:((t:Int)::r).length=r.length+1:=rfl;by_cases aC:h<r.length+1
 ·have aA:(h:Int)<((r.length+1:Nat):Int):=by omega
  obtain ⟨x,hx⟩:=jd (l:=(t:Int)::r) aC;have wN:=qg h;simp only [go_sem,aC,aA];refine kp (λi:Nat×List Int×jl×jl=>St.of [(2,Bx 200 b),(5,Hd 5 i.2.2.1),(6,Hd 6 i.2.2.2),(7,Ni h),(8,Ni i.1)] [(200,Bi b _ (ja p)),(5,.loose (ki (jhp n i.2.1)) i.2.2.1),(6,.loose (jp ((t:Int)::i.2.1)) i.2.2.2)]) (λi=>BIn p.aAC n t h x i.1 i.2.1/\i.1<=p.aAC.length) (λi=>p.aAC.length-i.1) (0,r,bC,dE) (⟨bIn_0 Z hx,aBR _⟩) (jJ [200,5,6] (by simp only [go_sem,ja,hn]<;>trivial)) ?_
  rintro ⟨j,r1,bD,gR⟩ ⟨hj,bE⟩;dsimp only at hj bE;have wZ:=jiY hj.1;have sL:((t:Int)::r1).length=r1.length+1:=rfl;by_cases eC:j<p.aAC.length
  ·have cA:(j:Int)<p.aAC.length:=by omega
   obtain ⟨e,he⟩:=jd eC;obtain ⟨⟨e1,e2⟩,e3,e4⟩:=cI e (aAY he);have c9:=qg j;have rY:((t:Int)::r1)[h]?=some x:=hj.2.1;have sS:h<((t:Int)::r1).length:=(aAR.1 rY).1;have hd:e.dst.toNat<n:=by omega
   have uU:((e.dst.toNat:Nat):Int)=e.dst:=by omega
   have lI:(jhp n r1)[e.dst.toNat]?=some (decide (e.dst∈r1)):=by rw [jdM hd,uU]
   have gH:e.dst.toNat<(jhp n r1).length:=by rw [qO];exact hd
   have d3:(jhp n r1).set e.dst.toNat true=jhp n (r1++[e.dst]):=by rw [jos hd,uU]
   have eK:1<=maxLen:=jco;have eU:((t:Int)::r1).length+1<=maxLen:=jco;have uD:(((t:Int)::r1).length+1)*8<=140737488355328:=by omega
   have uO:D.sl 1 jmV [D.val (.int .i64 e.dst)]=jp [e.dst]:=by simp [jp]
   dsimp only;generalize hq:(t:Int)::r1=q at rY sS sL eU uD⊢;simp only [go_sem,ja,hn,eC,cA,js he,jy,qO,e3,hd];intro b2;simp only [go_sem,ja,hn,jy,jf rY,je sS,sS,e3,hd,qO];cases t6:(e.src==x)
   ·have a7:e.src≠x:=by simpa using t6
    simp only [go_sem,c9];exact ⟨(j+1,r1,bD,gR),⟨joN hj he λh'=>absurd h' a7,by omega⟩,(jJ [200,5,6] (by simp only [go_sem,ja,hn,<-hq]<;>trivial)),by (try dsimp only);omega⟩
   ·have eS:e.src=x:=by simpa using t6
    simp only [go_sem,jy,e3,hd,qO,ja2 lI,vP gH,jbs lI];by_cases dM:e.dst∈r1
    ·simp only [go_sem,dM,c9]
     exact ⟨(j+1,r1,bD,gR),⟨joN hj he λ_=>dM,by omega⟩,(jJ [200,5,6] (by simp only [go_sem,ja,hn,<-hq]<;>trivial)),by (try dsimp only);omega⟩
    ·simp only [go_sem,dM,c9,jy,e3,hd,qO,jgu true gH,vP gH,d3,eU,uD,jnW,vz]
     intro rH lP;exact ⟨(j+1,r1++[e.dst],bD,lP),⟨jqu hj he eS dM ⟨e3,e4⟩ (λh0=>by subst h0;simpa using hj.2.1.symm),by omega⟩,(jJ [200,5,5600] (by simp only [go_sem,ja,hn,<-hq,aDD]<;>trivial)),by (try dsimp only);omega⟩
  ·have cA:¬(j:Int)<p.aAC.length:=by omega
   simp only [go_sem,ja,hn,cA,wN];exact ⟨(h+1,r1,bD,gR),jmt hj (by omega),(jJ [200,5,6] (by simp only [go_sem,ja,hn]<;>trivial)),by (try dsimp only);omega⟩
 ·have aA:¬(h:Int)<((r.length+1:Nat):Int):=by omega
  simp only [go_sem,ja,hn,aA,jmu Z (by omega)]
theorem jlN {p:Pl} (h:kY p=false):∃n:Nat,p.aAB=n/\1<=n/\n<=12/\p.aAC.length<=30/\(0<=p.aAH/\p.aAH<=9)/\(1<=p.aAK/\p.aAK<=5)/\(1<=p.aAJ/\p.aAJ<=20):=by
 simp only [kY,inB,Bool.or_eq_false_iff,Bool.not_eq_false',aCJ,aCD] at h;obtain ⟨⟨⟨⟨V,Y⟩,h3⟩,h4⟩,h5⟩:=h;exact ⟨p.aAB.toNat,by omega,by omega,by omega,by omega,h3,h4,h5⟩
theorem jck {p:Pl} (h:kY p=true):jx p=1:=by simp [jx,h]
theorem jfB {p:Pl} (h:kY p=false) {e:Ed} (he:e∈p.aAC) (Y:jeF p.aAB e=true):jx p=2:=by
 have:p.aAC.any (jeF p.aAB)=true:=List.any_eq_true.2 ⟨e,he,Y⟩;simp [jx,h,this]
theorem joH {p:Pl} (h:kY p=false) (Y:p.aAC.any (jeF p.aAB)=false) (h3:¬p.aAC.Nodup):jx p=3:=by simp [jx,h,Y,h3]
theorem joI {p:Pl} (h:kY p=false) (Y:p.aAC.any (jeF p.aAB)=false) (h3:p.aAC.Nodup) {t:Nat} (ht:(t:Int)<p.aAB) (h4:Rc p.aAC t t):jx p=4:=by
 have:jsD p=true:=by simp only [jsD,aCJ];exact ⟨t,ht,h4⟩
 simp [jx,h,Y,h3,this]
theorem jrS {p:Pl} (h:kY p=false) (Y:p.aAC.any (jeF p.aAB)=false) (h3:p.aAC.Nodup) (h4:∀t:Nat,(t:Int)<p.aAB->¬Rc p.aAC t t):jx p=0:=by
 have:jsD p=false:=by simp only [jsD,aCD,not_exists,not_and];exact h4
 simp [jx,h,Y,h3,this]
theorem ji0 {α:Type} {f:α->Bool} {l:List α} {k:Nat} {x:α} (h:l[k]?=some x) (hx:f x=false) (hn:(l.take k).any f=false):(l.take (k+1)).any f=false:=by
 rw [aAX,h];simp_all
theorem jiO {l:List Ed} {k j:Nat} {x:Ed} (h:l[k]?=some x) (hj:j<k) (hx:l[j]?=some x):¬l.Nodup:=by
 intro hd;obtain ⟨V,Y⟩:=aAR.1 h;obtain ⟨h3,h4⟩:=aAR.1 hx;exact List.pairwise_iff_getElem.1 hd j k h3 V hj (h4.trans Y.symm)
theorem jfk {l:List Ed} {k:Nat} {x:Ed} (h:l[k]?=some x) (hn:(l.take k).Nodup) (hx:x∉l.take k):(l.take (k+1)).Nodup:=by
 rw [aAX,h];simp only [Option.toList_some];rw [aAU];exact ⟨hn,by simp,λa ha b Z e=>by simp at Z;subst Z;exact hx (e▸ha)⟩
theorem jc8 (p:Pl):jR Tryz.prog 104 [.agg (ja p)] (.c (.val (.int .i64 (jx p)))):=by
 refine pf_ jaV ?_;unfold za;simp only [go_sem,ja];intro b;refine kt (jeR p) λη=>?_
 simp only [go_sem,ja];cases hm:kY p;rotate_left
 ·simp only [go_sem,ja,hm,jck hm]
 obtain ⟨n,hn,dB,hP,sY,-⟩:=jlN hm;have dY:IntKind.i64.wrap ((n:Int)-1)=n-1:=jdD;simp only [go_sem,ja,hm];refine vn (λi:Nat=>St.of [(1,Bx 100 b),(3,Ni i)] [(100,Bi b _ (ja p))]) (λi=>i<=p.aAC.length/\(p.aAC.take i).any (jeF n)=false) (λi=>p.aAC.length-i) 0 (jJ [100] (by simp only [go_sem,ja]<;>trivial)) ?_
 rintro k ⟨hk,bF⟩;by_cases aC:k<p.aAC.length
 ·have aA:(k:Int)<p.aAC.length:=by omega
  obtain ⟨e,he⟩:=jd aC;have hw:=qg k;simp only [go_sem,ja,hn,aC,aA,js he,jy,dY];refine jg (jt e.src 0 (n-1)) (by simp only [go_sem,ja,aC,aA,js he,jy,dY]) λη=>?_
  simp only [go_sem,ja,aC,aA,js he,jy,dY];cases V:decide (0<=e.src/\e.src<=n-1)
  ·have dT:jeF p.aAB e=true:=by simp [jeF,inB,hn,V]
   simp only [go_sem,ja,V,jfB hm (aAY he) dT]
  ·simp only [go_sem,ja,V,aC,aA,js he,jy,dY,hn]
   refine jg (jt e.dst 0 (n-1)) (by simp only [go_sem,ja,aC,aA,js he,jy,dY]) λη=>?_
   simp only [go_sem,ja,aC,aA,js he,jy,dY];cases Y:decide (0<=e.dst/\e.dst<=n-1)
   ·have dT:jeF p.aAB e=true:=by simp [jeF,inB,hn,Y]
    simp only [go_sem,ja,Y,jfB hm (aAY he) dT]
   ·have dT:jeF n e=false:=by simp [jeF,inB,V,Y]
    simp only [go_sem,ja,Y,hw];exact ⟨k+1,⟨aC,ji0 he dT bF⟩,(jJ [100] (by simp only [go_sem,ja]<;>trivial)),by (try dsimp only);omega⟩
 have aA:¬(k:Int)<p.aAC.length:=by omega
 rw [aAW (by omega),<-hn] at bF
 have cI:=jlJ bF;simp only [go_sem,ja,aA];refine vn (λi:Nat=>St.of [(1,Bx 100 b),(4,Ni i)] [(100,Bi b _ (ja p))]) (λi=>i<=p.aAC.length/\(p.aAC.take i).Nodup) (λi=>p.aAC.length-i) 0 (jJ [100] (by simp only [go_sem,ja]<;>trivial)) ?_
 rintro j ⟨hj,cH⟩;by_cases bE:j<p.aAC.length
 ·have aR:(j:Int)<p.aAC.length:=by omega
  obtain ⟨e,he⟩:=jd bE;have hw:=qg j;simp only [go_sem,ja,aR];refine vn (λi:Nat=>St.of [(1,Bx 100 b),(4,Ni j),(5,Ni i)] [(100,Bi b _ (ja p))]) (λi=>i<=j/\e∉p.aAC.take i) (λi=>j-i) 0 (jJ [100] (by simp only [go_sem,ja]<;>trivial)) ?_
  rintro m ⟨cZ,lD⟩;by_cases fP:m<j
  ·have dG:(m:Int)<j:=by omega
   obtain ⟨e2,bW⟩:=jd (show m<p.aAC.length by omega)
   have dX:=qg m;have eW:m<p.aAC.length:=by omega
   have oQ:(m:Int)<p.aAC.length:=by omega
   by_cases cV:e=e2
   ·subst cV
    simp only [go_sem,ja,dG,bE,aR,eW,oQ,js he,js bW,jy,joH hm bF (jiO he fP bW)]
   ·simp only [go_sem,ja,dG,bE,aR,eW,oQ,js he,js bW,jy,cV,dX]
    exact ⟨m+1,⟨fP,λh'=>by rw [aAX,bW] at h';simp at h';rcases h' with h'|h';exact lD h';exact cV h'⟩,(jJ [100] (by simp only [go_sem,ja]<;>trivial)),by (try dsimp only);omega⟩
  ·have dG:¬(m:Int)<j:=by omega
   obtain rfl:m=j:=by omega
   simp only [go_sem,ja,dG,hw];exact ⟨m+1,⟨bE,jfk he cH lD⟩,(jJ [100] (by simp only [go_sem,ja]<;>trivial)),by (try dsimp only);omega⟩
 have aR:¬(j:Int)<p.aAC.length:=by omega
 rw [aAW (by omega)] at cH
 simp only [go_sem,ja,aR];refine vn (λi:Nat=>St.of [(1,Bx 100 b),(6,Ni i)] [(100,Bi b _ (ja p))]) (λi=>i<=n/\∀t:Nat,t<i->¬Rc p.aAC t t) (λi=>n-i) 0 (jJ [100] (by simp only [go_sem,ja]<;>trivial)) ?_
 rintro t ⟨ht,nW⟩;by_cases cT:t<n
 ·have dI:(t:Int)<n:=by omega
  have hw:=qg t;have gF:∀e∈p.aAC,okE n e:=λe he=>by have:=cI e he;rwa [hn,aCI] at this
  simp only [go_sem,ja,hn,dI];refine jg (jeS p n hn hP sY gF t cT) (by simp only [go_sem,ja,hn]) λη=>?_
  simp only [go_sem,ja,hn];cases hr:rcB p.aAC t t
  ·have hg:(jeo p.aAC n t)[t]?=some false:=by rw [jg4 cT,hr]
   simp only [go_sem,ja,cT,dI,jbo,ja2 hg,vP (show t<(jeo p.aAC n t).length by rw [jbo];exact cT),hw]
   exact ⟨t+1,⟨cT,λs hs h'=>by rcases Nat.lt_or_ge s t with Y|Y;exact nW s Y h';obtain rfl:s=t:=(by omega);rw [rcB_iff.2 h'] at hr;cases hr⟩,(jJ [100] (by simp only [go_sem,ja]<;>trivial)),by (try dsimp only);omega⟩
  ·have hg:(jeo p.aAC n t)[t]?=some true:=by rw [jg4 cT,hr]
   simp only [go_sem,ja,cT,dI,jbo,ja2 hg,vP (show t<(jeo p.aAC n t).length by rw [jbo];exact cT),hw,joI hm bF cH (by rw [hn];exact dI) (rcB_iff.1 hr)]
 ·have dI:¬(t:Int)<n:=by omega
  simp only [go_sem,ja,hn,dI,jrS hm bF cH (λs hs=>nW s (by omega))]
theorem jlE (l:List Ed) (e:Ed) (hl:l.length<=4000000):jR Tryz.prog 136 [.c (jL l),.agg (jy e)] (.c (.val (.int .i64 (jaR (λx=>decide (e=x)) l)))):=by
 refine pf_ kI ?_;unfold ka;simp only [go_sem,jy];intro b;refine vn (λi:Nat=>St.of [(0,Ro (jL l)),(3,Bx 300 b),(7,Ni l.length),(8,Ni i)] [(300,Bi b _ (jy e))]) (λi=>i<=l.length/\∀y∈l.take i,(λx=>decide (e=x)) y=false) (λi=>l.length-i) 0 (jJ [300] (by simp only [go_sem,jy]<;>trivial)) ?_
 rintro k ⟨hk,bF⟩;by_cases aC:k<l.length
 ·have aA:(k:Int)<l.length:=by omega
  obtain ⟨x,hx⟩:=jd aC;have hw:=qg k;by_cases cV:e=x
  ·subst cV
   simp only [go_sem,jy,aC,aA,js hx,vC hx (decide_eq_true rfl) bF]
  ·simp only [go_sem,jy,aC,aA,js hx,cV,hw]
   exact ⟨k+1,⟨aC,jfu hx (decide_eq_false cV) bF⟩,(jJ [300] (by simp only [go_sem,jy]<;>trivial)),by (try dsimp only);omega⟩
 ·have aA:¬(k:Int)<l.length:=by omega
  rw [aAW (by omega)] at bF
  simp only [go_sem,jy,aA,qS bF]
theorem jgG (l:List Ed) (e:Ed) (hl:l.length<=4000000):jR Tryz.prog 130 [.c (jL l),.agg (jy e)] (.c (.val (.bool (decide (e∈l))))):=by
 refine pf_ kx ?_;unfold jV;simp only [go_sem,jy];intro b;refine kt (jlE l e hl) λη=>?_
 simp only [go_sem,jy];rcases vS (λx=>decide (e=x)) l with ⟨V,Y⟩|⟨k,x,V,Y,h3,-⟩
 ·have hm:decide (e∈l)=false:=decide_eq_false λh=>by have:=Y e h;simp at this
  rw [V,hm];simp only [go_sem]
 ·have hm:decide (e∈l)=true:=decide_eq_true (by have:e=x:=by simpa using h3
                                                exact this▸aAY Y)
  have hk:=jaQ k;rw [V,hm];simp only [go_sem,hk]
theorem jih {a:Nat} (h:a<4096):(BitVec.ofInt 64 (a:Int))=BitVec.ofNat 64 a:=by
 apply BitVec.eq_of_toNat_eq
 simp
theorem jnI {a b:Nat} (ha:a<4096) (Z:b<4096):IntKind.i64.wrap ((BitVec.ofInt 64 (a:Int)|||BitVec.ofInt 64 (b:Int)).toNat:Int)=((a|||b:Nat):Int):=by
 have fJ:a|||b<2^12:=Nat.or_lt_two_pow ha Z
 have e:(BitVec.ofInt 64 (a:Int)|||BitVec.ofInt 64 (b:Int)).toNat=a|||b:=by
  rw [jih ha,jih Z,BitVec.toNat_or,BitVec.toNat_ofNat,BitVec.toNat_ofNat,Nat.mod_eq_of_lt (by omega),Nat.mod_eq_of_lt (by omega)]
 rw [e];exact kh (by omega) (by omega)
theorem jkY {d:Int} (h0:0<=d) (h:d<12):IntKind.i64.wrap (1*2^min d.toNat 64)=((2^d.toNat:Nat):Int):=by
 have e:min d.toNat 64=d.toNat:=aCW (by omega)
 have aC:2^d.toNat<4096:=(show 2^d.toNat<2^12 from Nat.pow_lt_pow_right (by omega) (by omega))
 rw [e,Int.one_mul,show (2:Int)^d.toNat=((2^d.toNat:Nat):Int) by simp]
 generalize 2^d.toNat=q at*;exact kh (by omega) (by omega)
theorem jon {a t:Nat} (ha:a<4096) (ht:t<12):(IntKind.i64.wrap ((BitVec.ofInt 64 (Int.fdiv (a:Int) (2^min t 64))&&&BitVec.ofInt 64 1).toNat:Int)==1)=a.testBit t:=by
 have e:min t 64=t:=aCW (by omega)
 have e1:Int.fdiv (a:Int) (2^t)=((a/2^t:Nat):Int):=by
  rw [show (2:Int)^t=((2^t:Nat):Int) by simp,Int.fdiv_eq_ediv_of_nonneg _ (Int.natCast_nonneg _)];rfl
 have hq:a/2^t<4096:=Nat.lt_of_le_of_lt (Nat.div_le_self _ _) ha
 have e2:(BitVec.ofInt 64 ((a/2^t:Nat):Int)&&&BitVec.ofInt 64 1).toNat=(a/2^t)%2:=by
  rw [jih hq,show BitVec.ofInt 64 1=BitVec.ofNat 64 1 from rfl,BitVec.toNat_and,BitVec.toNat_ofNat,BitVec.toNat_ofNat,Nat.mod_eq_of_lt (by omega),Nat.mod_eq_of_lt (by omega)]
  exact Nat.and_one_is_mod _
 rw [e,e1,e2,kh (by omega) (by omega),Nat.testBit_eq_decide_div_mod_eq]
 by_cases h:a/2^t%2=1
 ·rw [h];rfl
 ·have h0:a/2^t%2=0:=by omega
  rw [h0];rfl
theorem jgI {a b:Nat} (ha:a<4096) (Z:b<4096):IntKind.i64.wrap ((@BitVec.toNat 64 (@HOr.hOr (BitVec 64) (BitVec 64) (BitVec 64) (@instHOrOfOrOp (BitVec IntKind.i64.bits) (@BitVec.instOrOp IntKind.i64.bits)) (BitVec.ofInt 64 (a:Int)) (BitVec.ofInt 64 (b:Int))):Nat):Int)=((a|||b:Nat):Int):=jnI ha Z
theorem jmo {a t:Nat} (ha:a<4096) (ht:t<12):(IntKind.i64.wrap ((@BitVec.toNat 64 (@HAnd.hAnd (BitVec 64) (BitVec 64) (BitVec 64) (@instHAndOfAndOp (BitVec IntKind.i64.bits) (@BitVec.instAndOp IntKind.i64.bits)) (BitVec.ofInt 64 (Int.fdiv (a:Int) (2^min t 64))) (BitVec.ofInt 64 1)):Nat):Int)==1)=a.testBit t:=jon ha ht
def zL (S:List Nat):List Int:=S.map λ(k:Nat)=>(k:Int)
theorem ja4 (S:List Nat):(zL S).length=S.length:=by simp [zL]
theorem jkk {S:List Nat} {k:Nat} (h:k<S.length):(zL S)[k]?=some ((S.getD k 0:Nat):Int):=by simp [zL,h]
theorem jqN (S:List Nat) (k v:Nat):(zL S).set k (v:Int)=zL (S.set k v):=by simp [zL,List.map_set]
theorem jnk {es:List Ed} {k:Nat} {e:Ed} (h:es[k]?=some e) (S:List Nat):(es.take (k+1)).foldl qA S=qA ((es.take k).foldl qA S) e:=by
 rw [aAX,h];simp
theorem jia {n:Nat}:∀{l:List Ed} {S:List Nat},(∀e∈l,okE n e)->(∀x∈S,x<2^n)->∀x∈l.foldl qA S,x<2^n
 |[],_,_,h=>h
 |e::l,S,hl,h=>jia (l:=l) (S:=qA S e) (λe he=>hl e (by simp [he])) (jo2 (hl e (by simp)) h)
theorem jhH {n:Nat} {es:List Ed} (cI:∀e∈es,okE n e):∀(k:Nat),∀x∈jhw es k (List.replicate n 0),x<2^n
 |0=>λx hx=>by simp [jhw] at hx;have:=Nat.two_pow_pos n;omega
 |k+1=>jia cI (jhH cI k)
theorem jh9 {S:List Nat} {n:Nat} (h:∀x∈S,x<2^n) (hn:n<=12) (k:Nat):S.getD k 0<4096:=by
 have Y:2^n<=2^12:=Nat.pow_le_pow_right (by omega) hn
 rw [aBF];cases hk:S[k]? with
 |none=>simp
 |some v=>have:=h v (aAY hk);simp;omega
def jc1:C:=iS [iA 1 (.box 109 5 (.t 0)),iA 2 (.mov (.c (.slice none 0 0)))] (iS [aF 6 3 1,aL 7 6,iA 8 (.mks 3 1 8 [D.val (.int .i64 0)] (.t 7) (.t 7)),aM 3 8] (.seq (iS [aF 9 3 1,aL 10 9,aN 11 0] (.blk 0 (.loop (iS [aP 12 .lss 3 11 10] (.seq (iD 12 .skip (.exit 0)) (.seq (.blk 1 (iS [aF 13 4 1,aL 14 13,aG 15 14,aN 16 0] (.blk 2 (.loop (iS [aP 17 .lss 3 16 15] (.seq (iD 17 .skip (.exit 2)) (.seq (.blk 3 (iS [aI 18 2 14 16,aT 19 2 18,iA 5 wAN,wAF 5 19] (.dreg (tA 0 20 (iM 3) (tA 1 21 (iF 0 5) (tA 2 22 (iL 21) (tA 3 23 (iI 1 20 22) (tA 4 24 (iL 23) (tA 5 25 (iF 1 5) (tA 6 26 (iL 25) (tA 7 27 (.bin .shl 3 (oI 1) (.t 26)) (tA 8 28 (iM 3) (tA 9 29 (iF 1 5) (tA 10 30 (iL 29) (tA 11 31 (iI 1 28 30) (tA 12 32 (iL 31) (tA 13 33 (iP .or 3 27 32) (tA 14 34 (iP .or 3 24 33) (tA 15 35 (iI 1 20 22) (.alt (wAA 35 34) [] .done .stop)))))))))))))))))))) (.reg [aQ 36 .add 3 16 1,aM 16 36])))))))) (.reg [aQ 37 .add 3 11 1,aM 11 37]))))))) (iS [aM 38 3,aM 2 38] .ret)))
theorem jez:fnC Tryz.prog Tryz.f131=some (jc1,[.t 2],39):=by kernel_rfl
def zf:C:=iS [iA 1 (.box 109 5 (.t 0)),aN 2 0] (.seq (iS [aF 9 3 1,aL 10 9,iA 11 (.call 51 [.t 10,oI 1,oI 12]),aU 12 11,aM 13 12,iB 14 13 false (iF 4 1),iB 15 13 false (iL 14),iB 16 13 false (iG 15),iB 17 13 false (iQ .gtr 3 16 30),iA 18 (iY 13 (oT) (.t 17)),aM 19 18,iB 20 19 false (iF 0 1),iB 21 19 false (iL 20),iB 22 19 false (.call 51 [.t 21,oI 0,oI 9]),iB 23 19 false (iU 22),iA 24 (iY 19 (oT) (.t 23)),aM 25 24,iB 26 25 false (iF 1 1),iB 27 25 false (iL 26),iB 28 25 false (.call 51 [.t 27,oI 1,oI 5]),iB 29 25 false (iU 28),iA 30 (iY 25 (oT) (.t 29)),aM 31 30,iB 32 31 false (iF 2 1),iB 33 31 false (iL 32),iB 34 31 false (.call 51 [.t 33,oI 1,oI 20]),iB 35 31 false (iU 34),iA 36 (iY 31 (oT) (.t 35))] (iD 36 (iS [aN 2 1] .ret) .skip)) (.seq (iS [aF 37 4 1,aL 38 37,aG 39 38,aN 40 0] (.blk 0 (.loop (iS [aP 41 .lss 3 40 39] (.seq (iD 41 .skip (.exit 0)) (.seq (.blk 1 (iS [aI 42 2 38 40,aT 43 2 42,iA 4 wAN,wAF 4 43] (iS [aF 44 0 4,aL 45 44,aF 46 3 1,aL 47 46,aQ 48 .sub 3 47 1,iA 49 (.call 51 [.t 45,oI 0,.t 48]),aU 50 49,aM 51 50,iB 52 51 false (iF 1 4),iB 53 51 false (iL 52),iB 54 51 false (iF 3 1),iB 55 51 false (iL 54),iB 56 51 false (iQ .sub 3 55 1),iB 57 51 false (.call 51 [.t 53,oI 0,.t 56]),iB 58 51 false (iU 57),iA 59 (iY 51 (oT) (.t 58))] (iD 59 (iS [aN 2 2] .ret) .skip)))) (.reg [aQ 60 .add 3 40 1,aM 40 60]))))))) (.seq (iS [aF 61 4 1,aL 62 61,aG 63 62,aN 64 0] (.blk 2 (.loop (iS [aP 65 .lss 3 64 63] (.seq (iD 65 .skip (.exit 2)) (.seq (.blk 3 (iS [aM 66 64,aI 67 2 62 64,aT 68 2 67,iA 6 wAN,aM 5 66,wAF 6 68] (.seq (.dreg (tA 0 69 (iF 4 1) (tA 1 70 (iL 69) (tA 2 71 (iM 5) (tA 3 72 (.sl 2 (.t 70) none (some (.t 71))) (tA 4 73 (iT 2 6) (tC 74 (iK 130 [72,73]) [] .done .stop))))))) (iD 74 (iS [aN 2 3] .ret) .skip)))) (.reg [aQ 75 .add 3 64 1,aM 64 75]))))))) (.seq (iS [aT 76 5 1,iA 77 (iK 131 [76]),aG 78 77,aN 79 0] (.blk 4 (.loop (iS [aP 80 .lss 3 79 78] (.seq (iD 80 .skip (.exit 4)) (.seq (.blk 5 (iS [aM 81 79,aI 82 1 77 79,aL 83 82,aM 7 81,aM 8 83] (iS [aM 84 8,aM 85 7,aP 86 .shr 3 84 85,aQ 87 .and 3 86 1,aQ 88 .eql 3 87 1] (iD 88 (iS [aN 2 4] .ret) .skip)))) (.reg [aQ 89 .add 3 79 1,aM 79 89]))))))) (iS [aN 2 0] .ret)))))
theorem ja0:fnC Tryz.prog Tryz.f114=some (zf,[.t 2],90):=by kernel_rfl
theorem jgA (p:Pl) (n:Nat) (hn:p.aAB=n) (dN:n<=12) (fA:p.aAC.length<=30) (cI:∀e∈p.aAC,okE n e):jR Tryz.prog 131 [.agg (ja p)] (.c (jp (zL (jan p.aAC n)))):=by
 refine pf_ jez ?_;unfold jc1;have aD:jp (List.replicate n 0)=jp (zL (jhw p.aAC 0 (List.replicate n 0))):=by simp [jhw,zL]
 simp only [go_sem,ja,hn];intro b;rw [jfx];refine ⟨.i64,.i64,n,by simp only [go_sem],by simp only [go_sem],by omega,by unfold maxLen;omega,λη=>?_⟩
 simp only [go_sem,ja,hn,jpP,aD];refine vn (λi:Nat×jl=>St.of [(1,Bx 100 b),(3,Hd 3 i.2),(10,Ni n),(11,Ni i.1)] [(100,Bi b _ (ja p)),(3,.loose (jp (zL (jhw p.aAC i.1 (List.replicate n 0)))) i.2)]) (λi=>i.1<=n) (λi=>n-i.1) (0,η) (jJ [100,800] (by simp only [go_sem,ja,hn]<;>trivial)) ?_
 rintro ⟨k,eI⟩ hk;dsimp only at hk;by_cases aC:k<n
 ·have aA:(k:Int)<n:=by omega
  have hw:=qg k;have yI:=jix (es:=p.aAC) k (List.replicate n 0);have yJ:=jhH cI k;rw [aDA] at yI;have oM:jhw p.aAC (k+1) (List.replicate n 0)=p.aAC.foldl qA (jhw p.aAC k (List.replicate n 0)):=rfl;dsimp only;generalize jhw p.aAC k (List.replicate n 0)=S at*;simp only [go_sem,ja,aA,hn];refine vn (λi:Nat×jl=>St.of [(1,Bx 100 b),(3,Hd 3 i.2),(10,Ni n),(11,Ni k),(14,Ro (jL p.aAC)),(15,Ni p.aAC.length),(16,Ni i.1)] [(100,Bi b _ (ja p)),(3,.loose (jp (zL ((p.aAC.take i.1).foldl qA S))) i.2)]) (λi=>i.1<=p.aAC.length) (λi=>p.aAC.length-i.1) (0,eI) (jJ [100,3] (by simp only [go_sem,ja,hn,aCK,List.foldl_nil]<;>trivial)) ?_
  rintro ⟨j,bC⟩ hj;dsimp only at hj;by_cases eC:j<p.aAC.length
  ·have cA:(j:Int)<p.aAC.length:=by omega
   obtain ⟨e,he⟩:=jd eC;have hm:e∈p.aAC:=aAY he;obtain ⟨⟨e1,e2⟩,e3,e4⟩:=cI e hm;have c9:=qg j;have hTl:=jfZ (p.aAC.take j) S;have uZ:=jia (n:=n) (l:=p.aAC.take j) (S:=S) (λe he=>cI e (List.mem_of_mem_take he)) yJ
   have cG:=jnk he S;dsimp only;generalize (p.aAC.take j).foldl qA S=U at*;have eF:e.src.toNat<U.length:=by omega
   have gH:e.dst.toNat<U.length:=by omega
   have rT:=jkk eF;have mL:=jkk gH;have t4:e.src.toNat<(zL U).length:=by rw [ja4];exact eF
   have wE:e.dst.toNat<(zL U).length:=by rw [ja4];exact gH
   have pZ:=jh9 uZ dN e.src.toNat;have lV:=jh9 uZ dN e.dst.toNat;have hp:2^e.dst.toNat<4096:=(show 2^e.dst.toNat<2^12 from Nat.pow_lt_pow_right (by omega) (by omega))
   have ho:2^e.dst.toNat|||U.getD e.dst.toNat 0<4096:=Nat.or_lt_two_pow (n:=12) hp lV
   have bG:(zL U).set e.src.toNat ((U.getD e.src.toNat 0|||(2^e.dst.toNat|||U.getD e.dst.toNat 0):Nat):Int)=zL (qA U e):=jqN _ _ _
   simp only [go_sem,ja,hn,eC,cA,js he,jy,e1,e3,eF,gH,ja4];intro b2;simp only [go_sem,ja,hn,eC,cA,jy,e1,e3,eF,gH,ja4,jf rT,je t4,jf mL,je wE,jkY e3 (by omega),jgI hp lV,jgI pZ ho,vO _ t4,bG,c9]
   exact je1 (j+1,bC) (jJ [100,3] (by simp only [go_sem,ja,hn,cG]<;>trivial))
  ·have cA:¬(j:Int)<p.aAC.length:=by omega
   rw [aAW (by omega)]
   simp only [go_sem,ja,hn,cA,hw];exact je1 (k+1,bC) (jJ [100,3] (by simp only [go_sem,ja,hn,oM]<;>trivial))
 ·have aA:¬(k:Int)<n:=by omega
  obtain rfl:k=n:=by omega
  simp only [go_sem,ja,hn,aA,jan]
theorem vW (p:Pl) (mB:p.aAC.length<=4000000):jR Tryz.prog 114 [.agg (ja p)] (.c (.val (.int .i64 (jx p)))):=by
 refine pf_ ja0 ?_;unfold zf;simp only [go_sem,ja];intro b;refine kt (jq p.aAB 1 12) λη=>?_
 simp only [go_sem,ja];cases V:decide (1<=p.aAB/\p.aAB<=12)
 ·simp only [go_sem,ja,V,jck (show kY p=true by simp [kY,inB,V])]
 by_cases Y:30<p.aAC.length
 ·have bP:(p.aAC.length:Int)>30:=by omega
  simp only [go_sem,ja,V,bP,jck (show kY p=true by simp [kY,inB,V,Y])]
 have bP:¬(p.aAC.length:Int)>30:=by omega
 simp only [go_sem,ja,V,bP];refine kt (jq p.aAH 0 9) λη=>?_
 simp only [go_sem,ja];cases h3:decide (0<=p.aAH/\p.aAH<=9)
 ·simp only [go_sem,ja,h3,jck (show kY p=true by simp [kY,inB,h3])]
 simp only [go_sem,ja,h3];refine kt (jq p.aAK 1 5) λη=>?_
 simp only [go_sem,ja];cases h4:decide (1<=p.aAK/\p.aAK<=5)
 ·simp only [go_sem,ja,h4,jck (show kY p=true by simp [kY,inB,h4])]
 simp only [go_sem,ja,h4];refine kt (jq p.aAJ 1 20) λη=>?_
 simp only [go_sem,ja];cases h5:decide (1<=p.aAJ/\p.aAJ<=20)
 ·simp only [go_sem,ja,h5,jck (show kY p=true by simp [kY,inB,h5])]
 have hm:kY p=false:=by simp [kY,inB,V,Y,h3,h4,h5]
 obtain ⟨n,hn,dB,hP,sY,-⟩:=jlN hm;have dY:IntKind.i64.wrap ((n:Int)-1)=n-1:=jdD;simp only [go_sem,ja,h5,hn];refine vn (λi:Nat=>St.of [(1,Bx 100 b),(38,Ro (jL p.aAC)),(39,Ni p.aAC.length),(40,Ni i)] [(100,Bi b _ (ja p))]) (λi=>i<=p.aAC.length/\(p.aAC.take i).any (jeF n)=false) (λi=>p.aAC.length-i) 0 (jJ [100] (by simp only [go_sem,ja,hn]<;>trivial)) ?_
 rintro k ⟨hk,bF⟩;by_cases aC:k<p.aAC.length
 ·have aA:(k:Int)<p.aAC.length:=by omega
  obtain ⟨e,he⟩:=jd aC;have hw:=qg k;simp only [go_sem,ja,hn,aC,aA,js he,jy,dY];intro b2;refine jg (jq e.src 0 (n-1)) (by simp only [go_sem,ja,jy,dY]) λη=>?_
  simp only [go_sem,ja,jy,dY];cases V:decide (0<=e.src/\e.src<=n-1)
  ·have dT:jeF p.aAB e=true:=by simp [jeF,inB,hn,V]
   simp only [go_sem,ja,V,jfB hm (aAY he) dT]
  ·simp only [go_sem,ja,V,jy,dY,hn]
   refine jg (jq e.dst 0 (n-1)) (by simp only [go_sem,ja,jy,dY]) λη=>?_
   simp only [go_sem,ja,jy,dY];cases Y:decide (0<=e.dst/\e.dst<=n-1)
   ·have dT:jeF p.aAB e=true:=by simp [jeF,inB,hn,Y]
    simp only [go_sem,ja,Y,jfB hm (aAY he) dT]
   ·have dT:jeF n e=false:=by simp [jeF,inB,V,Y]
    simp only [go_sem,ja,Y,hw];exact ⟨k+1,⟨aC,ji0 he dT bF⟩,(jJ [100] (by simp only [go_sem,ja,hn]<;>trivial)),by (try dsimp only);omega⟩
 have aA:¬(k:Int)<p.aAC.length:=by omega
 rw [aAW (by omega),<-hn] at bF
 have cI:=jlJ bF;have gF:∀e∈p.aAC,okE n e:=λe he=>by have:=cI e he;rwa [hn,aCI] at this
 simp only [go_sem,ja,aA,hn];refine vn (λi:Nat=>St.of [(1,Bx 100 b),(62,Ro (jL p.aAC)),(63,Ni p.aAC.length),(64,Ni i)] [(100,Bi b _ (ja p))]) (λi=>i<=p.aAC.length/\(p.aAC.take i).Nodup) (λi=>p.aAC.length-i) 0 (jJ [100] (by simp only [go_sem,ja,hn]<;>trivial)) ?_
 rintro j ⟨hj,cH⟩;by_cases bE:j<p.aAC.length
 ·have aR:(j:Int)<p.aAC.length:=by omega
  obtain ⟨e,he⟩:=jd bE;have hw:=qg j;have sO:j<=p.aAC.length:=by omega
  simp only [go_sem,ja,bE,aR,sO,js he,jy,hn];intro b2;refine kt (jgG (p.aAC.take j) e (by rw [aBA];omega)) λη=>?_
  simp only [go_sem,ja,jy];by_cases dM:e∈p.aAC.take j
  ·have hd:¬p.aAC.Nodup:=by
    obtain ⟨m,cZ,dC⟩:=aBS dM;rw [aBA] at cZ;rw [List.getElem_take] at dC;exact jiO he (show m<j by omega) (by rw [aAT (by omega),dC])
   simp only [go_sem,ja,dM,joH hm bF hd]
  ·simp only [go_sem,ja,dM,hw]
   exact ⟨j+1,⟨bE,jfk he cH dM⟩,(jJ [100] (by simp only [go_sem,ja,hn]<;>trivial)),by (try dsimp only);omega⟩
 have aR:¬(j:Int)<p.aAC.length:=by omega
 rw [aAW (by omega)] at cH
 simp only [go_sem,ja,aR,hn];refine jg (jgA p n hn hP sY gF) (by simp only [go_sem,ja,hn]) λη=>?_
 simp only [go_sem,ja,hn];have nO:=jkr (es:=p.aAC) (n:=n);have t7:=jks (n:=n) gF;have rK:∀k:Nat,(jan p.aAC n).getD k 0<4096:=jh9 (jhH gF n) hP;simp only [go_sem,ja4,nO];refine vn (λi:Nat=>St.of [(77,Hd 7700 (η 0)),(78,Ni n),(79,Ni i)] [(7700,.loose (jp (zL (jan p.aAC n))) (η 0))]) (λi=>i<=n/\∀t:Nat,t<i->¬Rc p.aAC t t) (λi=>n-i) 0 (jJ [7700] (by simp only [go_sem,ja4,nO]<;>trivial)) ?_
 rintro t ⟨ht,nW⟩;by_cases cT:t<n
 ·have dI:(t:Int)<n:=by omega
  have hw:=qg t;have t9:t<(jan p.aAC n).length:=by rw [nO];exact cT
  have hg:=jkk t9;have t0:t<(zL (jan p.aAC n)).length:=by rw [ja4];exact t9
  have rE:=jmo (rK t) (show t<12 by omega)
  have rG:=jaQ t;cases hr:((jan p.aAC n).getD t 0).testBit t
  ·rw [hr] at rE
   simp only [go_sem,cT,dI,ja4,nO,jf hg,je t0,rE,hw];exact ⟨t+1,⟨cT,λs hs h'=>by rcases Nat.lt_or_ge s t with Y|Y;exact nW s Y h';obtain rfl:s=t:=(by omega);rw [(t7 s s).2 h'] at hr;cases hr⟩,(jJ [7700]),by (try dsimp only);omega⟩
  ·rw [hr] at rE
   simp only [go_sem,cT,dI,ja4,nO,jf hg,je t0,rE,hw,joI hm bF cH (by rw [hn];exact dI) ((t7 t t).1 hr)]
 ·have dI:¬(t:Int)<n:=by omega
  simp only [go_sem,dI,jrS hm bF cH (λs hs=>nW s (by omega))]
