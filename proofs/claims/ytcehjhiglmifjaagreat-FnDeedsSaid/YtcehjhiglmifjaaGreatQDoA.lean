/- Parts. -/
import Derived.Test.YtcehjhiglmifjaaGreatQDatR
import Derived.Test.YtcehjhiglmifjaaGreatQForg
set_option linter.all false
set_option maxHeartbeats 8000000
set_option maxRecDepth 100000
namespace Go.Proofs.YtcehjhiglmifjaaGreat
open Go.RowKit Go.Sort
noncomputable def doF (y:Yd) (l:List Dd):Yd:=l.foldl doY y
noncomputable def jiB:Yd->List Dd->List Rp
 |_,[]=>[]
 |y,d::l=>doQ y d::jiB (doY y d) l
theorem jAH {y:Yd} {l:List Dd} {k:Nat} {d:Dd} (h:l[k]?=some d):doF y (l.take (k+1))=doY (doF y (l.take k)) d:=by
 rw [aMT,h];simp [doF]
theorem jv0 (l:List Dd) (d:Dd):∀y:Yd,jiB y (l++[d])=jiB y l++[doQ (doF y l) d]:=by
 induction l with
 |nil=>intro y;simp [jiB,doF]
 |cons a l ih=>intro y;simp [jiB,doF,ih]
theorem jv1 {y:Yd} {l:List Dd} {k:Nat} {d:Dd} (h:l[k]?=some d):jiB y (l.take (k+1))=jiB y (l.take k)++[doQ (doF y (l.take k)) d]:=by
 rw [aMT,h];exact jv0 _ _ _
theorem jgb:∀(l:List Dd) (y:Yd),(jiB y l).length=l.length
 |[],_=>rfl
 |d::l,y=>by simp [jiB,jgb l]
theorem jkd:∀(l:List Dd) (y:Yd),jt y<=1100000->jt (doF y l)<=1100000
 |[],_,h=>h
 |d::l,y,h=>jkd l (doY y d) (jx8 y d h)
theorem jrS {l:List Dd} {k:Nat} {d:Dd} (h:l[k]?=some d) (ht:jd9 l<=2000000):jbX d<=2000000:=by
 have h1:=vK (tot:=jbX) h;have h2:=jak jbX l (k+1);simp only [jd9] at ht;omega
def jio:C:=iS [iA 2 (.box 27 4 (.t 0)),iA 4 wAK,iA 5 (.mov (.c (.slice none 0 0)))] (iS [aT 12 4 2,iA 13 (iK 61 [12]),iA 6 wAK,wAA 6 13] (iS [iA 7 (.mov (.c (.slice none 0 0)))] (.seq (iS [aM 14 1,aG 15 14,aN 16 0] (.blk 0 (.loop (iS [aP 17 .lss 3 16 15] (.seq (iD 17 .skip (.exit 0)) (.seq (.blk 1 (iS [aI 18 11 14 16,aT 19 11 18,iA 9 wAQ,wAE 9 19] (iS [aT 21 4 6,aT 22 11 9,iA 23 (iK 29 [21,22]),aM 20 23,aE 24 20 0,aE 25 20 1,iA 10 wAK,iA 11 wAM,wAA 10 24,wAB 11 25] (iS [aT 26 4 10,wAA 6 26] (.reg [aM 27 7,aT 28 4 11,iA 29 (wA1 [(0,4,.t 28)]),iA 30 (.app 32 4 32 (.t 27) (.t 29)),aM 7 30]))))) (.reg [aQ 31 .add 3 16 1,aM 16 31]))))))) (iS [aT 32 4 6,aM 33 7,wAA 4 32,aM 5 33] .ret))))
theorem jkx:fnC Tryz.prog Tryz.f31=some (jio,[.cell 4 true 4,.t 5],34):=by kernel_rfl
def jii:C:=iS [iA 2 (.box 27 4 (.t 0)),iA 4 wAK,iA 5 (.mov (.c (.slice none 0 0)))] (iS [aT 10 4 2,iA 11 (iK 67 [10]),iA 6 wAK,wAA 6 11] (iS [iA 12 (.bsl 32 4 0 [] []),aM 7 12] (.seq (iS [aN 8 0] (.blk 0 (.loop (.seq (iS [aM 13 8,aM 14 1,aG 15 14,aP 16 .lss 3 13 15] (iD 16 .skip (.exit 0))) (.seq (.blk 1 (iS [iA 19 (wAS []),iA 9 wAM,wAB 9 19] (.seq (.dreg (tA 0 21 (iT 4 6) (tA 1 22 (iM 1) (tA 2 23 (iM 8) (tA 3 24 (iI 11 22 23) (tA 4 25 (iT 11 24) (tC 26 (iK 95 [21,25]) [] (tA 6 20 (iM 26) (tA 7 27 (iE 20 0) (tA 8 28 (iE 20 1) (.alt (wAA 6 27) [8] (.alt (wAB 9 28) [] .done .stop) .stop)))) .stop))))))) (.reg [aM 29 7,aT 30 4 9,iA 31 (wA1 [(0,4,.t 30)]),iA 32 (.app 32 4 32 (.t 29) (.t 31)),aM 7 32])))) (.reg [aM 17 8,aQ 18 .add 3 17 1,aM 8 18])))))) (iS [aT 33 4 6,aM 34 7,wAA 4 33,aM 5 34] .ret))))
theorem jkq:fnC Tryz.prog Tryz.f32=some (jii,[.cell 4 true 4,.t 5],35):=by kernel_rfl
theorem jcX (y:Yd) (l:List Dd) (ht:jt y<=1100000) (hd:jd9 l<=2000000):kg Tryz.prog 31 [.agg (jb y),.c (kv l)] (.tup [(true,jb (doF y l)),(false,[kV (jiB y l)])]):=by
 refine pf_ jkx ?_;unfold jio;have dZ:jt y<=2000000:=by omega
 have hl:l.length<=2000000:=aNX (aPM _ _) hd;simp only [go_sem,jb];intro b2 b4;refine jx (ke y dZ) λbC=>?_
 simp only [go_sem,jb];intro b6;refine vo (λi:Nat×jm×jm×jm=>St.of [(4,Bx 400 b4),(6,Bx 600 b6),(7,Hd 7 i.2.2.2),(14,Ro (kv l)),(15,Ni l.length),(16,Ni i.1)] [(400,ZYd b4 tYd),(600,ka b6 tYd (doF y (l.take i.1)).now (doF y (l.take i.1)).seq (doF y (l.take i.1)).aLU i.2.1 (doF y (l.take i.1)).aLX i.2.2.1),(7,.loose (kV (jiB y (l.take i.1))) i.2.2.2)]) (λi=>i.1<=l.length) (λi=>l.length-i.1) (0,bC 2,bC 3,jcF) (zo [some 400,some 600,none] (by simp only [go_sem,jb,aNM,show doF y []=y from rfl,show jiB y []=[] from rfl]<;>trivial)) ?_
 rintro ⟨n,f2,f3,f7⟩ hn;dsimp only at hn;have hz:=jkd (l.take n) y ht;have bZ:=jgb (l.take n) y;rw [aMP,aNZ hn] at bZ;by_cases aB:n<l.length
 ·have aA:(n:Int)<l.length:=by omega
  have bD:=qT n;obtain ⟨d,hx⟩:=jd aB;have hw:=kX n;have hF:=jAH (y:=y) hx;have hR:=jv1 (y:=y) hx;have sK:=jrS hx hd;generalize doF y (l.take n)=z at*;generalize jiB y (l.take n)=rs at*;have eU:=jh1 rs (doQ z d);simp only [qO] at eU;have dN:rs.length+1<=maxLen:=by unfold maxLen;omega
  have bI:(rs.length+1)*32<=140737488355328:=by omega
  simp only [go_sem,aB,aA,bD,jaV hx,jj,ja,aOS,aON];intro b9;refine jn (joq z d (by omega) sK) (by simp only [go_sem,jb,jj,ja,aOS,aON]) λsQ=>?_
  simp only [go_sem,jb,jj,ja,aOS,aON];intro b10 b11;simp only [go_sem,jb,dN,bI,eU,hw];intro aGL aAD;exact ql (n+1,sQ 2,sQ 3,aAD) (jy [400,600,3000] (by simp only [go_sem,jb,hF,hR,eU,jO]<;>trivial))
 ·have aA:¬(n:Int)<l.length:=by omega
  obtain rfl:n=l.length:=by omega
  rw [aOI];simp only [go_sem,aA];refine qm _ _ _ _ _ ?_;simp only [go_sem,jb]
theorem joi (y:Yd) (l:List Dd) (ht:jt y<=1100000) (hd:jd9 l<=2000000):kg Tryz.prog 32 [.agg (jb y),.c (kv l)] (.tup [(true,jb (doF y l)),(false,[kV (jiB y l)])]):=by
 refine pf_ jkq ?_;unfold jii;have dZ:jt y<=2000000:=by omega
 have hl:l.length<=2000000:=aNX (aPM _ _) hd;simp only [go_sem,jb];intro b2 b4;refine jx (kp y dZ) λbC=>?_
 simp only [go_sem,jb];intro b6 aAH;refine vo (λi:Nat×jm×jm×jm=>St.of [(1,Ro (kv l)),(4,Bx 400 b4),(6,Bx 600 b6),(7,Hd 7 i.2.2.2),(8,Ni i.1)] [(400,ZYd b4 tYd),(600,ka b6 tYd (doF y (l.take i.1)).now (doF y (l.take i.1)).seq (doF y (l.take i.1)).aLU i.2.1 (doF y (l.take i.1)).aLX i.2.2.1),(7,.loose (kV (jiB y (l.take i.1))) i.2.2.2)]) (λi=>i.1<=l.length) (λi=>l.length-i.1) (0,bC 2,bC 3,aAH) (jy [400,600,1200] (by simp only [go_sem,jb,aNM,show doF y []=y from rfl,show jiB y []=[] from rfl]<;>trivial)) ?_
 rintro ⟨n,f2,f3,f7⟩ hn;dsimp only at hn;have hz:=jkd (l.take n) y ht;have bZ:=jgb (l.take n) y;rw [aMP,aNZ hn] at bZ;by_cases aB:n<l.length
 ·have aA:(n:Int)<l.length:=by omega
  have bD:=qT n;obtain ⟨d,hx⟩:=jd aB;have hw:=kX n;have hF:=jAH (y:=y) hx;have hR:=jv1 (y:=y) hx;have sK:=jrS hx hd;generalize doF y (l.take n)=z at*;generalize jiB y (l.take n)=rs at*;have eU:=jh1 rs (doQ z d);simp only [qO] at eU;have dN:rs.length+1<=maxLen:=by unfold maxLen;omega
  have bI:(rs.length+1)*32<=140737488355328:=by omega
  simp only [go_sem,aB,aA,bD,jaV hx,jj,ja,aOS,aON];intro b9;refine jn (joj z d (by omega) sK) (by simp only [go_sem,aB,aA,bD,jaV hx,jb,jj,ja,aOS,aON]) λsQ=>?_
  simp only [go_sem,aB,aA,bD,jaV hx,jb,jj,ja,aOS,aON];simp only [go_sem,jb,dN,bI,eU,hw];intro aGK aAC;exact ql (n+1,sQ 2,sQ 3,aAC) (jy [400,600,3200] (by simp only [go_sem,jb,hF,hR,eU,jO]<;>trivial))
 ·have aA:¬(n:Int)<l.length:=by omega
  obtain rfl:n=l.length:=by omega
  rw [aOI];simp only [go_sem,aA];refine qm _ _ _ _ _ ?_;simp only [go_sem,jb]
