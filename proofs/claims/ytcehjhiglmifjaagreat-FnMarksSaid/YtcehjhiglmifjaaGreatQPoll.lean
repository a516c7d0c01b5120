/- Parts. -/
import Derived.Test.YtcehjhiglmifjaaGreatQSub
set_option linter.all false
set_option maxHeartbeats 16000000
set_option maxRecDepth 100000
namespace Go.Proofs.YtcehjhiglmifjaaGreat
open Go.RowKit Go.Sort
theorem jkc {h:Nat} (hh:h<4) (aNJ:Int):∃a b c:Nat,jjt h aNJ=[(a:Int),(b:Int),(c:Int)]/\a<4/\b<4/\c<4/\a≠h/\b≠h/\c≠h:=by
 have hb:brI (h:Int) 0 3=h:=by
  unfold brI;rw [if_neg (by omega),if_neg (by omega)]
 have hd:0<=(if aNJ<0 then 0 else aNJ):=by split<;>omega
 obtain ⟨v0,v1,v2⟩:=jwg h aNJ h _ hb rfl (by omega)
 have e:∀j:Nat,((h:Int)+(j:Int)).tmod 4=(((h+j)%4:Nat):Int):=λj=>by
  rw [aPT (by omega)];omega
 have e1:=e 1;have e2:=e 2;have e3:=e 3;simp only [Int.cast_ofNat_Int] at e1 e2 e3;rcases jCK hd with h3|h3|h3
 ·exact ⟨(h+1)%4,(h+2)%4,(h+3)%4,by rw [v0 h3,e1,e2,e3],by omega,by omega,by omega,by omega,by omega,by omega⟩
 ·exact ⟨(h+2)%4,(h+3)%4,(h+1)%4,by rw [v1 h3,e1,e2,e3],by omega,by omega,by omega,by omega,by omega,by omega⟩
 ·exact ⟨(h+3)%4,(h+1)%4,(h+2)%4,by rw [v2 h3,e1,e2,e3],by omega,by omega,by omega,by omega,by omega,by omega⟩
theorem jvw {y z:Yd} (h:z.aNE=y.aNE) (e:En):jU z e=jU y e:=by
 cases y;cases z;dsimp only at h;subst h;rfl
def pollV (z:Yd) (cJ v:Nat):Yd:=
 let s:=(za z v).aNC
 ⟨z.now,z.seq,(s.set v (ja8 ((s[v]?).getD []))).set cJ (qc ((s[cJ]?).getD []) (vu ((s[v]?).getD []))),z.aNE⟩
def pollF (cJ:Nat):List Int->Yd->Yd
 |[],z=>z
 |v::vs,z=>if ((z.aNC[cJ]?).getD []).length=0 then pollF cJ vs (pollV z cJ v.toNat) else z
structure PollI (y:Yd) (cJ:Nat) (z:Yd):Prop where
 four:z.aNC.length=4
 aNE:z.aNE=y.aNE
 now:z.now=y.now
 seq:z.seq=y.seq
 tot:jn z<=jn y
 frs:∀l,z.aNC[cJ]?=some l->∀e∈l,jU y e=true
theorem jtg {l:List En} {e x:En} (h:x∈jcW l e):x∈l\/x=e:=by
 rw [jcW,jna] at h;rcases aNT.1 h with h|h
 ·exact .inl (aQM h)
 ·rcases aOK.1 h with h|h
  ·exact .inr h
  ·exact .inl (aQT h)
theorem jnY:∀{b a:List En} {x:En},x∈b.foldl jcW a->x∈a\/x∈b
 |[],a,x,h=>.inl h
 |e::b,a,x,h=>by
  rcases jnY (b:=b) h with h|h
  ·rcases jtg h with h|h
   ·exact .inl h
   ·exact .inr (by simp [h])
  ·exact .inr (by simp [h])
theorem jvg {a b:List En} {x:En} (h:x∈qc a b):x∈a\/x∈b:=by
 unfold qc at h;split at h
 ·exact .inl h
 ·exact jnY h
theorem jgb {y:Yd} {k:Nat} {l l2:List En} (hl:y.aNC[k]?=some l):jn ⟨y.now,y.seq,y.aNC.set k l2,y.aNE⟩+l.length=jn y+l2.length:=by
 have h4:∀l:List En,vh l=l.length:=λ_=>rfl
 have h2:=qU (f:=vh) l2 hl;simp only [jn,jbp,aOE] at*;rw [h4,h4] at h2;omega
theorem PollI.start {y:Yd} (hP:YardOkP y) {h:Nat} (hh:h<4):PollI y h (za y h):=by
 obtain ⟨l,hl⟩:=ja (l:=y.aNC) (k:=h) (by have:=hP.four;omega)
 have hs:=jge hl;have ht:=jgb (l2:=l.filter (jU y)) hl;have hf:=aOT (jU y) l;rw [hs];refine ⟨by simp [hP.four],rfl,rfl,rfl,by omega,λl' oS e he=>?_⟩
 dsimp only at oS;rw [aNX (by have:=hP.four;omega)] at oS
 obtain rfl:=aOH oS;exact (aPM.1 he).2
theorem jkm {z:Yd} {h v:Nat} {l a:List En} (hv:z.aNC[v]?=some l) (hhm:z.aNC[h]?=some a) (aJ:v≠h):za z v=⟨z.now,z.seq,z.aNC.set v (l.filter (jU z)),z.aNE⟩/\pollV z h v=⟨z.now,z.seq,(z.aNC.set v (ja8 (l.filter (jU z)))).set h (qc a (vu (l.filter (jU z)))),z.aNE⟩:=by
 have hs:=jge hv;refine ⟨hs,?_⟩;have bQ:=(aNP.1 hv).1;have e1:(z.aNC.set v (l.filter (jU z)))[v]?=some (l.filter (jU z)):=aNX bQ;have e2:(z.aNC.set v (l.filter (jU z)))[h]?=some a:=by rw [aOX aJ];exact hhm
 simp only [pollV,hs,e1,e2,aNZ,aPE]
theorem PollI.step {y z:Yd} {h v:Nat} (hI:PollI y h z) (hv:v<4) (hh:h<4) (aJ:v≠h):PollI y h (pollV z h v):=by
 have h4:=hI.four;obtain ⟨l,hl⟩:=ja (l:=z.aNC) (k:=v) (by omega)
 obtain ⟨a,ha⟩:=ja (l:=z.aNC) (k:=h) (by omega)
 rw [(jkm hl ha aJ).2];have hf:=aOT (jU z) l;generalize hL:l.filter (jU z)=L at*;have ha2:(z.aNC.set v (ja8 L))[h]?=some a:=by rw [aOX aJ];exact ha
 have t1:=jgb (l2:=ja8 L) hl;have t2:=jgb (y:=⟨z.now,z.seq,z.aNC.set v (ja8 L),z.aNE⟩) (l2:=qc a (vu L)) ha2;have t3:=jvh a (vu L);have t4:(vu L).length+(ja8 L).length=L.length:=by rw [vu,ja8,<-aNR,aPF]
 have t5:=hI.tot;dsimp only at t1 t2;refine ⟨by simp [h4],hI.aNE,hI.now,hI.seq,by omega,λl' oS e he=>?_⟩
 dsimp only at oS;rw [aNX (by rw [aOE];omega)] at oS
 obtain rfl:=aOH oS;rcases jvg he with he|he
 ·exact hI.frs a ha e he
 ·have:=aQM he
  rw [<-hL] at this;rw [<-jvw hI.aNE];exact (aPM.1 this).2
noncomputable def pollZ (y:Yd) (h:Nat) (aNJ:Int):Yd:=pollF h (jjt h aNJ) (za y h)
noncomputable def jh4 (y:Yd) (h:Nat) (aNJ:Int):List En:=((pollZ y h aNJ).aNC[h]?).getD []
noncomputable def jbI (y:Yd) (aNG aNJ:Int):Int:=if ju y=false then 8 else if¬(0<=aNG/\aNG<=99) then 5 else if (jh4 y (aNG.tmod 4).toNat aNJ).length=0 then 9 else 0
noncomputable def jjB (z:Yd) (h:Nat) (e:En) (l:List En):Yd:=⟨z.now,z.seq,z.aNC.set h l,z.aNE.set (runAt z e.run).toNat (kG ((z.aNE[(runAt z e.run).toNat]?).getD default) e.aNH.toNat (((((z.aNE[(runAt z e.run).toNat]?).getD default).aNA)[e.aNH.toNat]?).getD default) z.now)⟩
noncomputable def jsj (z:Yd) (e:En):Int:=IntKind.i64.wrap (((((((z.aNE[(runAt z e.run).toNat]?).getD default).aNA)[e.aNH.toNat]?).getD default)).tri+1)
noncomputable def zp (y:Yd) (aNG aNJ:Int):Yd:=
 if ju y=false\/¬(0<=aNG/\aNG<=99) then y
 else match jh4 y (aNG.tmod 4).toNat aNJ with
  |[]=>pollZ y (aNG.tmod 4).toNat aNJ
  |e::l=>jjB (pollZ y (aNG.tmod 4).toNat aNJ) (aNG.tmod 4).toNat e l
noncomputable def jcX (y:Yd) (aNG aNJ:Int):List D:=
 if jbI y aNG aNJ≠0 then [iv (jbI y aNG aNJ),iv 0,iv 0,iv 0]
 else match jh4 y (aNG.tmod 4).toNat aNJ with
  |[]=>[iv 0,iv 0,iv 0,iv 0]
  |e::l=>[iv 0,iv e.run,iv e.aNH,iv (jsj (pollZ y (aNG.tmod 4).toNat aNJ) e)]
theorem jks {y:Yd} {e:En} (h:jU y e=true):∃(k t:Nat) (r:Rn) (x:Tk),runAt y e.run=k/\y.aNE[k]?=some r/\e.aNH=t/\r.aNA[t]?=some x/\x.aND=2:=by
 unfold jU at h;rcases vZ y e.run e.aNH with ⟨_,h2⟩|⟨k,r,h1,h2,⟨_,h3⟩|⟨j,x,hj,hx,h3⟩⟩
 ·rw [h2] at h;cases h
 ·rw [h3] at h;cases h
 ·rw [h3] at h
  exact ⟨k,j,r,x,h1,h2,hj,hx,by simpa using h⟩
section
variable {sh:List (List En)} {n:Nat} {l:List En}
theorem jar (h:n<sh.length):n+1<=(sh.flatMap λes=>[jg es]).length:=by have:=jaD h;rwa [aOG] at this
theorem jea (h:sh[n]?=some l):((sh.flatMap λes=>[jg es]).drop n).take 1=[jg l]:=by have:=jbo h;rwa [aOG] at this
end
def jcr:C:=iS [iA 3 (.box 27 4 (.t 0)),iA 6 wAM,iA 7 wAR] (.seq (iS [aT 18 4 3,iA 19 (iK 66 [18]),aU 20 19] (iD 20 (iS [aT 21 4 3,iA 22 (iK 67 [21]),iA 23 (wAV [(0,1,oI 8)]),wAA 6 22,wAB 7 23] .ret) .skip)) (.seq (iS [aM 24 1,iA 25 (.call 68 [.t 24,oI 0,oI 99]),aU 26 25] (iD 26 (iS [aT 27 4 3,iA 28 (iK 67 [27]),iA 29 (wAV [(0,1,oI 5)]),wAA 6 28,wAB 7 29] .ret) .skip)) (iS [aM 30 1,aQ 31 .rem 3 30 4,aM 8 31] (iS [aT 32 4 3,aM 33 8,iA 34 (iK 23 [32,33]),iA 9 wAM,wAA 9 34] (iS [aM 35 8,aM 36 2,iA 37 (iK 69 [35,36]),aM 10 37] (.seq (iS [aN 11 0] (.blk 0 (.loop (.seq (iS [aM 38 11,aM 39 10,aG 40 39,aP 41 .lss 3 38 40,aM 42 41,iB 43 42 true (iF 2 9),iB 44 42 true (iL 43),iB 45 42 true (iM 8),iB 46 42 true (iI 1 44 45),iB 47 42 true (iL 46),iB 48 42 true (iG 47),iB 49 42 true (iQ .eql 3 48 0),iA 50 (iY 42 (.t 49) (oF))] (iD 50 .skip (.exit 0))) (.seq (.blk 1 (.seq (.dreg (tA 0 53 (iT 4 9) (tA 1 54 (iM 10) (tA 2 55 (iM 11) (tA 3 56 (iI 1 54 55) (tA 4 57 (iL 56) (tC 58 (iK 23 [53,57]) [] (.alt (wAA 9 58) [] .done .stop) .stop))))))) (.seq (.dreg (tA 0 60 (iF 2 9) (tA 1 61 (iL 60) (tA 2 62 (iM 10) (tA 3 63 (iM 11) (tA 4 64 (iI 1 62 63) (tA 5 65 (iL 64) (tA 6 66 (iI 1 61 65) (tA 7 67 (iL 66) (tC 68 (iK 70 [67]) [] (tA 9 59 (iM 68) (tA 10 69 (iE 59 0) (tA 11 70 (iE 59 1) (tA 12 12 (iM 69) (tA 13 13 (iM 70) .done))))) .stop)))))))))) (.seq (.dreg (tA 0 71 (iF 2 9) (tA 1 72 (iL 71) (tA 2 73 (iM 10) (tA 3 74 (iM 11) (tA 4 75 (iI 1 73 74) (tA 5 76 (iL 75) (tA 6 77 (iM 13) (tA 7 78 (iI 1 72 76) (.alt (wAF 78 77) [] .done .stop)))))))))) (.dreg (tA 0 79 (iF 2 9) (tA 1 80 (iL 79) (tA 2 81 (iM 8) (tA 3 82 (iF 2 9) (tA 4 83 (iL 82) (tA 5 84 (iM 8) (tA 6 85 (iI 1 83 84) (tA 7 86 (iL 85) (tA 8 87 (iM 12) (tC 88 (iK 71 [86,87]) [2,1,0] (tA 10 89 (iI 1 80 81) (.alt (wAF 89 88) [] .done .stop)) .stop))))))))))))))) (.reg [aM 51 11,aQ 52 .add 3 51 1,aM 11 52])))))) (iS [aF 91 2 9,aL 92 91,aM 93 8,aI 94 1 92 93,aL 95 94,iA 96 (iK 72 [95]),aM 90 96,aE 97 90 0,aE 98 90 1,aE 99 90 2,iA 14 wAQ,wAB 14 97,aM 15 98,aM 16 99] (.seq (iS [aM 100 16,aU 101 100] (iD 101 (iS [aT 102 4 9,iA 103 (wAV [(0,1,oI 9)]),wAA 6 102,wAB 7 103] .ret) .skip)) (iS [aF 104 2 9,aL 105 104,aM 106 8,aM 107 15,aI 108 1 105 106,wAF 108 107] (iS [aT 109 4 9,aF 110 2 14,aL 111 110,iA 112 (iK 26 [109,111]),aM 17 112] (.seq (.dreg (tA 0 113 (iF 3 9) (tA 1 114 (iL 113) (tA 2 115 (iM 17) (tA 3 116 (iF 3 9) (tA 4 117 (iL 116) (tA 5 118 (iM 17) (tA 6 119 (iI 8 117 118) (tA 7 120 (iT 8 119) (tA 8 121 (iF 3 14) (tA 9 122 (iL 121) (tA 10 123 (iF 0 9) (tA 11 124 (iL 123) (tC 125 (iK 73 [120,122,124]) [2,1,0] (tA 13 126 (iI 8 114 115) (.alt (wAC 126 125) [] .done .stop)) .stop)))))))))))))) (.seq (.dreg (tA 0 127 (iT 4 9) (tA 1 128 (iF 2 14) (tA 2 129 (iL 128) (tA 3 130 (iF 3 14) (tA 4 131 (iL 130) (tA 5 132 (iF 3 9) (tA 6 133 (iL 132) (tA 7 134 (iM 17) (tA 8 135 (iI 8 133 134) (tA 9 136 (iF 7 135) (tA 10 137 (iL 136) (tA 11 138 (iF 3 14) (tA 12 139 (iL 138) (tA 13 140 (iI 4 137 139) (tA 14 141 (iF 2 140) (tA 15 142 (iL 141) (tA 16 143 (wAV [(1,1,.t 129),(2,1,.t 131),(3,1,.t 142)]) (.alt (wAA 6 127) [16,15,14,13,12,11,10,9,8,7,6,5,4,3,2,1] (.alt (wAB 7 143) [] .done .stop) .stop))))))))))))))))))) .ret))))))))))))
theorem jmq:fnC Tryz.prog Tryz.f15=some (jcr,[.cell 6 true 4,.cell 7 true 4],144):=by kernel_rfl
def jcs:C:=iS [iA 3 (.box 27 4 (.t 0)),iA 6 wAM,iA 7 wAR] (.seq (.blk 0 (iS [aT 20 4 3,iA 21 (iK 18 [20]),aU 22 21,aM 19 22] (iD 19 (iS [aT 23 4 3,iA 24 (iK 61 [23]),iA 25 (wAV [(0,1,oI 8)]),wAA 6 24,wAB 7 25] .ret) (iS [aM 27 1,iA 28 (.call 62 [.t 27,oI 0,oI 99]),aU 29 28,aM 26 29] (iD 26 (iS [aT 30 4 3,iA 31 (iK 61 [30]),iA 32 (wAV [(0,1,oI 5)]),wAA 6 31,wAB 7 32] .ret) .skip))))) (iS [aM 33 1,aQ 34 .rem 3 33 4,aM 8 34] (iS [aT 35 4 3,aM 36 8,iA 37 (iK 24 [35,36]),iA 9 wAM,wAA 9 37] (.seq (iS [aM 38 8,aM 39 2,iA 40 (iK 19 [38,39]),aG 41 40,aN 42 0] (.blk 1 (.loop (iS [aP 43 .lss 3 42 41] (.seq (iD 43 .skip (.exit 1)) (.seq (.blk 2 (iS [aI 44 1 40 42,aL 45 44,aM 11 45] (.seq (iS [aF 46 2 9,aL 47 46,aM 48 8,aI 49 1 47 48,aL 50 49,aG 51 50,aQ 52 .gtr 3 51 0] (iD 52 (.exit 1) .skip)) (iS [aT 53 4 9,aM 54 11,iA 55 (iK 24 [53,54]),wAA 9 55] (iS [aF 57 2 9,aL 58 57,aM 59 11,aI 60 1 58 59,aL 61 60,iA 62 (iK 63 [61]),aM 56 62,aE 63 56 0,aE 64 56 1,aM 12 63,aM 13 64] (.seq (.dreg (tA 0 65 (iF 2 9) (tA 1 66 (iL 65) (tA 2 67 (iM 8) (tA 3 68 (iF 2 9) (tA 4 69 (iL 68) (tA 5 70 (iM 8) (tA 6 71 (iI 1 69 70) (tA 7 72 (iL 71) (tA 8 73 (iM 12) (tC 74 (iK 64 [72,73]) [2,1,0] (tA 10 75 (iI 1 66 67) (.alt (wAF 75 74) [] .done .stop)) .stop))))))))))) (.reg [aF 76 2 9,aL 77 76,aM 78 11,aM 79 13,aI 80 1 77 78,wAF 80 79]))))))) (.reg [aQ 81 .add 3 42 1,aM 42 81]))))))) (iS [aF 83 2 9,aL 84 83,aM 85 8,aI 86 1 84 85,aL 87 86,iA 88 (iK 65 [87]),aM 82 88,aE 89 82 0,aE 90 82 1,aE 91 82 2,iA 14 wAQ,wAB 14 89,aM 15 90,aM 16 91] (.seq (iS [aM 92 16,aU 93 92] (iD 93 (iS [aT 94 4 9,iA 95 (wAV [(0,1,oI 9)]),wAA 6 94,wAB 7 95] .ret) .skip)) (iS [aF 96 2 9,aL 97 96,aM 98 8,aM 99 15,aI 100 1 97 98,wAF 100 99] (.seq (.dreg (tA 0 101 (iF 3 9) (tA 1 102 (iL 101) (tA 2 103 (iT 4 9) (tA 3 104 (iF 2 14) (tA 4 105 (iL 104) (tC 106 (iK 25 [103,105]) [1,0] (tA 6 107 (iI 8 102 106) (tA 7 17 (iM 107) .done)) .stop))))))) (.seq (.dreg (tA 0 108 (iM 17) (tA 1 109 (iF 0 108) (tA 2 110 (iF 7 109) (tA 3 111 (iL 110) (tA 4 112 (iF 3 14) (tA 5 113 (iL 112) (tA 6 114 (iI 4 111 113) (tA 7 18 (iM 114) .done))))))))) (iS [aM 115 18,aF 116 0 115,aF 117 0 116,iC (.st 1 [none] (.t 117) (oI 3))] (iS [aM 118 18,aF 119 0 118,aF 120 2 119,aL 121 120,aQ 122 .add 3 121 1,aF 123 0 118,aF 124 2 123,wAD 124 122] (.seq (.dreg (tA 0 125 (iM 18) (tA 1 126 (iF 0 9) (tA 2 127 (iL 126) (tA 3 128 (iM 17) (tA 4 129 (iF 0 128) (tA 5 130 (iF 1 129) (tA 6 131 (iF 2 130) (tA 7 132 (iL 131) (tA 8 133 (iP .add 3 127 132) (tA 9 134 (iF 0 125) (tA 10 135 (iF 3 134) (.alt (wAD 135 133) [] .done .stop))))))))))))) (.seq (.dreg (tA 0 136 (iT 4 9) (tA 1 137 (iF 2 14) (tA 2 138 (iL 137) (tA 3 139 (iF 3 14) (tA 4 140 (iL 139) (tA 5 141 (iM 18) (tA 6 142 (iF 0 141) (tA 7 143 (iF 2 142) (tA 8 144 (iL 143) (tA 9 145 (wAV [(1,1,.t 138),(2,1,.t 140),(3,1,.t 144)]) (.alt (wAA 6 136) [9,8,7,6,5,4,3,2,1] (.alt (wAB 7 145) [] .done .stop) .stop)))))))))))) .ret)))))))))))))
theorem jmw:fnC Tryz.prog Tryz.f14=some (jcs,[.cell 6 true 4,.cell 7 true 4],146):=by kernel_rfl
theorem jtk {y:Yd} {aNG aNJ:Int} {h:Nat} {Z:Yd} (hP:YardOkP y) (hw:0<=aNG/\aNG<=99) (g8:(aNG.tmod 4).toNat=h) (hZ:pollZ y h aNJ=Z) (ha:Z.aNC[h]?=some []):zp y aNG aNJ=Z/\jcX y aNG aNJ=[iv 9,iv 0,iv 0,iv 0]:=by
 have hE:jh4 y (aNG.tmod 4).toNat aNJ=[]:=by rw [g8,jh4,hZ,ha,aNZ]
 have aR:=zS hP;have hK:jbI y aNG aNJ=9:=by rw [jbI,if_neg (by rw [aR];decide),if_neg (by simpa using hw),hE];rfl
 refine ⟨?_,by rw [jcX,if_pos (by rw [hK];decide),hK]⟩
 rw [zp,if_neg (by rintro (h|h);(rw [aR] at h;cases h);exact h hw),hE]
 dsimp only;rw [g8,hZ]
theorem jpM {y:Yd} {aNG aNJ:Int} {h:Nat} {Z:Yd} {e:En} {l:List En} (hP:YardOkP y) (hw:0<=aNG/\aNG<=99) (g8:(aNG.tmod 4).toNat=h) (hZ:pollZ y h aNJ=Z) (ha:Z.aNC[h]?=some (e::l)):zp y aNG aNJ=jjB Z h e l/\jcX y aNG aNJ=[iv 0,iv e.run,iv e.aNH,iv (jsj Z e)]:=by
 have hE:jh4 y (aNG.tmod 4).toNat aNJ=e::l:=by rw [g8,jh4,hZ,ha,aNZ]
 have aR:=zS hP;have hK:jbI y aNG aNJ=0:=by rw [jbI,if_neg (by rw [aR];decide),if_neg (by simpa using hw),hE,if_neg (by simp)]
 refine ⟨?_,?_⟩
 ·rw [zp,if_neg (by rintro (h|h);(rw [aR] at h;cases h);exact h hw),hE]
  dsimp only;rw [g8,hZ]
 ·rw [jcX,if_neg (by rw [hK];decide),hE]
  dsimp only;rw [g8,hZ]
abbrev ZRp (b ty:Nat):Ob:=.box b ty [.a (.v (.int .i64 0)),.a (.v (.int .i64 0)),.a (.v (.int .i64 0)),.a (.v (.int .i64 0))]
theorem jGD {g sz n:Nat} {d:D} {η:jf} (hd:d.isSl=true) (hs:d.size=sz) (hn:d.len=n) (hp:0<sz):∀s:St,s.o g=.loose d η->∃dd,Is s (.hs g 0 [] (η []) sz 0 n) dd:=by
 intro s ho;subst hs hn;exact ⟨d.sub 0 (0+d.len),d,η,d,by rw [ho];rfl,rfl,joC d,hd,rfl,hp,by omega,rfl⟩
theorem jeN {y:Yd} {aNG aNJ:Int} {h:Nat} {Z:Yd} {a:List En} {b6 b7 b9 t7:Nat} {f2 f3:jf} (ht:jn y<=2000000) (hP:YardOkP y) (hw:0<=aNG/\aNG<=99) (g8:(aNG.tmod 4).toNat=h) (g9:h<4) (hZ:pollZ y h aNJ=Z) (hI:PollI y h Z) (ha:Z.aNC[h]?=some a) (nO:a.length<=2000000):
 wpC Tryz.prog 0 (C.sub [1,1,1,1,1,1,1] (C.ghs [[1,1,1,1,1,1,1,1,1,1,1,1,0],[1,1,1,1,1,1,1,1,1,1,1,1,1]] jcr)) (jAj [.cell 6 true 4,.cell 7 true 4] (.tup [(true,jc (zp y aNG aNJ)),(true,jcX y aNG aNJ)])) (St.of [(6,Bx 600 b6),(7,Bx 700 b7),(8,Ni h),(9,Bx 900 b9)] [(600,ZYd b6 tYd),(700,ZRp b7 t7),(900,kb b9 tYd Z.now Z.seq Z.aNC f2 Z.aNE f3)]):=by
 unfold jcr;simp only [C.ghs,C.ghAt,List.foldr,C.sub];have h4:=hI.four;have f4:=(aNP.1 ha).1;have pF:=qX h;simp only [go_sem,f4,pF,aOG,jea ha,jar f4];cases a with
 |nil=>
  obtain ⟨e1,e2⟩:=jtk hP hw g8 hZ ha;rw [e1,e2];refine jG (jcz [] (by simp)) (by simp only [go_sem,qy ha]) λwI=>?_
  simp only [go_sem,jk,jzz,jl5,List.headD_nil,List.isEmpty_nil,List.tail_nil];intro b14;simp only [qF]
  apply ji
  simp only [go_sem,jy,true_or]
  apply ji
  simp only [go_sem,jy,jJ,jz,true_or,jc]
 |cons e l=>
  obtain ⟨e1,e2⟩:=jpM hP hw g8 hZ ha;rw [e1,e2];refine jG (jcz (e::l) (by omega)) (by simp only [go_sem,qy ha]) λwI=>?_
  simp only [go_sem,jk,jzz,jl5,List.headD_cons,List.isEmpty_cons,List.tail_cons];intro b14;simp only [go_sem,f4,aOG,jar f4,jbs];refine λg1 rR=>?_
  obtain ⟨k,t,r,x,bZ,hr,lE,hx,m8⟩:=jks (hI.frs _ ha e (by simp))
  rw [<-hI.aNE] at hr
  have mP:runAt ⟨Z.now,Z.seq,Z.aNC.set h l,Z.aNE⟩ e.run=(k:Int):=by
   rw [<-bZ];unfold runAt;rw [hI.aNE]
  have iW:runAt Z e.run=(k:Int):=mP;have dG:=(aNP.1 hr).1;have dB:=(aNP.1 hx).1;have bJ:=qX k;have fF:=qX t;have fK:=jdh (y:=Z) (by have:=hI.tot;omega) (aNQ hr)
  have hH:jjB Z h e l=⟨Z.now,Z.seq,Z.aNC.set h l,Z.aNE.set k (kG r t x Z.now)⟩:=by
   simp only [jjB,iW,lE,aNW,hr,hx,aNZ]
  have hT:jsj Z e=IntKind.i64.wrap (x.tri+1):=by
   simp only [jsj,iW,lE,aNW,hr,hx,aNZ]
  rw [hH,hT,lE];refine jm (qs ⟨Z.now,Z.seq,Z.aNC.set h l,Z.aNE⟩ e.run) λη=>?_
  simp only [go_sem,jc];rw [mP];simp only [go_sem,dG,bJ,jmz hr,jih hr,je,jd];refine jG (jh9 r t x Z.now hx fK.1 fK.2) (by simp only [go_sem,je,jd,zw hr,zu hr]) λpJ=>?_
  simp only [go_sem,je,jd];simp only [go_sem,dG,jih hr,jrG (kG r t x Z.now) dG];refine λg3 hg3=>?_
  have cR:(Z.aNE.set k (kG r t x Z.now))[k]?=some (kG r t x Z.now):=aNX dG;have lS:k<(Z.aNE.set k (kG r t x Z.now)).length:=by rw [aOE];exact dG
  have cG:(kG r t x Z.now).aNA[t]?=some ⟨3,x.aNL,IntKind.i64.wrap (x.tri+1),IntKind.i64.wrap (Z.now+r.aNB.aNM)⟩:=aNX dB;have oB:t<(kG r t x Z.now).aNA.length:=(aNP.1 cG).1;have aIE:(kG r t x Z.now).aNA[t]?=some ⟨3,x.aNL,IntKind.i64.wrap (x.tri+1),IntKind.i64.wrap (Z.now+r.aNB.aNM)⟩:=cG;generalize kG r t x Z.now=r2 at*;refine kv ?_;refine WkK.wk (s':=St.of [(6,Bx 600 b6),(7,Bx 700 b7),(9,Bx 900 b9),(14,Bx 1400 b14),(17,Ni k)] [(600,ZYd b6 tYd),(700,ZRp b7 t7),(900,kb b9 tYd Z.now Z.seq (Z.aNC.set h l) g1 (Z.aNE.set k r2) g3),(1400,.box b14 tEn [.a (.v (.int .i64 e.aNI)),.a (.v (.int .i64 e.seq)),.a (.v (.int .i64 e.run)),.a (.v (.int .i64 e.aNH))])]) (jt [600,700,900,1400] (by simp only [go_sem,lE]<;>trivial)) ?_
  refine jfA 900 2 94 rfl rfl rfl (by decide) (Nat.zero_lt_succ 0) ?_
  refine jfA 900 3 95 rfl rfl rfl (by decide) (Nat.zero_lt_succ 7) ?_
  have uZ:=jGD (g:=95) (sz:=8) (d:=jE (Z.aNE.set k r2)) (η:=g3) rfl rfl (vA _) (by decide)
  refine WkK.wk (s':=St.of [(6,Bx 600 b6),(7,Bx 700 b7),(9,Bx 900 b9),(14,Bx 1400 b14),(17,Ni k)] [(600,ZYd b6 tYd),(700,ZRp b7 t7),(900,.box b9 tYd [.a (.v (.int .i64 Z.now)),.a (.v (.int .i64 Z.seq)),.a (.hs 94 0 [] (g1 []) 1 0 (Z.aNC.set h l).length),.a (.hs 95 0 [] (g3 []) 8 0 (Z.aNE.set k r2).length)]),(94,.loose (ki (Z.aNC.set h l)) g1),(95,.loose (jE (Z.aNE.set k r2)) g3),(1400,.box b14 tEn [.a (.v (.int .i64 e.aNI)),.a (.v (.int .i64 e.seq)),.a (.v (.int .i64 e.run)),.a (.v (.int .i64 e.aNH))])]) (jt [600,700,900,94,95,1400]) ?_;refine WkK.of ?_;simp only [go_sem,lS,bJ,uZ,jav cR,jaW cR,ko cR,oB,fF,jnr cG,jnb cG,lE];refine kv ?_;refine WkK.wk (s':=St.of [(6,Bx 600 b6),(7,Bx 700 b7)] [(600,.box b6 tYd [.a (.v (.int .i64 Z.now)),.a (.v (.int .i64 Z.seq)),.a (.hs 94 0 [] (g1 []) 1 0 (Z.aNC.set h l).length),.a (.hs 95 0 [] (g3 []) 8 0 (Z.aNE.set k r2).length)]),(700,.box b7 t7 [.a (.v (.int .i64 0)),.a (.v (.int .i64 e.run)),.a (.v (.int .i64 t)),.a (.v (.int .i64 (IntKind.i64.wrap (x.tri+1))))]),(94,.loose (ki (Z.aNC.set h l)) g1),(95,.loose (jE (Z.aNE.set k r2)) g3)]) (jt [600,700,94,95]) ?_
  refine jbx 600 2 94 (d:=ki (Z.aNC.set h l)) (η:=g1) rfl rfl rfl rfl (jaU _).symm rfl (Nat.zero_lt_succ 0) ?_;refine jbx 600 3 95 (d:=jE (Z.aNE.set k r2)) (η:=g3) rfl rfl rfl rfl (vA _).symm rfl (Nat.zero_lt_succ 7) ?_;refine WkK.of ?_;simp only [go_sem];simp only [qF]
  apply ji
  simp only [go_sem,jy,true_or]
  apply ji
  simp only [go_sem,jy,jJ,jz,true_or]
theorem jrD (y:Yd) (aNG aNJ:Int) (ht:jn y<=2000000):jW Tryz.prog 15 [.agg (jc y),.c (.val (.int .i64 aNG)),.c (.val (.int .i64 aNJ))] (.tup [(true,jc (zp y aNG aNJ)),(true,jcX y aNG aNJ)]):=by
 refine vr [[1,1,1,1,1,1,1],[1,1,1,1,1,1,1,1,1,1,1,1,0],[1,1,1,1,1,1,1,1,1,1,1,1,1]] Tryz.func15 jmq (by simp) ?_
 unfold jcr;simp only [C.ghs,C.ghAt,List.foldr];simp only [go_sem,jc];intro b3 b6 b7;refine jm (qr y ht) λη=>?_
 simp only [go_sem];cases aR:ju y
 ·have hy:zp y aNG aNJ=y:=by rw [zp,if_pos (.inl aR)]
  have hc:jbI y aNG aNJ=8:=by rw [jbI,if_pos aR]
  have hr:jcX y aNG aNJ=[iv 8,iv 0,iv 0,iv 0]:=by rw [jcX,if_pos (by rw [hc];decide),hc]
  rw [hy,hr];simp only [go_sem];refine jm (km y ht) λbD=>?_
  simp only [go_sem,jc];simp only [qF]
  apply ji
  simp only [go_sem,jy,true_or]
  apply ji
  simp only [go_sem,jy,jJ,jz,true_or]
 have hP:=yard_iff.1 aR;simp only [go_sem];refine jm (jI aNG 0 99) λη=>?_
 simp only [go_sem];cases hw:decide (0<=aNG/\aNG<=99)
 ·have hw':=of_decide_eq_false hw
  have hy:zp y aNG aNJ=y:=by rw [zp,if_pos (.inr hw')]
  have hc:jbI y aNG aNJ=5:=by rw [jbI,if_neg (by rw [aR];decide),if_pos hw']
  have hr:jcX y aNG aNJ=[iv 5,iv 0,iv 0,iv 0]:=by rw [jcX,if_pos (by rw [hc];decide),hc]
  rw [hy,hr];simp only [go_sem];refine jm (km y ht) λbD=>?_
  simp only [go_sem,jc];simp only [qF]
  apply ji
  simp only [go_sem,jy,true_or]
  apply ji
  simp only [go_sem,jy,jJ,jz,true_or]
 have hw':=aOY hw;obtain ⟨h,hh⟩:∃h:Nat,aNG.tmod 4=(h:Int):=⟨(aNG.tmod 4).toNat,by rw [aPT hw'.1];omega⟩
 have g9:h<4:=by rw [aPT hw'.1] at hh;omega
 have hwr:IntKind.i64.wrap (aNG.tmod 4)=(h:Int):=by rw [hh];exact kS (by omega) (by omega)
 have pF:=qX h;simp only [go_sem,hh];refine jm (ji5 y h ht) λpI=>?_
 simp only [go_sem,jc];intro b9;refine jm (jjw h aNJ) λu7=>?_
 simp only [go_sem];have hI0:=PollI.start hP g9;obtain ⟨v0,v1,v2,hv,w0,w1,w2,n0,n1,n2⟩:=jkc g9 aNJ;have hZ:pollZ y h aNJ=pollF h (jjt h aNJ) (za y h):=rfl;generalize fQ:za y h=z0 at*;generalize jjt h aNJ=V at*;have hVl:V.length=3:=by rw [hv];rfl
 have hVm:∀(i:Nat) (v:Int),V[i]?=some v->∃n:Nat,v=n/\n<4/\n≠h:=λi v hi=>by
  have:=aNQ hi;rw [hv] at this;simp at this;rcases this with rfl|rfl|rfl
  ·exact ⟨v0,rfl,w0,n0⟩
  ·exact ⟨v1,rfl,w1,n1⟩
  ·exact ⟨v2,rfl,w2,n2⟩
 obtain ⟨Z,yP⟩:∃Z,pollF h V z0=Z:=⟨_,rfl⟩;have uU:pollZ y h aNJ=Z:=by rw [hZ,yP]
 have g8:(aNG.tmod 4).toNat=h:=by rw [hh];omega
 have hpk:jbI y aNG aNJ=if ((Z.aNC[h]?).getD []).length=0 then 9 else 0:=by rw [jbI,if_neg (by rw [aR];decide),if_neg (by simpa using hw'),g8,jh4,uU]
 refine kg (λi:Nat×Yd×jf×jf=>St.of [(6,Bx 600 b6),(7,Bx 700 b7),(8,Ni h),(9,Bx 900 b9),(10,Hd 10 (u7 0)),(11,Ni i.1)] [(600,ZYd b6 _),(700,ZRp b7 _),(900,kb b9 _ i.2.1.now i.2.1.seq i.2.1.aNC i.2.2.1 i.2.1.aNE i.2.2.2),(10,.loose (jb V) (u7 0))]) (λi=>i.1<=V.length/\PollI y h i.2.1/\pollF h (V.drop i.1) i.2.1=Z) (λi=>V.length-i.1) (0,z0,pI 2,pI 3) (⟨aOL _,hI0,yP⟩) (jt [600,700,900,3700]) ?_
 rintro ⟨i,z,f2,f3⟩ ⟨hi,hI,hF⟩;dsimp only at hi hI hF;have h4:=hI.four;obtain ⟨a,ha⟩:=ja (l:=z.aNC) (k:=h) (by omega)
 have f4:=(aNP.1 ha).1;have nO:=zo (y:=z) (by have:=hI.tot;omega) (aNQ ha)
 have cK:(i=V.length\/a.length≠0)->z=Z:=λhc=>by
  rcases hc with hc|hc
  ·rw [<-hF,hc,List.drop_length];rfl
  ·rw [<-hF]
   cases hd:V.drop i with
   |nil=>rfl
   |cons v vs=>rw [pollF,ha,aNZ,if_neg hc]
 by_cases aB:i<V.length
 ·have aA:(i:Int)<V.length:=by omega
  have f6:=qX i;have gA:=kx i;cases he:((a.length:Nat):Int)==0
  ·obtain rfl:=cK (.inr (by intro h0;rw [h0] at he;cases he))
   simp only [go_sem,aA,f4,pF,aOG,jea ha,jar f4,qy ha,he];refine kv ?_;refine WkK.wk (s':=St.of [(6,Bx 600 b6),(7,Bx 700 b7),(8,Ni h),(9,Bx 900 b9)] [(600,ZYd b6 _),(700,ZRp b7 _),(900,kb b9 _ z.now z.seq z.aNC f2 z.aNE f3)]) (jt [600,700,900]) ?_;exact WkK.of (jeN ht hP hw' g8 g9 uU hI ha nO)
  ·have ha0:a.length=0:=by simp only [aPV] at he;omega
   obtain ⟨v,hv⟩:=ja aB;obtain ⟨n,rfl,hn4,pU⟩:=hVm i v hv;have lI:0<=(n:Int):=by omega
   have nU:((V.flatMap λn=>[iv n]).drop i).take 1=[iv (n:Int)]:=by have:=jq hv;rwa [aOG] at this
   have lB:i+1<=(V.flatMap λn=>[iv n]).length:=by have:=jp aB;rwa [aOG] at this
   obtain ⟨l,hl⟩:=ja (l:=z.aNC) (k:=n) (by omega)
   obtain ⟨e1,e2⟩:=jkm hl ha pU;have lJ:=hI.step hn4 g9 pU
   have yU:pollF h (V.drop (i+1)) (pollV z h n)=Z:=by
    rw [<-hF,aPG aB,pollF,ha,aNZ,if_pos ha0];have:V[i]=(n:Int):=by rw [aNS aB] at hv;exact aOH hv
    rw [this,aNW]
   have hlf:=aOT (jU z) l;have eQ:=zo (y:=z) (by have:=hI.tot;omega) (aNQ hl)
   rw [e2] at yU lJ;simp only [go_sem,aA,aB,f4,pF,f6,aOG,jea ha,jar f4,qy ha,he,nU,lB];refine jm (ji5 z n (by have:=hI.tot;omega)) ληw=>?_
   simp only [go_sem,jc];rw [e1];generalize l.filter (jU z)=L at*;have q1:(z.aNC.set n L)[n]?=some L:=aNX (by omega)
   have q2:n<(z.aNC.set n L).length:=by rw [aOE];omega
   have q0:(n:Int)>=0:=lI;simp only [go_sem,aB,aOG,nU,lB,jea q1,jar q2,q2,q0];refine jG (jn6 L (by omega)) (by simp only [go_sem,qy q1]) ληh=>?_
   simp only [go_sem];simp only [go_sem,aB,aOG,nU,lB,jar q2,jea q1,q2,q0,jbs,aPE];refine λg' cU=>?_
   have q3:(z.aNC.set n (ja8 L))[h]?=some a:=by rw [aOX pU];exact ha
   have q4:h<(z.aNC.set n (ja8 L)).length:=by rw [aOE];omega
   have q5:(vu L).length<=L.length:=by rw [vu,aNV];omega
   simp only [go_sem,jar q4,jea q3,q4];refine jG (jn4 a (vu L) (by omega)) (by simp only [go_sem,qy q3]) ληm=>?_
   simp only [go_sem];simp only [go_sem,aOG,jar q4,q4,jbs,gA];refine λg2' aDD=>?_
   exact ⟨(i+1,⟨z.now,z.seq,(z.aNC.set n (ja8 L)).set h (qc a (vu L)),z.aNE⟩,g2',ηw 3),⟨aB,lJ,yU⟩,(jt [600,700,900,10]),by (try dsimp only);omega⟩
 ·have aA:¬(i:Int)<V.length:=by omega
  obtain rfl:=cK (.inl (by omega))
  simp only [go_sem,aA];refine kv ?_;refine WkK.wk (s':=St.of [(6,Bx 600 b6),(7,Bx 700 b7),(8,Ni h),(9,Bx 900 b9)] [(600,ZYd b6 _),(700,ZRp b7 _),(900,kb b9 _ z.now z.seq z.aNC f2 z.aNE f3)]) (jt [600,700,900]) ?_;exact WkK.of (jeN ht hP hw' g8 g9 uU hI ha nO)
theorem jcA (l:List En) (hl:l.length<=4000000):jW Tryz.prog 65 [.c (jg l)] (.tup [(true,jk (jzz l)),(false,[jg l.tail]),(false,[.val (.bool (jl5 l))])]):=by
 refine pf_ jfZ ?_;unfold jcR;cases l with
 |nil=>
  simp only [go_sem,jk,jzz,jl5,List.headD_nil,List.isEmpty_nil,List.tail_nil];intro b2;simp only [qF]
  apply ji
  simp only [go_sem,jy,jbf,jbe,jJ,jz,true_or]
 |cons x l=>
  have cE:l.length<=4000000:=by rw [aOD] at hl;omega
  have h0:(x::l)[0]?=some x:=rfl;have h1:(((l.length+1:Nat):Int)==0)=false:=by simp only [beq_eq_false_iff_ne,ne_eq];omega
  have h2:1<=l.length+1:=by omega
  have h3:0<l.length+1:=by omega
  have hd:List.take l.length l=l:=aPP;simp only [go_sem,jk,jzz,jl5,List.headD_cons,List.isEmpty_cons,List.tail_cons,h1];intro b2;simp only [go_sem,h3,jZ h0,jk,hd,aOC,Nat.add_sub_cancel];refine jm (kh l cE) λbC=>?_
  simp only [go_sem];simp only [qF]
  apply ji
  simp only [go_sem,jy,jbf,jbe,jJ,jz,true_or]
section
variable {l:List Rn} {k:Nat} {r:Rn}
theorem jHc (h:l[k]?=some r):((l.flatMap je).drop (k*8+1+2)).take 1=[.val (.int .i64 r.aNB.aNM)]:=qH (enc:=je) (size:=8) (λ_=>rfl) h (j:=3) (n:=1) (by decide)
theorem jGy (h:l[k]?=some r):k*8+1+2+1<=(l.flatMap je).length:=qZ (enc:=je) (size:=8) (λ_=>rfl) h (j:=3) (n:=1) (by decide)
end
theorem jeO {y:Yd} {aNG aNJ:Int} {h:Nat} {Z:Yd} {a:List En} {b6 b7 b9 t7:Nat} {f2 f3:jf} (ht:jn y<=2000000) (hP:YardOkP y) (hw:0<=aNG/\aNG<=99) (g8:(aNG.tmod 4).toNat=h) (g9:h<4) (hZ:pollZ y h aNJ=Z) (hI:PollI y h Z) (ha:Z.aNC[h]?=some a) (nO:a.length<=2000000):
 wpC Tryz.prog 0 (C.sub [1,1,1,1,1] (C.ghs [[1,1,1,1,1,1,1,1,1,1,1,1,1,0],[1,1,1,1,1,1,1,1,1,1,1,1,1,1]] jcs)) (jAj [.cell 6 true 4,.cell 7 true 4] (.tup [(true,jc (zp y aNG aNJ)),(true,jcX y aNG aNJ)])) (St.of [(6,Bx 600 b6),(7,Bx 700 b7),(8,Ni h),(9,Bx 900 b9)] [(600,ZYd b6 tYd),(700,ZRp b7 t7),(900,kb b9 tYd Z.now Z.seq Z.aNC f2 Z.aNE f3)]):=by
 unfold jcs;simp only [C.ghs,C.ghAt,List.foldr,C.sub];have h4:=hI.four;have f4:=(aNP.1 ha).1;have pF:=qX h;simp only [go_sem,f4,pF,aOG,jea ha,jar f4];cases a with
 |nil=>
  obtain ⟨e1,e2⟩:=jtk hP hw g8 hZ ha;rw [e1,e2];refine jG (jcA [] (by simp)) (by simp only [go_sem,qy ha]) λwI=>?_
  simp only [go_sem,jk,jzz,jl5,List.headD_nil,List.isEmpty_nil,List.tail_nil];intro b14;simp only [qF]
  apply ji
  simp only [go_sem,jy,true_or]
  apply ji
  simp only [go_sem,jy,jJ,jz,true_or,jc]
 |cons e l=>
  obtain ⟨e1,e2⟩:=jpM hP hw g8 hZ ha;rw [e1,e2];refine jG (jcA (e::l) (by omega)) (by simp only [go_sem,qy ha]) λwI=>?_
  simp only [go_sem,jk,jzz,jl5,List.headD_cons,List.isEmpty_cons,List.tail_cons];intro b14;simp only [go_sem,f4,aOG,jar f4,jbs];refine λg1 rR=>?_
  obtain ⟨k,t,r,x,bZ,hr,lE,hx,m8⟩:=jks (hI.frs _ ha e (by simp))
  rw [<-hI.aNE] at hr
  have mP:runAt ⟨Z.now,Z.seq,Z.aNC.set h l,Z.aNE⟩ e.run=(k:Int):=by
   rw [<-bZ];unfold runAt;rw [hI.aNE]
  have iW:runAt Z e.run=(k:Int):=mP;have dG:=(aNP.1 hr).1;have dB:=(aNP.1 hx).1;have bJ:=qX k;have fF:=qX t;have fK:=jdh (y:=Z) (by have:=hI.tot;omega) (aNQ hr)
  have hH:jjB Z h e l=⟨Z.now,Z.seq,Z.aNC.set h l,Z.aNE.set k (kG r t x Z.now)⟩:=by
   simp only [jjB,iW,lE,aNW,hr,hx,aNZ]
  have hT:jsj Z e=IntKind.i64.wrap (x.tri+1):=by
   simp only [jsj,iW,lE,aNW,hr,hx,aNZ]
  rw [hH,hT,lE];refine jm (qv ⟨Z.now,Z.seq,Z.aNC.set h l,Z.aNE⟩ e.run) λη=>?_
  simp only [go_sem,jc];rw [mP];have hS:∀r':Rn,(Z.aNE.set k r')[k]?=some r':=λr'=>aNX dG
  have lX:∀r':Rn,k<(Z.aNE.set k r').length:=λr'=>by rw [aOE];exact dG
  have x1:(r.aNA.set t ⟨3,x.aNL,x.tri,x.til⟩)[t]?=some ⟨3,x.aNL,x.tri,x.til⟩:=aNX dB;have x2:(r.aNA.set t ⟨3,x.aNL,IntKind.i64.wrap (x.tri+1),x.til⟩)[t]?=some ⟨3,x.aNL,IntKind.i64.wrap (x.tri+1),x.til⟩:=aNX dB;have x3:(r.aNA.set t ⟨3,x.aNL,IntKind.i64.wrap (x.tri+1),IntKind.i64.wrap (Z.now+r.aNB.aNM)⟩)[t]?=some ⟨3,x.aNL,IntKind.i64.wrap (x.tri+1),IntKind.i64.wrap (Z.now+r.aNB.aNM)⟩:=aNX dB;have r1:=hS ⟨r.id,r.aNB,r.aND,r.aNA.set t ⟨3,x.aNL,x.tri,x.til⟩⟩;have r2:=hS ⟨r.id,r.aNB,r.aND,r.aNA.set t ⟨3,x.aNL,IntKind.i64.wrap (x.tri+1),x.til⟩⟩;have r3:=hS ⟨r.id,r.aNB,r.aND,r.aNA.set t ⟨3,x.aNL,IntKind.i64.wrap (x.tri+1),IntKind.i64.wrap (Z.now+r.aNB.aNM)⟩⟩;have aH:kG r t x Z.now=⟨r.id,r.aNB,r.aND,r.aNA.set t ⟨3,x.aNL,IntKind.i64.wrap (x.tri+1),IntKind.i64.wrap (Z.now+r.aNB.aNM)⟩⟩:=rfl;rw [aH]
  generalize aBR:IntKind.i64.wrap (x.tri+1)=tri at*;generalize nA:IntKind.i64.wrap (Z.now+r.aNB.aNM)=til at*;simp only [go_sem,dG,bJ,aOO,jav hr,jaW hr,ko hr,dB,fF,vL hx,zK hr (jcd hx 3),ko r1,jnr x1,jnb x1,aBR,zK r1 (jDu x1 tri),aPE,jHc r2,jGy r2,nA,ko r2,jlg x2,zK r2 (jfG x2 til)];refine kv ?_;generalize hL:Z.aNE.set k ⟨r.id,r.aNB,r.aND,r.aNA.set t ⟨3,x.aNL,tri,til⟩⟩=L at*;refine WkK.wk (s':=St.of [(6,Bx 600 b6),(7,Bx 700 b7),(9,Bx 900 b9),(14,Bx 1400 b14),(18,.c (.ep 900 3 [k*8+7] (t*4) (f3 [k*8+7])))] [(600,ZYd b6 tYd),(700,ZRp b7 t7),(900,kb b9 tYd Z.now Z.seq (Z.aNC.set h l) g1 L f3),(1400,.box b14 tEn [.a (.v (.int .i64 e.aNI)),.a (.v (.int .i64 e.seq)),.a (.v (.int .i64 e.run)),.a (.v (.int .i64 e.aNH))])]) (jt [600,700,900,1400] (by simp only [go_sem,lE]<;>trivial)) ?_
  refine jfA 900 2 94 rfl rfl rfl (by decide) (Nat.zero_lt_succ 0) ?_
  refine jfA 900 3 95 rfl rfl rfl (by decide) (Nat.zero_lt_succ 7) ?_
  refine WkK.wk (s':=St.of [(6,Bx 600 b6),(7,Bx 700 b7),(9,Bx 900 b9),(14,Bx 1400 b14),(18,.c (.ep 95 0 [k*8+7] (t*4) (f3 [k*8+7])))] [(600,ZYd b6 tYd),(700,ZRp b7 t7),(900,.box b9 tYd [.a (.v (.int .i64 Z.now)),.a (.v (.int .i64 Z.seq)),.a (.hs 94 0 [] (g1 []) 1 0 (Z.aNC.set h l).length),.a (.hs 95 0 [] (f3 []) 8 0 L.length)]),(94,.loose (ki (Z.aNC.set h l)) g1),(95,.loose (jE L) f3),(1400,.box b14 tEn [.a (.v (.int .i64 e.aNI)),.a (.v (.int .i64 e.seq)),.a (.v (.int .i64 e.run)),.a (.v (.int .i64 e.aNH))])]) (jt [600,700,900,94,95,1400]) ?_;refine WkK.of ?_;simp only [go_sem,aOO,lE,ko r3,jnr x3,jnb x3];refine kv ?_;refine WkK.wk (s':=St.of [(6,Bx 600 b6),(7,Bx 700 b7)] [(600,.box b6 tYd [.a (.v (.int .i64 Z.now)),.a (.v (.int .i64 Z.seq)),.a (.hs 94 0 [] (g1 []) 1 0 (Z.aNC.set h l).length),.a (.hs 95 0 [] (f3 []) 8 0 L.length)]),(700,.box b7 t7 [.a (.v (.int .i64 0)),.a (.v (.int .i64 e.run)),.a (.v (.int .i64 t)),.a (.v (.int .i64 tri))]),(94,.loose (ki (Z.aNC.set h l)) g1),(95,.loose (jE L) f3)]) (jt [600,700,94,95]) ?_
  refine jbx 600 2 94 (d:=ki (Z.aNC.set h l)) (η:=g1) rfl rfl rfl rfl (jaU _).symm rfl (Nat.zero_lt_succ 0) ?_;refine jbx 600 3 95 (d:=jE L) (η:=f3) rfl rfl rfl rfl (vA _).symm rfl (Nat.zero_lt_succ 7) ?_;refine WkK.of ?_;simp only [go_sem];simp only [qF]
  apply ji
  simp only [go_sem,jy,true_or]
  apply ji
  simp only [go_sem,jy,jJ,jz,true_or]
theorem jrE (y:Yd) (aNG aNJ:Int) (ht:jn y<=2000000):jW Tryz.prog 14 [.agg (jc y),.c (.val (.int .i64 aNG)),.c (.val (.int .i64 aNJ))] (.tup [(true,jc (zp y aNG aNJ)),(true,jcX y aNG aNJ)]):=by
 refine vr [[1,1,1,1,1],[1,1,1,1,1,1,1,1,1,1,1,1,1,0],[1,1,1,1,1,1,1,1,1,1,1,1,1,1]] Tryz.func14 jmw (by simp) ?_
 unfold jcs;simp only [C.ghs,C.ghAt,List.foldr];simp only [go_sem,jc];intro b3 b6 b7;refine jm (kK y ht) λη=>?_
 simp only [go_sem];cases aR:ju y
 ·have hy:zp y aNG aNJ=y:=by rw [zp,if_pos (.inl aR)]
  have hc:jbI y aNG aNJ=8:=by rw [jbI,if_pos aR]
  have hr:jcX y aNG aNJ=[iv 8,iv 0,iv 0,iv 0]:=by rw [jcX,if_pos (by rw [hc];decide),hc]
  rw [hy,hr];simp only [go_sem];refine jm (jY y ht) λbD=>?_
  simp only [go_sem,jc];simp only [qF]
  apply ji
  simp only [go_sem,jy,true_or]
  apply ji
  simp only [go_sem,jy,jJ,jz,true_or]
 have hP:=yard_iff.1 aR;simp only [go_sem];refine jm (jw aNG 0 99) λη=>?_
 simp only [go_sem];cases hw:decide (0<=aNG/\aNG<=99)
 ·have hw':=of_decide_eq_false hw
  have hy:zp y aNG aNJ=y:=by rw [zp,if_pos (.inr hw')]
  have hc:jbI y aNG aNJ=5:=by rw [jbI,if_neg (by rw [aR];decide),if_pos hw']
  have hr:jcX y aNG aNJ=[iv 5,iv 0,iv 0,iv 0]:=by rw [jcX,if_pos (by rw [hc];decide),hc]
  rw [hy,hr];simp only [go_sem];refine jm (jY y ht) λbD=>?_
  simp only [go_sem,jc];simp only [qF]
  apply ji
  simp only [go_sem,jy,true_or]
  apply ji
  simp only [go_sem,jy,jJ,jz,true_or]
 have hw':=aOY hw;obtain ⟨h,hh⟩:∃h:Nat,aNG.tmod 4=(h:Int):=⟨(aNG.tmod 4).toNat,by rw [aPT hw'.1];omega⟩
 have g9:h<4:=by rw [aPT hw'.1] at hh;omega
 have hwr:IntKind.i64.wrap (aNG.tmod 4)=(h:Int):=by rw [hh];exact kS (by omega) (by omega)
 have pF:=qX h;simp only [go_sem,hh];refine jm (ji7 y h ht) λpI=>?_
 simp only [go_sem,jc];intro b9;refine jm (jjy h aNJ) λu7=>?_
 simp only [go_sem];have hI0:=PollI.start hP g9;obtain ⟨v0,v1,v2,hv,w0,w1,w2,n0,n1,n2⟩:=jkc g9 aNJ;have hZ:pollZ y h aNJ=pollF h (jjt h aNJ) (za y h):=rfl;generalize fQ:za y h=z0 at*;generalize jjt h aNJ=V at*;have hVl:V.length=3:=by rw [hv];rfl
 have hVm:∀(i:Nat) (v:Int),V[i]?=some v->∃n:Nat,v=n/\n<4/\n≠h:=λi v hi=>by
  have:=aNQ hi;rw [hv] at this;simp at this;rcases this with rfl|rfl|rfl
  ·exact ⟨v0,rfl,w0,n0⟩
  ·exact ⟨v1,rfl,w1,n1⟩
  ·exact ⟨v2,rfl,w2,n2⟩
 obtain ⟨Z,yP⟩:∃Z,pollF h V z0=Z:=⟨_,rfl⟩;have uU:pollZ y h aNJ=Z:=by rw [hZ,yP]
 have g8:(aNG.tmod 4).toNat=h:=by rw [hh];omega
 have hpk:jbI y aNG aNJ=if ((Z.aNC[h]?).getD []).length=0 then 9 else 0:=by rw [jbI,if_neg (by rw [aR];decide),if_neg (by simpa using hw'),g8,jh4,uU]
 refine kg (λi:Nat×Yd×jf×jf=>St.of [(6,Bx 600 b6),(7,Bx 700 b7),(8,Ni h),(9,Bx 900 b9),(40,Hd 10 (u7 0)),(41,Ni V.length),(42,Ni i.1)] [(600,ZYd b6 _),(700,ZRp b7 _),(900,kb b9 _ i.2.1.now i.2.1.seq i.2.1.aNC i.2.2.1 i.2.1.aNE i.2.2.2),(10,.loose (jb V) (u7 0))]) (λi=>i.1<=V.length/\PollI y h i.2.1/\pollF h (V.drop i.1) i.2.1=Z) (λi=>V.length-i.1) (0,z0,pI 2,pI 3) (⟨aOL _,hI0,yP⟩) (jt [600,700,900,4000]) ?_
 rintro ⟨i,z,f2,f3⟩ ⟨hi,hI,hF⟩;dsimp only at hi hI hF;have h4:=hI.four;obtain ⟨a,ha⟩:=ja (l:=z.aNC) (k:=h) (by omega)
 have f4:=(aNP.1 ha).1;have nO:=zo (y:=z) (by have:=hI.tot;omega) (aNQ ha)
 have cK:(i=V.length\/a.length≠0)->z=Z:=λhc=>by
  rcases hc with hc|hc
  ·rw [<-hF,hc,List.drop_length];rfl
  ·rw [<-hF]
   cases hd:V.drop i with
   |nil=>rfl
   |cons v vs=>rw [pollF,ha,aNZ,if_neg hc]
 by_cases aB:i<V.length
 ·have aA:(i:Int)<V.length:=by omega
  have f6:=qX i;have gA:=kx i;obtain ⟨v,hv⟩:=ja aB;obtain ⟨n,rfl,hn4,pU⟩:=hVm i v hv;have lI:0<=(n:Int):=by omega
  have nU:((V.flatMap λn=>[iv n]).drop i).take 1=[iv (n:Int)]:=by have:=jq hv;rwa [aOG] at this
  have lB:i+1<=(V.flatMap λn=>[iv n]).length:=by have:=jp aB;rwa [aOG] at this
  by_cases ha0:a.length=0
  ·have he:¬((a.length:Nat):Int)>0:=by omega
   obtain ⟨l,hl⟩:=ja (l:=z.aNC) (k:=n) (by omega)
   obtain ⟨e1,e2⟩:=jkm hl ha pU;have lJ:=hI.step hn4 g9 pU
   have yU:pollF h (V.drop (i+1)) (pollV z h n)=Z:=by
    rw [<-hF,aPG aB,pollF,ha,aNZ,if_pos ha0];have:V[i]=(n:Int):=by rw [aNS aB] at hv;exact aOH hv
    rw [this,aNW]
   have hlf:=aOT (jU z) l;have eQ:=zo (y:=z) (by have:=hI.tot;omega) (aNQ hl)
   rw [e2,List.set_comm _ _ pU] at yU lJ;simp only [go_sem,aA,aB,f4,pF,f6,aOG,jea ha,jar f4,qy ha,he,nU,lB];refine jm (ji7 z n (by have:=hI.tot;omega)) ληw=>?_
   simp only [go_sem,jc];rw [e1];generalize l.filter (jU z)=L at*;have q1:(z.aNC.set n L)[n]?=some L:=aNX (by omega)
   have q2:n<(z.aNC.set n L).length:=by rw [aOE];omega
   have q0:(n:Int)>=0:=lI;have q3:(z.aNC.set n L)[h]?=some a:=by rw [aOX pU];exact ha
   have q4:h<(z.aNC.set n L).length:=by rw [aOE];omega
   have q5:(vu L).length<=L.length:=by rw [vu,aNV];omega
   simp only [go_sem,aOG,jea q1,jar q2,q2];refine jG (joh L (by omega)) (by simp only [go_sem,qy q1]) ληh=>?_
   simp only [go_sem];simp only [go_sem,aOG,jar q4,jea q3,q4];refine jG (jof a (vu L) (by omega)) (by simp only [go_sem,qy q3]) ληm=>?_
   simp only [go_sem];simp only [go_sem,aOG,jar q4,q4,jbs];refine λg' cU=>?_
   have q6:n<((z.aNC.set n L).set h (qc a (vu L))).length:=by rw [aOE];exact q2
   have q7:((z.aNC.set n L).set h (qc a (vu L)))[n]?=some L:=by rw [aOX (Ne.symm pU)];exact q1
   have q8:((z.aNC.set n L).set h (qc a (vu L))).set n (ja8 L)=(z.aNC.set h (qc a (vu L))).set n (ja8 L):=by
    rw [List.set_comm _ _ pU,aPE]
   simp only [go_sem,q6,jar q6,q8,gA];refine λg2' aDD=>?_
   exact ⟨(i+1,⟨z.now,z.seq,(z.aNC.set h (qc a (vu L))).set n (ja8 L),z.aNE⟩,g2',ηw 3),⟨aB,lJ,yU⟩,(jt [600,700,900,10]),by (try dsimp only);omega⟩
  ·have he:((a.length:Nat):Int)>0:=by omega
   obtain rfl:=cK (.inr ha0);simp only [go_sem,aA,aB,f4,pF,f6,aOG,jea ha,jar f4,qy ha,he,nU,lB];refine kv ?_;refine WkK.wk (s':=St.of [(6,Bx 600 b6),(7,Bx 700 b7),(8,Ni h),(9,Bx 900 b9)] [(600,ZYd b6 _),(700,ZRp b7 _),(900,kb b9 _ z.now z.seq z.aNC f2 z.aNE f3)]) (jt [600,700,900]) ?_;exact WkK.of (jeO ht hP hw' g8 g9 uU hI ha nO)
 ·have aA:¬(i:Int)<V.length:=by omega
  obtain rfl:=cK (.inl (by omega))
  simp only [go_sem,aA];refine kv ?_;refine WkK.wk (s':=St.of [(6,Bx 600 b6),(7,Bx 700 b7),(8,Ni h),(9,Bx 900 b9)] [(600,ZYd b6 _),(700,ZRp b7 _),(900,kb b9 _ z.now z.seq z.aNC f2 z.aNE f3)]) (jt [600,700,900]) ?_;exact WkK.of (jeO ht hP hw' g8 g9 uU hI ha nO)
structure Rp where
 code:Int
 run:Int
 aNH:Int
 tri:Int
 deriving DecidableEq,Inhabited
abbrev jcY (r:Rp):List D:=[iv r.code,iv r.run,iv r.aNH,iv r.tri]
noncomputable def jrK (y:Yd) (aNG aNJ:Int):Rp:=
 if jbI y aNG aNJ≠0 then ⟨jbI y aNG aNJ,0,0,0⟩
 else match jh4 y (aNG.tmod 4).toNat aNJ with
  |[]=>⟨0,0,0,0⟩
  |e::l=>⟨0,e.run,e.aNH,jsj (pollZ y (aNG.tmod 4).toNat aNJ) e⟩
theorem jB0 (y:Yd) (aNG aNJ:Int):jcX y aNG aNJ=jcY (jrK y aNG aNJ):=by
 unfold jcX jrK;split
 ·rfl
 ·split<;>rfl
theorem jrO (y:Yd) (aNG aNJ:Int) (ht:jn y<=2000000):jW Tryz.prog 15 [.agg (jc y),.c (.val (.int .i64 aNG)),.c (.val (.int .i64 aNJ))] (.tup [(true,jc (zp y aNG aNJ)),(true,jcY (jrK y aNG aNJ))]):=by
 rw [<-jB0];exact jrD y aNG aNJ ht
theorem jrU (y:Yd) (aNG aNJ:Int) (ht:jn y<=2000000):jW Tryz.prog 14 [.agg (jc y),.c (.val (.int .i64 aNG)),.c (.val (.int .i64 aNJ))] (.tup [(true,jc (zp y aNG aNJ)),(true,jcY (jrK y aNG aNJ))]):=by
 rw [<-jB0];exact jrE y aNG aNJ ht
theorem jxt {y:Yd} {h:Nat} (hh:h<4):∀(vs:List Int) (z:Yd),(∀v∈vs,∃n:Nat,v=n/\n<4/\n≠h)->PollI y h z->PollI y h (pollF h vs z)
 |[],_,_,hI=>hI
 |v::vs,z,hv,hI=>by
  rw [pollF];split
  ·obtain ⟨n,rfl,h1,h2⟩:=hv v (by simp)
   exact jxt hh vs _ (λv sL=>hv v (by simp [sL])) (by rw [aNW];exact hI.step h1 hh h2)
  ·exact hI
theorem jrJ {y:Yd} (hP:YardOkP y) {h:Nat} (hh:h<4) (aNJ:Int):PollI y h (pollZ y h aNJ):=by
 obtain ⟨v0,v1,v2,hv,w0,w1,w2,n0,n1,n2⟩:=jkc hh aNJ;refine jxt hh _ _ (λv hm=>?_) (PollI.start hP hh)
 rw [hv] at hm;simp at hm;rcases hm with rfl|rfl|rfl
 ·exact ⟨v0,rfl,w0,n0⟩
 ·exact ⟨v1,rfl,w1,n1⟩
 ·exact ⟨v2,rfl,w2,n2⟩
