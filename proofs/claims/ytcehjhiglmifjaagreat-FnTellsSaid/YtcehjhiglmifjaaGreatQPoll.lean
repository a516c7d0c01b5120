/- Parts. -/
import Derived.Test.YtcehjhiglmifjaaGreatQDeedB
set_option linter.all false
set_option maxHeartbeats 16000000
set_option maxRecDepth 100000
namespace Go.Proofs.YtcehjhiglmifjaaGreat
open Go.RowKit Go.Sort
theorem jfw {h:Nat} (hh:h<4) (aMB:Int):∃a b c:Nat,jeX h aMB=[(a:Int),(b:Int),(c:Int)]/\a<4/\b<4/\c<4/\a≠h/\b≠h/\c≠h:=by
 have hb:brI (h:Int) 0 3=h:=by
  unfold brI;rw [if_neg (by omega),if_neg (by omega)]
 have hd:0<=(if aMB<0 then 0 else aMB):=by split<;>omega
 obtain ⟨v0,v1,v2⟩:=jqN h aMB h _ hb rfl (by omega)
 have e:∀j:Nat,((h:Int)+(j:Int)).tmod 4=(((h+j)%4:Nat):Int):=λj=>by
  rw [aNU (by omega)];omega
 have e1:=e 1;have e2:=e 2;have e3:=e 3;simp only [Int.natCast_one,Int.cast_ofNat_Int] at e1 e2 e3;rcases jwS hd with h3|h3|h3
 ·exact ⟨(h+1)%4,(h+2)%4,(h+3)%4,by rw [v0 h3,e1,e2,e3],by omega,by omega,by omega,by omega,by omega,by omega⟩
 ·exact ⟨(h+2)%4,(h+3)%4,(h+1)%4,by rw [v1 h3,e1,e2,e3],by omega,by omega,by omega,by omega,by omega,by omega⟩
 ·exact ⟨(h+3)%4,(h+1)%4,(h+2)%4,by rw [v2 h3,e1,e2,e3],by omega,by omega,by omega,by omega,by omega,by omega⟩
theorem jtn {y z:Yd} (h:z.aLX=y.aLX) (e:En):jP z e=jP y e:=by
 cases y;cases z;dsimp only at h;subst h;rfl
def pollV (z:Yd) (cE v:Nat):Yd:=
 let s:=(vE z v).aLU
 ⟨z.now,z.seq,(s.set v (jaS ((s[v]?).getD []))).set cE (qb ((s[cE]?).getD []) (vf ((s[v]?).getD []))),z.aLX⟩
def pollF (cE:Nat):List Int->Yd->Yd
 |[],z=>z
 |v::vs,z=>if ((z.aLU[cE]?).getD []).length=0 then pollF cE vs (pollV z cE v.toNat) else z
structure PollI (y:Yd) (cE:Nat) (z:Yd):Prop where
 four:z.aLU.length=4
 aLX:z.aLX=y.aLX
 now:z.now=y.now
 seq:z.seq=y.seq
 tot:jt z<=jt y
 frs:∀l,z.aLU[cE]?=some l->∀e∈l,jP y e=true
theorem jre {l:List En} {e x:En} (h:x∈jch l e):x∈l\/x=e:=by
 rw [jch,jlY] at h;rcases aMN.1 h with h|h
 ·exact .inl (aPQ h)
 ·rcases aNB.1 h with h|h
  ·exact .inr h
  ·exact .inl (aPK h)
theorem jri:∀{b a:List En} {x:En},x∈b.foldl jch a->x∈a\/x∈b
 |[],a,x,h=>.inl h
 |e::b,a,x,h=>by
  rcases jri (b:=b) h with h|h
  ·rcases jre h with h|h
   ·exact .inl h
   ·exact .inr (by simp [h])
  ·exact .inr (by simp [h])
theorem js7 {a b:List En} {x:En} (h:x∈qb a b):x∈a\/x∈b:=by
 unfold qb at h;split at h
 ·exact .inl h
 ·exact jri h
theorem jfy {y:Yd} {k:Nat} {l l2:List En} (hl:y.aLU[k]?=some l):jt ⟨y.now,y.seq,y.aLU.set k l2,y.aLX⟩+l.length=jt y+l2.length:=by
 have h4:∀l:List En,zc l=l.length:=λ_=>rfl
 have h2:=qB (f:=zc) l2 hl;simp only [jt,jby,aMU] at*;rw [h4,h4] at h2;omega
theorem PollI.start {y:Yd} (hP:YardOkP y) {h:Nat} (hh:h<4):PollI y h (vE y h):=by
 obtain ⟨l,hl⟩:=jd (l:=y.aLU) (k:=h) (by have:=hP.four;omega)
 have hs:=jfC hl;have ht:=jfy (l2:=l.filter (jP y)) hl;have hf:=aNH (jP y) l;rw [hs];refine ⟨by simp [hP.four],rfl,rfl,rfl,by omega,λl' oS e he=>?_⟩
 dsimp only at oS;rw [aML (by have:=hP.four;omega)] at oS
 obtain rfl:=aMW oS;exact (aOD.1 he).2
theorem jfL {z:Yd} {h v:Nat} {l a:List En} (hv:z.aLU[v]?=some l) (hhm:z.aLU[h]?=some a) (aR:v≠h):vE z v=⟨z.now,z.seq,z.aLU.set v (l.filter (jP z)),z.aLX⟩/\pollV z h v=⟨z.now,z.seq,(z.aLU.set v (jaS (l.filter (jP z)))).set h (qb a (vf (l.filter (jP z)))),z.aLX⟩:=by
 have hs:=jfC hv;refine ⟨hs,?_⟩;have bN:=(aMI.1 hv).1;have e1:(z.aLU.set v (l.filter (jP z)))[v]?=some (l.filter (jP z)):=aML bN;have e2:(z.aLU.set v (l.filter (jP z)))[h]?=some a:=by rw [aNJ aR];exact hhm
 simp only [pollV,hs,e1,e2,aMM,aNP]
theorem PollI.step {y z:Yd} {h v:Nat} (hI:PollI y h z) (hv:v<4) (hh:h<4) (aR:v≠h):PollI y h (pollV z h v):=by
 have h4:=hI.four;obtain ⟨l,hl⟩:=jd (l:=z.aLU) (k:=v) (by omega)
 obtain ⟨a,ha⟩:=jd (l:=z.aLU) (k:=h) (by omega)
 rw [(jfL hl ha aR).2];have hf:=aNH (jP z) l;generalize hL:l.filter (jP z)=L at*;have x9:(z.aLU.set v (jaS L))[h]?=some a:=by rw [aNJ aR];exact ha
 have t1:=jfy (l2:=jaS L) hl;have t2:=jfy (y:=⟨z.now,z.seq,z.aLU.set v (jaS L),z.aLX⟩) (l2:=qb a (vf L)) x9;have t3:=js8 a (vf L);have t4:(vf L).length+(jaS L).length=L.length:=by rw [vf,jaS,<-aMR,aNW]
 have t5:=hI.tot;dsimp only at t1 t2;refine ⟨by simp [h4],hI.aLX,hI.now,hI.seq,by omega,λl' oS e he=>?_⟩
 dsimp only at oS;rw [aML (by rw [aMU];omega)] at oS
 obtain rfl:=aMW oS;rcases js7 he with he|he
 ·exact hI.frs a ha e he
 ·have:=aPQ he
  rw [<-hL] at this;rw [<-jtn hI.aLX];exact (aOD.1 this).2
noncomputable def pollZ (y:Yd) (h:Nat) (aMB:Int):Yd:=pollF h (jeX h aMB) (vE y h)
noncomputable def ja6 (y:Yd) (h:Nat) (aMB:Int):List En:=((pollZ y h aMB).aLU[h]?).getD []
noncomputable def jan (y:Yd) (aLZ aMB:Int):Int:=if jw y=false then 8 else if¬(0<=aLZ/\aLZ<=99) then 5 else if (ja6 y (aLZ.tmod 4).toNat aMB).length=0 then 9 else 0
noncomputable def jdX (z:Yd) (h:Nat) (e:En) (l:List En):Yd:=⟨z.now,z.seq,z.aLU.set h l,z.aLX.set (runAt z e.run).toNat (kD ((z.aLX[(runAt z e.run).toNat]?).getD default) e.aMA.toNat (((((z.aLX[(runAt z e.run).toNat]?).getD default).aLT)[e.aMA.toNat]?).getD default) z.now)⟩
noncomputable def jla (z:Yd) (e:En):Int:=IntKind.i64.wrap (((((((z.aLX[(runAt z e.run).toNat]?).getD default).aLT)[e.aMA.toNat]?).getD default)).tri+1)
noncomputable def qj (y:Yd) (aLZ aMB:Int):Yd:=
 if jw y=false\/¬(0<=aLZ/\aLZ<=99) then y
 else match ja6 y (aLZ.tmod 4).toNat aMB with
  |[]=>pollZ y (aLZ.tmod 4).toNat aMB
  |e::l=>jdX (pollZ y (aLZ.tmod 4).toNat aMB) (aLZ.tmod 4).toNat e l
noncomputable def jcE (y:Yd) (aLZ aMB:Int):List D:=
 if jan y aLZ aMB≠0 then [iv (jan y aLZ aMB),iv 0,iv 0,iv 0]
 else match ja6 y (aLZ.tmod 4).toNat aMB with
  |[]=>[iv 0,iv 0,iv 0,iv 0]
  |e::l=>[iv 0,iv e.run,iv e.aMA,iv (jla (pollZ y (aLZ.tmod 4).toNat aMB) e)]
theorem jf2 {y:Yd} {e:En} (h:jP y e=true):∃(k t:Nat) (r:Rn) (x:Tk),runAt y e.run=k/\y.aLX[k]?=some r/\e.aMA=t/\r.aLT[t]?=some x/\x.aLV=2:=by
 unfold jP at h;rcases zd y e.run e.aMA with ⟨_,h2⟩|⟨k,r,h1,h2,⟨_,h3⟩|⟨j,x,hj,hx,h3⟩⟩
 ·rw [h2] at h;cases h
 ·rw [h3] at h;cases h
 ·rw [h3] at h
  exact ⟨k,j,r,x,h1,h2,hj,hx,by simpa using h⟩
section
variable {sh:List (List En)} {n:Nat} {l:List En}
theorem jas (h:n<sh.length):n+1<=(sh.flatMap λes=>[ji es]).length:=by have:=jbf h;rwa [aMZ] at this
theorem jau (h:sh[n]?=some l):((sh.flatMap λes=>[ji es]).drop n).take 1=[ji l]:=by have:=jcd h;rwa [aMZ] at this
end
def jcb:C:=iS [iA 3 (.box 27 4 (.t 0)),iA 6 wAK,iA 7 wAM] (.seq (iS [aT 18 4 3,iA 19 (iK 66 [18]),aU 20 19] (iD 20 (iS [aT 21 4 3,iA 22 (iK 67 [21]),iA 23 (wAS [(0,1,oI 8)]),wAA 6 22,wAB 7 23] .ret) .skip)) (.seq (iS [aM 24 1,iA 25 (.call 68 [.t 24,oI 0,oI 99]),aU 26 25] (iD 26 (iS [aT 27 4 3,iA 28 (iK 67 [27]),iA 29 (wAS [(0,1,oI 5)]),wAA 6 28,wAB 7 29] .ret) .skip)) (iS [aM 30 1,aQ 31 .rem 3 30 4,aM 8 31] (iS [aT 32 4 3,aM 33 8,iA 34 (iK 23 [32,33]),iA 9 wAK,wAA 9 34] (iS [aM 35 8,aM 36 2,iA 37 (iK 69 [35,36]),aM 10 37] (.seq (iS [aN 11 0] (.blk 0 (.loop (.seq (iS [aM 38 11,aM 39 10,aG 40 39,aP 41 .lss 3 38 40,aM 42 41,iB 43 42 true (iF 2 9),iB 44 42 true (iL 43),iB 45 42 true (iM 8),iB 46 42 true (iI 1 44 45),iB 47 42 true (iL 46),iB 48 42 true (iG 47),iB 49 42 true (iQ .eql 3 48 0),iA 50 (iY 42 (.t 49) (oF))] (iD 50 .skip (.exit 0))) (.seq (.blk 1 (.seq (.dreg (tA 0 53 (iT 4 9) (tA 1 54 (iM 10) (tA 2 55 (iM 11) (tA 3 56 (iI 1 54 55) (tA 4 57 (iL 56) (tC 58 (iK 23 [53,57]) [] (.alt (wAA 9 58) [] .done .stop) .stop))))))) (.seq (.dreg (tA 0 60 (iF 2 9) (tA 1 61 (iL 60) (tA 2 62 (iM 10) (tA 3 63 (iM 11) (tA 4 64 (iI 1 62 63) (tA 5 65 (iL 64) (tA 6 66 (iI 1 61 65) (tA 7 67 (iL 66) (tC 68 (iK 70 [67]) [] (tA 9 59 (iM 68) (tA 10 69 (iE 59 0) (tA 11 70 (iE 59 1) (tA 12 12 (iM 69) (tA 13 13 (iM 70) .done))))) .stop)))))))))) (.seq (.dreg (tA 0 71 (iF 2 9) (tA 1 72 (iL 71) (tA 2 73 (iM 10) (tA 3 74 (iM 11) (tA 4 75 (iI 1 73 74) (tA 5 76 (iL 75) (tA 6 77 (iM 13) (tA 7 78 (iI 1 72 76) (.alt (wAF 78 77) [] .done .stop)))))))))) (.dreg (tA 0 79 (iF 2 9) (tA 1 80 (iL 79) (tA 2 81 (iM 8) (tA 3 82 (iF 2 9) (tA 4 83 (iL 82) (tA 5 84 (iM 8) (tA 6 85 (iI 1 83 84) (tA 7 86 (iL 85) (tA 8 87 (iM 12) (tC 88 (iK 71 [86,87]) [2,1,0] (tA 10 89 (iI 1 80 81) (.alt (wAF 89 88) [] .done .stop)) .stop))))))))))))))) (.reg [aM 51 11,aQ 52 .add 3 51 1,aM 11 52])))))) (iS [aF 91 2 9,aL 92 91,aM 93 8,aI 94 1 92 93,aL 95 94,iA 96 (iK 72 [95]),aM 90 96,aE 97 90 0,aE 98 90 1,aE 99 90 2,iA 14 wAP,wAB 14 97,aM 15 98,aM 16 99] (.seq (iS [aM 100 16,aU 101 100] (iD 101 (iS [aT 102 4 9,iA 103 (wAS [(0,1,oI 9)]),wAA 6 102,wAB 7 103] .ret) .skip)) (iS [aF 104 2 9,aL 105 104,aM 106 8,aM 107 15,aI 108 1 105 106,wAF 108 107] (iS [aT 109 4 9,aF 110 2 14,aL 111 110,iA 112 (iK 26 [109,111]),aM 17 112] (.seq (.dreg (tA 0 113 (iF 3 9) (tA 1 114 (iL 113) (tA 2 115 (iM 17) (tA 3 116 (iF 3 9) (tA 4 117 (iL 116) (tA 5 118 (iM 17) (tA 6 119 (iI 8 117 118) (tA 7 120 (iT 8 119) (tA 8 121 (iF 3 14) (tA 9 122 (iL 121) (tA 10 123 (iF 0 9) (tA 11 124 (iL 123) (tC 125 (iK 73 [120,122,124]) [2,1,0] (tA 13 126 (iI 8 114 115) (.alt (wAC 126 125) [] .done .stop)) .stop)))))))))))))) (.seq (.dreg (tA 0 127 (iT 4 9) (tA 1 128 (iF 2 14) (tA 2 129 (iL 128) (tA 3 130 (iF 3 14) (tA 4 131 (iL 130) (tA 5 132 (iF 3 9) (tA 6 133 (iL 132) (tA 7 134 (iM 17) (tA 8 135 (iI 8 133 134) (tA 9 136 (iF 7 135) (tA 10 137 (iL 136) (tA 11 138 (iF 3 14) (tA 12 139 (iL 138) (tA 13 140 (iI 4 137 139) (tA 14 141 (iF 2 140) (tA 15 142 (iL 141) (tA 16 143 (wAS [(1,1,.t 129),(2,1,.t 131),(3,1,.t 142)]) (.alt (wAA 6 127) [16,15,14,13,12,11,10,9,8,7,6,5,4,3,2,1] (.alt (wAB 7 143) [] .done .stop) .stop))))))))))))))))))) .ret))))))))))))
theorem jle:fnC Tryz.prog Tryz.f15=some (jcb,[.cell 6 true 4,.cell 7 true 4],144):=by kernel_rfl
def jcc:C:=iS [iA 3 (.box 27 4 (.t 0)),iA 6 wAK,iA 7 wAM] (.seq (.blk 0 (iS [aT 20 4 3,iA 21 (iK 18 [20]),aU 22 21,aM 19 22] (iD 19 (iS [aT 23 4 3,iA 24 (iK 61 [23]),iA 25 (wAS [(0,1,oI 8)]),wAA 6 24,wAB 7 25] .ret) (iS [aM 27 1,iA 28 (.call 62 [.t 27,oI 0,oI 99]),aU 29 28,aM 26 29] (iD 26 (iS [aT 30 4 3,iA 31 (iK 61 [30]),iA 32 (wAS [(0,1,oI 5)]),wAA 6 31,wAB 7 32] .ret) .skip))))) (iS [aM 33 1,aQ 34 .rem 3 33 4,aM 8 34] (iS [aT 35 4 3,aM 36 8,iA 37 (iK 24 [35,36]),iA 9 wAK,wAA 9 37] (.seq (iS [aM 38 8,aM 39 2,iA 40 (iK 19 [38,39]),aG 41 40,aN 42 0] (.blk 1 (.loop (iS [aP 43 .lss 3 42 41] (.seq (iD 43 .skip (.exit 1)) (.seq (.blk 2 (iS [aI 44 1 40 42,aL 45 44,aM 11 45] (.seq (iS [aF 46 2 9,aL 47 46,aM 48 8,aI 49 1 47 48,aL 50 49,aG 51 50,aQ 52 .gtr 3 51 0] (iD 52 (.exit 1) .skip)) (iS [aT 53 4 9,aM 54 11,iA 55 (iK 24 [53,54]),wAA 9 55] (iS [aF 57 2 9,aL 58 57,aM 59 11,aI 60 1 58 59,aL 61 60,iA 62 (iK 63 [61]),aM 56 62,aE 63 56 0,aE 64 56 1,aM 12 63,aM 13 64] (.seq (.dreg (tA 0 65 (iF 2 9) (tA 1 66 (iL 65) (tA 2 67 (iM 8) (tA 3 68 (iF 2 9) (tA 4 69 (iL 68) (tA 5 70 (iM 8) (tA 6 71 (iI 1 69 70) (tA 7 72 (iL 71) (tA 8 73 (iM 12) (tC 74 (iK 64 [72,73]) [2,1,0] (tA 10 75 (iI 1 66 67) (.alt (wAF 75 74) [] .done .stop)) .stop))))))))))) (.reg [aF 76 2 9,aL 77 76,aM 78 11,aM 79 13,aI 80 1 77 78,wAF 80 79]))))))) (.reg [aQ 81 .add 3 42 1,aM 42 81]))))))) (iS [aF 83 2 9,aL 84 83,aM 85 8,aI 86 1 84 85,aL 87 86,iA 88 (iK 65 [87]),aM 82 88,aE 89 82 0,aE 90 82 1,aE 91 82 2,iA 14 wAP,wAB 14 89,aM 15 90,aM 16 91] (.seq (iS [aM 92 16,aU 93 92] (iD 93 (iS [aT 94 4 9,iA 95 (wAS [(0,1,oI 9)]),wAA 6 94,wAB 7 95] .ret) .skip)) (iS [aF 96 2 9,aL 97 96,aM 98 8,aM 99 15,aI 100 1 97 98,wAF 100 99] (.seq (.dreg (tA 0 101 (iF 3 9) (tA 1 102 (iL 101) (tA 2 103 (iT 4 9) (tA 3 104 (iF 2 14) (tA 4 105 (iL 104) (tC 106 (iK 25 [103,105]) [1,0] (tA 6 107 (iI 8 102 106) (tA 7 17 (iM 107) .done)) .stop))))))) (.seq (.dreg (tA 0 108 (iM 17) (tA 1 109 (iF 0 108) (tA 2 110 (iF 7 109) (tA 3 111 (iL 110) (tA 4 112 (iF 3 14) (tA 5 113 (iL 112) (tA 6 114 (iI 4 111 113) (tA 7 18 (iM 114) .done))))))))) (iS [aM 115 18,aF 116 0 115,aF 117 0 116,iC (.st 1 [none] (.t 117) (oI 3))] (iS [aM 118 18,aF 119 0 118,aF 120 2 119,aL 121 120,aQ 122 .add 3 121 1,aF 123 0 118,aF 124 2 123,wAD 124 122] (.seq (.dreg (tA 0 125 (iM 18) (tA 1 126 (iF 0 9) (tA 2 127 (iL 126) (tA 3 128 (iM 17) (tA 4 129 (iF 0 128) (tA 5 130 (iF 1 129) (tA 6 131 (iF 2 130) (tA 7 132 (iL 131) (tA 8 133 (iP .add 3 127 132) (tA 9 134 (iF 0 125) (tA 10 135 (iF 3 134) (.alt (wAD 135 133) [] .done .stop))))))))))))) (.seq (.dreg (tA 0 136 (iT 4 9) (tA 1 137 (iF 2 14) (tA 2 138 (iL 137) (tA 3 139 (iF 3 14) (tA 4 140 (iL 139) (tA 5 141 (iM 18) (tA 6 142 (iF 0 141) (tA 7 143 (iF 2 142) (tA 8 144 (iL 143) (tA 9 145 (wAS [(1,1,.t 138),(2,1,.t 140),(3,1,.t 144)]) (.alt (wAA 6 136) [9,8,7,6,5,4,3,2,1] (.alt (wAB 7 145) [] .done .stop) .stop)))))))))))) .ret)))))))))))))
theorem jlj:fnC Tryz.prog Tryz.f14=some (jcc,[.cell 6 true 4,.cell 7 true 4],146):=by kernel_rfl
theorem jrk {y:Yd} {aLZ aMB:Int} {h:Nat} {Z:Yd} (hP:YardOkP y) (hw:0<=aLZ/\aLZ<=99) (fV:(aLZ.tmod 4).toNat=h) (hZ:pollZ y h aMB=Z) (ha:Z.aLU[h]?=some []):qj y aLZ aMB=Z/\jcE y aLZ aMB=[iv 9,iv 0,iv 0,iv 0]:=by
 have hE:ja6 y (aLZ.tmod 4).toNat aMB=[]:=by rw [fV,ja6,hZ,ha,aMM]
 have aC:=qF hP;have hK:jan y aLZ aMB=9:=by rw [jan,if_neg (by rw [aC];decide),if_neg (by simpa using hw),hE];rfl
 refine ⟨?_,by rw [jcE,if_pos (by rw [hK];decide),hK]⟩
 rw [qj,if_neg (by rintro (h|h);(rw [aC] at h;cases h);exact h hw),hE]
 dsimp only;rw [fV,hZ]
theorem jod {y:Yd} {aLZ aMB:Int} {h:Nat} {Z:Yd} {e:En} {l:List En} (hP:YardOkP y) (hw:0<=aLZ/\aLZ<=99) (fV:(aLZ.tmod 4).toNat=h) (hZ:pollZ y h aMB=Z) (ha:Z.aLU[h]?=some (e::l)):qj y aLZ aMB=jdX Z h e l/\jcE y aLZ aMB=[iv 0,iv e.run,iv e.aMA,iv (jla Z e)]:=by
 have hE:ja6 y (aLZ.tmod 4).toNat aMB=e::l:=by rw [fV,ja6,hZ,ha,aMM]
 have aC:=qF hP;have hK:jan y aLZ aMB=0:=by rw [jan,if_neg (by rw [aC];decide),if_neg (by simpa using hw),hE,if_neg (by simp)]
 refine ⟨?_,?_⟩
 ·rw [qj,if_neg (by rintro (h|h);(rw [aC] at h;cases h);exact h hw),hE]
  dsimp only;rw [fV,hZ]
 ·rw [jcE,if_neg (by rw [hK];decide),hE]
  dsimp only;rw [fV,hZ]
abbrev ZRp (b ty:Nat):Ob:=.box b ty [.a (.v (.int .i64 0)),.a (.v (.int .i64 0)),.a (.v (.int .i64 0)),.a (.v (.int .i64 0))]
theorem jCC {g sz n:Nat} {d:D} {η:jm} (hd:d.isSl=true) (hs:d.size=sz) (hn:d.len=n) (hp:0<sz):∀s:St,s.o g=.loose d η->∃dd,Is s (.hs g 0 [] (η []) sz 0 n) dd:=by
 intro s ho;subst hs hn;exact ⟨d.sub 0 (0+d.len),d,η,d,by rw [ho];rfl,rfl,jb8 d,hd,rfl,hp,by omega,rfl⟩
theorem jea {y:Yd} {aLZ aMB:Int} {h:Nat} {Z:Yd} {a:List En} {b6 b7 b9 t7:Nat} {f2 f3:jm} (ht:jt y<=2000000) (hP:YardOkP y) (hw:0<=aLZ/\aLZ<=99) (fV:(aLZ.tmod 4).toNat=h) (eW:h<4) (hZ:pollZ y h aMB=Z) (hI:PollI y h Z) (ha:Z.aLU[h]?=some a) (nK:a.length<=2000000):
 wpC Tryz.prog 0 (C.sub [1,1,1,1,1,1,1] (C.ghs [[1,1,1,1,1,1,1,1,1,1,1,1,0],[1,1,1,1,1,1,1,1,1,1,1,1,1]] jcb)) (jxj [.cell 6 true 4,.cell 7 true 4] (.tup [(true,jb (qj y aLZ aMB)),(true,jcE y aLZ aMB)])) (St.of [(6,Bx 600 b6),(7,Bx 700 b7),(8,Ni h),(9,Bx 900 b9)] [(600,ZYd b6 tYd),(700,ZRp b7 t7),(900,ka b9 tYd Z.now Z.seq Z.aLU f2 Z.aLX f3)]):=by
 unfold jcb;simp only [C.ghs,C.ghAt,List.foldr,C.sub];have h4:=hI.four;have fR:=(aMI.1 ha).1;have iH:=qT h;simp only [go_sem,fR,iH,aMZ,jau ha,jas fR,kn ha];cases a with
 |nil=>
  obtain ⟨e1,e2⟩:=jrk hP hw fV hZ ha;rw [e1,e2];refine jn (jcj [] (by simp)) (by simp only [go_sem,kn ha,jh,jqS,jfB,List.headD_nil,List.isEmpty_nil,List.tail_nil]) λyN=>?_
  simp only [go_sem,kn ha,jh,jqS,jfB,List.headD_nil,List.isEmpty_nil,List.tail_nil];intro b14;simp only [vA];refine jp _ _ _ _ _ ?_;simp only [go_sem,jD,true_or];refine jp _ _ _ _ _ ?_;simp only [go_sem,jD,jV,jL,true_or,jb]
 |cons e l=>
  obtain ⟨e1,e2⟩:=jod hP hw fV hZ ha;rw [e1,e2];refine jn (jcj (e::l) (by omega)) (by simp only [go_sem,kn ha,jh,jqS,jfB,List.headD_cons,List.isEmpty_cons,List.tail_cons]) λyN=>?_
  simp only [go_sem,kn ha,jh,jqS,jfB,List.headD_cons,List.isEmpty_cons,List.tail_cons];intro b14;simp only [go_sem,fR,iH,aMZ,jas fR,jau ha,jaI];refine λg1 tU=>?_
  obtain ⟨k,t,r,x,bT,hr,fY,hx,gS⟩:=jf2 (hI.frs _ ha e (by simp))
  rw [<-hI.aLX] at hr
  have gV:runAt ⟨Z.now,Z.seq,Z.aLU.set h l,Z.aLX⟩ e.run=(k:Int):=by
   rw [<-bT];unfold runAt;rw [hI.aLX]
  have gU:runAt Z e.run=(k:Int):=gV;have cZ:=(aMI.1 hr).1;have cP:=(aMI.1 hx).1;have bD:=qT k;have eY:=qT t;have fK:=jcT (y:=Z) (by have:=hI.tot;omega) (aMJ hr)
  have hH:jdX Z h e l=⟨Z.now,Z.seq,Z.aLU.set h l,Z.aLX.set k (kD r t x Z.now)⟩:=by
   simp only [jdX,gU,fY,aMQ,hr,hx,aMM]
  have hT:jla Z e=IntKind.i64.wrap (x.tri+1):=by
   simp only [jla,gU,fY,aMQ,hr,hx,aMM]
  rw [hH,hT,fY];refine jx (qr ⟨Z.now,Z.seq,Z.aLU.set h l,Z.aLX⟩ e.run) λη=>?_
  simp only [go_sem,jb];rw [gV];simp only [go_sem,cZ,bD,jkJ hr,je9 hr,jc,ja,fY];refine jn (jhi r t x Z.now hx fK.1 fK.2) (by simp only [go_sem,jc,ja,kj hr,kz hr]) λmE=>?_
  simp only [go_sem,jc,ja,kj hr,kz hr];simp only [go_sem,cZ,bD,je9 hr,jpU (kD r t x Z.now) cZ];refine λg3 hg3=>?_
  have cL:(Z.aLX.set k (kD r t x Z.now))[k]?=some (kD r t x Z.now):=aML cZ;have f5:k<(Z.aLX.set k (kD r t x Z.now)).length:=by rw [aMU];exact cZ
  have bW:(kD r t x Z.now).aLT[t]?=some ⟨3,x.aME,IntKind.i64.wrap (x.tri+1),IntKind.i64.wrap (Z.now+r.aLW.aMF)⟩:=aML cP;have lX:t<(kD r t x Z.now).aLT.length:=(aMI.1 bW).1;have aHN:(kD r t x Z.now).aLT[t]?=some ⟨3,x.aME,IntKind.i64.wrap (x.tri+1),IntKind.i64.wrap (Z.now+r.aLW.aMF)⟩:=bW;generalize kD r t x Z.now=r2 at*;refine qa ?_;refine WkK.wk (s':=St.of [(6,Bx 600 b6),(7,Bx 700 b7),(9,Bx 900 b9),(14,Bx 1400 b14),(17,Ni k)] [(600,ZYd b6 tYd),(700,ZRp b7 t7),(900,ka b9 tYd Z.now Z.seq (Z.aLU.set h l) g1 (Z.aLX.set k r2) g3),(1400,.box b14 tEn [.a (.v (.int .i64 e.aMC)),.a (.v (.int .i64 e.seq)),.a (.v (.int .i64 e.run)),.a (.v (.int .i64 e.aMA))])]) (jy [600,700,900,1400] (by simp only [go_sem,fY]<;>trivial)) ?_
  refine jg6 900 2 94 rfl rfl rfl (by decide) (Nat.zero_lt_succ 0) ?_
  refine jg6 900 3 95 rfl rfl rfl (by decide) (Nat.zero_lt_succ 7) ?_
  have uK:=jCC (g:=95) (sz:=8) (d:=jI (Z.aLX.set k r2)) (η:=g3) rfl rfl (vB _) (by decide)
  refine WkK.wk (s':=St.of [(6,Bx 600 b6),(7,Bx 700 b7),(9,Bx 900 b9),(14,Bx 1400 b14),(17,Ni k)] [(600,ZYd b6 tYd),(700,ZRp b7 t7),(900,.box b9 tYd [.a (.v (.int .i64 Z.now)),.a (.v (.int .i64 Z.seq)),.a (.hs 94 0 [] (g1 []) 1 0 (Z.aLU.set h l).length),.a (.hs 95 0 [] (g3 []) 8 0 (Z.aLX.set k r2).length)]),(94,.loose (ku (Z.aLU.set h l)) g1),(95,.loose (jI (Z.aLX.set k r2)) g3),(1400,.box b14 tEn [.a (.v (.int .i64 e.aMC)),.a (.v (.int .i64 e.seq)),.a (.v (.int .i64 e.run)),.a (.v (.int .i64 e.aMA))])]) (jy [600,700,900,94,95,1400]) ?_;refine WkK.of ?_;simp only [go_sem,f5,bD,aMX,uK,qL cL,qU cL,jW cL,lX,eY,jmg bW,jl0 bW,fY];refine qa ?_;refine WkK.wk (s':=St.of [(6,Bx 600 b6),(7,Bx 700 b7)] [(600,.box b6 tYd [.a (.v (.int .i64 Z.now)),.a (.v (.int .i64 Z.seq)),.a (.hs 94 0 [] (g1 []) 1 0 (Z.aLU.set h l).length),.a (.hs 95 0 [] (g3 []) 8 0 (Z.aLX.set k r2).length)]),(700,.box b7 t7 [.a (.v (.int .i64 0)),.a (.v (.int .i64 e.run)),.a (.v (.int .i64 t)),.a (.v (.int .i64 (IntKind.i64.wrap (x.tri+1))))]),(94,.loose (ku (Z.aLU.set h l)) g1),(95,.loose (jI (Z.aLX.set k r2)) g3)]) (jy [600,700,94,95]) ?_
  refine jbu 600 2 94 (d:=ku (Z.aLU.set h l)) (η:=g1) rfl rfl rfl rfl (jaP _).symm rfl (Nat.zero_lt_succ 0) ?_;refine jbu 600 3 95 (d:=jI (Z.aLX.set k r2)) (η:=g3) rfl rfl rfl rfl (vB _).symm rfl (Nat.zero_lt_succ 7) ?_;refine WkK.of ?_;simp only [go_sem];simp only [vA];refine jp _ _ _ _ _ ?_;simp only [go_sem,jD,true_or];refine jp _ _ _ _ _ ?_;simp only [go_sem,jD,jV,jL,true_or,jb]
theorem jpR (y:Yd) (aLZ aMB:Int) (ht:jt y<=2000000):kg Tryz.prog 15 [.agg (jb y),.c (.val (.int .i64 aLZ)),.c (.val (.int .i64 aMB))] (.tup [(true,jb (qj y aLZ aMB)),(true,jcE y aLZ aMB)]):=by
 refine vZ [[1,1,1,1,1,1,1],[1,1,1,1,1,1,1,1,1,1,1,1,0],[1,1,1,1,1,1,1,1,1,1,1,1,1]] Tryz.func15 jle (by simp) ?_
 unfold jcb;simp only [C.ghs,C.ghAt,List.foldr];simp only [go_sem,jb];intro b3 b6 b7;refine jx (qq y ht) λη=>?_
 simp only [go_sem,jb];cases aC:jw y
 ·have hy:qj y aLZ aMB=y:=by rw [qj,if_pos (.inl aC)]
  have hc:jan y aLZ aMB=8:=by rw [jan,if_pos aC]
  have hr:jcE y aLZ aMB=[iv 8,iv 0,iv 0,iv 0]:=by rw [jcE,if_pos (by rw [hc];decide),hc]
  rw [hy,hr];simp only [go_sem,jb,aC];refine jx (kp y ht) λbC=>?_
  simp only [go_sem,jb];simp only [vA];refine jp _ _ _ _ _ ?_;simp only [go_sem,jD,true_or];refine jp _ _ _ _ _ ?_;simp only [go_sem,jD,jV,jL,true_or,jb]
 have hP:=yard_iff.1 aC;simp only [go_sem,jb,aC];refine jx (jJ aLZ 0 99) λη=>?_
 simp only [go_sem,jb];cases hw:decide (0<=aLZ/\aLZ<=99)
 ·have hw':=of_decide_eq_false hw
  have hy:qj y aLZ aMB=y:=by rw [qj,if_pos (.inr hw')]
  have hc:jan y aLZ aMB=5:=by rw [jan,if_neg (by rw [aC];decide),if_pos hw']
  have hr:jcE y aLZ aMB=[iv 5,iv 0,iv 0,iv 0]:=by rw [jcE,if_pos (by rw [hc];decide),hc]
  rw [hy,hr];simp only [go_sem,jb,hw];refine jx (kp y ht) λbC=>?_
  simp only [go_sem,jb];simp only [vA];refine jp _ _ _ _ _ ?_;simp only [go_sem,jD,true_or];refine jp _ _ _ _ _ ?_;simp only [go_sem,jD,jV,jL,true_or,jb]
 have hw':=aNS hw;obtain ⟨h,hh⟩:∃h:Nat,aLZ.tmod 4=(h:Int):=⟨(aLZ.tmod 4).toNat,by rw [aNU hw'.1];omega⟩
 have eW:h<4:=by rw [aNU hw'.1] at hh;omega
 have hwr:IntKind.i64.wrap (aLZ.tmod 4)=(h:Int):=by rw [hh];exact qE (by omega) (by omega)
 have iH:=qT h;simp only [go_sem,jb,hw,hh];refine jx (jh7 y h ht) λuM=>?_
 simp only [go_sem,jb];intro b9;refine jx (jiu h aMB) λv5=>?_
 simp only [go_sem,jb];have hI0:=PollI.start hP eW;obtain ⟨v0,v1,v2,hv,w0,w1,w2,n0,n1,n2⟩:=jfw eW aMB;have hZ:pollZ y h aMB=pollF h (jeX h aMB) (vE y h):=rfl;generalize fU:vE y h=z0 at*;generalize jeX h aMB=V at*;have hVl:V.length=3:=by rw [hv];rfl
 have hVm:∀(i:Nat) (v:Int),V[i]?=some v->∃n:Nat,v=n/\n<4/\n≠h:=λi v hi=>by
  have:=aMJ hi;rw [hv] at this;simp at this;rcases this with rfl|rfl|rfl
  ·exact ⟨v0,rfl,w0,n0⟩
  ·exact ⟨v1,rfl,w1,n1⟩
  ·exact ⟨v2,rfl,w2,n2⟩
 obtain ⟨Z,yA⟩:∃Z,pollF h V z0=Z:=⟨_,rfl⟩;have uE:pollZ y h aMB=Z:=by rw [hZ,yA]
 have fV:(aLZ.tmod 4).toNat=h:=by rw [hh];omega
 have hpk:jan y aLZ aMB=if ((Z.aLU[h]?).getD []).length=0 then 9 else 0:=by rw [jan,if_neg (by rw [aC];decide),if_neg (by simpa using hw'),fV,ja6,uE]
 refine kN (λi:Nat×Yd×jm×jm=>St.of [(6,Bx 600 b6),(7,Bx 700 b7),(8,Ni h),(9,Bx 900 b9),(10,Hd 10 (v5 0)),(11,Ni i.1)] [(600,ZYd b6 _),(700,ZRp b7 _),(900,ka b9 _ i.2.1.now i.2.1.seq i.2.1.aLU i.2.2.1 i.2.1.aLX i.2.2.2),(10,.loose (je V) (v5 0))]) (λi=>i.1<=V.length/\PollI y h i.2.1/\pollF h (V.drop i.1) i.2.1=Z) (λi=>V.length-i.1) (0,z0,uM 2,uM 3) (⟨aNE _,hI0,yA⟩) (jy [600,700,900,3700] (by simp only [go_sem,jb]<;>trivial)) ?_
 rintro ⟨i,z,f2,f3⟩ ⟨hi,hI,hF⟩;dsimp only at hi hI hF;have h4:=hI.four;obtain ⟨a,ha⟩:=jd (l:=z.aLU) (k:=h) (by omega)
 have fR:=(aMI.1 ha).1;have nK:=zp (y:=z) (by have:=hI.tot;omega) (aMJ ha)
 have cG:(i=V.length\/a.length≠0)->z=Z:=λhc=>by
  rcases hc with hc|hc
  ·rw [<-hF,hc,List.drop_length];rfl
  ·rw [<-hF]
   cases hd:V.drop i with
   |nil=>rfl
   |cons v vs=>rw [pollF,ha,aMM,if_neg hc]
 by_cases aB:i<V.length
 ·have aA:(i:Int)<V.length:=by omega
  have eK:=qT i;have iR:=kX i;cases he:((a.length:Nat):Int)==0
  ·obtain rfl:=cG (.inr (by intro h0;rw [h0] at he;cases he))
   simp only [go_sem,aA,fR,iH,aMZ,jau ha,jas fR,kn ha,he];refine qa ?_;refine WkK.wk (s':=St.of [(6,Bx 600 b6),(7,Bx 700 b7),(8,Ni h),(9,Bx 900 b9)] [(600,ZYd b6 _),(700,ZRp b7 _),(900,ka b9 _ z.now z.seq z.aLU f2 z.aLX f3)]) (jy [600,700,900]) ?_;exact WkK.of (jea ht hP hw' fV eW uE hI ha nK)
  ·have y5:a.length=0:=by simp only [aOO] at he;omega
   obtain ⟨v,hv⟩:=jd aB;obtain ⟨n,rfl,hn4,pM⟩:=hVm i v hv;have iV:0<=(n:Int):=by omega
   have lA:((V.flatMap λn=>[iv n]).drop i).take 1=[iv (n:Int)]:=by have:=jg hv;rwa [aMZ] at this
   have iJ:i+1<=(V.flatMap λn=>[iv n]).length:=by have:=jf aB;rwa [aMZ] at this
   obtain ⟨l,hl⟩:=jd (l:=z.aLU) (k:=n) (by omega)
   obtain ⟨e1,e2⟩:=jfL hl ha pM;have lD:=hI.step hn4 eW pM
   have yF:pollF h (V.drop (i+1)) (pollV z h n)=Z:=by
    rw [<-hF,aOC aB,pollF,ha,aMM,if_pos y5];have:V[i]=(n:Int):=by rw [aMK aB] at hv;exact aMW hv
    rw [this,aMQ]
   have hlf:=aNH (jP z) l;have eV:=zp (y:=z) (by have:=hI.tot;omega) (aMJ hl)
   rw [e2] at yF lD;simp only [go_sem,aA,aB,fR,iH,eK,aMZ,jau ha,jas fR,kn ha,he,lA,iJ];refine jx (jh7 z n (by have:=hI.tot;omega)) λz8=>?_
   simp only [go_sem,jb];rw [e1];generalize l.filter (jP z)=L at*;have q1:(z.aLU.set n L)[n]?=some L:=aML (by omega)
   have q2:n<(z.aLU.set n L).length:=by rw [aMU];omega
   have q0:(n:Int)>=0:=iV;simp only [go_sem,aB,eK,aMZ,lA,iJ,jau q1,jas q2,kn q1,q2,q0];refine jn (jmP L (by omega)) (by simp only [go_sem,kn q1]) ληh=>?_
   simp only [go_sem,kn q1];simp only [go_sem,aB,eK,aMZ,lA,iJ,jas q2,jau q1,q2,q0,jaI,aNP];refine λg' cV=>?_
   have q3:(z.aLU.set n (jaS L))[h]?=some a:=by rw [aNJ pM];exact ha
   have q4:h<(z.aLU.set n (jaS L)).length:=by rw [aMU];omega
   have q5:(vf L).length<=L.length:=by rw [vf,aMP];omega
   simp only [go_sem,iH,aMZ,jas q4,jau q3,q4,kn q3];refine jn (jmN a (vf L) (by omega)) (by simp only [go_sem,kn q3]) ληm=>?_
   simp only [go_sem,kn q3];simp only [go_sem,iH,aMZ,jas q4,jau q3,q4,jaI,iR];refine λg2' aCI=>?_
   exact ⟨(i+1,⟨z.now,z.seq,(z.aLU.set n (jaS L)).set h (qb a (vf L)),z.aLX⟩,g2',z8 3),⟨aB,lD,yF⟩,(jy [600,700,900,10]),by (try dsimp only);omega⟩
 ·have aA:¬(i:Int)<V.length:=by omega
  obtain rfl:=cG (.inl (by omega))
  simp only [go_sem,aA];refine qa ?_;refine WkK.wk (s':=St.of [(6,Bx 600 b6),(7,Bx 700 b7),(8,Ni h),(9,Bx 900 b9)] [(600,ZYd b6 _),(700,ZRp b7 _),(900,ka b9 _ z.now z.seq z.aLU f2 z.aLX f3)]) (jy [600,700,900]) ?_;exact WkK.of (jea ht hP hw' fV eW uE hI ha nK)
theorem jck (l:List En) (hl:l.length<=4000000):kg Tryz.prog 65 [.c (ji l)] (.tup [(true,jh (jqS l)),(false,[ji l.tail]),(false,[.val (.bool (jfB l))])]):=by
 refine pf_ jfn ?_;unfold jcz;cases l with
 |nil=>
  simp only [go_sem,jh,jqS,jfB,List.headD_nil,List.isEmpty_nil,List.tail_nil];intro b2;simp only [vA];refine jp _ _ _ _ _ ?_;simp only [go_sem,jD,jlJ,jlI,jV,jL,true_or,jdJ]
 |cons x l=>
  have cX:l.length<=4000000:=by rw [aNG] at hl;omega
  have h0:(x::l)[0]?=some x:=rfl;have h1:(((l.length+1:Nat):Int)==0)=false:=by simp only [beq_eq_false_iff_ne,ne_eq];omega
  have h2:1<=l.length+1:=by omega
  have h3:0<l.length+1:=by omega
  have hd:List.take l.length l=l:=aOI;simp only [go_sem,jh,jqS,jfB,List.headD_cons,List.isEmpty_cons,List.tail_cons,h1];intro b2;simp only [go_sem,h2,h3,jH h0,jh,hd,aMV,Nat.add_sub_cancel];refine jn (ki l cX) (by simp only [go_sem,hd,jh]) λbH=>?_
  simp only [go_sem,hd,jh];simp only [vA];refine jp _ _ _ _ _ ?_;simp only [go_sem,jD,jlJ,jlI,jV,jL,true_or]
section
variable {l:List Rn} {k:Nat} {r:Rn}
theorem jDb (h:l[k]?=some r):((l.flatMap jc).drop (k*8+1+2)).take 1=[.val (.int .i64 r.aLW.aMF)]:=qA (enc:=jc) (size:=8) (λ_=>rfl) h (j:=3) (n:=1) (by decide)
theorem jCx (h:l[k]?=some r):k*8+1+2+1<=(l.flatMap jc).length:=qG (enc:=jc) (size:=8) (λ_=>rfl) h (j:=3) (n:=1) (by decide)
end
theorem jeb {y:Yd} {aLZ aMB:Int} {h:Nat} {Z:Yd} {a:List En} {b6 b7 b9 t7:Nat} {f2 f3:jm} (ht:jt y<=2000000) (hP:YardOkP y) (hw:0<=aLZ/\aLZ<=99) (fV:(aLZ.tmod 4).toNat=h) (eW:h<4) (hZ:pollZ y h aMB=Z) (hI:PollI y h Z) (ha:Z.aLU[h]?=some a) (nK:a.length<=2000000):
 wpC Tryz.prog 0 (C.sub [1,1,1,1,1] (C.ghs [[1,1,1,1,1,1,1,1,1,1,1,1,1,0],[1,1,1,1,1,1,1,1,1,1,1,1,1,1]] jcc)) (jxj [.cell 6 true 4,.cell 7 true 4] (.tup [(true,jb (qj y aLZ aMB)),(true,jcE y aLZ aMB)])) (St.of [(6,Bx 600 b6),(7,Bx 700 b7),(8,Ni h),(9,Bx 900 b9)] [(600,ZYd b6 tYd),(700,ZRp b7 t7),(900,ka b9 tYd Z.now Z.seq Z.aLU f2 Z.aLX f3)]):=by
 unfold jcc;simp only [C.ghs,C.ghAt,List.foldr,C.sub];have h4:=hI.four;have fR:=(aMI.1 ha).1;have iH:=qT h;simp only [go_sem,fR,iH,aMZ,jau ha,jas fR,kn ha];cases a with
 |nil=>
  obtain ⟨e1,e2⟩:=jrk hP hw fV hZ ha;rw [e1,e2];refine jn (jck [] (by simp)) (by simp only [go_sem,kn ha,jh,jqS,jfB,List.headD_nil,List.isEmpty_nil,List.tail_nil]) λyN=>?_
  simp only [go_sem,kn ha,jh,jqS,jfB,List.headD_nil,List.isEmpty_nil,List.tail_nil];intro b14;simp only [vA];refine jp _ _ _ _ _ ?_;simp only [go_sem,jD,true_or];refine jp _ _ _ _ _ ?_;simp only [go_sem,jD,jV,jL,true_or,jb]
 |cons e l=>
  obtain ⟨e1,e2⟩:=jod hP hw fV hZ ha;rw [e1,e2];refine jn (jck (e::l) (by omega)) (by simp only [go_sem,kn ha,jh,jqS,jfB,List.headD_cons,List.isEmpty_cons,List.tail_cons]) λyN=>?_
  simp only [go_sem,kn ha,jh,jqS,jfB,List.headD_cons,List.isEmpty_cons,List.tail_cons];intro b14;simp only [go_sem,fR,iH,aMZ,jas fR,jau ha,jaI];refine λg1 tU=>?_
  obtain ⟨k,t,r,x,bT,hr,fY,hx,gS⟩:=jf2 (hI.frs _ ha e (by simp))
  rw [<-hI.aLX] at hr
  have gV:runAt ⟨Z.now,Z.seq,Z.aLU.set h l,Z.aLX⟩ e.run=(k:Int):=by
   rw [<-bT];unfold runAt;rw [hI.aLX]
  have gU:runAt Z e.run=(k:Int):=gV;have cZ:=(aMI.1 hr).1;have cP:=(aMI.1 hx).1;have bD:=qT k;have eY:=qT t;have fK:=jcT (y:=Z) (by have:=hI.tot;omega) (aMJ hr)
  have hH:jdX Z h e l=⟨Z.now,Z.seq,Z.aLU.set h l,Z.aLX.set k (kD r t x Z.now)⟩:=by
   simp only [jdX,gU,fY,aMQ,hr,hx,aMM]
  have hT:jla Z e=IntKind.i64.wrap (x.tri+1):=by
   simp only [jla,gU,fY,aMQ,hr,hx,aMM]
  rw [hH,hT,fY];refine jx (qg ⟨Z.now,Z.seq,Z.aLU.set h l,Z.aLX⟩ e.run) λη=>?_
  simp only [go_sem,jb];rw [gV];have hS:∀r':Rn,(Z.aLX.set k r')[k]?=some r':=λr'=>aML cZ
  have iZ:∀r':Rn,k<(Z.aLX.set k r').length:=λr'=>by rw [aMU];exact cZ
  have x1:(r.aLT.set t ⟨3,x.aME,x.tri,x.til⟩)[t]?=some ⟨3,x.aME,x.tri,x.til⟩:=aML cP;have x2:(r.aLT.set t ⟨3,x.aME,IntKind.i64.wrap (x.tri+1),x.til⟩)[t]?=some ⟨3,x.aME,IntKind.i64.wrap (x.tri+1),x.til⟩:=aML cP;have x3:(r.aLT.set t ⟨3,x.aME,IntKind.i64.wrap (x.tri+1),IntKind.i64.wrap (Z.now+r.aLW.aMF)⟩)[t]?=some ⟨3,x.aME,IntKind.i64.wrap (x.tri+1),IntKind.i64.wrap (Z.now+r.aLW.aMF)⟩:=aML cP;have r1:=hS ⟨r.id,r.aLW,r.aLV,r.aLT.set t ⟨3,x.aME,x.tri,x.til⟩⟩;have r2:=hS ⟨r.id,r.aLW,r.aLV,r.aLT.set t ⟨3,x.aME,IntKind.i64.wrap (x.tri+1),x.til⟩⟩;have r3:=hS ⟨r.id,r.aLW,r.aLV,r.aLT.set t ⟨3,x.aME,IntKind.i64.wrap (x.tri+1),IntKind.i64.wrap (Z.now+r.aLW.aMF)⟩⟩;have aJ:kD r t x Z.now=⟨r.id,r.aLW,r.aLV,r.aLT.set t ⟨3,x.aME,IntKind.i64.wrap (x.tri+1),IntKind.i64.wrap (Z.now+r.aLW.aMF)⟩⟩:=rfl;rw [aJ]
  generalize n7:IntKind.i64.wrap (x.tri+1)=tri at*;generalize pS:IntKind.i64.wrap (Z.now+r.aLW.aMF)=til at*;simp only [go_sem,cZ,bD,fY,aMX,qL hr,qU hr,jW hr,cP,eY,vi hx,qK hx,va hr (jbp hx 3),va hr (zX hx 3),qL r1,jW r1,jmg x1,jl0 x1,n7,va r1 (jzW x1 tri),aNP,jDb r2,jCx r2,pS,jW r2,jj6 x2,va r2 (je4 x2 til)];refine qa ?_;generalize hL:Z.aLX.set k ⟨r.id,r.aLW,r.aLV,r.aLT.set t ⟨3,x.aME,tri,til⟩⟩=L at*;refine WkK.wk (s':=St.of [(6,Bx 600 b6),(7,Bx 700 b7),(9,Bx 900 b9),(14,Bx 1400 b14),(18,.c (.ep 900 3 [k*8+7] (t*4) (f3 [k*8+7])))] [(600,ZYd b6 tYd),(700,ZRp b7 t7),(900,ka b9 tYd Z.now Z.seq (Z.aLU.set h l) g1 L f3),(1400,.box b14 tEn [.a (.v (.int .i64 e.aMC)),.a (.v (.int .i64 e.seq)),.a (.v (.int .i64 e.run)),.a (.v (.int .i64 e.aMA))])]) (jy [600,700,900,1400] (by simp only [go_sem,fY]<;>trivial)) ?_
  refine jg6 900 2 94 rfl rfl rfl (by decide) (Nat.zero_lt_succ 0) ?_
  refine jg6 900 3 95 rfl rfl rfl (by decide) (Nat.zero_lt_succ 7) ?_
  refine WkK.wk (s':=St.of [(6,Bx 600 b6),(7,Bx 700 b7),(9,Bx 900 b9),(14,Bx 1400 b14),(18,.c (.ep 95 0 [k*8+7] (t*4) (f3 [k*8+7])))] [(600,ZYd b6 tYd),(700,ZRp b7 t7),(900,.box b9 tYd [.a (.v (.int .i64 Z.now)),.a (.v (.int .i64 Z.seq)),.a (.hs 94 0 [] (g1 []) 1 0 (Z.aLU.set h l).length),.a (.hs 95 0 [] (f3 []) 8 0 L.length)]),(94,.loose (ku (Z.aLU.set h l)) g1),(95,.loose (jI L) f3),(1400,.box b14 tEn [.a (.v (.int .i64 e.aMC)),.a (.v (.int .i64 e.seq)),.a (.v (.int .i64 e.run)),.a (.v (.int .i64 e.aMA))])]) (jy [600,700,900,94,95,1400]) ?_;refine WkK.of ?_;simp only [go_sem,aMX,bD,eY,fY,jW r3,jmg x3,jl0 x3];refine qa ?_;refine WkK.wk (s':=St.of [(6,Bx 600 b6),(7,Bx 700 b7)] [(600,.box b6 tYd [.a (.v (.int .i64 Z.now)),.a (.v (.int .i64 Z.seq)),.a (.hs 94 0 [] (g1 []) 1 0 (Z.aLU.set h l).length),.a (.hs 95 0 [] (f3 []) 8 0 L.length)]),(700,.box b7 t7 [.a (.v (.int .i64 0)),.a (.v (.int .i64 e.run)),.a (.v (.int .i64 t)),.a (.v (.int .i64 tri))]),(94,.loose (ku (Z.aLU.set h l)) g1),(95,.loose (jI L) f3)]) (jy [600,700,94,95]) ?_
  refine jbu 600 2 94 (d:=ku (Z.aLU.set h l)) (η:=g1) rfl rfl rfl rfl (jaP _).symm rfl (Nat.zero_lt_succ 0) ?_;refine jbu 600 3 95 (d:=jI L) (η:=f3) rfl rfl rfl rfl (vB _).symm rfl (Nat.zero_lt_succ 7) ?_;refine WkK.of ?_;simp only [go_sem];simp only [vA];refine jp _ _ _ _ _ ?_;simp only [go_sem,jD,true_or];refine jp _ _ _ _ _ ?_;simp only [go_sem,jD,jV,jL,true_or,jb]
theorem jpS (y:Yd) (aLZ aMB:Int) (ht:jt y<=2000000):kg Tryz.prog 14 [.agg (jb y),.c (.val (.int .i64 aLZ)),.c (.val (.int .i64 aMB))] (.tup [(true,jb (qj y aLZ aMB)),(true,jcE y aLZ aMB)]):=by
 refine vZ [[1,1,1,1,1],[1,1,1,1,1,1,1,1,1,1,1,1,1,0],[1,1,1,1,1,1,1,1,1,1,1,1,1,1]] Tryz.func14 jlj (by simp) ?_
 unfold jcc;simp only [C.ghs,C.ghAt,List.foldr];simp only [go_sem,jb];intro b3 b6 b7;refine jx (kJ y ht) λη=>?_
 simp only [go_sem,jb];cases aC:jw y
 ·have hy:qj y aLZ aMB=y:=by rw [qj,if_pos (.inl aC)]
  have hc:jan y aLZ aMB=8:=by rw [jan,if_pos aC]
  have hr:jcE y aLZ aMB=[iv 8,iv 0,iv 0,iv 0]:=by rw [jcE,if_pos (by rw [hc];decide),hc]
  rw [hy,hr];simp only [go_sem,jb,aC];refine jx (ke y ht) λbC=>?_
  simp only [go_sem,jb];simp only [vA];refine jp _ _ _ _ _ ?_;simp only [go_sem,jD,true_or];refine jp _ _ _ _ _ ?_;simp only [go_sem,jD,jV,jL,true_or,jb]
 have hP:=yard_iff.1 aC;simp only [go_sem,jb,aC];refine jx (jE aLZ 0 99) λη=>?_
 simp only [go_sem,jb];cases hw:decide (0<=aLZ/\aLZ<=99)
 ·have hw':=of_decide_eq_false hw
  have hy:qj y aLZ aMB=y:=by rw [qj,if_pos (.inr hw')]
  have hc:jan y aLZ aMB=5:=by rw [jan,if_neg (by rw [aC];decide),if_pos hw']
  have hr:jcE y aLZ aMB=[iv 5,iv 0,iv 0,iv 0]:=by rw [jcE,if_pos (by rw [hc];decide),hc]
  rw [hy,hr];simp only [go_sem,jb,hw];refine jx (ke y ht) λbC=>?_
  simp only [go_sem,jb];simp only [vA];refine jp _ _ _ _ _ ?_;simp only [go_sem,jD,true_or];refine jp _ _ _ _ _ ?_;simp only [go_sem,jD,jV,jL,true_or,jb]
 have hw':=aNS hw;obtain ⟨h,hh⟩:∃h:Nat,aLZ.tmod 4=(h:Int):=⟨(aLZ.tmod 4).toNat,by rw [aNU hw'.1];omega⟩
 have eW:h<4:=by rw [aNU hw'.1] at hh;omega
 have hwr:IntKind.i64.wrap (aLZ.tmod 4)=(h:Int):=by rw [hh];exact qE (by omega) (by omega)
 have iH:=qT h;simp only [go_sem,jb,hw,hh];refine jx (jh9 y h ht) λuM=>?_
 simp only [go_sem,jb];intro b9;refine jx (jiw h aMB) λv5=>?_
 simp only [go_sem,jb];have hI0:=PollI.start hP eW;obtain ⟨v0,v1,v2,hv,w0,w1,w2,n0,n1,n2⟩:=jfw eW aMB;have hZ:pollZ y h aMB=pollF h (jeX h aMB) (vE y h):=rfl;generalize fU:vE y h=z0 at*;generalize jeX h aMB=V at*;have hVl:V.length=3:=by rw [hv];rfl
 have hVm:∀(i:Nat) (v:Int),V[i]?=some v->∃n:Nat,v=n/\n<4/\n≠h:=λi v hi=>by
  have:=aMJ hi;rw [hv] at this;simp at this;rcases this with rfl|rfl|rfl
  ·exact ⟨v0,rfl,w0,n0⟩
  ·exact ⟨v1,rfl,w1,n1⟩
  ·exact ⟨v2,rfl,w2,n2⟩
 obtain ⟨Z,yA⟩:∃Z,pollF h V z0=Z:=⟨_,rfl⟩;have uE:pollZ y h aMB=Z:=by rw [hZ,yA]
 have fV:(aLZ.tmod 4).toNat=h:=by rw [hh];omega
 have hpk:jan y aLZ aMB=if ((Z.aLU[h]?).getD []).length=0 then 9 else 0:=by rw [jan,if_neg (by rw [aC];decide),if_neg (by simpa using hw'),fV,ja6,uE]
 refine kN (λi:Nat×Yd×jm×jm=>St.of [(6,Bx 600 b6),(7,Bx 700 b7),(8,Ni h),(9,Bx 900 b9),(40,Hd 10 (v5 0)),(41,Ni V.length),(42,Ni i.1)] [(600,ZYd b6 _),(700,ZRp b7 _),(900,ka b9 _ i.2.1.now i.2.1.seq i.2.1.aLU i.2.2.1 i.2.1.aLX i.2.2.2),(10,.loose (je V) (v5 0))]) (λi=>i.1<=V.length/\PollI y h i.2.1/\pollF h (V.drop i.1) i.2.1=Z) (λi=>V.length-i.1) (0,z0,uM 2,uM 3) (⟨aNE _,hI0,yA⟩) (jy [600,700,900,4000] (by simp only [go_sem,jb]<;>trivial)) ?_
 rintro ⟨i,z,f2,f3⟩ ⟨hi,hI,hF⟩;dsimp only at hi hI hF;have h4:=hI.four;obtain ⟨a,ha⟩:=jd (l:=z.aLU) (k:=h) (by omega)
 have fR:=(aMI.1 ha).1;have nK:=zp (y:=z) (by have:=hI.tot;omega) (aMJ ha)
 have cG:(i=V.length\/a.length≠0)->z=Z:=λhc=>by
  rcases hc with hc|hc
  ·rw [<-hF,hc,List.drop_length];rfl
  ·rw [<-hF]
   cases hd:V.drop i with
   |nil=>rfl
   |cons v vs=>rw [pollF,ha,aMM,if_neg hc]
 by_cases aB:i<V.length
 ·have aA:(i:Int)<V.length:=by omega
  have eK:=qT i;have iR:=kX i;obtain ⟨v,hv⟩:=jd aB;obtain ⟨n,rfl,hn4,pM⟩:=hVm i v hv;have iV:0<=(n:Int):=by omega
  have lA:((V.flatMap λn=>[iv n]).drop i).take 1=[iv (n:Int)]:=by have:=jg hv;rwa [aMZ] at this
  have iJ:i+1<=(V.flatMap λn=>[iv n]).length:=by have:=jf aB;rwa [aMZ] at this
  by_cases y5:a.length=0
  ·have he:¬((a.length:Nat):Int)>0:=by omega
   obtain ⟨l,hl⟩:=jd (l:=z.aLU) (k:=n) (by omega)
   obtain ⟨e1,e2⟩:=jfL hl ha pM;have lD:=hI.step hn4 eW pM
   have yF:pollF h (V.drop (i+1)) (pollV z h n)=Z:=by
    rw [<-hF,aOC aB,pollF,ha,aMM,if_pos y5];have:V[i]=(n:Int):=by rw [aMK aB] at hv;exact aMW hv
    rw [this,aMQ]
   have hlf:=aNH (jP z) l;have eV:=zp (y:=z) (by have:=hI.tot;omega) (aMJ hl)
   rw [e2,List.set_comm _ _ pM] at yF lD;simp only [go_sem,aA,aB,fR,iH,eK,aMZ,jau ha,jas fR,kn ha,he,lA,iJ];refine jx (jh9 z n (by have:=hI.tot;omega)) λz8=>?_
   simp only [go_sem,jb];rw [e1];generalize l.filter (jP z)=L at*;have q1:(z.aLU.set n L)[n]?=some L:=aML (by omega)
   have q2:n<(z.aLU.set n L).length:=by rw [aMU];omega
   have q0:(n:Int)>=0:=iV;have q3:(z.aLU.set n L)[h]?=some a:=by rw [aNJ pM];exact ha
   have q4:h<(z.aLU.set n L).length:=by rw [aMU];omega
   have q5:(vf L).length<=L.length:=by rw [vf,aMP];omega
   simp only [go_sem,aB,eK,aMZ,jau q1,jas q2,kn q1,q2,q0];refine jn (jm0 L (by omega)) (by simp only [go_sem,kn q1]) ληh=>?_
   simp only [go_sem,kn q1];simp only [go_sem,iH,aMZ,jas q4,jau q3,q4,kn q3];refine jn (jmY a (vf L) (by omega)) (by simp only [go_sem,kn q3]) ληm=>?_
   simp only [go_sem,kn q3];simp only [go_sem,iH,aMZ,jas q4,jau q3,q4,jaI];refine λg' cV=>?_
   have q6:n<((z.aLU.set n L).set h (qb a (vf L))).length:=by rw [aMU];exact q2
   have q7:((z.aLU.set n L).set h (qb a (vf L)))[n]?=some L:=by rw [aNJ (Ne.symm pM)];exact q1
   have q8:((z.aLU.set n L).set h (qb a (vf L))).set n (jaS L)=(z.aLU.set h (qb a (vf L))).set n (jaS L):=by
    rw [List.set_comm _ _ pM,aNP]
   simp only [go_sem,aMZ,q0,q6,jas q6,jau q7,jaI,q8,iR];refine λg2' aCI=>?_
   exact ⟨(i+1,⟨z.now,z.seq,(z.aLU.set h (qb a (vf L))).set n (jaS L),z.aLX⟩,g2',z8 3),⟨aB,lD,yF⟩,(jy [600,700,900,10]),by (try dsimp only);omega⟩
  ·have he:((a.length:Nat):Int)>0:=by omega
   obtain rfl:=cG (.inr y5);simp only [go_sem,aA,aB,fR,iH,eK,aMZ,jau ha,jas fR,kn ha,he,lA,iJ];refine qa ?_;refine WkK.wk (s':=St.of [(6,Bx 600 b6),(7,Bx 700 b7),(8,Ni h),(9,Bx 900 b9)] [(600,ZYd b6 _),(700,ZRp b7 _),(900,ka b9 _ z.now z.seq z.aLU f2 z.aLX f3)]) (jy [600,700,900]) ?_;exact WkK.of (jeb ht hP hw' fV eW uE hI ha nK)
 ·have aA:¬(i:Int)<V.length:=by omega
  obtain rfl:=cG (.inl (by omega))
  simp only [go_sem,aA];refine qa ?_;refine WkK.wk (s':=St.of [(6,Bx 600 b6),(7,Bx 700 b7),(8,Ni h),(9,Bx 900 b9)] [(600,ZYd b6 _),(700,ZRp b7 _),(900,ka b9 _ z.now z.seq z.aLU f2 z.aLX f3)]) (jy [600,700,900]) ?_;exact WkK.of (jeb ht hP hw' fV eW uE hI ha nK)
structure Rp where
 code:Int
 run:Int
 aMA:Int
 tri:Int
 deriving DecidableEq,Inhabited
abbrev qO (r:Rp):List D:=[iv r.code,iv r.run,iv r.aMA,iv r.tri]
noncomputable def ja5 (y:Yd) (aLZ aMB:Int):Rp:=
 if jan y aLZ aMB≠0 then ⟨jan y aLZ aMB,0,0,0⟩
 else match ja6 y (aLZ.tmod 4).toNat aMB with
  |[]=>⟨0,0,0,0⟩
  |e::l=>⟨0,e.run,e.aMA,jla (pollZ y (aLZ.tmod 4).toNat aMB) e⟩
theorem jyN (y:Yd) (aLZ aMB:Int):jcE y aLZ aMB=qO (ja5 y aLZ aMB):=by
 unfold jcE ja5;split
 ·rfl
 ·split<;>rfl
theorem jpX (y:Yd) (aLZ aMB:Int) (ht:jt y<=2000000):kg Tryz.prog 15 [.agg (jb y),.c (.val (.int .i64 aLZ)),.c (.val (.int .i64 aMB))] (.tup [(true,jb (qj y aLZ aMB)),(true,qO (ja5 y aLZ aMB))]):=by
 rw [<-jyN];exact jpR y aLZ aMB ht
theorem jjU (y:Yd) (aLZ aMB:Int) (ht:jt y<=2000000):kg Tryz.prog 14 [.agg (jb y),.c (.val (.int .i64 aLZ)),.c (.val (.int .i64 aMB))] (.tup [(true,jb (qj y aLZ aMB)),(true,qO (ja5 y aLZ aMB))]):=by
 rw [<-jyN];exact jpS y aLZ aMB ht
theorem ju0 {y:Yd} {h:Nat} (hh:h<4):∀(vs:List Int) (z:Yd),(∀v∈vs,∃n:Nat,v=n/\n<4/\n≠h)->PollI y h z->PollI y h (pollF h vs z)
 |[],_,_,hI=>hI
 |v::vs,z,hv,hI=>by
  rw [pollF];split
  ·obtain ⟨n,rfl,h1,h2⟩:=hv v (by simp)
   exact ju0 hh vs _ (λv rV=>hv v (by simp [rV])) (by rw [aMQ];exact hI.step h1 hh h2)
  ·exact hI
theorem jjO {y:Yd} (hP:YardOkP y) {h:Nat} (hh:h<4) (aMB:Int):PollI y h (pollZ y h aMB):=by
 obtain ⟨v0,v1,v2,hv,w0,w1,w2,n0,n1,n2⟩:=jfw hh aMB;refine ju0 hh _ _ (λv hm=>?_) (PollI.start hP hh)
 rw [hv] at hm;simp at hm;rcases hm with rfl|rfl|rfl
 ·exact ⟨v0,rfl,w0,n0⟩
 ·exact ⟨v1,rfl,w1,n1⟩
 ·exact ⟨v2,rfl,w2,n2⟩
