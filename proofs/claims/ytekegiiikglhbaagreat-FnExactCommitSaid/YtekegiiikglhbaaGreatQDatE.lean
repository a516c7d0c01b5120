/- Parts. -/
import Derived.Test.YtekegiiikglhbaaGreatQHole
set_option linter.all false
set_option maxHeartbeats 8000000
set_option maxRecDepth 100000
namespace Go.Proofs.YtekegiiikglhbaaGreat
open Go.RowKit Go.Sort
def zP:C:=iS [iA 1 (.box 39 1 (.t 0)),iA 2 wAM] (iS [aF 3 0 1,aL 4 3,iA 5 (.app 80 3 40 (.c (.slice none 0 0)) (.t 4)),iA 6 (.bld [.slice none 0 0] [(0,1,.t 5)]),wAC 2 6] .ret)
theorem jbI:fnC Tryz.prog Tryz.f48=some (zP,[.cell 2 true 1],7):=by kernel_rfl
def jaz:C:=iS [iA 1 (.box 39 1 (.t 0)),iA 2 wAM] (iS [iA 3 (.bsl 80 3 0 [] []),aF 4 0 1,aL 5 4,iA 6 (.app 80 3 40 (.t 3) (.t 5)),iA 7 (.bld [.slice none 0 0] [(0,1,.t 6)]),wAC 2 7] .ret)
theorem jcA:fnC Tryz.prog Tryz.f38=some (jaz,[.cell 2 true 1],8):=by kernel_rfl
def vJ:C:=iS [iA 1 (.box 42 10 (.t 0)),iA 2 wAL] (iS [aF 3 0 1,aT 4 4 3,iA 5 (iK 47 [4]),aF 6 0 1,wAE 6 5] (iS [aF 7 4 1,aT 8 1 7,iA 9 (iK 48 [8]),aF 10 4 1,wAC 10 9] (iS [aF 11 7 1,aL 12 11,iA 13 (.app 67 5 40 (.c (.slice none 0 0)) (.t 12)),aF 14 7 1,wAH 14 13] (iS [aT 15 10 1,wAB 2 15] .ret))))
theorem jal:fnC Tryz.prog Tryz.f23=some (vJ,[.cell 2 true 10],16):=by kernel_rfl
def jar:C:=iS [iA 1 (.box 42 10 (.t 0)),iA 2 wAL] (iS [aF 3 0 1,aT 4 4 3,iA 5 (iK 37 [4]),aF 6 0 1,wAE 6 5] (iS [aF 7 4 1,aT 8 1 7,iA 9 (iK 38 [8]),aF 10 4 1,wAC 10 9] (iS [iA 11 (.bsl 67 5 0 [] []),aF 12 7 1,aL 13 12,iA 14 (.app 67 5 40 (.t 11) (.t 13)),aF 15 7 1,wAH 15 14] (iS [aT 16 10 1,wAB 2 16] .ret))))
theorem jcs:fnC Tryz.prog Tryz.f17=some (jar,[.cell 2 true 10],17):=by kernel_rfl
theorem zo (l:List Fl) (hl:l.length<=2000000):jR Tryz.prog 48 [.agg [jm l]] (.agg [jm l]):=by
 refine pf_ jbI ?_;unfold zP;have m1:l.length<=maxLen:=jco;have m2:l.length*40<=140737488355328:=by omega
 simp only [go_sem,m1,m2,aCA,aBW,aBK,jep]
theorem jao (l:List Fl) (hl:l.length<=2000000):jR Tryz.prog 38 [.agg [jm l]] (.agg [jm l]):=by
 refine pf_ jcA ?_;unfold jaz;have m1:l.length<=maxLen:=jco;have m2:l.length*40<=140737488355328:=by omega
 simp only [go_sem,m1,m2,aCA,aBW,aBK,jep]
theorem vx (x:Eg) (hy:jG x.yard<=2000000) (hd:x.disk.length<=2000000) (hw:x.waits.length<=2000000):jR Tryz.prog 23 [.agg (jh x)] (.agg (jh x)):=by
 refine pf_ jal ?_;unfold vJ;have m1:x.waits.length<=maxLen:=jco;have m2:x.waits.length*40<=140737488355328:=by omega
 simp only [go_sem,jh];intros;refine kt (jd8 x.yard hy) λdR=>?_
 simp only [go_sem,jb];intros;refine jg (zo x.disk hd) (by simp only [go_sem,jb,m1,m2,aCA,aBW,aBK,vc]) λlO=>?_
 simp only [go_sem,jb,m1,m2,aCA,aBW,aBK,vc]
theorem jeN (x:Eg) (hy:jG x.yard<=2000000) (hd:x.disk.length<=2000000) (hw:x.waits.length<=2000000):jR Tryz.prog 17 [.agg (jh x)] (.agg (jh x)):=by
 refine pf_ jcs ?_;unfold jar;have m1:x.waits.length<=maxLen:=jco;have m2:x.waits.length*40<=140737488355328:=by omega
 simp only [go_sem,jh];intros;refine kt (jeO x.yard hy) λdR=>?_
 simp only [go_sem,jb];intros;refine jg (jao x.disk hd) (by simp only [go_sem,jb,m1,m2,aCA,aBW,aBK,vc]) λlO=>?_
 simp only [go_sem,jb,m1,m2,aCA,aBW,aBK,vc]
def zQ:C:=iS [iA 2 (.box 39 1 (.t 0)),iA 4 wAM,aO 5 false] (iS [aT 8 1 2,iA 9 (iK 48 [8]),iA 6 wAM,wAC 6 9] (iS [aT 10 1 2,aM 11 1,iA 12 (iK 52 [10,11]),aM 7 12] (.seq (iS [aM 13 7,aQ 14 .lss 3 13 0,aM 15 14,iB 16 15 false (iT 1 2),iB 17 15 false (iK 50 [16]),iB 18 15 false (iU 17),iA 19 (iY 15 (oT) (.t 18))] (iD 19 (iS [aT 20 1 6,wAC 4 20,aO 5 false] .ret) .skip)) (.seq (.dreg (tA 0 21 (iF 0 6) (tA 1 22 (iL 21) (tA 2 23 (iM 7) (tA 3 24 (iF 0 6) (tA 4 25 (iL 24) (tA 5 26 (iM 7) (tA 6 27 (iI 3 25 26) (tA 7 28 (iF 1 27) (tA 8 29 (iL 28) (tA 9 30 (.len true (.t 29)) (tA 10 31 (iI 3 22 23) (tA 11 32 (iF 2 31) (.alt (wAA 32 30) [] .done .stop)))))))))))))) (iS [aT 33 1 6,wAC 4 33,aO 5 true] .ret)))))
theorem jbJ:fnC Tryz.prog Tryz.f26=some (zQ,[.cell 4 true 1,.t 5],34):=by kernel_rfl
def zC:C:=iS [iA 2 (.box 39 1 (.t 0)),iA 4 wAM,aO 5 false] (iS [aT 8 1 2,iA 9 (iK 38 [8]),iA 6 wAM,wAC 6 9] (iS [aT 10 1 2,aM 11 1,iA 12 (iK 42 [10,11]),aM 7 12] (.seq (iS [aM 13 7,aQ 14 .lss 3 13 0,aM 15 14,iB 16 15 false (iT 1 2),iB 17 15 false (iK 40 [16]),iB 18 15 false (iU 17),iA 19 (iY 15 (oT) (.t 18))] (iD 19 (iS [aT 20 1 6,wAC 4 20,aO 5 false] .ret) .skip)) (.seq (.dreg (tA 0 21 (iF 0 6) (tA 1 22 (iL 21) (tA 2 23 (iM 7) (tA 3 24 (iF 0 6) (tA 4 25 (iL 24) (tA 5 26 (iM 7) (tA 6 27 (iI 3 25 26) (tA 7 28 (iF 1 27) (tA 8 29 (iL 28) (tA 9 30 (.len true (.t 29)) (tA 10 31 (iI 3 22 23) (tA 11 32 (iF 2 31) (.alt (wAA 32 30) [] .done .stop)))))))))))))) (iS [aT 33 1 6,wAC 4 33,aO 5 true] .ret)))))
theorem jbw:fnC Tryz.prog Tryz.f19=some (zC,[.cell 4 true 1,.t 5],34):=by kernel_rfl
def qU (l:List Fl) (s:ByteArray):List Fl×Bool:=if 0<=atF l s/\vD l=true then
    ((match l[(atF l s).toNat]? with|some x=>l.set (atF l s).toNat ⟨x.name,x.data,(x.data.size:Int)⟩|none=>l),true) else (l,false)
theorem jkG (l:List Fl) (s:ByteArray):(qU l s).1.length=l.length:=by
 unfold qU;split
 ·split<;>simp
 ·rfl
theorem joO {l:List Fl} {k:Nat} {x:Fl} (h:l[k]?=some x):((l.flatMap jv).drop (k*3+1)).take 1=[sv x.data]:=jf9 (enc:=jv) (size:=3) (λ_=>rfl) h (j:=1) (n:=1) (by decide)
theorem jea (l:List Fl) (s:ByteArray) (hl:l.length<=2000000):jR Tryz.prog 26 [.agg [jm l],.c (.val (.string s))] (.tup [(true,[jm (qU l s).1]),(false,[.val (.bool (qU l s).2)])]):=by
 refine pf_ jbJ ?_;unfold zQ;simp only [go_sem];intros;refine kt (zo l hl) λdR=>?_
 simp only [go_sem];intros;refine kt (jbd l s (by omega)) λlO=>?_
 simp only [go_sem];by_cases V:atF l s<0
 ·have Z:qU l s=(l,false):=by rw [qU,if_neg (by omega)]
  rw [Z];simp only [go_sem,V]
  apply jaf
  simp only [go_sem]
 simp only [go_sem,V];refine jg (jbf l (by omega)) (by simp only [go_sem,V]) λpP=>?_
 simp only [go_sem,V];cases Y:vD l
 ·have Z:qU l s=(l,false):=by rw [qU,if_neg (by simp [Y])]
  rw [Z];simp only [go_sem,V,Y,Bool.not_false]
  apply jaf
  simp only [go_sem]
 obtain ⟨hf,-⟩|⟨k,x,hk,hx,-,-⟩:=vS (λf:Fl=>decide (f.name=s)) l
 ·exact absurd hf (by have:atF l s=jaR (λf:Fl=>decide (f.name=s)) l:=rfl;omega)
 have eX:atF l s=(k:Int):=hk;have aC:=(aAR.1 hx).1;have aA:(k:Int)<l.length:=by omega
 have a9:=jaQ k
 have Z:qU l s=(l.set k ⟨x.name,x.data,(x.data.size:Int)⟩,true):=by
  rw [qU,if_pos ⟨by omega,Y⟩,eX,aCI,hx]
 rw [Z];simp only [go_sem,V,Y,Bool.not_true,eX,aC,aA,a9,qY aC,jiH hx,joO hx,jiG hx,jfA hx]
 apply jaf
 simp only [go_sem]
theorem jd6 (l:List Fl) (s:ByteArray) (hl:l.length<=2000000):jR Tryz.prog 19 [.agg [jm l],.c (.val (.string s))] (.tup [(true,[jm (qU l s).1]),(false,[.val (.bool (qU l s).2)])]):=by
 refine pf_ jbw ?_;unfold zC;simp only [go_sem];intros;refine kt (jao l hl) λdR=>?_
 simp only [go_sem];intros;refine kt (jcS l s (by omega)) λlO=>?_
 simp only [go_sem];by_cases V:atF l s<0
 ·have Z:qU l s=(l,false):=by rw [qU,if_neg (by omega)]
  rw [Z];simp only [go_sem,V]
  apply jaf
  simp only [go_sem]
 simp only [go_sem,V];refine jg (jbc l (by omega)) (by simp only [go_sem,V]) λpP=>?_
 simp only [go_sem,V];cases Y:vD l
 ·have Z:qU l s=(l,false):=by rw [qU,if_neg (by simp [Y])]
  rw [Z];simp only [go_sem,V,Y,Bool.not_false]
  apply jaf
  simp only [go_sem]
 obtain ⟨hf,-⟩|⟨k,x,hk,hx,-,-⟩:=vS (λf:Fl=>decide (f.name=s)) l
 ·exact absurd hf (by have:atF l s=jaR (λf:Fl=>decide (f.name=s)) l:=rfl;omega)
 have eX:atF l s=(k:Int):=hk;have aC:=(aAR.1 hx).1;have aA:(k:Int)<l.length:=by omega
 have a9:=jaQ k
 have Z:qU l s=(l.set k ⟨x.name,x.data,(x.data.size:Int)⟩,true):=by
  rw [qU,if_pos ⟨by omega,Y⟩,eX,aCI,hx]
 rw [Z];simp only [go_sem,V,Y,Bool.not_true,eX,aC,aA,a9,qY aC,jiH hx,joO hx,jiG hx,jfA hx]
 apply jaf
 simp only [go_sem]
def zR:C:=iS [iA 1 (.box 42 10 (.t 0)),aO 2 false] (.seq (iS [aF 5 0 1,aT 6 4 5,iA 7 (iK 49 [6]),aU 8 7,aM 9 8,iB 10 9 false (iF 4 1),iB 11 9 false (iT 1 10),iB 12 9 false (iK 50 [11]),iB 13 9 false (iU 12),iA 14 (iY 9 (oT) (.t 13)),aM 15 14,iB 16 15 false (iF 5 1),iB 17 15 false (iL 16),iB 18 15 false (.call 51 [.t 17,oI 1,oI 999999999]),iB 19 15 false (iU 18),iA 20 (iY 15 (oT) (.t 19)),aM 21 20,iB 22 21 false (iF 6 1),iB 23 21 false (iL 22),iB 24 21 false (.call 51 [.t 23,oI 0,oI 999999999]),iB 25 21 false (iU 24),iA 26 (iY 21 (oT) (.t 25)),aM 27 26,iB 28 27 false (iF 7 1),iB 29 27 false (iL 28),iB 30 27 false (iG 29),iB 31 27 false (iQ .gtr 3 30 60),iA 32 (iY 27 (oT) (.t 31)),aM 33 32,iB 34 33 false (iF 8 1),iB 35 33 false (iL 34),iB 36 33 false (.call 51 [.t 35,oI 1,oI 3]),iB 37 33 false (iU 36),iA 38 (iY 33 (oT) (.t 37))] (iD 38 (iS [aO 2 false] .ret) .skip)) (.seq (iS [aF 39 7 1,aL 40 39,aG 41 40,aN 42 0] (.blk 0 (.loop (iS [aP 43 .lss 3 42 41] (.seq (iD 43 .skip (.exit 0)) (.seq (.blk 1 (iS [aM 44 42,aI 45 5 40 42,aT 46 5 45,iA 4 wAR,aM 3 44,wAK 4 46] (.seq (.dreg (tA 0 47 (iF 0 4) (tA 1 48 (iL 47) (tA 2 49 (iF 6 1) (tA 3 50 (iL 49) (tC 51 (.call 51 [.t 48,oI 1,.t 50]) [] (tA 5 52 (iU 51) (tA 6 53 (iM 52) (tB 7 54 53 false (iM 3) (tB 8 55 53 false (iQ .gtr 3 54 0) (tB 9 56 53 false (iM 55) (tB 10 57 56 true (iF 7 1) (tB 11 58 56 true (iL 57) (tB 12 59 56 true (iM 3) (tB 13 60 56 true (iQ .sub 3 59 1) (tB 14 61 56 true (iI 5 58 60) (tB 15 62 56 true (iF 0 61) (tB 16 63 56 true (iL 62) (tB 17 64 56 true (iF 0 4) (tB 18 65 56 true (iL 64) (tB 19 66 56 true (iP .geq 3 63 65) (tB 20 67 53 false (iY 56 (.t 66) (oF)) (tA 21 68 (iY 53 (oT) (.t 67)) .done))))))))))))))))) .stop)))))) (iD 68 (iS [aO 2 false] .ret) .skip)))) (.reg [aQ 69 .add 3 42 1,aM 42 69]))))))) (iS [aO 2 true] .ret)))
theorem jbK:fnC Tryz.prog Tryz.f24=some (zR,[.t 2],70):=by kernel_rfl
def zD:C:=iS [iA 1 (.box 42 10 (.t 0)),aO 2 false] (.seq (iS [aF 4 0 1,aT 5 4 4,iA 6 (iK 39 [5]),aU 7 6,aM 8 7,iB 9 8 false (iF 4 1),iB 10 8 false (iT 1 9),iB 11 8 false (iK 40 [10]),iB 12 8 false (iU 11),iA 13 (iY 8 (oT) (.t 12)),aM 14 13,iB 15 14 false (iF 5 1),iB 16 14 false (iL 15),iB 17 14 false (.call 41 [.t 16,oI 1,oI 999999999]),iB 18 14 false (iU 17),iA 19 (iY 14 (oT) (.t 18)),aM 20 19,iB 21 20 false (iF 6 1),iB 22 20 false (iL 21),iB 23 20 false (.call 41 [.t 22,oI 0,oI 999999999]),iB 24 20 false (iU 23),iA 25 (iY 20 (oT) (.t 24)),aM 26 25,iB 27 26 false (iF 7 1),iB 28 26 false (iL 27),iB 29 26 false (iG 28),iB 30 26 false (iQ .gtr 3 29 60),iA 31 (iY 26 (oT) (.t 30)),aM 32 31,iB 33 32 false (iF 8 1),iB 34 32 false (iL 33),iB 35 32 false (.call 41 [.t 34,oI 1,oI 3]),iB 36 32 false (iU 35),iA 37 (iY 32 (oT) (.t 36))] (iD 37 (iS [aO 2 false] .ret) .skip)) (.seq (iS [aN 3 0] (.blk 0 (.loop (.seq (iS [aM 38 3,aF 39 7 1,aL 40 39,aG 41 40,aP 42 .lss 3 38 41] (iD 42 .skip (.exit 0))) (.seq (.blk 1 (.seq (.dreg (tA 0 45 (iF 7 1) (tA 1 46 (iL 45) (tA 2 47 (iM 3) (tA 3 48 (iI 5 46 47) (tA 4 49 (iF 0 48) (tA 5 50 (iL 49) (tA 6 51 (iF 6 1) (tA 7 52 (iL 51) (tC 53 (.call 41 [.t 50,oI 1,.t 52]) [] (tA 9 54 (iU 53) (tA 10 55 (iM 54) (tB 11 56 55 false (iM 3) (tB 12 57 55 false (iQ .gtr 3 56 0) (tB 13 58 55 false (iM 57) (tB 14 59 58 true (iF 7 1) (tB 15 60 58 true (iL 59) (tB 16 61 58 true (iM 3) (tB 17 62 58 true (iQ .sub 3 61 1) (tB 18 63 58 true (iI 5 60 62) (tB 19 64 58 true (iF 0 63) (tB 20 65 58 true (iL 64) (tB 21 66 58 true (iF 7 1) (tB 22 67 58 true (iL 66) (tB 23 68 58 true (iM 3) (tB 24 69 58 true (iI 5 67 68) (tB 25 70 58 true (iF 0 69) (tB 26 71 58 true (iL 70) (tB 27 72 58 true (iP .geq 3 65 71) (tB 28 73 55 false (iY 58 (.t 72) (oF)) (tA 29 74 (iY 55 (oT) (.t 73)) .done))))))))))))))))))))) .stop)))))))))) (iD 74 (iS [aO 2 false] .ret) .skip))) (.reg [aM 43 3,aQ 44 .add 3 43 1,aM 3 44])))))) (iS [aO 2 true] .ret)))
theorem jbx:fnC Tryz.prog Tryz.f18=some (zD,[.t 2],75):=by kernel_rfl
def qx (x:Eg) (k:Nat) (w:Wt):Bool:=decide (1<=w.call/\w.call<=x.calls)&&(match k with|0=>true|j+1=>match x.waits[j]? with|some v=>!decide (v.call>=w.call)|none=>true)
noncomputable def egB (x:Eg):Bool:=jM x.yard&&vD x.disk&&decide (1<=x.next/\x.next<=999999999)&&decide (0<=x.calls/\x.calls<=999999999)&&!decide ((x.waits.length:Int)>60)&&decide (1<=x.aAD/\x.aAD<=3)&&jqK (qx x) x.waits
theorem jeb (x:Eg) (hy:jG x.yard<=2000000) (hd:x.disk.length<=2000000):jR Tryz.prog 24 [.agg (jh x)] (.c (.val (.bool (egB x)))):=by
 refine pf_ jbK ?_;unfold zR;simp only [go_sem,jh];intro b1;refine jg (jfK x.yard hy) (by simp only [go_sem,jh,jb,aAQ,Bool.not_true,Bool.not_false]) λeI=>?_
 simp only [go_sem,jh,jb,aAQ,Bool.not_true,Bool.not_false];cases V:jM x.yard
 ·have hE:egB x=false:=by simp [egB,V]
  simp only [go_sem,jh,jb,aAQ,Bool.not_true,Bool.not_false,V,hE]
 simp only [go_sem,jh,jb,aAQ,Bool.not_true,Bool.not_false,V];refine jg (jbf x.disk (by omega)) (by simp only [go_sem,jh,jb,aAQ,Bool.not_true,Bool.not_false,V]) λbC=>?_
 simp only [go_sem,jh,jb,aAQ,Bool.not_true,Bool.not_false,V];cases Y:vD x.disk
 ·have hE:egB x=false:=by simp [egB,Y]
  simp only [go_sem,jh,jb,aAQ,Bool.not_true,Bool.not_false,V,Y,hE]
 simp only [go_sem,jh,jb,aAQ,Bool.not_true,Bool.not_false,V,Y];refine jg (jq x.next 1 999999999) (by simp only [go_sem,jh,jb,aAQ,Bool.not_true,Bool.not_false,V,Y]) λdE=>?_
 simp only [go_sem,jh,jb,aAQ,Bool.not_true,Bool.not_false,V,Y];cases h3:decide (1<=x.next/\x.next<=999999999)
 ·have hE:egB x=false:=by simp only [egB,h3,Bool.and_false,Bool.false_and]
  simp only [go_sem,jh,jb,aAQ,Bool.not_true,Bool.not_false,V,Y,h3,hE]
 simp only [go_sem,jh,jb,aAQ,Bool.not_true,Bool.not_false,V,Y,h3];refine jg (jq x.calls 0 999999999) (by simp only [go_sem,jh,jb,aAQ,Bool.not_true,Bool.not_false,V,Y,h3]) λbD=>?_
 simp only [go_sem,jh,jb,aAQ,Bool.not_true,Bool.not_false,V,Y,h3];cases h4:decide (0<=x.calls/\x.calls<=999999999)
 ·have hE:egB x=false:=by simp only [egB,h4,Bool.and_false,Bool.false_and]
  simp only [go_sem,jh,jb,aAQ,Bool.not_true,Bool.not_false,V,Y,h3,h4,hE]
 by_cases h5:(x.waits.length:Int)>60
 ·have hE:egB x=false:=by simp [egB,h5]
  simp only [go_sem,jh,jb,aAQ,Bool.not_true,Bool.not_false,V,Y,h3,h4,h5,hE]
 simp only [go_sem,jh,jb,aAQ,Bool.not_true,Bool.not_false,V,Y,h3,h4,h5];refine jg (jq x.aAD 1 3) (by simp only [go_sem,jh,jb,aAQ,Bool.not_true,Bool.not_false,V,Y,h3,h4,h5]) λgR=>?_
 simp only [go_sem,jh,jb,aAQ,Bool.not_true,Bool.not_false,V,Y,h3,h4,h5];cases h6:decide (1<=x.aAD/\x.aAD<=3)
 ·have hE:egB x=false:=by simp only [egB,h6,Bool.and_false,Bool.false_and]
  simp only [go_sem,jh,jb,aAQ,Bool.not_true,Bool.not_false,h6,hE]
 simp only [go_sem,jh,jb,aAQ,Bool.not_true,Bool.not_false,h6];refine kp (λi:Nat=>St.of [(1,Bx 100 b1),(40,Ro (jn x.waits)),(41,Ni x.waits.length),(42,Ni i)] [(100,Bi b1 _ (jh x))]) (λi=>i<=x.waits.length/\∀k y,k<i->x.waits[k]?=some y->qx x k y=true) (λi=>x.waits.length-i) 0 (⟨aBR _,λk y h=>absurd h (Nat.not_lt_zero _)⟩) (jJ [100] (by simp only [go_sem,jh]<;>trivial)) ?_
 rintro k ⟨hk,bF⟩;by_cases aC:k<x.waits.length
 ·have aA:(k:Int)<x.waits.length:=by omega
  have a9:=jaQ k;obtain ⟨w,hx⟩:=jd aC;have hw:=qg k;have bQ:qx x k w=false->egB x=false:=λh=>by simp [egB,jgb hx h]
  simp only [go_sem,jh,jb,aAQ,Bool.not_true,Bool.not_false,aC,aA,a9,jz hx,jQ];intro b4;refine jg (jq w.call 1 x.calls) (by simp only [go_sem,jh,jb,aAQ,Bool.not_true,Bool.not_false,aC,aA,a9,jz hx,jQ]) λpN=>?_
  simp only [go_sem,jh,jb,aAQ,Bool.not_true,Bool.not_false,aC,aA,a9,jz hx,jQ];cases h7:decide (1<=w.call/\w.call<=x.calls)
  ·have hE:=bQ (by simp only [qx,h7,Bool.false_and])
   simp only [go_sem,jh,jb,aAQ,Bool.not_true,Bool.not_false,h7,hE]
  cases k with
  |zero=>
   have hg:¬((0:Int)>0):=by omega
   have hf:qx x 0 w=true:=by simp only [qx,h7,Bool.and_true]
   simp only [go_sem,jh,jb,aAQ,Bool.not_true,Bool.not_false,h7,Int.natCast_zero,hg,hw];exact ⟨0+1,⟨aC,vL bF hx hf⟩,(jJ [100] (by simp only [go_sem,jh]<;>trivial)),by (try dsimp only);omega⟩
  |succ j=>
   have hg:((j+1:Nat):Int)>0:=by omega
   have c9:IntKind.i64.wrap (((j+1:Nat):Int)-1)=(j:Int):=by rw [kh (by omega) (by omega)];omega
   have eO:j<x.waits.length:=by omega
   have fM:=jaQ j;have eA:(j:Int)<x.waits.length:=by omega
   obtain ⟨v,hv⟩:=jd eO;by_cases h8:v.call>=w.call
   ·have hE:=bQ (by simp [qx,hv,h8])
    simp only [go_sem,jh,jb,aAQ,Bool.not_true,Bool.not_false,h7,hg,c9,eO,eA,fM,jz hv,jz hx,jQ,h8,aC,aA,a9,hE]
   ·have hf:qx x (j+1) w=true:=by simp only [qx,h7,hv,h8,decide_false,Bool.not_false,Bool.and_true]
    simp only [go_sem,jh,jb,aAQ,Bool.not_true,Bool.not_false,h7,hg,c9,eO,eA,fM,jz hv,jz hx,jQ,h8,aC,aA,a9,hw];exact ⟨j+1+1,⟨aC,vL bF hx hf⟩,(jJ [100] (by simp only [go_sem,jh]<;>trivial)),by (try dsimp only);omega⟩
 ·have aA:¬(k:Int)<x.waits.length:=by omega
  have hE:egB x=true:=by
   rw [egB,jdP (λj y hj hy=>bF j y (by omega) hy)];simp only [V,Y,h3,h4,h5,h6,decide_false,Bool.not_false,Bool.and_true]
  simp only [go_sem,jh,jb,aAQ,Bool.not_true,Bool.not_false,aA,hE]
theorem jd7 (x:Eg) (hy:jG x.yard<=2000000) (hd:x.disk.length<=2000000):jR Tryz.prog 18 [.agg (jh x)] (.c (.val (.bool (egB x)))):=by
 refine pf_ jbx ?_;unfold zD;simp only [go_sem,jh];intro b1;refine jg (jfD x.yard hy) (by simp only [go_sem,jh,jb,aAQ,Bool.not_true,Bool.not_false]) λeI=>?_
 simp only [go_sem,jh,jb,aAQ,Bool.not_true,Bool.not_false];cases V:jM x.yard
 ·have hE:egB x=false:=by simp [egB,V]
  simp only [go_sem,jh,jb,aAQ,Bool.not_true,Bool.not_false,V,hE]
 simp only [go_sem,jh,jb,aAQ,Bool.not_true,Bool.not_false,V];refine jg (jbc x.disk (by omega)) (by simp only [go_sem,jh,jb,aAQ,Bool.not_true,Bool.not_false,V]) λbC=>?_
 simp only [go_sem,jh,jb,aAQ,Bool.not_true,Bool.not_false,V];cases Y:vD x.disk
 ·have hE:egB x=false:=by simp [egB,Y]
  simp only [go_sem,jh,jb,aAQ,Bool.not_true,Bool.not_false,V,Y,hE]
 simp only [go_sem,jh,jb,aAQ,Bool.not_true,Bool.not_false,V,Y];refine jg (jt x.next 1 999999999) (by simp only [go_sem,jh,jb,aAQ,Bool.not_true,Bool.not_false,V,Y]) λdE=>?_
 simp only [go_sem,jh,jb,aAQ,Bool.not_true,Bool.not_false,V,Y];cases h3:decide (1<=x.next/\x.next<=999999999)
 ·have hE:egB x=false:=by simp only [egB,h3,Bool.and_false,Bool.false_and]
  simp only [go_sem,jh,jb,aAQ,Bool.not_true,Bool.not_false,V,Y,h3,hE]
 simp only [go_sem,jh,jb,aAQ,Bool.not_true,Bool.not_false,V,Y,h3];refine jg (jt x.calls 0 999999999) (by simp only [go_sem,jh,jb,aAQ,Bool.not_true,Bool.not_false,V,Y,h3]) λbD=>?_
 simp only [go_sem,jh,jb,aAQ,Bool.not_true,Bool.not_false,V,Y,h3];cases h4:decide (0<=x.calls/\x.calls<=999999999)
 ·have hE:egB x=false:=by simp only [egB,h4,Bool.and_false,Bool.false_and]
  simp only [go_sem,jh,jb,aAQ,Bool.not_true,Bool.not_false,V,Y,h3,h4,hE]
 by_cases h5:(x.waits.length:Int)>60
 ·have hE:egB x=false:=by simp [egB,h5]
  simp only [go_sem,jh,jb,aAQ,Bool.not_true,Bool.not_false,V,Y,h3,h4,h5,hE]
 simp only [go_sem,jh,jb,aAQ,Bool.not_true,Bool.not_false,V,Y,h3,h4,h5];refine jg (jt x.aAD 1 3) (by simp only [go_sem,jh,jb,aAQ,Bool.not_true,Bool.not_false,V,Y,h3,h4,h5]) λgR=>?_
 simp only [go_sem,jh,jb,aAQ,Bool.not_true,Bool.not_false,V,Y,h3,h4,h5];cases h6:decide (1<=x.aAD/\x.aAD<=3)
 ·have hE:egB x=false:=by simp only [egB,h6,Bool.and_false,Bool.false_and]
  simp only [go_sem,jh,jb,aAQ,Bool.not_true,Bool.not_false,h6,hE]
 simp only [go_sem,jh,jb,aAQ,Bool.not_true,Bool.not_false,h6];refine kp (λi:Nat=>St.of [(1,Bx 100 b1),(3,Ni i)] [(100,Bi b1 _ (jh x))]) (λi=>i<=x.waits.length/\∀k y,k<i->x.waits[k]?=some y->qx x k y=true) (λi=>x.waits.length-i) 0 (⟨aBR _,λk y h=>absurd h (Nat.not_lt_zero _)⟩) (jJ [100] (by simp only [go_sem,jh]<;>trivial)) ?_
 rintro k ⟨hk,bF⟩;by_cases aC:k<x.waits.length
 ·have aA:(k:Int)<x.waits.length:=by omega
  have a9:=jaQ k;obtain ⟨w,hx⟩:=jd aC;have hw:=qg k;have bQ:qx x k w=false->egB x=false:=λh=>by simp [egB,jgb hx h]
  simp only [go_sem,jh,jb,aAQ,Bool.not_true,Bool.not_false,aC,aA,a9,jz hx,jQ];refine jg (jt w.call 1 x.calls) (by simp only [go_sem,jh,jb,aAQ,Bool.not_true,Bool.not_false,aC,aA,a9,jz hx,jQ]) λpN=>?_
  simp only [go_sem,jh,jb,aAQ,Bool.not_true,Bool.not_false,aC,aA,a9,jz hx,jQ];cases h7:decide (1<=w.call/\w.call<=x.calls)
  ·have hE:=bQ (by simp only [qx,h7,Bool.false_and])
   simp only [go_sem,jh,jb,aAQ,Bool.not_true,Bool.not_false,h7,hE]
  cases k with
  |zero=>
   have hg:¬((0:Int)>0):=by omega
   have hf:qx x 0 w=true:=by simp only [qx,h7,Bool.and_true]
   simp only [go_sem,jh,jb,aAQ,Bool.not_true,Bool.not_false,h7,Int.natCast_zero,hg,hw];exact ⟨0+1,⟨aC,vL bF hx hf⟩,(jJ [100] (by simp only [go_sem,jh]<;>trivial)),by (try dsimp only);omega⟩
  |succ j=>
   have hg:((j+1:Nat):Int)>0:=by omega
   have c9:IntKind.i64.wrap (((j+1:Nat):Int)-1)=(j:Int):=by rw [kh (by omega) (by omega)];omega
   have eO:j<x.waits.length:=by omega
   have fM:=jaQ j;have eA:(j:Int)<x.waits.length:=by omega
   obtain ⟨v,hv⟩:=jd eO;by_cases h8:v.call>=w.call
   ·have hE:=bQ (by simp [qx,hv,h8])
    simp only [go_sem,jh,jb,aAQ,Bool.not_true,Bool.not_false,h7,hg,c9,eO,eA,fM,jz hv,jz hx,jQ,h8,aC,aA,a9,hE]
   ·have hf:qx x (j+1) w=true:=by simp only [qx,h7,hv,h8,decide_false,Bool.not_false,Bool.and_true]
    simp only [go_sem,jh,jb,aAQ,Bool.not_true,Bool.not_false,h7,hg,c9,eO,eA,fM,jz hv,jz hx,jQ,h8,aC,aA,a9,hw];exact ⟨j+1+1,⟨aC,vL bF hx hf⟩,(jJ [100] (by simp only [go_sem,jh]<;>trivial)),by (try dsimp only);omega⟩
 ·have aA:¬(k:Int)<x.waits.length:=by omega
  have hE:egB x=true:=by
   rw [egB,jdP (λj y hj hy=>bF j y (by omega) hy)];simp only [V,Y,h3,h4,h5,h6,decide_false,Bool.not_false,Bool.and_true]
  simp only [go_sem,jh,jb,aAQ,Bool.not_true,Bool.not_false,aA,hE]
def jb5:C:=iS [iA 1 (.box 42 10 (.t 0)),iA 2 wAL] (iS [aT 4 10 1,iA 5 (iK 23 [4]),iA 3 wAL,wAB 3 5] (iS [aF 6 8 3,iC (.st 1 [none] (.t 6) (oI 2))] (iS [aF 7 9 3,iC (.st 1 [none] (.t 7) (oF))] (iS [aT 8 10 3,wAB 2 8] .ret))))
theorem jdw:fnC Tryz.prog Tryz.f25=some (jb5,[.cell 2 true 10],9):=by kernel_rfl
def jb8:C:=iS [iA 1 (.box 42 10 (.t 0)),iA 2 wAL,iA 3 (.mov (.c (.slice none 0 0)))] (iS [aT 6 10 1,iA 7 (iK 23 [6]),iA 4 wAL,wAB 4 7] (.seq (.blk 0 (iS [aT 9 10 1,iA 10 (iK 24 [9]),aU 11 10,aM 12 11,iB 13 12 false (iF 8 1),iB 14 12 false (iL 13),iB 15 12 false (iQ .neq 3 14 1),iA 16 (iY 12 (oT) (.t 15)),aM 17 16,iB 18 17 false (iF 7 1),iB 19 17 false (iL 18),iB 20 17 false (iG 19),iB 21 17 false (iQ .eql 3 20 0),iA 22 (iY 17 (oT) (.t 21)),aM 8 22] (iD 8 (iS [aT 23 10 4,wAB 2 23,iA 3 (.mov (.c (.slice none 0 0)))] .ret) (iS [aF 25 9 1,aL 26 25,aM 24 26] (iD 24 (iS [aT 27 10 1,iA 28 (iK 25 [27]),wAB 2 28,iA 3 (.mov (.c (.slice none 0 0)))] .ret) .skip))))) (iS [aF 30 4 1,aT 31 1 30,iA 32 (.call 26 [.t 31,.c (.string ⟨⟨[108,111,103]⟩⟩)]),aM 29 32,aE 33 29 0,aE 34 29 1,aF 35 4 4,wAC 35 33] (iS [aF 36 7 4,aL 37 36,aM 5 37] (iS [aF 38 7 4,iC (.st 1 [some (5,67)] (.t 38) (.c (.slice none 0 0)))] (iS [aT 39 10 4,aM 40 5,wAB 2 39,aM 3 40] .ret))))))
theorem jdz:fnC Tryz.prog Tryz.f7=some (jb8,[.cell 2 true 10,.t 3],41):=by kernel_rfl
def jbQ:C:=iS [iA 1 (.box 42 10 (.t 0)),iA 2 wAL,iA 3 (.mov (.c (.slice none 0 0)))] (iS [aT 6 10 1,iA 7 (iK 17 [6]),iA 4 wAL,wAB 4 7] (iS [iA 8 (.bsl 67 5 0 [] []),aM 5 8] (.seq (iS [aT 9 10 1,iA 10 (iK 18 [9]),aU 11 10,aM 12 11,iB 13 12 false (iF 8 1),iB 14 12 false (iL 13),iB 15 12 false (iQ .neq 3 14 1),iA 16 (iY 12 (oT) (.t 15)),aM 17 16,iB 18 17 false (iF 7 1),iB 19 17 false (iL 18),iB 20 17 false (iG 19),iB 21 17 false (iQ .eql 3 20 0),iA 22 (iY 17 (oT) (.t 21))] (iD 22 (iS [aT 23 10 4,aM 24 5,wAB 2 23,aM 3 24] .ret) .skip)) (.seq (iS [aF 25 9 1,aL 26 25] (iD 26 (iS [aF 27 8 4,iC (.st 1 [none] (.t 27) (oI 2))] (iS [aF 28 9 4,iC (.st 1 [none] (.t 28) (oF))] (iS [aT 29 10 4,aM 30 5,wAB 2 29,aM 3 30] .ret))) .skip)) (iS [aF 32 4 4,aT 33 1 32,iA 34 (.call 19 [.t 33,.c (.string ⟨⟨[108,111,103]⟩⟩)]),aM 31 34,aE 35 31 0,aE 36 31 1,aF 37 4 4,wAC 37 35] (iS [aM 38 5,aF 39 7 4,wAH 39 38] (.seq (.dreg (tA 0 40 (iT 10 4) (tA 2 42 (iF 7 1) (tA 3 43 (iL 42) (tC 41 (.bsl 67 5 0 [] []) [3,2,0] (tC 44 (.app 67 5 40 (.t 41) (.t 43)) [0] (.alt (wAB 2 40) [] (tA 6 3 (iM 44) .done) .stop) .stop) .stop))))) .ret)))))))
theorem jdh:fnC Tryz.prog Tryz.f5=some (jbQ,[.cell 2 true 10,.t 3],45):=by kernel_rfl
def jqt (x:Eg):Eg:=⟨x.yard,x.disk,x.next,x.calls,x.waits,2,false⟩
theorem jfJ (x:Eg) (hy:jG x.yard<=2000000) (hd:x.disk.length<=2000000) (hw:x.waits.length<=2000000):jR Tryz.prog 25 [.agg (jh x)] (.agg (jh (jqt x))):=by
 refine pf_ jdw ?_;unfold jb5;simp only [go_sem,jh];intros;refine jg (vx x hy hd hw) (by simp only [go_sem,jh]) λdR=>?_
 simp only [go_sem,jh];intros;simp only [go_sem,jqt,jh]
noncomputable def jeu (x:Eg):Eg×List Wt:=if egB x=true/\x.aAD=1/\x.waits≠ [] then (if x.broken=true then (jqt x,[]) else (⟨x.yard,(qU x.disk ⟨⟨[108,111,103]⟩⟩).1,x.next,x.calls,[],x.aAD,x.broken⟩,x.waits)) else (x,[])
abbrev ZEg (b:Nat):Ob:=.box b 42 [.a (.v (.int .i64 0)),.a (.v (.int .i64 0)),.a (.v (.slice none 0 0)),.a (.v (.slice none 0 0)),.a (.v (.slice none 0 0)),.a (.v (.int .i64 0)),.a (.v (.int .i64 0)),.a (.v (.slice none 0 0)),.a (.v (.int .i64 0)),.a (.v (.bool false))]
abbrev EgB7 (b:Nat) (x:Eg) (L:List Fl) (e2 e3 e4:jl) (c:Cell):Ob:=.box b 42 [.a (.v (.int .i64 x.yard.now)),.a (.v (.int .i64 x.yard.seq)),.own (jX x.yard.aAE) e2,.own (jC x.yard.aAG) e3,.own (jm L) e4,.a (.v (.int .i64 x.next)),.a (.v (.int .i64 x.calls)),c,.a (.v (.int .i64 x.aAD)),.a (.v (.bool x.broken))]
theorem jfL (x:Eg) (hy:jG x.yard<=2000000) (hd:x.disk.length<=2000000) (hw:x.waits.length<=2000000):jR Tryz.prog 7 [.agg (jh x)] (.tup [(true,jh (jeu x).1),(false,[jn (jeu x).2])]):=by
 refine jhJ [[1,1,1,1],[1,1,1,1,1,1]] Tryz.func7 jdz (by simp) ?_
 unfold jb8;simp only [C.ghs,C.ghAt,List.foldr];simp only [go_sem,jh];intro b1 b2;refine jg (vx x hy hd hw) (by simp only [go_sem,jh]) λdR=>?_
 simp only [go_sem,jh];intro b4;refine jg (jeb x hy hd) (by simp only [go_sem,jh]) λlO=>?_
 simp only [go_sem,jh];have bQ:¬(egB x=true/\x.aAD=1/\x.waits≠ [])->jeu x=(x,[]):=λh=>if_neg h
 cases h:egB x
 ·rw [bQ (by simp [h])]
  simp only [go_sem,Bool.not_false,jh]
  apply jaf
  simp only [go_sem,jh]
 cases V:x.aAD !=1;rotate_left
 ·rw [bQ (by rintro ⟨-,Y,-⟩;simp [Y] at V)]
  simp only [go_sem,Bool.not_true,jh,V]
  apply jaf
  simp only [go_sem,jh]
 have dA:x.aAD=1:=by simpa using V
 cases Y:((x.waits.length:Int)==0);rotate_left
 ·have d9:x.waits=[]:=by
   have:(x.waits.length:Int)=0:=by simpa using Y
   exact List.length_eq_zero_iff.1 (by omega)
  rw [bQ (by rintro ⟨-,-,h3⟩;exact h3 d9)]
  simp only [go_sem,Bool.not_true,jh,V,Y]
  apply jaf
  simp only [go_sem,jh]
 have a7:x.waits≠ []:=λh3=>by rw [h3] at Y;cases Y
 cases eZ:x.broken;rotate_left
 ·have Z:jeu x=(jqt x,[]):=by rw [jeu,if_pos ⟨h,dA,a7⟩,if_pos eZ]
  rw [Z];simp only [go_sem,Bool.not_true,jh,V,Y,eZ];refine jg (jfJ x hy hd hw) (by simp only [go_sem,jh,eZ]) λpP=>?_
  simp only [go_sem,jh,eZ]
  apply jaf
  simp only [go_sem,jh]
 have Z:jeu x=(⟨x.yard,(qU x.disk ⟨⟨[108,111,103]⟩⟩).1,x.next,x.calls,[],x.aAD,x.broken⟩,x.waits):=by rw [jeu,if_pos ⟨h,dA,a7⟩,if_neg (by simp [eZ])]
 rw [Z];simp only [go_sem,Bool.not_true,jh,V,Y,eZ];refine jg (jea x.disk ⟨⟨[108,111,103]⟩⟩ hd) (by simp only [go_sem,jh]) λpO=>?_
 simp only [go_sem,jh];generalize (qU x.disk ⟨⟨[108,111,103]⟩⟩).1=L at*;refine jdS ?_;refine WkK.wk (s':=St.of [(2,Bx 200 b2),(4,Bx 400 b4)] [(200,ZEg b2),(400,EgB7 b4 x L (dR 2) (dR 3) (pO 0) (.own (jn x.waits) (dR 7)))]) (jJ [200,400] (by simp only [go_sem,jh,jH,eZ]<;>trivial)) ?_
 refine qT 400 7 97 (d:=jn x.waits) (η:=dR 7) rfl rfl (by decide) λx7=>?_
 refine WkK.wk (s':=St.of [(2,Bx 200 b2),(4,Bx 400 b4)] [(200,ZEg b2),(400,EgB7 b4 x L (dR 2) (dR 3) (pO 0) (.a (.v (dR 7 [])))),(97,.loose (jn x.waits) (dR 7))]) (jJ [200,400,97] (by simp only [go_sem,jh,jH]<;>trivial)) ?_
 refine WkK.of ?_;simp only [go_sem,x7];refine jdS ?_;refine WkK.wk (s':=St.of [(2,Bx 200 b2),(4,Bx 400 b4),(5,Hd 97 (dR 7))] [(200,ZEg b2),(400,EgB7 b4 x L (dR 2) (dR 3) (pO 0) (.a (.v (.slice none 0 0)))),(97,.loose (jn x.waits) (dR 7))]) (jJ [200,400,97] (by simp only [go_sem,jh,jH,x7]<;>trivial)) ?_
 refine WkK.of ?_;simp only [go_sem]
 apply jaf
 simp only [go_sem,jh,eZ]
theorem jfE (x:Eg) (hy:jG x.yard<=2000000) (hd:x.disk.length<=2000000) (hw:x.waits.length<=2000000):jR Tryz.prog 5 [.agg (jh x)] (.tup [(true,jh (jeu x).1),(false,[jn (jeu x).2])]):=by
 refine pf_ jdh ?_;unfold jbQ;simp only [go_sem,jh];intro b1 b2;refine jg (jeN x hy hd hw) (by simp only [go_sem,jh]) λdR=>?_
 simp only [go_sem,jh];intro b4 fQ;refine jg (jd7 x hy hd) (by simp only [go_sem,jh]) λlO=>?_
 simp only [go_sem,jh];have bQ:¬(egB x=true/\x.aAD=1/\x.waits≠ [])->jeu x=(x,[]):=λh=>if_neg h
 have m1:x.waits.length<=maxLen:=jco;have m2:x.waits.length*40<=140737488355328:=by omega
 cases h:egB x
 ·rw [bQ (by simp [h])]
  simp only [go_sem,Bool.not_false,jh]
  apply jaf
  simp only [go_sem,jh];rfl
 cases V:x.aAD !=1;rotate_left
 ·rw [bQ (by rintro ⟨-,Y,-⟩;simp [Y] at V)]
  simp only [go_sem,Bool.not_true,jh,V]
  apply jaf
  simp only [go_sem,jh];rfl
 have dA:x.aAD=1:=by simpa using V
 cases Y:((x.waits.length:Int)==0);rotate_left
 ·have d9:x.waits=[]:=by
   have:(x.waits.length:Int)=0:=by simpa using Y
   exact List.length_eq_zero_iff.1 (by omega)
  rw [bQ (by rintro ⟨-,-,h3⟩;exact h3 d9)]
  simp only [go_sem,Bool.not_true,jh,V,Y]
  apply jaf
  simp only [go_sem,jh];rfl
 have a7:x.waits≠ []:=λh3=>by rw [h3] at Y;cases Y
 cases eZ:x.broken;rotate_left
 ·have Z:jeu x=(jqt x,[]):=by rw [jeu,if_pos ⟨h,dA,a7⟩,if_pos eZ]
  rw [Z];simp only [go_sem,Bool.not_true,jh,V,Y,eZ]
  apply jaf
  simp only [go_sem,jh,jqt];rfl
 have Z:jeu x=(⟨x.yard,(qU x.disk ⟨⟨[108,111,103]⟩⟩).1,x.next,x.calls,[],x.aAD,x.broken⟩,x.waits):=by rw [jeu,if_pos ⟨h,dA,a7⟩,if_neg (by simp [eZ])]
 rw [Z];simp only [go_sem,Bool.not_true,jh,V,Y,eZ];refine jg (jd6 x.disk ⟨⟨[108,111,103]⟩⟩ hd) (by simp only [go_sem,jh]) λpO=>?_
 simp only [go_sem,jh];generalize (qU x.disk ⟨⟨[108,111,103]⟩⟩).1=L at*;simp only [go_sem,m1,m2,aCA,aBW,aBK,vc];intros
 apply jaf
 simp only [go_sem,jh,eZ];rfl
