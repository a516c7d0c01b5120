/- Parts. -/
import Derived.Test.YtekegiiikglhbaaGreatQW
import Derived.ChangeArms
set_option linter.all false
set_option maxRecDepth 100000
namespace Go.Proofs.YtekegiiikglhbaaGreat
theorem jfs {α:Type} {c t:α->Nat} {K:Nat} (h:∀x,c x<=K*t x+K):∀l:List α,jP c l<=K*jP t l+K*l.length
 |[]=>by simp [jP]
 |x::l=>by
  have V:=h x;have Y:=jfs h l;simp only [jP,aCE,List.sum_cons,aCG] at Y⊢;rw [Nat.mul_add,Nat.mul_add];omega
theorem b_cRn (r:Rn):cRn r<=16*qh r+16:=by
 simp only [cRn,qh,jcf];omega
theorem b_yd (y:Yd):cYd y<=16*jG y:=by
 have V:=jfs (c:=c4) (t:=kJ) (K:=16) (λl=>by simp only [c4,kJ];omega) y.aAE
 have Y:=jfs b_cRn y.aAG;have h3:jG y=(y.aAE.length+jP kJ y.aAE)+(y.aAG.length+jP qh y.aAG):=rfl;have h4:cYd y=jP c4 y.aAE+jP cRn y.aAG:=rfl;omega
@[go_sem] theorem jsR (y:Yd) (k:Int):(je2 y k).now=y.now:=(rfl)
@[go_sem] theorem jsQ (y:Yd) (k:Int):(je2 y k).seq=y.seq:=(rfl)
theorem qV (a b:ByteArray):(a.toList==b.toList)=decide (a=b):=by
 rw [ByteArray.toList_eq,ByteArray.toList_eq,Bool.eq_iff_iff,aDH,decide_eq_true_iff];constructor
 ·intro h;cases a;cases b;congr 1;exact Array.toList_inj.1 h
 ·rintro rfl;rfl
def jbX:C:=iS [iA 2 (.box 80 3 (.t 0)),iA 3 (.box 80 3 (.t 1)),aO 4 false] (.seq (iS [aF 5 0 2,aL 6 5,aF 7 0 3,aL 8 7,aP 9 .neq 9 6 8] (iD 9 (iS [aO 4 false] .ret) .skip)) (.seq (iS [aF 10 1 2,aL 11 10,aF 12 1 3,aL 13 12,aP 14 .neq 9 11 13] (iD 14 (iS [aO 4 false] .ret) .skip)) (.seq (iS [aF 15 2 2,aL 16 15,aF 17 2 3,aL 18 17,aP 19 .neq 3 16 18] (iD 19 (iS [aO 4 false] .ret) .skip)) (iS [aO 4 true] .ret))))
theorem jdo:fnC Tryz.prog Tryz.f92=some (jbX,[.t 4],20):=by kernel_rfl
def jaI:C:=iS [aO 4 false] (.seq (iS [aM 6 0,aG 7 6,aM 8 1,aG 9 8,aP 10 .neq 3 7 9] (iD 10 (iS [aO 4 false] .ret) .skip)) (.seq (iS [aN 5 0] (.blk 0 (.loop (.seq (iS [aM 11 5,aM 12 0,aG 13 12,aP 14 .lss 3 11 13] (iD 14 .skip (.exit 0))) (.seq (.blk 1 (.seq (.dreg (tA 0 17 (iM 0) (tA 1 18 (iM 5) (tA 2 19 (iI 3 17 18) (tA 3 20 (iT 3 19) (tA 4 21 (iM 1) (tA 5 22 (iM 5) (tA 6 23 (iI 3 21 22) (tA 7 24 (iT 3 23) (tC 25 (iK 92 [20,24]) [] (tA 9 26 (iU 25) .done) .stop)))))))))) (iD 26 (iS [aO 4 false] .ret) .skip))) (.reg [aM 15 5,aQ 16 .add 3 15 1,aM 5 16])))))) (iS [aO 4 true] .ret)))
theorem jcJ:fnC Tryz.prog Tryz.f55=some (jaI,[.t 4],27):=by kernel_rfl
def jbY:C:=iS [iA 2 (.box 39 1 (.t 0)),iA 3 (.box 39 1 (.t 1)),aO 4 false] (.seq (iS [aF 5 0 2,aL 6 5,aF 7 0 3,aL 8 7,iA 9 (iK 55 [6,8]),aU 10 9] (iD 10 (iS [aO 4 false] .ret) .skip)) (iS [aO 4 true] .ret))
theorem jdp:fnC Tryz.prog Tryz.f28=some (jbY,[.t 4],11):=by kernel_rfl
def jaH:C:=iS [iA 2 (.box 65 4 (.t 0)),iA 3 (.box 65 4 (.t 1)),aO 4 false] (.seq (iS [aF 5 0 2,aL 6 5,aF 7 0 3,aL 8 7,aP 9 .neq 3 6 8] (iD 9 (iS [aO 4 false] .ret) .skip)) (.seq (iS [aF 10 1 2,aL 11 10,aF 12 1 3,aL 13 12,aP 14 .neq 3 11 13] (iD 14 (iS [aO 4 false] .ret) .skip)) (.seq (iS [aF 15 2 2,aL 16 15,aF 17 2 3,aL 18 17,aP 19 .neq 3 16 18] (iD 19 (iS [aO 4 false] .ret) .skip)) (.seq (iS [aF 20 3 2,aL 21 20,aF 22 3 3,aL 23 22,aP 24 .neq 3 21 23] (iD 24 (iS [aO 4 false] .ret) .skip)) (iS [aO 4 true] .ret)))))
theorem jcI:fnC Tryz.prog Tryz.f56=some (jaH,[.t 4],25):=by kernel_rfl
def jbW:C:=iS [iA 2 (.box 67 5 (.t 0)),iA 3 (.box 67 5 (.t 1)),aO 4 false] (.seq (iS [aF 5 0 2,aL 6 5,aF 7 0 3,aL 8 7,aP 9 .neq 3 6 8] (iD 9 (iS [aO 4 false] .ret) .skip)) (.seq (iS [aF 10 1 2,aT 11 4 10,aF 12 1 3,aT 13 4 12,iA 14 (iK 56 [11,13]),aU 15 14] (iD 15 (iS [aO 4 false] .ret) .skip)) (iS [aO 4 true] .ret)))
theorem jdn:fnC Tryz.prog Tryz.f29=some (jbW,[.t 4],16):=by kernel_rfl
def jaG:C:=iS [aO 4 false] (.seq (iS [aM 6 0,aG 7 6,aM 8 1,aG 9 8,aP 10 .neq 3 7 9] (iD 10 (iS [aO 4 false] .ret) .skip)) (.seq (iS [aN 5 0] (.blk 0 (.loop (.seq (iS [aM 11 5,aM 12 0,aG 13 12,aP 14 .lss 3 11 13] (iD 14 .skip (.exit 0))) (.seq (.blk 1 (.seq (.dreg (tA 0 17 (iM 0) (tA 1 18 (iM 5) (tA 2 19 (iI 5 17 18) (tA 3 20 (iT 5 19) (tA 4 21 (iM 1) (tA 5 22 (iM 5) (tA 6 23 (iI 5 21 22) (tA 7 24 (iT 5 23) (tC 25 (iK 29 [20,24]) [] (tA 9 26 (iU 25) .done) .stop)))))))))) (iD 26 (iS [aO 4 false] .ret) .skip))) (.reg [aM 15 5,aQ 16 .add 3 15 1,aM 5 16])))))) (iS [aO 4 true] .ret)))
theorem jcH:fnC Tryz.prog Tryz.f9=some (jaG,[.t 4],27):=by kernel_rfl
def zK:C:=iS [iA 2 (.box 42 10 (.t 0)),iA 3 (.box 42 10 (.t 1)),aO 4 false] (.seq (iS [aF 5 0 2,aT 6 4 5,aF 7 0 3,aT 8 4 7,iA 9 (iK 27 [6,8]),aU 10 9] (iD 10 (iS [aO 4 false] .ret) .skip)) (.seq (iS [aF 11 4 2,aT 12 1 11,aF 13 4 3,aT 14 1 13,iA 15 (iK 28 [12,14]),aU 16 15] (iD 16 (iS [aO 4 false] .ret) .skip)) (.seq (iS [aF 17 5 2,aL 18 17,aF 19 5 3,aL 20 19,aP 21 .neq 3 18 20] (iD 21 (iS [aO 4 false] .ret) .skip)) (.seq (iS [aF 22 6 2,aL 23 22,aF 24 6 3,aL 25 24,aP 26 .neq 3 23 25] (iD 26 (iS [aO 4 false] .ret) .skip)) (.seq (iS [aF 27 7 2,aL 28 27,aF 29 7 3,aL 30 29,iA 31 (iK 9 [28,30]),aU 32 31] (iD 32 (iS [aO 4 false] .ret) .skip)) (.seq (iS [aF 33 8 2,aL 34 33,aF 35 8 3,aL 36 35,aP 37 .neq 3 34 36] (iD 37 (iS [aO 4 false] .ret) .skip)) (.seq (iS [aF 38 9 2,aL 39 38,aF 40 9 3,aL 41 40,iA 42 (.beq true (.t 39) (.t 41))] (iD 42 (iS [aO 4 false] .ret) .skip)) (iS [aO 4 true] .ret))))))))
theorem jbE:fnC Tryz.prog Tryz.f8=some (zK,[.t 4],43):=by kernel_rfl
def jbS:C:=iS [iA 1 (.box 105 3 (.t 0)),iA 2 (.alloc 80 [.string ⟨⟨[]⟩⟩,.string ⟨⟨[]⟩⟩,.int .i64 0])] (iS [iA 3 (.alloc 80 [.string ⟨⟨[]⟩⟩,.string ⟨⟨[]⟩⟩,.int .i64 0])] (iS [aF 4 0 1,aL 5 4,aF 6 0 3,wAA 6 5] (iS [aF 7 1 1,aL 8 7,aF 9 1 3,wAA 9 8] (iS [aF 10 2 1,aL 11 10,aF 12 2 3,wAA 12 11] (iS [aT 13 3 3,wAG 2 13] .ret)))))
theorem jdj:fnC Tryz.prog Tryz.f76=some (jbS,[.cell 2 true 3],14):=by kernel_rfl
def jaD:C:=iS [iA 2 (.mov (.c (.slice none 0 0)))] (iS [aM 5 0,aG 6 5,iA 7 (.mks 80 3 40 [D.val (.string ⟨⟨[]⟩⟩),D.val (.string ⟨⟨[]⟩⟩),D.val (.int .i64 0)] (.t 6) (.t 6)),aM 3 7] (.seq (iS [aN 4 0] (.blk 0 (.loop (.seq (iS [aM 8 4,aM 9 0,aG 10 9,aP 11 .lss 3 8 10] (iD 11 .skip (.exit 0))) (.seq (.blk 1 (.reg [aM 14 3,aM 15 4,aM 16 0,aM 17 4,aI 18 3 16 17,aT 19 3 18,iA 20 (iK 76 [19]),aI 21 3 14 15,wAG 21 20])) (.reg [aM 12 4,aQ 13 .add 3 12 1,aM 4 13])))))) (iS [aM 22 3,aM 2 22] .ret)))
theorem jcE:fnC Tryz.prog Tryz.f45=some (jaD,[.t 2],23):=by kernel_rfl
def jbT:C:=iS [iA 1 (.box 28 1 (.t 0)),iA 2 wAM] (iS [iA 3 wAM] (iS [aF 4 0 1,aL 5 4,iA 6 (iK 45 [5]),aF 7 0 3,wAC 7 6] (iS [aT 8 1 3,wAC 2 8] .ret)))
theorem jdk:fnC Tryz.prog Tryz.f21=some (jbT,[.cell 2 true 1],9):=by kernel_rfl
def jaC:C:=iS [iA 1 (.box 85 4 (.t 0)),iA 2 wAS] (iS [iA 3 wAS] (iS [aF 4 0 1,aL 5 4,aF 6 0 3,wAA 6 5] (iS [aF 7 1 1,aL 8 7,aF 9 1 3,wAA 9 8] (iS [aF 10 2 1,aL 11 10,aF 12 2 3,wAA 12 11] (iS [aF 13 3 1,aL 14 13,aF 15 3 3,wAA 15 14] (iS [aT 16 4 3,wAD 2 16] .ret))))))
theorem jcD:fnC Tryz.prog Tryz.f77=some (jaC,[.cell 2 true 4],17):=by kernel_rfl
def jbR:C:=iS [iA 1 (.box 87 5 (.t 0)),iA 2 wAR] (iS [iA 3 wAR] (iS [aF 4 0 1,aL 5 4,aF 6 0 3,wAA 6 5] (iS [aF 7 1 1,aT 8 4 7,iA 9 (iK 77 [8]),aF 10 1 3,wAD 10 9] (iS [aT 11 5 3,wAK 2 11] .ret))))
theorem jdi:fnC Tryz.prog Tryz.f46=some (jbR,[.cell 2 true 5],12):=by kernel_rfl
def jaB:C:=iS [iA 2 (.mov (.c (.slice none 0 0)))] (iS [aM 5 0,aG 6 5,iA 7 (.mks 67 5 40 [D.val (.int .i64 0),D.val (.int .i64 0),D.val (.int .i64 0),D.val (.int .i64 0),D.val (.int .i64 0)] (.t 6) (.t 6)),aM 3 7] (.seq (iS [aN 4 0] (.blk 0 (.loop (.seq (iS [aM 8 4,aM 9 0,aG 10 9,aP 11 .lss 3 8 10] (iD 11 .skip (.exit 0))) (.seq (.blk 1 (.reg [aM 14 3,aM 15 4,aM 16 0,aM 17 4,aI 18 5 16 17,aT 19 5 18,iA 20 (iK 46 [19]),aI 21 5 14 15,wAK 21 20])) (.reg [aM 12 4,aQ 13 .add 3 12 1,aM 4 13])))))) (iS [aM 22 3,aM 2 22] .ret)))
theorem jcC:fnC Tryz.prog Tryz.f22=some (jaB,[.t 2],23):=by kernel_rfl
def zF:C:=iS [iA 1 (.box 31 10 (.t 0)),iA 2 wAL] (iS [iA 3 wAL] (iS [aF 4 0 1,aT 5 4 4,iA 6 (iK 20 [5]),aF 7 0 3,wAE 7 6] (iS [aF 8 4 1,aT 9 1 8,iA 10 (iK 21 [9]),aF 11 4 3,wAC 11 10] (iS [aF 12 5 1,aL 13 12,aF 14 5 3,wAA 14 13] (iS [aF 15 6 1,aL 16 15,aF 17 6 3,wAA 17 16] (iS [aF 18 7 1,aL 19 18,iA 20 (iK 22 [19]),aF 21 7 3,wAH 21 20] (iS [aF 22 8 1,aL 23 22,aF 24 8 3,wAA 24 23] (iS [aF 25 9 1,aL 26 25,aF 27 9 3,wAA 27 26] (iS [aT 28 10 3,wAB 2 28] .ret)))))))))
theorem jbz:fnC Tryz.prog Tryz.f6=some (zF,[.cell 2 true 10],29):=by kernel_rfl
theorem jnC (x y:Fl):jR Tryz.prog 92 [.agg (jv x),.agg (jv y)] (.c (.val (.bool (decide (x=y))))):=by
 refine pf_ jdo ?_;unfold jbX;obtain ⟨a,b,c⟩:=x;obtain ⟨d,e,f⟩:=y
 have h:decide (Fl.mk a b c=Fl.mk d e f)=(decide (a=d)&&decide (b=e)&&(c==f)):=by
  rw [Bool.eq_iff_iff];simp [and_assoc]
 rw [h];simp only [go_sem,jv];intro b1 b2;cases V:decide (a=d)
 ·simp only [go_sem,qV,Bool.not_true,Bool.not_false,V]
 cases Y:decide (b=e)
 ·simp only [go_sem,qV,Bool.not_true,Bool.not_false,V,Y]
 by_cases h3:c=f
 ·subst h3
  simp only [go_sem,qV,Bool.not_true,Bool.not_false,V,Y,aBG,aCP]
 ·have eH:(c !=f)=true:=by simp [h3]
  have tY:(c==f)=false:=by simp [h3]
  simp only [go_sem,qV,Bool.not_true,Bool.not_false,V,Y,eH,tY]
theorem jlC (x y:List Fl) (hx:x.length<=4000000):jR Tryz.prog 55 [.c (jm x),.c (jm y)] (.c (.val (.bool (decide (x=y))))):=by
 refine pf_ jcJ ?_;unfold jaI;by_cases hl:x.length=y.length
 ·have Z:((x.length:Int) !=(y.length:Int))=false:=by simp [hl]
  simp only [go_sem,Z];refine kp (λi:Nat=>St.of [(0,Ro (jm x)),(1,Ro (jm y)),(5,Ni i)] []) (λi=>i<=x.length/\x.take i=y.take i) (λi=>x.length-i) 0 (⟨aBR _,rfl⟩) (qJ [] (by simp only [go_sem]<;>trivial)) ?_
  rintro k ⟨hk,ht⟩;by_cases aC:k<x.length
  ·have aA:(k:Int)<x.length:=by omega
   have oR:k<y.length:=by omega
   have mH:(k:Int)<y.length:=by omega
   have a9:=jaQ k;obtain ⟨a,ha⟩:=jd aC;obtain ⟨b,Z⟩:=jd oR;have hw:=qg k;simp only [go_sem,aC,aA,oR,mH,a9,jj ha,jj Z,jv];refine jg (jnC a b) (by simp only [go_sem,jv]) λη=>?_
   simp only [go_sem,jv];by_cases fJ:a=b
   ·have hd:decide (a=b)=true:=decide_eq_true fJ
    simp only [go_sem,hd,hw];exact ⟨k+1,⟨aC,by rw [aAX,aAX,ha,Z,ht,fJ]⟩,(qJ [] (by simp only [go_sem]<;>trivial)),by (try dsimp only);omega⟩
   ·have hd:decide (a=b)=false:=decide_eq_false fJ
    have cK:decide (x=y)=false:=decide_eq_false (by rintro rfl;rw [ha] at Z;exact fJ (aCV Z))
    simp only [go_sem,hd,cK]
  ·have aA:¬(k:Int)<x.length:=by omega
   have cK:decide (x=y)=true:=decide_eq_true (by rw [aAW (by omega),aAW (by omega)] at ht;exact ht)
   simp only [go_sem,aA,cK]
 ·have Z:((x.length:Int) !=(y.length:Int))=true:=by simp;omega
  have cK:decide (x=y)=false:=decide_eq_false (by rintro rfl;exact hl rfl)
  simp only [go_sem,Z,cK]
theorem jnD (x y:List Fl) (hx:x.length<=4000000):jR Tryz.prog 28 [.agg [jm x],.agg [jm y]] (.c (.val (.bool (decide (x=y))))):=by
 refine pf_ jdp ?_;unfold jbY;simp only [go_sem];intro b1 b2;refine kt (jlC x y hx) λη=>?_
 simp only [go_sem];cases h:decide (x=y)
 ·simp only [go_sem,h,Bool.not_true,Bool.not_false]
 ·simp only [go_sem,h,Bool.not_true,Bool.not_false]
theorem jlB (a b c d e f g h:Int):jR Tryz.prog 56 [.agg [iv a,iv b,iv c,iv d],.agg [iv e,iv f,iv g,iv h]] (.c (.val (.bool (a==e&&b==f&&c==g&&d==h)))):=by
 refine pf_ jcI ?_;unfold jaH;simp only [go_sem];intro b1 b2;cases V:a==e
 ·simp only [go_sem,bne,V,Bool.not_true,Bool.not_false,Bool.false_and]
 cases Y:b==f
 ·simp only [go_sem,bne,V,Y,Bool.not_true,Bool.not_false,Bool.false_and,Bool.true_and]
 cases h3:c==g
 ·simp only [go_sem,bne,V,Y,h3,Bool.not_true,Bool.not_false,Bool.false_and,Bool.true_and]
 cases h4:d==h
 ·simp only [go_sem,bne,V,Y,h3,h4,Bool.not_true,Bool.not_false,Bool.false_and,Bool.true_and]
 ·simp only [go_sem,bne,V,Y,h3,h4,Bool.not_true,Bool.not_false,Bool.false_and,Bool.true_and]
theorem jnB (x y:Wt):jR Tryz.prog 29 [.agg (jQ x),.agg (jQ y)] (.c (.val (.bool (decide (x=y))))):=by
 refine pf_ jdn ?_;unfold jbW;obtain ⟨a,b,c,d,e⟩:=x;obtain ⟨a',b',c',d',e'⟩:=y
 have h:decide (Wt.mk a b c d e=Wt.mk a' b' c' d' e')=(a==a'&&(b==b'&&c==c'&&d==d'&&e==e')):=by
  rw [Bool.eq_iff_iff];simp [and_assoc]
 rw [h];simp only [go_sem,jQ];intro b1 b2;cases V:a==a'
 ·simp only [go_sem,bne,V,Bool.not_true,Bool.not_false,Bool.false_and]
 simp only [go_sem,bne,V,Bool.not_true,Bool.not_false,Bool.false_and,Bool.true_and];refine kt (jlB b c d e b' c' d' e') λη=>?_
 simp only [go_sem];cases Y:(b==b'&&c==c'&&d==d'&&e==e')
 ·simp only [go_sem,Bool.not_true,Bool.not_false]
 ·simp only [go_sem,Bool.not_true,Bool.not_false]
theorem jgF (x y:List Wt) (hx:x.length<=4000000):jR Tryz.prog 9 [.c (jn x),.c (jn y)] (.c (.val (.bool (decide (x=y))))):=by
 refine pf_ jcH ?_;unfold jaG;by_cases hl:x.length=y.length
 ·have Z:((x.length:Int) !=(y.length:Int))=false:=by simp [hl]
  simp only [go_sem,Z];refine kp (λi:Nat=>St.of [(0,Ro (jn x)),(1,Ro (jn y)),(5,Ni i)] []) (λi=>i<=x.length/\x.take i=y.take i) (λi=>x.length-i) 0 (⟨aBR _,rfl⟩) (qJ [] (by simp only [go_sem]<;>trivial)) ?_
  rintro k ⟨hk,ht⟩;by_cases aC:k<x.length
  ·have aA:(k:Int)<x.length:=by omega
   have oR:k<y.length:=by omega
   have mH:(k:Int)<y.length:=by omega
   have a9:=jaQ k;obtain ⟨a,ha⟩:=jd aC;obtain ⟨b,Z⟩:=jd oR;have hw:=qg k;simp only [go_sem,aC,aA,oR,mH,a9,jz ha,jz Z,jQ];refine jg (jnB a b) (by simp only [go_sem,jQ]) λη=>?_
   simp only [go_sem,jQ];by_cases fJ:a=b
   ·have hd:decide (a=b)=true:=decide_eq_true fJ
    simp only [go_sem,hd,hw];exact ⟨k+1,⟨aC,by rw [aAX,aAX,ha,Z,ht,fJ]⟩,(qJ [] (by simp only [go_sem]<;>trivial)),by (try dsimp only);omega⟩
   ·have hd:decide (a=b)=false:=decide_eq_false fJ
    have cK:decide (x=y)=false:=decide_eq_false (by rintro rfl;rw [ha] at Z;exact fJ (aCV Z))
    simp only [go_sem,hd,cK]
  ·have aA:¬(k:Int)<x.length:=by omega
   have cK:decide (x=y)=true:=decide_eq_true (by rw [aAW (by omega),aAW (by omega)] at ht;exact ht)
   simp only [go_sem,aA,cK]
 ·have Z:((x.length:Int) !=(y.length:Int))=true:=by simp;omega
  have cK:decide (x=y)=false:=decide_eq_false (by rintro rfl;exact hl rfl)
  simp only [go_sem,Z,cK]
theorem jee (x:Eg) (hd:x.disk.length<=4000000) (hw:x.waits.length<=4000000):jR Tryz.prog 8 [.agg (jh x),.agg (jh x)] (.c (.val (.bool true))):=by
 refine pf_ jbE ?_;unfold zK;obtain ⟨y,d,n,c,w,s,b⟩:=x;dsimp only at hd hw;simp only [go_sem,jh,aBG,aCP];intro b1 b2;refine jg (jnA y y) (by simp only [go_sem,jb,aBG,aCP]) λη=>?_
 simp only [go_sem,jb,aBG,aCP];refine jg (jnD d d hd) (by simp only [go_sem,aBG,aCP]) λη=>?_
 simp only [go_sem,aBG,aCP];refine jg (jgF w w hw) (by simp only [go_sem,aBG,aCP]) λη=>?_
 simp only [go_sem,aBG,aCP]
theorem jnv (x:Fl):jR Tryz.prog 76 [.agg (jv x)] (.agg (jv x)):=by
 refine pf_ jdj ?_;unfold jbS;simp only [go_sem,jv]
theorem jlx (x:List Fl) (hx:x.length<=4000000):jR Tryz.prog 45 [.c (jm x)] (.c (jm x)):=by
 refine pf_ jcE ?_;unfold jaD;simp only [go_sem];rw [jfx];refine ⟨.i64,.i64,x.length,by simp only [go_sem],by simp only [go_sem],by omega,by unfold maxLen;omega,λη=>?_⟩
 simp only [go_sem,jr7,<-va];refine vn (λi:Nat×jl=>St.of [(0,Ro (jm x)),(3,Hd 700 i.2),(4,Ni i.1)] [(700,.loose (jm (jcd x ⟨⟨#[]⟩,⟨#[]⟩,0⟩ i.1)) i.2)]) (λi=>i.1<=x.length) (λi=>x.length-i.1) (0,η) (jJ [700]) ?_
 rintro ⟨k,eI⟩ hk;dsimp only at hk;by_cases aC:k<x.length
 ·have aA:(k:Int)<x.length:=by omega
  have a9:=jaQ k;obtain ⟨a,ha⟩:=jd aC;have hw:=qg k;have d8:=vQ (z:=⟨⟨#[]⟩,⟨#[]⟩,0⟩) ha;have sK:=kH x ⟨⟨#[]⟩,⟨#[]⟩,0⟩ k hk;have oV:k<(jcd x ⟨⟨#[]⟩,⟨#[]⟩,0⟩ k).length:=by omega
  simp only [go_sem,aC,aA,a9,jj ha,jv];refine jg (jnv a) (by simp only [go_sem,jv]) λη=>?_
  simp only [go_sem,jv];simp only [go_sem,sK,aC,aA,qY oV,jpC _ _ _ oV,d8,hw,jgk];exact je1 (k+1,eI) (jJ [700])
 ·have aA:¬(k:Int)<x.length:=by omega
  obtain rfl:k=x.length:=by omega
  rw [vR];simp only [go_sem,aA]
theorem jnw (x:List Fl) (hx:x.length<=4000000):jR Tryz.prog 21 [.agg [jm x]] (.agg [jm x]):=by
 refine pf_ jdk ?_;unfold jbT;simp only [go_sem];intros;refine kt (jlx x hx) λη=>?_
 simp only [go_sem]
theorem jlw (a b c d:Int):jR Tryz.prog 77 [.agg [iv a,iv b,iv c,iv d]] (.agg [iv a,iv b,iv c,iv d]):=by
 refine pf_ jcD ?_;unfold jaC;simp only [go_sem]
theorem jnu (x:Wt):jR Tryz.prog 46 [.agg (jQ x)] (.agg (jQ x)):=by
 refine pf_ jdi ?_;unfold jbR;simp only [go_sem,jQ];intros;refine kt (jlw x.code x.run x.aAI x.tri) λη=>?_
 simp only [go_sem]
theorem jlv (x:List Wt) (hx:x.length<=4000000):jR Tryz.prog 22 [.c (jn x)] (.c (jn x)):=by
 refine pf_ jcC ?_;unfold jaB;simp only [go_sem];rw [jfx];refine ⟨.i64,.i64,x.length,by simp only [go_sem],by simp only [go_sem],by omega,by unfold maxLen;omega,λη=>?_⟩
 simp only [go_sem,jr6,<-va];refine vn (λi:Nat×jl=>St.of [(0,Ro (jn x)),(3,Hd 700 i.2),(4,Ni i.1)] [(700,.loose (jn (jcd x ⟨0,0,0,0,0⟩ i.1)) i.2)]) (λi=>i.1<=x.length) (λi=>x.length-i.1) (0,η) (jJ [700]) ?_
 rintro ⟨k,eI⟩ hk;dsimp only at hk;by_cases aC:k<x.length
 ·have aA:(k:Int)<x.length:=by omega
  have a9:=jaQ k;obtain ⟨a,ha⟩:=jd aC;have hw:=qg k;have d8:=vQ (z:=⟨0,0,0,0,0⟩) ha;have sK:=kH x ⟨0,0,0,0,0⟩ k hk;have oV:k<(jcd x ⟨0,0,0,0,0⟩ k).length:=by omega
  simp only [go_sem,aC,aA,a9,jz ha,jQ];refine jg (jnu a) (by simp only [go_sem,jQ]) λη=>?_
  simp only [go_sem,jQ];simp only [go_sem,sK,aC,aA,jgZ oV,jpw _ _ _ _ _ oV,d8,hw,jgk];exact je1 (k+1,eI) (jJ [700])
 ·have aA:¬(k:Int)<x.length:=by omega
  obtain rfl:k=x.length:=by omega
  rw [vR];simp only [go_sem,aA]
theorem jjp (x:Eg) (hy:jG x.yard<=2000000) (hd:x.disk.length<=4000000) (hw:x.waits.length<=4000000):jR Tryz.prog 6 [.agg (jh x)] (.agg (jh x)):=by
 refine pf_ jbz ?_;unfold zF;simp only [go_sem,jh];intros;refine kt (jnt x.yard hy) λdR=>?_
 simp only [go_sem,jb];intros;refine kt (jnw x.disk hd) λlO=>?_
 simp only [go_sem,jb];refine kt (jlv x.waits hw) λpP=>?_
 simp only [go_sem,jb]
def jcY:C:=iS [aO 6 false] (iS [aM 7 0,aM 8 1,aP 9 .geq 3 7 8,aM 10 9,iB 11 10 true (iM 0),iB 12 10 true (iM 2),iB 13 10 true (iP .leq 3 11 12),iA 14 (iY 10 (.t 13) (oF)),aM 6 14] .ret)
theorem jew:fnC Tryz.prog Tryz.f41=some (jcY,[.t 6],15):=by kernel_rfl
def jbZ:C:=iS [aO 6 false] (iS [aM 7 0,aM 8 1,aP 9 .geq 3 7 8,aM 10 9,iB 11 10 true (iM 0),iB 12 10 true (iM 2),iB 13 10 true (iP .leq 3 11 12),iA 14 (iY 10 (.t 13) (oF)),aM 6 14] .ret)
theorem jdq:fnC Tryz.prog Tryz.f51=some (jbZ,[.t 6],15):=by kernel_rfl
theorem jt (a b c:Int):jR Tryz.prog 41 [.c (.val (.int .i64 a)),.c (.val (.int .i64 b)),.c (.val (.int .i64 c))] (.c (.val (.bool (decide (b<=a/\a<=c))))):=by
 refine pf_ jew ?_;unfold jcY;by_cases h:b<=a
 ·simp only [go_sem,h]
 ·simp only [go_sem,h]
theorem jq (a b c:Int):jR Tryz.prog 51 [.c (.val (.int .i64 a)),.c (.val (.int .i64 b)),.c (.val (.int .i64 c))] (.c (.val (.bool (decide (b<=a/\a<=c))))):=by
 refine pf_ jdq ?_;unfold jbZ;by_cases h:b<=a
 ·simp only [go_sem,h]
 ·simp only [go_sem,h]
theorem byte_ {v:Nat} (h:v<256):D.val (.int .u8 (IntKind.u8.wrap (v:Int)))=zU (UInt8.ofNat v):=by
 have:IntKind.u8.wrap (v:Int)=v:=IntWalk.u8_in _ (by omega)
 rw [this];simp [zU,Nat.mod_eq_of_lt h]
def jbU:C:=iS [iA 2 (.box 105 3 (.t 0)),aN 4 0] (iS [aM 5 1,aF 6 0 2,aL 7 6,iA 8 (.len true (.t 7)),aP 9 .sub 3 5 8,aM 1 9] (.seq (iS [aM 10 1,aQ 11 .lss 3 10 0] (iD 11 (iS [aN 4 (-1)] .ret) .skip)) (iS [aM 12 1,aF 13 1 2,aL 14 13,iA 15 (.len true (.t 14)),aP 16 .sub 3 12 15,aM 1 16] (.seq (iS [aM 17 1,aQ 18 .lss 3 17 0] (iD 18 (iS [aN 4 (-1)] .ret) .skip)) (iS [aM 19 1,aM 4 19] .ret)))))
theorem jdl:fnC Tryz.prog Tryz.f65=some (jbU,[.t 4],20):=by kernel_rfl
def jaF:C:=iS [aN 4 0] (iS [aM 6 1,aM 7 0,aG 8 7,aP 9 .sub 3 6 8,aM 1 9] (.seq (iS [aM 10 1,aQ 11 .lss 3 10 0] (iD 11 (iS [aN 4 (-1)] .ret) .skip)) (.seq (iS [aN 5 0] (.blk 0 (.loop (.seq (iS [aM 12 5,aM 13 0,aG 14 13,aP 15 .lss 3 12 14] (iD 15 .skip (.exit 0))) (.seq (.blk 1 (iS [aM 18 0,aM 19 5,aI 20 3 18 19,aT 21 3 20,aM 22 1,iA 23 (iK 65 [21,22]),aM 1 23] (iS [aM 24 1,aQ 25 .lss 3 24 0] (iD 25 (iS [aN 4 (-1)] .ret) .skip)))) (.reg [aM 16 5,aQ 17 .add 3 16 1,aM 5 17])))))) (iS [aM 26 1,aM 4 26] .ret))))
theorem jcG:fnC Tryz.prog Tryz.f36=some (jaF,[.t 4],27):=by kernel_rfl
def jbV:C:=iS [iA 2 (.box 28 1 (.t 0)),aN 4 0] (iS [aF 5 0 2,aL 6 5,aM 7 1,iA 8 (iK 36 [6,7]),aM 1 8] (.seq (iS [aM 9 1,aQ 10 .lss 3 9 0] (iD 10 (iS [aN 4 (-1)] .ret) .skip)) (iS [aM 11 1,aM 4 11] .ret)))
theorem jdm:fnC Tryz.prog Tryz.f15=some (jbV,[.t 4],12):=by kernel_rfl
def jaE:C:=iS [aN 4 0] (iS [aM 5 1,aM 6 0,aG 7 6,aP 8 .sub 3 5 7,aM 1 8] (.seq (iS [aM 9 1,aQ 10 .lss 3 9 0] (iD 10 (iS [aN 4 (-1)] .ret) .skip)) (iS [aM 11 1,aM 4 11] .ret)))
theorem jcF:fnC Tryz.prog Tryz.f16=some (jaE,[.t 4],12):=by kernel_rfl
def zG:C:=iS [iA 2 (.box 31 10 (.t 0)),aN 4 0] (iS [aF 5 0 2,aT 6 4 5,aM 7 1,iA 8 (iK 14 [6,7]),aM 1 8] (.seq (iS [aM 9 1,aQ 10 .lss 3 9 0] (iD 10 (iS [aN 4 (-1)] .ret) .skip)) (iS [aF 11 4 2,aT 12 1 11,aM 13 1,iA 14 (iK 15 [12,13]),aM 1 14] (.seq (iS [aM 15 1,aQ 16 .lss 3 15 0] (iD 16 (iS [aN 4 (-1)] .ret) .skip)) (iS [aF 17 7 2,aL 18 17,aM 19 1,iA 20 (iK 16 [18,19]),aM 1 20] (.seq (iS [aM 21 1,aQ 22 .lss 3 21 0] (iD 22 (iS [aN 4 (-1)] .ret) .skip)) (iS [aM 23 1,aM 4 23] .ret)))))))
theorem jbA:fnC Tryz.prog Tryz.f4=some (zG,[.t 4],24):=by kernel_rfl
def joA (x:Fl):Prop:=x.name.size<=9223372036854775807/\x.data.size<=9223372036854775807
theorem jny (x:Fl) (left:Int) (h0:0<=left) (V:left<=1048576) (hs:joA x):jR Tryz.prog 65 [.agg (jv x),.c (.val (.int .i64 left))] (.c (.val (.int .i64 (szf (zj x) left)))):=by
 refine pf_ jdl ?_;unfold jbU;obtain ⟨a,b,c⟩:=x;obtain ⟨ha,Z⟩:=hs;dsimp only at ha Z;have hw:IntKind.i64.wrap (left-(a.size:Int))=left-(a.size:Int):=jdD;unfold szf zj;simp only [go_sem,jv,hw];intros;by_cases Y:left-(a.size:Int)<0
 ·have h3:¬(((a.size+b.size:Nat):Int)<=left):=by omega
  simp only [go_sem,Y,h3]
 have dX:IntKind.i64.wrap (left-(a.size:Int)-(b.size:Int))=left-(a.size:Int)-(b.size:Int):=jdD;by_cases h4:left-(a.size:Int)-(b.size:Int)<0
 ·have h3:¬(((a.size+b.size:Nat):Int)<=left):=by omega
  simp only [go_sem,Y,h3,dX,h4]
 ·have h3:(((a.size+b.size:Nat):Int)<=left):=by omega
  have h5:left-((a.size+b.size:Nat):Int)=left-(a.size:Int)-(b.size:Int):=by omega
  simp only [go_sem,Y,h3,dX,h4,h5]
theorem jlz (x:List Fl) (left:Int) (h0:0<=left) (V:left<=1048576) (hs:∀f∈x,joA f) (hx:x.length<=9223372036854775807):jR Tryz.prog 36 [.c (jm x),.c (.val (.int .i64 left))] (.c (.val (.int .i64 (szf (kW x) left)))):=by
 refine pf_ jcG ?_;unfold jaF;have hw:IntKind.i64.wrap (left-(x.length:Int))=left-(x.length:Int):=jdD;simp only [go_sem,hw];by_cases Y:left-(x.length:Int)<0
 ·have h3:szf (kW x) left=-1:=by unfold szf kW;rw [if_neg (by omega)]
  simp only [go_sem,Y,h3]
 simp only [go_sem,Y];refine kp (λi:Nat=>St.of [(0,Ro (jm x)),(1,Ni (left-(x.length:Int)-(jP zj (x.take i):Nat))),(5,Ni i)] []) (λi=>i<=x.length/\(jP zj (x.take i):Int)<=left-x.length) (λi=>x.length-i) 0 (⟨aBR _,by simp [jP];omega⟩) (qJ [] (by simp only [go_sem,aCK,jP,List.map_nil,List.sum_nil,Int.natCast_zero,Int.sub_zero]<;>trivial)) ?_
 rintro k ⟨hk,ht⟩;by_cases aC:k<x.length
 ·have aA:(k:Int)<x.length:=by omega
  have a9:=jaQ k;obtain ⟨a,ha⟩:=jd aC;have hw:=qg k;have eE:=kj (tot:=zj) ha;have cT:=kS zj x (k+1);simp only [go_sem,aC,aA,a9,jj ha,jv];refine jg (jny a (left-(x.length:Int)-(jP zj (x.take k):Nat)) (by omega) (by omega) (hs a (aAY ha))) (by simp only [go_sem,jv]) λη=>?_
  simp only [go_sem,jv];rcases jO (zj a) (left-(x.length:Int)-(jP zj (x.take k):Nat)) with ⟨h4,h5⟩|⟨h4,h5⟩
  ·have h6:¬(left-(x.length:Int)-(jP zj (x.take k):Nat)-(zj a:Nat)<0):=by omega
   have h7:left-(x.length:Int)-(jP zj (x.take k):Nat)-(zj a:Nat)=left-(x.length:Int)-(jP zj (x.take (k+1)):Nat):=by omega
   simp only [go_sem,h5,h6,hw];rw [h7];exact ⟨k+1,⟨aC,by omega⟩,(qJ [] (by simp only [go_sem]<;>trivial)),by (try dsimp only);omega⟩
  ·have h6:szf (kW x) left=-1:=by unfold szf kW;rw [if_neg (by omega)]
   have h7:((-1:Int)<0)=True:=by simp
   simp only [go_sem,h5,h6,h7]
 ·have aA:¬(k:Int)<x.length:=by omega
  obtain rfl:k=x.length:=by omega
  rw [aBL] at ht;have h6:szf (kW x) left=left-(x.length:Int)-(jP zj x:Nat):=by unfold szf kW;rw [if_pos (by omega)];omega
  simp only [go_sem,aA,h6,aBL]
theorem jnz (x:List Fl) (left:Int) (h0:0<=left) (V:left<=1048576) (hs:∀f∈x,joA f) (hx:x.length<=9223372036854775807):jR Tryz.prog 15 [.agg [jm x],.c (.val (.int .i64 left))] (.c (.val (.int .i64 (szf (kW x) left)))):=by
 refine pf_ jdm ?_;unfold jbV;simp only [go_sem];intros;refine kt (jlz x left h0 V hs hx) λη=>?_
 simp only [go_sem];rcases jO (kW x) left with ⟨h4,h5⟩|⟨h4,h5⟩
 ·have h6:¬(left-(kW x:Nat)<0):=by omega
  simp only [go_sem,h5,h6]
 ·have h7:((-1:Int)<0)=True:=by simp
  simp only [go_sem,h5,h7]
theorem jly (x:List Wt) (left:Int) (h0:0<=left) (V:left<=1048576) (hx:x.length<=9223372036854775807):jR Tryz.prog 16 [.c (jn x),.c (.val (.int .i64 left))] (.c (.val (.int .i64 (szf x.length left)))):=by
 refine pf_ jcF ?_;unfold jaE;have hw:IntKind.i64.wrap (left-(x.length:Int))=left-(x.length:Int):=jdD;rcases jO x.length left with ⟨h4,h5⟩|⟨h4,h5⟩
 ·have h6:¬(left-(x.length:Int)<0):=by omega
  simp only [go_sem,h5,h6,hw]
 ·have h6:left-(x.length:Int)<0:=by omega
  simp only [go_sem,h5,h6,hw]
theorem jjq (x:Eg) (left:Int) (h0:0<=left) (V:left<=1048576) (hs:∀f∈x.disk,joA f) (hx:x.disk.length<=9223372036854775807) (hw:x.waits.length<=9223372036854775807):jR Tryz.prog 4 [.agg (jh x),.c (.val (.int .i64 left))] (.c (.val (.int .i64 (szf (jft x) left)))):=by
 refine pf_ jbA ?_;unfold zG;have h7:((-1:Int)<0)=True:=by simp
 have hT:jft x=jG x.yard+kW x.disk+x.waits.length:=rfl;simp only [go_sem,jh];intros;refine kt (jnx x.yard left h0 V) λη=>?_
 simp only [go_sem,jb];rcases jO (jG x.yard) left with ⟨h4,h5⟩|⟨h4,h5⟩
 ·have h6:¬(left-(jG x.yard:Nat)<0):=by omega
  simp only [go_sem,h5,h6];refine kt (jnz x.disk (left-(jG x.yard:Nat)) (by omega) (by omega) hs hx) λη=>?_
  simp only [go_sem];rcases jO (kW x.disk) (left-(jG x.yard:Nat)) with ⟨h8,h9⟩|⟨h8,h9⟩
  ·have eD:¬(left-(jG x.yard:Nat)-(kW x.disk:Nat)<0):=by omega
   simp only [go_sem,h9,eD];refine kt (jly x.waits (left-(jG x.yard:Nat)-(kW x.disk:Nat)) (by omega) (by omega) hw) λη=>?_
   simp only [go_sem];rcases jO x.waits.length (left-(jG x.yard:Nat)-(kW x.disk:Nat)) with ⟨fB,dN⟩|⟨fB,dN⟩
   ·have tZ:¬(left-(jG x.yard:Nat)-(kW x.disk:Nat)-(x.waits.length:Nat)<0):=by omega
    have mY:szf (jft x) left=left-(jG x.yard:Nat)-(kW x.disk:Nat)-(x.waits.length:Nat):=by unfold szf;rw [if_pos (by omega)];omega
    simp only [go_sem,dN,tZ,mY]
   ·have mY:szf (jft x) left=-1:=by unfold szf;rw [if_neg (by omega)]
    simp only [go_sem,dN,h7,mY]
  ·have mY:szf (jft x) left=-1:=by unfold szf;rw [if_neg (by omega)]
   simp only [go_sem,h9,h7,mY]
 ·have mY:szf (jft x) left=-1:=by unfold szf;rw [if_neg (by omega)]
  simp only [go_sem,h5,h7,mY]
open Go.RowKit Go.ChangeShapes Go.WideShapes Go.Deep Go.ChangeAt
theorem jrB {P:Program} {t:TypeId} (ht:P.underlying t=some .string):ReadsAs P t (λs=>[sv s]) (λs=>s.size<=9223372036854775807):=by
 intro H enc w base spare bN n cs y hy;obtain ⟨s,rfl,_,hw⟩:=DataW.trod_string ht hy;exact ⟨s,by unfold maxLen at hw;omega,[],RepL.val_ RepL.nil_⟩
theorem jpt {P:Program} {t:TypeId} (ht:P.underlying t=some .bool):ReadsAs P t (λb=>[D.val (.bool b)]) (λ_=>True):=by
 intro H enc w base spare bN n cs y hy;obtain ⟨s,rfl,_⟩:=DataW.trod_bool ht hy;exact ⟨s,trivial,[],RepL.val_ RepL.nil_⟩
theorem joF {P:Program} {t:TypeId} {α:Type} {E:α->List D} {size:Nat} {ty:TypeId} {W:List α->Prop} (h:ReadsAs P t (λxs:List α=>[.sl size ty (xs.flatMap E)]) W) (hl:∀x,(E x).length=size) (hs:0<size):
 ReadsAs P t (λxs:List α=>[.sl size ty (xs.flatMap E)]) (λxs=>W xs/\xs.length<=9223372036854775807):=by
 intro H enc w base spare bN n cs y hy;obtain ⟨xs,hx,S,hr⟩:=h H enc w base spare bN n cs y hy;obtain ⟨v,vs',S1,S2,hv,hS,V,Y⟩:=id hr;obtain ⟨A,c,rfl,h3,h4,_⟩:=Rep.open_ hl hs V;exact ⟨xs,⟨hx,by unfold maxLen at h4;omega⟩,_,hr⟩
theorem jlo:ReadsAs Tryz.prog 9 (λs=>[sv s]) (λs=>s.size<=9223372036854775807):=jrB (by kernel_rfl)
theorem rBool:ReadsAs Tryz.prog 4 (λb=>[D.val (.bool b)]) (λ_=>True):=jpt (by kernel_rfl)
theorem rFile:ReadsAs Tryz.prog 105 jv joA:=
 (kC Tryz.underlying105 (by kernel_rfl) (jw jlo (jw jlo (jw jci zx)))).map (λp=>⟨p.1,p.2.1,p.2.2.1⟩) (λ_=>rfl) (λ_ h=>⟨h.1,h.2.1⟩)
theorem jrK:ReadsAs Tryz.prog 26 (λl=>[jm l]) (λl=>(∀e∈l,joA e)/\l.length<=9223372036854775807):=
 joF (vN (size:=3) (ty:=tFl) Tryz.underlying26 rFile (by kernel_rfl) (λ_=>rfl) (by decide)) (λ_=>rfl) (by decide)
theorem rDisk:ReadsAs Tryz.prog 28 (λl=>[jm l]) (λl=>(∀e∈l,joA e)/\l.length<=9223372036854775807):=
 (kC Tryz.underlying28 (by kernel_rfl) (jw jrK zx)).map (λp=>p.1) (λ_=>rfl) (λ_ h=>h.1)
theorem jrJ:ReadsAs Tryz.prog 85 (λq:Int×Int×Int×Int=>[iv q.1,iv q.2.1,iv q.2.2.1,iv q.2.2.2]) (λ_=>True):=
 (kC Tryz.underlying85 (by kernel_rfl) (jw jci (jw jci (jw jci (jw jci zx))))).map (λp=>(p.1,p.2.1,p.2.2.1,p.2.2.2.1)) (λ_=>rfl) (λ_ h=>trivial)
theorem rWait:ReadsAs Tryz.prog 87 jQ (λ_=>True):=
 (kC Tryz.underlying87 (by kernel_rfl) (jw jci (jw jrJ zx))).map (λp=>⟨p.1,p.2.1.1,p.2.1.2.1,p.2.1.2.2.1,p.2.1.2.2.2⟩) (λ_=>rfl) (λ_ h=>trivial)
theorem jrH:ReadsAs Tryz.prog 29 (λl=>[jn l]) (λl=>(∀e∈l,True)/\l.length<=9223372036854775807):=
 joF (vN (size:=5) (ty:=tWt) Tryz.underlying29 rWait (by kernel_rfl) (λ_=>rfl) (by decide)) (λ_=>rfl) (by decide)
def egOk (x:Eg):Prop:=(∀f∈x.disk,joA f)/\x.disk.length<=9223372036854775807/\x.waits.length<=9223372036854775807
theorem jpv:ReadsAs Tryz.prog 31 jh egOk:=
 (kC Tryz.underlying31 (by kernel_rfl) (jw rYard (jw rDisk (jw jci (jw jci (jw jrH (jw jci (jw rBool zx)))))))).map (λp=>⟨p.1,p.2.1,p.2.2.1,p.2.2.2.1,p.2.2.2.2.1,p.2.2.2.2.2.1,p.2.2.2.2.2.2.1⟩) (λ_=>by simp [jh,jb]) (λ_ h=>⟨h.2.1.1,h.2.1.2,h.2.2.2.2.1.2⟩)
