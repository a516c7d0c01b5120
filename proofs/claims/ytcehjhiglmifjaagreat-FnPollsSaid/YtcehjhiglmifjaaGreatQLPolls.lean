/- Parts. -/
import Derived.Test.YtcehjhiglmifjaaGreatQDrawL
import Derived.Test.YtcehjhiglmifjaaGreatQLDeeds
import Derived.Test.YtcehjhiglmifjaaGreatQPollsP
set_option linter.all false
set_option maxHeartbeats 16000000
set_option maxRecDepth 100000
namespace Go.Proofs.YtcehjhiglmifjaaGreat
open Go.RowKit Go.Sort
abbrev TkB (b:Nat) (x:Tk):Ob:=.box b 46 [.a (.v (.int .i64 x.aOG)),.a (.v (.int .i64 x.aOO)),.a (.v (.int .i64 x.tri)),.a (.v (.int .i64 x.til))]
def jfo:C:=iS [aO 2 false] (.seq (iS [aM 17 0,iA 18 (iK 11 [17])] (iD 18 (iS [aO 2 true] .ret) .skip)) (iS [aM 19 0,iA 20 (iK 12 [19]),iA 3 wAL,wAA 3 20] (iS [aM 21 0,iA 22 (iK 12 [21]),iA 4 wAL,wAA 4 22] (iS [aM 23 0,iA 24 (iK 13 [23]),aM 5 24] (iS [aM 25 5,iA 26 (.ia 1 (.t 25) (oI 0)),aL 27 26,aQ 28 .rem 3 27 100,aM 6 28] (.seq (.dreg (tA 0 30 (iT 4 3) (tA 1 31 (iM 6) (tA 2 32 (iM 5) (tA 3 33 (.ia 1 (.t 32) (oI 1)) (tA 4 34 (iL 33) (tC 35 (iK 14 [30,31,34]) [] (tA 6 29 (iM 35) (tA 7 36 (iE 29 0) (tA 8 37 (iE 29 1) (tC 7 wAL [8,7,6,4,3,2,1,0] (tC 8 wAO [8,7,6,4,3,2,1,0] (.alt (wAA 7 36) [8] (.alt (wAB 8 37) [] .done .stop) .stop) .stop) (tC 8 wAO [8,7,6,4,3,2,1,0] (tC 7 wAL [8,7,6,4,3,2,1,0] (.alt (wAA 7 36) [8] (.alt (wAB 8 37) [] .done .stop) .stop) .stop) .stop))))) (tC 7 wAL [4,3,2,1,0] (tC 35 (iK 14 [30,31,34]) [] (tA 6 29 (iM 35) (tA 7 36 (iE 29 0) (tA 8 37 (iE 29 1) (tC 8 wAO [8,7,6,4,3,2,1,0] (.alt (wAA 7 36) [8] (.alt (wAB 8 37) [] .done .stop) .stop) .stop)))) (tC 8 wAO [4,3,2,1,0] (tC 35 (iK 14 [30,31,34]) [] (tA 6 29 (iM 35) (tA 7 36 (iE 29 0) (tA 8 37 (iE 29 1) (.alt (wAA 7 36) [8] (.alt (wAB 8 37) [] .done .stop) .stop)))) .stop) .stop)) (tC 8 wAO [4,3,2,1,0] (tC 35 (iK 14 [30,31,34]) [] (tA 6 29 (iM 35) (tA 7 36 (iE 29 0) (tA 8 37 (iE 29 1) (tC 7 wAL [8,7,6,4,3,2,1,0] (.alt (wAA 7 36) [8] (.alt (wAB 8 37) [] .done .stop) .stop) .stop)))) (tC 7 wAL [4,3,2,1,0] (tC 35 (iK 14 [30,31,34]) [] (tA 6 29 (iM 35) (tA 7 36 (iE 29 0) (tA 8 37 (iE 29 1) (.alt (wAA 7 36) [8] (.alt (wAB 8 37) [] .done .stop) .stop)))) .stop) .stop)) .stop))))))))) (.seq (.dreg (tA 0 39 (iT 4 4) (tA 1 40 (iM 6) (tA 2 41 (iM 5) (tA 3 42 (.ia 1 (.t 41) (oI 1)) (tA 4 43 (iL 42) (tC 44 (iK 15 [39,40,43]) [] (tA 6 38 (iM 44) (tA 7 45 (iE 38 0) (tA 8 46 (iE 38 1) (tC 9 wAL [8,7,6,4,3,2,1,0] (tC 10 wAO [8,7,6,4,3,2,1,0] (.alt (wAA 9 45) [8] (.alt (wAB 10 46) [] .done .stop) .stop) .stop) (tC 10 wAO [8,7,6,4,3,2,1,0] (tC 9 wAL [8,7,6,4,3,2,1,0] (.alt (wAA 9 45) [8] (.alt (wAB 10 46) [] .done .stop) .stop) .stop) .stop))))) (tC 9 wAL [4,3,2,1,0] (tC 44 (iK 15 [39,40,43]) [] (tA 6 38 (iM 44) (tA 7 45 (iE 38 0) (tA 8 46 (iE 38 1) (tC 10 wAO [8,7,6,4,3,2,1,0] (.alt (wAA 9 45) [8] (.alt (wAB 10 46) [] .done .stop) .stop) .stop)))) (tC 10 wAO [4,3,2,1,0] (tC 44 (iK 15 [39,40,43]) [] (tA 6 38 (iM 44) (tA 7 45 (iE 38 0) (tA 8 46 (iE 38 1) (.alt (wAA 9 45) [8] (.alt (wAB 10 46) [] .done .stop) .stop)))) .stop) .stop)) (tC 10 wAO [4,3,2,1,0] (tC 44 (iK 15 [39,40,43]) [] (tA 6 38 (iM 44) (tA 7 45 (iE 38 0) (tA 8 46 (iE 38 1) (tC 9 wAL [8,7,6,4,3,2,1,0] (.alt (wAA 9 45) [8] (.alt (wAB 10 46) [] .done .stop) .stop) .stop)))) (tC 9 wAL [4,3,2,1,0] (tC 44 (iK 15 [39,40,43]) [] (tA 6 38 (iM 44) (tA 7 45 (iE 38 0) (tA 8 46 (iE 38 1) (.alt (wAA 9 45) [8] (.alt (wAB 10 46) [] .done .stop) .stop)))) .stop) .stop)) .stop))))))))) (iS [aT 47 4 4,iA 48 (iK 16 [47]),aM 11 48] (.seq (iS [aT 49 4 8,aT 50 4 10,aP 51 .neq 32 49 50,aM 52 51,iB 53 52 false (iT 4 7),iB 54 52 false (iT 4 9),iB 55 52 false (iK 17 [53,54]),iB 56 52 false (iU 55),iA 57 (iY 52 (oT) (.t 56)),aM 58 57,iB 59 58 false (iT 4 7),iB 60 58 false (iK 18 [59]),iB 61 58 false (iU 60),iA 62 (iY 58 (oT) (.t 61)),aM 63 62,iB 64 63 false (iF 0 8),iB 65 63 false (iL 64),iB 66 63 false (iQ .eql 3 65 0),iB 67 63 false (iM 11),iB 68 63 false (iG 67),iB 69 63 false (iQ .gtr 3 68 0),iB 70 63 false (.beq true (.t 66) (.t 69)),iA 71 (iY 63 (oT) (.t 70)),aM 72 71,iB 73 72 false (iF 0 8),iB 74 72 false (iL 73),iB 75 72 false (iQ .neq 3 74 0),iB 76 72 false (iM 75),iB 77 76 true (iF 0 8),iB 78 76 true (iL 77),iB 79 76 true (iQ .neq 3 78 9),iB 80 72 false (iY 76 (.t 79) (oF)),iA 81 (iY 72 (oT) (.t 80))] (iD 81 (iS [aO 2 false] .ret) .skip)) (iS [aM 82 6,aQ 83 .rem 3 82 4,aM 84 5,iA 85 (.ia 1 (.t 84) (oI 1)),aL 86 85,iA 87 (iK 19 [83,86]),aM 12 87] (.seq (iS [aM 88 12,aG 89 88,aQ 90 .neq 3 89 3,aM 91 90,iB 92 91 false (iM 12),iB 93 91 false (iM 6),iB 94 91 false (iQ .rem 3 93 4),iB 95 91 false (iK 20 [92,94]),iA 96 (iY 91 (oT) (.t 95))] (iD 96 (iS [aO 2 false] .ret) .skip)) (.seq (iS [aF 97 0 8,aL 98 97,aQ 99 .neq 3 98 0] (iD 99 (.seq (.dreg (tA 0 100 (iT 4 7) (tA 2 102 (iT 4 3) (tC 101 (iK 21 [100]) [2] (tC 103 (iK 21 [102]) [] (tA 4 104 (iP .leq 3 101 103) (tA 5 105 (iM 104) (tB 6 106 105 true (iT 4 7) (.alt (iB 107 105 true (iK 22 [106])) [] (tB 8 108 105 true (iG 107) (tB 9 109 105 true (iQ .eql 3 108 0) (tA 10 110 (iY 105 (.t 109) (oF)) (tA 11 2 (iM 110) .done)))) .stop)))) .stop) .stop)))) .ret) .skip)) (iS [aT 111 4 4,aM 112 6,aQ 113 .rem 3 112 4,iA 114 (iK 23 [111,113]),iA 115 (.fld false 2 1 (.t 114)),aM 116 6,aQ 117 .rem 3 116 4,aI 118 1 115 117,aL 119 118,aM 13 119] (.seq (iS [aT 120 4 3,aM 121 6,aQ 122 .rem 3 121 4,iA 123 (iK 24 [120,122]),iA 14 wAL,wAA 14 123] (.seq (.dreg (tA 0 124 (iT 4 14) (tA 1 125 (iT 4 4) (tA 2 126 (iM 6) (tA 3 127 (iQ .rem 3 126 4) (tC 128 (iK 23 [125,127]) [0] (tC 129 (iK 17 [124,128]) [] (tA 6 130 (iU 129) .done) .stop) .stop)))))) (iD 130 (iS [aO 2 false] .ret) .skip))) (.seq (.seq (.dreg (tA 0 131 (iM 13) (tA 1 132 (iG 131) (tA 2 133 (iQ .gtr 3 132 0) (tA 3 134 (iM 133) (tB 4 135 134 true (iM 13) (tB 5 136 134 true (.ia 4 (.t 135) (oI 0)) (tB 6 137 134 true (iF 2 136) (tB 7 138 134 true (iL 137) (tB 8 139 134 true (iF 1 8) (tB 9 140 134 true (iL 139) (tB 10 141 134 true (iP .neq 3 138 140) (tB 11 142 134 true (iM 141) (tB 12 143 142 false (iM 13) (tB 13 144 142 false (.ia 4 (.t 143) (oI 0)) (tB 14 145 142 false (iF 3 144) (tB 15 146 142 false (iL 145) (tB 16 147 142 false (iF 2 8) (tB 17 148 142 false (iL 147) (tB 18 149 142 false (iP .neq 3 146 148) (tB 19 150 134 true (iY 142 (oT) (.t 149)) (tA 20 151 (iY 134 (.t 150) (oF)) .done)))))))))))))))))))))) (iD 151 (iS [aO 2 false] .ret) .skip)) (.seq (.dreg (tA 0 152 (iF 3 7) (tA 1 153 (iL 152) (tA 2 154 (iT 4 7) (tA 3 155 (iF 1 8) (tA 4 156 (iL 155) (tA 9 161 (iF 2 8) (tA 10 162 (iL 161) (tC 157 (iK 25 [154,156]) [10,9,1,0] (tA 6 158 (iI 8 153 157) (tA 7 159 (iF 7 158) (tA 8 160 (iL 159) (tA 11 163 (iI 4 160 162) (tA 12 164 (iT 4 163) (tC 15 wAN [12,11,8,7,6,10,9,4,3,2,1,0] (.alt (wAB 15 164) [] .done .stop) .stop)))))) (tC 15 wAN [10,9,4,3,2,1,0] (tC 157 (iK 25 [154,156]) [10,9,1,0] (tA 6 158 (iI 8 153 157) (tA 7 159 (iF 7 158) (tA 8 160 (iL 159) (tA 11 163 (iI 4 160 162) (tA 12 164 (iT 4 163) (.alt (wAB 15 164) [] .done .stop)))))) .stop) .stop)))))))))) (.seq (.dreg (tA 0 165 (iF 3 4) (tA 1 166 (iL 165) (tA 2 167 (iT 4 4) (tA 3 168 (iF 1 8) (tA 4 169 (iL 168) (tA 9 174 (iF 2 8) (tA 10 175 (iL 174) (tC 170 (iK 26 [167,169]) [10,9,1,0] (tA 6 171 (iI 8 166 170) (tA 7 172 (iF 7 171) (tA 8 173 (iL 172) (tA 11 176 (iI 4 173 175) (tA 12 177 (iT 4 176) (tC 16 wAN [12,11,8,7,6,10,9,4,3,2,1,0] (.alt (wAB 16 177) [] .done .stop) .stop)))))) (tC 16 wAN [10,9,4,3,2,1,0] (tC 170 (iK 26 [167,169]) [10,9,1,0] (tA 6 171 (iI 8 166 170) (tA 7 172 (iF 7 171) (tA 8 173 (iL 172) (tA 11 176 (iI 4 173 175) (tA 12 177 (iT 4 176) (.alt (wAB 16 177) [] .done .stop)))))) .stop) .stop)))))))))) (iS [aF 178 0 15,aL 179 178,aQ 180 .eql 3 179 3,aM 181 180,iB 182 181 true (iF 2 15),iB 183 181 true (iL 182),iB 184 181 true (iF 3 8),iB 185 181 true (iL 184),iB 186 181 true (iP .eql 3 183 185),iA 187 (iY 181 (.t 186) (oF)),aM 188 187,iB 189 188 true (iF 2 16),iB 190 188 true (iL 189),iB 191 188 true (iF 3 8),iB 192 188 true (iL 191),iB 193 188 true (iQ .sub 3 192 1),iB 194 188 true (iP .eql 3 190 193),iA 195 (iY 188 (.t 194) (oF)),aM 196 195,iB 197 196 true (iF 0 16),iB 198 196 true (iL 197),iB 199 196 true (iQ .eql 3 198 2),iA 200 (iY 196 (.t 199) (oF)),aM 201 200,iB 202 201 true (iT 4 7),iB 203 201 true (iK 22 [202]),iB 204 201 true (iG 203),iB 205 201 true (iM 11),iB 206 201 true (iG 205),iB 207 201 true (iQ .sub 3 206 1),iB 208 201 true (iP .eql 3 204 207),iA 209 (iY 201 (.t 208) (oF)),aM 2 209] .ret))))))))))))))))))
theorem jiN:fnC Tryz.prog Tryz.f3=some (jfo,[.t 2],210):=by kernel_rfl
theorem juu (c:List UInt8):jZ Tryz.prog 3 [.c (zE c)] (.c (.val (.bool true))):=by
 refine vx [[1,1,1,1,1,1],[1,1,1,1,1,1,1],[1,1,1,1,1,1,1,1],[1,1,1,1,1,1,1,1,1,1,1,1,1,1,1],[1,1,1,1,1,1,1,1,1,1,1,1,1,1,1,1],[1,1,1,1,1,1,1,1,1,1,1,1,1,1,1,1,1],[1,1,1,1,1,1,1,1,1,1,1,1,1,1,1,1,1,1]] Tryz.func3 jiN (by simp) ?_
 unfold jfo;simp only [C.ghs,C.ghAt,List.foldr];simp only [go_sem];have d9:(zE c).toRo=.ro (zE c):=rfl;refine jw (jCy c) (by simp only [go_sem,d9]) λeP=>?_
 simp only [go_sem,d9];by_cases gZ:(1048576:Int)<(c.length:Int)
 ·simp only [go_sem,gZ]
 have hc:c.length<=1048576:=by omega
 simp only [go_sem,gZ];obtain ⟨hI,hq⟩:=dY_I c;have pD:=jaX c hc;change jZ _ _ _ (.agg (jb (dY c))) at pD;obtain ⟨q0,tG,hq0⟩:=jpF c (k:=0) (by decide)
 obtain ⟨q1,rA,gK⟩:=jpF c (k:=1) (by decide)
 have pP:=jie c hc;generalize dY c=y at*;generalize jkR c=ps at*;have aR:=hI.ok (by omega)
 have sS:=aR.small;have ht:jB y<=2000000:=by omega
 have cI:=(aOS.1 tG).1;have lZ:=(aOS.1 rA).1;have a0:=jq tG;have i0:=jp cI;have a1:=jq rA;have i1:=jp lZ;simp only [Nat.zero_mul,Nat.one_mul,List.drop_zero,aQN,Nat.reduceAdd] at a0 i0 a1 i1;obtain ⟨w,hw,aIL⟩:∃w:Nat,(q0:Int).tmod 100=(w:Int)/\w<=99:=⟨q0%100,by rw [aQA (by omega)];omega,by omega⟩
 obtain ⟨h,hh,eZ⟩:∃h:Nat,(w:Int).tmod 4=(h:Int)/\h<4:=⟨w%4,by rw [aQA (by omega)];omega,by omega⟩
 have hP:=polls hI hq (w:=(w:Int)) (d:=(q1:Int)) ⟨by omega,by omega⟩ hh
 have pI:=jk1 y w q1 ht;have pS:=jkU y w q1 ht;have hZs:=hP.ok.small;have u6:jB (qu y w q1)<=2000000:=by omega
 have xT:=hP.ok;have iZ:=hP.code;have gD:=hP.some_;have yK:=hP.idle;have bQ:=hP.own;have yN:=hP.hand;clear hP;generalize qu y w q1=Z at*;generalize jbw y w q1=R at*;refine jw (pD) (by simp only [go_sem,d9]) λdF=>?_
 simp only [go_sem,d9];simp only [go_sem,jb];intro b3;refine jw (pD) (by simp only [go_sem,d9]) λaS=>?_
 simp only [go_sem,d9];simp only [go_sem,jb];intro b4;refine jw (pP) (by simp only [go_sem,d9]) λbY=>?_
 simp only [go_sem,d9];simp only [go_sem,cI,a0,i0,hw];refine ky ?_;refine WkK.wk (s':=St.of [(3,Bx 300 b3),(4,Bx 400 b4),(5,Hd 2400 (bY 0)),(6,Ni w)] [(300,jX b3 tYd y.now y.seq y.aOE (dF 2) y.aOH (dF 3)),(400,jX b4 tYd y.now y.seq y.aOE (aS 2) y.aOH (aS 3)),(2400,.loose (jc ps) (bY 0))]) (js [300,400,2400] (by simp only [go_sem,jb]<;>trivial)) ?_
 refine WkK.of ?_;refine jaU (λk:Nat×Nat×jg×jg=>St.of [(3,Bx 300 b3),(4,Bx 400 b4),(5,Hd 2400 (bY 0)),(6,Ni w),(7,Bx 700 k.1),(8,Bx 800 k.2.1)] [(300,jX b3 tYd y.now y.seq y.aOE (dF 2) y.aOH (dF 3)),(400,jX b4 tYd y.now y.seq y.aOE (aS 2) y.aOH (aS 3)),(2400,.loose (jc ps) (bY 0)),(700,jX k.1 tYd Z.now Z.seq Z.aOE k.2.2.1 Z.aOH k.2.2.2),(800,RpB k.2.1 R)]) ?_ ?_
 ·simp only [go_sem,jb,jex,lZ,a1,i1]
  repeat' first
  |refine And.intro ?_ ?_
  |intro _
  |((refine jw pI (by simp only [go_sem,jb,jex,lZ,a1,i1];done) λ_=>?_)<;>simp only [go_sem,jb,jex,lZ,a1,i1])
  all_goals exact ⟨(_,_,_,_),js [300,400,2400,700,800] (by simp only [go_sem,jb,jex,lZ,a1,i1]<;>trivial)⟩
 rintro ⟨b7,b8,f2,f3⟩;refine jaU (λk:Nat×Nat×jg×jg=>St.of [(3,Bx 300 b3),(4,Bx 400 b4),(5,Hd 2400 (bY 0)),(6,Ni w),(7,Bx 700 b7),(8,Bx 800 b8),(9,Bx 900 k.1),(10,Bx 1000 k.2.1)] [(300,jX b3 tYd y.now y.seq y.aOE (dF 2) y.aOH (dF 3)),(400,jX b4 tYd y.now y.seq y.aOE (aS 2) y.aOH (aS 3)),(2400,.loose (jc ps) (bY 0)),(700,jX b7 tYd Z.now Z.seq Z.aOE f2 Z.aOH f3),(800,RpB b8 R),(900,jX k.1 tYd Z.now Z.seq Z.aOE k.2.2.1 Z.aOH k.2.2.2),(1000,RpB k.2.1 R)]) ?_ ?_
 ·simp only [go_sem,jb,jex,lZ,a1,i1]
  repeat' first
  |refine And.intro ?_ ?_
  |intro _
  |((refine jw pS (by simp only [go_sem,jb,jex,lZ,a1,i1];done) λ_=>?_)<;>simp only [go_sem,jb,jex,lZ,a1,i1])
  all_goals exact ⟨(_,_,_,_),js [300,400,2400,700,800,900,1000] (by simp only [go_sem,jb,jex,lZ,a1,i1]<;>trivial)⟩
 rintro ⟨b9,b10,f4,f5⟩;have hRR:decide (R=R)=true:=decide_eq_true rfl;have gO:=qX xT;obtain ⟨hv3,hvh⟩:=jyF eZ (q1:Int);have n8:(((ja9 h q1).length:Int) !=3)=false:=by rw [hv3];rfl
 have hvd:decide ((h:Int)∈ja9 h q1)=false:=by simp [hvh]
 have bO:(ja9 h q1).length<=2000000:=by omega
 have e9:(false==false)=true:=rfl;by_cases c0:R.code=0;rotate_left
 ·have c9:R.code=9:=by rcases iZ with h|h;exact absurd h c0;exact h
  obtain ⟨fH,cH⟩:=yK c0;have e0:(R.code==0)=false:=by simp [c0]
  have n0:(R.code !=0)=true:=by simp [c0]
  have n9:(R.code !=9)=false:=by simp [c9]
  have aC:¬(0:Int)<((ql y).length:Int):=λaB=>c0 (gD.2 (by omega))
  simp only [go_sem];refine jk (jeQ y ht) λdO=>?_
  simp only [go_sem,jb];refine jk (vW Z u6) λbM=>?_
  simp only [go_sem,jb];refine jk (kn Z u6) λcO=>?_
  simp only [go_sem,jb];simp only [go_sem,gO,e0,n0,n9,aC,e9,hh,lZ,a1,i1];refine jk (jau h q1) λbI=>?_
  simp only [go_sem];simp only [go_sem,n8,hh];refine jk (jsW (ja9 h q1) h bO) ληd=>?_
  simp only [go_sem];simp only [go_sem,hvd,n0];refine jk (jbx Z u6) λi7=>?_
  simp only [go_sem,jb];refine jk (jbx y ht) ληf=>?_
  simp only [go_sem,jb];simp only [go_sem,fH];refine jk (jaf Z u6) ληg=>?_
  simp only [go_sem,jb];rw [cH];rfl
 have e0:(R.code==0)=true:=by simp [c0]
 have n0:(R.code !=0)=false:=by simp [c0]
 have aC:(0:Int)<((ql y).length:Int):=by have:=gD.1 c0;omega
 obtain ⟨k,t,r,x,rz,xz,hH,hlr⟩:=yN c0;have bQ:=bQ c0;have pW:=jdm y h ht;have pV:=jdi y h ht;simp only [go_sem];refine jk (jeQ y ht) λdO=>?_
 simp only [go_sem,jb];refine jk (vW Z u6) λbM=>?_
 simp only [go_sem,jb];refine jk (kn Z u6) λcO=>?_
 simp only [go_sem,jb];simp only [go_sem,gO,e0,n0,aC,e9,hh,lZ,a1,i1,aQD];refine jk (jau h q1) λbI=>?_
 simp only [go_sem];simp only [go_sem,n8,hh];refine jk (jsW (ja9 h q1) h bO) ληd=>?_
 simp only [go_sem];simp only [go_sem,hvd,n0,hh];have hWI:=hI.swept (h:Int);have hWq:(qr y h).seq=y.seq:=by unfold qr;split<;>rfl
 have hWt:jB (qr y h)<=2000000:=by have:=(hWI.ok (by omega)).small;omega
 generalize hWW:qr y h=W at*;have hhW:h<W.aOE.length:=by rw [hWI.four];exact eZ
 obtain ⟨l,hl⟩:=ja hhW;have pY:=qN h;have hgl:∀{e e':Int},e=e'->(e !=e')=false:=λ{e e'} h=>by subst h;simp
 refine jk pV λsJ=>?_
 simp only [go_sem,jb];simp only [go_sem,hh,pY,hhW,jam hhW,jcV hl,aPK];refine jk pW λwV=>?_
 simp only [go_sem,jb];intro b14;simp only [go_sem,hh];refine jk pV ληu=>?_
 simp only [go_sem,jb];refine jk (vW W hWt) λwG=>?_
 simp only [go_sem,jb];refine ky ?_;refine WkK.wk (s':=St.of [(4,Bx 400 b4),(7,Bx 700 b7),(8,Bx 800 b8),(11,Hd 4800 (dO 0)),(13,.c (.h 11402 0 [h] ((sJ 2) [h])))] [(400,jX b4 tYd y.now y.seq y.aOE (aS 2) y.aOH (aS 3)),(700,jX b7 tYd Z.now Z.seq Z.aOE f2 Z.aOH f3),(800,RpB b8 R),(4800,.loose (jf (ql y)) (dO 0)),(11402,.loose (ke W.aOE) (sJ 2))]) (js [400,700,800,4800,11402]) ?_;refine WkK.of ?_;refine jaU (λ_:Unit=>St.of [(4,Bx 400 b4),(7,Bx 700 b7),(8,Bx 800 b8),(11,Hd 4800 (dO 0))] [(400,jX b4 tYd y.now y.seq y.aOE (aS 2) y.aOH (aS 3)),(700,jX b7 tYd Z.now Z.seq Z.aOE f2 Z.aOH f3),(800,RpB b8 R),(4800,.loose (jf (ql y)) (dO 0))]) ?_ ?_
 ·by_cases uN:(0:Int)<(l.length:Int)
  ·obtain ⟨e,l',rfl⟩:∃e l',l=e::l':=by
    cases l with
    |nil=>simp at uN
    |cons e l'=>exact ⟨e,l',rfl⟩
   obtain ⟨er,et⟩:=bQ e l' hl;have b2:(List.drop 2 ((e::l').flatMap jj)).take 1=[.val (.int .i64 e.run)]:=rfl;have b3:(List.drop 3 ((e::l').flatMap jj)).take 1=[.val (.int .i64 e.aOK)]:=rfl;have i2:3<=((e::l').flatMap jj).length:=by simp [jj]
   have i3:4<=((e::l').flatMap jj).length:=by simp [jj]
   have e2:=hgl er;have e3:=hgl et;have eR:0<(e::l').length:=by simp
   generalize hL:e::l'=L at*;simp only [go_sem,qn hl,jkE,jky,zU,uN,b2,b3,i2,i3,e2,e3,eR];exact ⟨(),js [400,700,800,4800]⟩
  ·simp only [go_sem,qn hl,jkE,jky,zU,uN]
   exact ⟨(),js [400,700,800,4800]⟩
 rintro ⟨⟩;have hkZ:=(aOS.1 hH.rowz).1;have hkY:=(aOS.1 hH.row).1;have htZ:=(aOS.1 hH.now).1;have htY:=(aOS.1 hH.was).1;have sY:=hH.rowz;have sZ:=hH.row;have hxZ:=hH.now;have hxY:=hH.was;have fB:=hH.at_;have uW:=hH.atz;have mZ:=hH.aOK;have bL:=qN k;have eT:=qN t;have pA:=kQ Z R.run;have pB:=qf y R.run;rw [uW] at pA;rw [fB] at pB;refine jaU (λi:Nat=>St.of [(4,Bx 400 b4),(7,Bx 700 b7),(8,Bx 800 b8),(11,Hd 4800 (dO 0)),(15,Bx 1500 i)] [(400,jX b4 tYd y.now y.seq y.aOE (aS 2) y.aOH (aS 3)),(700,jX b7 tYd Z.now Z.seq Z.aOE f2 Z.aOH f3),(800,RpB b8 R),(4800,.loose (jf (ql y)) (dO 0)),(1500,TkB i xz)]) ?_ ?_
 ·simp only [go_sem,jb,hkZ,sY,mZ,bL,eT,aPO,zh sY,zz sY,jY sY,htZ,jhR hxZ,jgF htZ,jz]
  repeat' first
  |refine And.intro ?_ ?_
  |intro _
  |((refine jw pA (by simp only [go_sem,jb];done) λ_=>?_)<;>simp only [go_sem,jb,hkZ,sY,mZ,bL,eT,aPO,zh sY,zz sY,jY sY,htZ,jhR hxZ,jgF htZ,jz])
  all_goals exact ⟨_,js [400,700,800,4800,1500] (by simp only [go_sem,jb,jz]<;>trivial)⟩
 intro b15;refine jaU (λi:Nat=>St.of [(4,Bx 400 b4),(7,Bx 700 b7),(8,Bx 800 b8),(11,Hd 4800 (dO 0)),(15,Bx 1500 b15),(16,Bx 1600 i)] [(400,jX b4 tYd y.now y.seq y.aOE (aS 2) y.aOH (aS 3)),(700,jX b7 tYd Z.now Z.seq Z.aOE f2 Z.aOH f3),(800,RpB b8 R),(4800,.loose (jf (ql y)) (dO 0)),(1500,TkB b15 xz),(1600,TkB i x)]) ?_ ?_
 ·simp only [go_sem,jb,hkY,sZ,mZ,bL,eT,aPO,zh sZ,zz sZ,jY sZ,htY,jhR hxY,jgF htY,jz]
  repeat' first
  |refine And.intro ?_ ?_
  |intro _
  |((refine jw pB (by simp only [go_sem,jb];done) λ_=>?_)<;>simp only [go_sem,jb,hkY,sZ,mZ,bL,eT,aPO,zh sZ,zz sZ,jY sZ,htY,jhR hxY,jgF htY,jz])
  all_goals exact ⟨_,js [400,700,800,4800,1500,1600] (by simp only [go_sem,jb,jz]<;>trivial)⟩
 intro b16;have e1:(xz.aOG==3)=true:=by simp [hH.stz]
 have e2:(xz.tri==R.tri)=true:=by simp [hH.triz]
 have mG:IntKind.i64.wrap (R.tri-1)=R.tri-1:=kU (by have:=hH.low;omega) (by have:=hH.small;omega)
 have e3:(x.tri==R.tri-1)=true:=by simp [hH.tri]
 have e4:(x.aOG==2)=true:=by simp [hH.st]
 have hwr:IntKind.i64.wrap (((ql y).length:Int)-1)=((ql Z).length:Int):=by rw [kU (by omega) (by have:=jzk y ht;omega)];omega
 simp only [go_sem,e1,e2,mG,e3,e4];refine jk (jaf Z u6) ληz=>?_
 simp only [go_sem,jb];simp only [go_sem,hwr,aQD]
