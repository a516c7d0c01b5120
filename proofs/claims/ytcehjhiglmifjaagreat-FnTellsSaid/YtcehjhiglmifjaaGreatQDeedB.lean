/- Parts. -/
import Derived.Test.YtcehjhiglmifjaaGreatQTurnP
import Derived.Laws.Strings
set_option linter.all false
set_option maxHeartbeats 8000000
set_option maxRecDepth 100000
namespace Go.Proofs.YtcehjhiglmifjaaGreat
open Go.RowKit Go.Sort
def jgx:C:=iS [aO 2 false] (iS [aM 3 0,iA 4 (.call 68 [.t 3,oI 0,oI 1000000000]),aM 2 4] .ret)
theorem jiC:fnC Tryz.prog Tryz.f186=some (jgx,[.t 2],5):=by kernel_rfl
def jco:C:=iS [iA 1 (.box 49 5 (.t 0)),aO 2 false] (iS [aF 3 0 1,aL 4 3,aQ 5 .eql 3 4 0,aM 6 5,iB 7 6 true (iF 1 1),iB 8 6 true (iL 7),iB 9 6 true (iQ .eql 3 8 0),iA 10 (iY 6 (.t 9) (oF)),aM 11 10,iB 12 11 true (iF 2 1),iB 13 11 true (iL 12),iB 14 11 true (iQ .eql 3 13 0),iA 15 (iY 11 (.t 14) (oF)),aM 16 15,iB 17 16 true (iF 3 1),iB 18 16 true (iL 17),iB 19 16 true (iQ .eql 3 18 0),iA 20 (iY 16 (.t 19) (oF)),aM 21 20,iB 22 21 true (iF 4 1),iB 23 21 true (iL 22),iB 24 21 true (iG 23),iB 25 21 true (iQ .eql 3 24 0),iA 26 (iY 21 (.t 25) (oF)),aM 2 26] .ret)
theorem jfc:fnC Tryz.prog Tryz.f188=some (jco,[.t 2],27):=by kernel_rfl
def jem:C:=iS [iA 1 (.box 49 5 (.t 0)),aO 2 false] (.seq (iS [aF 4 0 1,aL 5 4,iA 6 (iK 186 [5]),aU 7 6,aM 8 7,iB 9 8 false (iF 1 1),iB 10 8 false (iL 9),iB 11 8 false (iK 186 [10]),iB 12 8 false (iU 11),iA 13 (iY 8 (oT) (.t 12)),aM 14 13,iB 15 14 false (iF 2 1),iB 16 14 false (iL 15),iB 17 14 false (iK 186 [16]),iB 18 14 false (iU 17),iA 19 (iY 14 (oT) (.t 18)),aM 20 19,iB 21 20 false (iF 3 1),iB 22 20 false (iL 21),iB 23 20 false (iK 186 [22]),iB 24 20 false (iU 23),iA 25 (iY 20 (oT) (.t 24)),aM 26 25,iB 27 26 false (iF 4 1),iB 28 26 false (iL 27),iB 29 26 false (iG 28),iB 30 26 false (iQ .gtr 3 29 31),iA 31 (iY 26 (oT) (.t 30))] (iD 31 (iS [aO 2 false] .ret) .skip)) (.seq (iS [aN 3 0] (.blk 0 (.loop (.seq (iS [aM 32 3,aF 33 4 1,aL 34 33,aG 35 34,aP 36 .lss 3 32 35] (iD 36 .skip (.exit 0))) (.seq (.blk 1 (iS [aF 39 4 1,aL 40 39,aM 41 3,aI 42 2 40 41,aF 43 0 42,aL 44 43,iA 45 (iK 186 [44]),aU 46 45,aM 47 46,iB 48 47 false (iF 4 1),iB 49 47 false (iL 48),iB 50 47 false (iM 3),iB 51 47 false (iI 2 49 50),iB 52 47 false (iF 1 51),iB 53 47 false (iL 52),iB 54 47 false (iK 186 [53]),iB 55 47 false (iU 54),iA 56 (iY 47 (oT) (.t 55))] (iD 56 (iS [aO 2 false] .ret) .skip))) (.reg [aM 37 3,aQ 38 .add 3 37 1,aM 3 38])))))) (iS [aO 2 true] .ret)))
theorem jhp:fnC Tryz.prog Tryz.f187=some (jem,[.t 2],57):=by kernel_rfl
def jgI:C:=iS [iA 1 (.box 60 11 (.t 0)),aO 2 false] (.seq (iS [aF 6 0 1,aL 7 6,iA 8 (.call 68 [.t 7,oI 1,oI 8]),aU 9 8] (iD 9 (iS [aO 2 false] .ret) .skip)) (iS [aF 10 0 1,aL 11 10,aQ 12 .eql 3 11 2,aM 3 12] (iS [aF 13 0 1,aL 14 13,aQ 15 .eql 3 14 3,aM 16 15,iB 17 16 false (iF 0 1),iB 18 16 false (iL 17),iB 19 16 false (iQ .eql 3 18 4),iA 20 (iY 16 (oT) (.t 19)),aM 4 20] (iS [aM 21 3,aU 22 21,aM 23 22,iB 24 23 true (iF 0 1),iB 25 23 true (iL 24),iB 26 23 true (iQ .neq 3 25 5),iA 27 (iY 23 (.t 26) (oF)),aM 28 27,iB 29 28 true (iF 0 1),iB 30 28 true (iL 29),iB 31 28 true (iQ .neq 3 30 8),iA 32 (iY 28 (.t 31) (oF)),aM 5 32] (.seq (iS [aM 33 5,aM 34 33,iB 35 34 true (iF 1 1),iB 36 34 true (iL 35),iB 37 34 true (iK 186 [36]),iB 38 34 true (iU 37),iA 39 (iY 34 (.t 38) (oF)),aM 40 39,iB 41 40 false (iM 5),iB 42 40 false (iU 41),iB 43 40 false (iM 42),iB 44 43 true (iF 1 1),iB 45 43 true (iL 44),iB 46 43 true (iQ .neq 3 45 0),iB 47 40 false (iY 43 (.t 46) (oF)),iA 48 (iY 40 (oT) (.t 47)),aM 49 48,iB 50 49 false (iM 4),iB 51 49 false (iM 50),iB 52 51 true (iF 7 1),iB 53 51 true (iL 52),iB 54 51 true (iK 186 [53]),iB 55 51 true (iU 54),iB 56 51 true (iM 55),iB 57 56 false (iF 8 1),iB 58 56 false (iL 57),iB 59 56 false (iK 186 [58]),iB 60 56 false (iU 59),iB 61 51 true (iY 56 (oT) (.t 60)),iB 62 49 false (iY 51 (.t 61) (oF)),iA 63 (iY 49 (oT) (.t 62)),aM 64 63,iB 65 64 false (iM 4),iB 66 64 false (iU 65),iB 67 64 false (iM 66),iB 68 67 true (iF 7 1),iB 69 67 true (iL 68),iB 70 67 true (iQ .neq 3 69 0),iB 71 67 true (iM 70),iB 72 71 false (iF 8 1),iB 73 71 false (iL 72),iB 74 71 false (iQ .neq 3 73 0),iB 75 67 true (iY 71 (oT) (.t 74)),iB 76 64 false (iY 67 (.t 75) (oF)),iA 77 (iY 64 (oT) (.t 76)),aM 78 77,iB 79 78 false (iM 3),iB 80 78 false (iM 79),iB 81 80 true (iF 9 1),iB 82 80 true (iL 81),iB 83 80 true (iK 186 [82]),iB 84 80 true (iU 83),iB 85 80 true (iM 84),iB 86 85 false (iF 10 1),iB 87 85 false (iL 86),iB 88 85 false (iK 186 [87]),iB 89 85 false (iU 88),iB 90 80 true (iY 85 (oT) (.t 89)),iB 91 78 false (iY 80 (.t 90) (oF)),iA 92 (iY 78 (oT) (.t 91)),aM 93 92,iB 94 93 false (iM 3),iB 95 93 false (iU 94),iB 96 93 false (iM 95),iB 97 96 true (iF 9 1),iB 98 96 true (iL 97),iB 99 96 true (iQ .neq 3 98 0),iB 100 96 true (iM 99),iB 101 100 false (iF 10 1),iB 102 100 false (iL 101),iB 103 100 false (iQ .neq 3 102 0),iB 104 96 true (iY 100 (oT) (.t 103)),iB 105 93 false (iY 96 (.t 104) (oF)),iA 106 (iY 93 (oT) (.t 105))] (iD 106 (iS [aO 2 false] .ret) .skip)) (.seq (iS [aF 107 0 1,aL 108 107,aQ 109 .eql 3 108 1] (iD 109 (iS [aF 110 2 1,aT 111 5 110,iA 112 (iK 187 [111]),aM 2 112] .ret) .skip)) (iS [aF 113 2 1,aT 114 5 113,iA 115 (iK 188 [114]),aM 2 115] .ret)))))))
theorem jiN:fnC Tryz.prog Tryz.f147=some (jgI,[.t 2],116):=by kernel_rfl
def qf:C:=iS [iA 1 (.box 60 11 (.t 0)),iA 2 wAQ] (iS [aF 4 0 1,aL 5 4,iA 6 (wAT [(0,1,.t 5)]),iA 3 wAQ,wAE 3 6] (.seq (iS [aF 7 0 1,aL 8 7] (.blk 0 (iS [aQ 10 .eql 3 8 1,aM 9 10] (iD 9 (.dreg (tA 0 11 (iF 1 1) (tA 1 12 (iL 11) (tA 2 13 (iF 2 1) (tA 3 14 (iT 5 13) (tA 4 15 (iF 1 3) (.alt (wAD 15 12) [3,2] (tA 6 16 (iF 2 3) (.alt (wAH 16 14) [] .done .stop)) .stop))))))) (iS [aQ 18 .eql 3 8 2,aM 17 18] (iD 17 (.dreg (tA 0 19 (iF 9 1) (tA 1 20 (iL 19) (tA 2 21 (iF 10 1) (tA 3 22 (iL 21) (tA 4 23 (iF 9 3) (.alt (wAD 23 20) [3,2] (tA 6 24 (iF 10 3) (.alt (wAD 24 22) [] .done .stop)) .stop))))))) (.seq (iS [aQ 26 .eql 3 8 3,aM 25 26] (iD 25 .skip (.reg [aQ 27 .eql 3 8 4,aM 25 27]))) (iD 25 (.dreg (tA 0 28 (iF 1 1) (tA 1 29 (iL 28) (tA 2 30 (iF 7 1) (tA 3 31 (iL 30) (tA 4 32 (iF 8 1) (tA 5 33 (iL 32) (tA 6 34 (iF 1 3) (.alt (wAD 34 29) [5,4,3,2] (tA 8 35 (iF 7 3) (.alt (wAD 35 31) [5,4] (tA 10 36 (iF 8 3) (.alt (wAD 36 33) [] .done .stop)) .stop)) .stop))))))))) (.seq (iS [aQ 38 .eql 3 8 6,aM 37 38] (iD 37 .skip (.reg [aQ 39 .eql 3 8 7,aM 37 39]))) (iD 37 (.reg [aF 40 1 1,aL 41 40,aF 42 1 3,wAD 42 41]) .skip)))))))))) (iS [aT 43 11 3,wAE 2 43] .ret)))
theorem kM:fnC Tryz.prog Tryz.f93=some (qf,[.cell 2 true 11],44):=by kernel_rfl
def jbn:C:=iS [iA 1 (.box 60 11 (.t 0)),iA 2 (.mov (.c (.slice none 0 0)))] (.seq (iS [aF 6 0 1,aL 7 6] (.blk 0 (iS [aQ 9 .eql 3 7 1,aM 8 9] (iD 8 (iS [aF 10 1 1,aL 11 10,aF 12 2 1,aF 13 0 12,aL 14 13,aF 15 2 1,aF 16 1 15,aL 17 16,aF 18 2 1,aF 19 2 18,aL 20 19,aF 21 2 1,aF 22 3 21,aL 23 22,aF 24 2 1,aF 25 4 24,aL 26 25,aG 27 26,iA 28 (.bsl 3 1 6 [none,none,none,none,none,none] [(0,1,.t 11),(1,1,.t 14),(2,1,.t 17),(3,1,.t 20),(4,1,.t 23),(5,1,.t 27)]),aM 3 28] (.seq (iS [aF 29 2 1,aF 30 4 29,aL 31 30,aG 32 31,aN 33 0] (.blk 1 (.loop (iS [aP 34 .lss 3 33 32] (.seq (iD 34 .skip (.exit 1)) (.seq (.blk 2 (iS [aI 35 2 31 33,aT 36 2 35,iA 5 wAO,wAG 5 36] (.reg [aM 37 3,aF 38 0 5,aL 39 38,aF 40 1 5,aL 41 40,iA 42 (.bsl 3 1 2 [none,none] [(0,1,.t 39),(1,1,.t 41)]),iA 43 (wA3 37 42),aM 3 43]))) (.reg [aQ 44 .add 3 33 1,aM 33 44]))))))) (iS [aM 45 3,aM 2 45] .ret))) (iS [aQ 47 .eql 3 7 2,aM 46 47] (iD 46 (iS [aF 48 9 1,aL 49 48,aF 50 10 1,aL 51 50,iA 52 (.bsl 3 1 2 [none,none] [(0,1,.t 49),(1,1,.t 51)]),aM 2 52] .ret) (.seq (iS [aQ 54 .eql 3 7 3,aM 53 54] (iD 53 .skip (.reg [aQ 55 .eql 3 7 4,aM 53 55]))) (iD 53 (iS [aF 56 1 1,aL 57 56,aF 58 7 1,aL 59 58,aF 60 8 1,aL 61 60,iA 62 (wA0 [(0,1,.t 57),(1,1,.t 59),(2,1,.t 61)]),aM 2 62] .ret) (.seq (iS [aQ 64 .eql 3 7 6,aM 63 64] (iD 63 .skip (.reg [aQ 65 .eql 3 7 7,aM 63 65]))) (iD 63 (iS [aF 66 1 1,aL 67 66,iA 68 (wAW [(0,1,.t 67)]),aM 2 68] .ret) .skip)))))))))) (iS [iA 2 (.mov (.c (.slice none 0 0)))] .ret))
theorem jdb:fnC Tryz.prog Tryz.f94=some (jbn,[.t 2],69):=by kernel_rfl
def vd:C:=iS [iA 1 (.box 60 11 (.t 0)),aO 2 false] (.seq (.seq (.dreg (tA 0 5 (iF 0 1) (tA 1 6 (iL 5) (tC 7 (.call 62 [.t 6,oI 1,oI 8]) [] (tA 3 8 (iU 7) (tA 4 9 (iM 8) (tB 5 10 9 false (iF 2 1) (tB 6 11 9 false (iF 4 10) (tB 7 12 9 false (iL 11) (tB 8 13 9 false (iG 12) (tB 9 14 9 false (iQ .gtr 3 13 31) (tA 10 15 (iY 9 (oT) (.t 14)) (tA 11 16 (iM 15) (tB 12 17 16 false (iT 11 1) (tB 13 18 16 false (iT 11 1) (.alt (iB 19 16 false (iK 93 [18])) [12] (.alt (iB 20 16 false (iK 92 [17,19])) [] (tB 16 21 16 false (iU 20) (tA 17 22 (iY 16 (oT) (.t 21)) .done)) .stop) .stop)))))))))))) .stop)))) (iD 22 (iS [aO 2 false] .ret) .skip)) (.seq (iS [aT 23 11 1,iA 24 (iK 94 [23]),aG 25 24,aN 26 0] (.blk 0 (.loop (iS [aP 27 .lss 3 26 25] (.seq (iD 27 .skip (.exit 0)) (.seq (.blk 1 (iS [aI 28 1 24 26,aL 29 28,aM 4 29] (iS [aM 30 4,iA 31 (.call 62 [.t 30,oI 0,oI 1000000000]),aU 32 31] (iD 32 (iS [aO 2 false] .ret) .skip)))) (.reg [aQ 33 .add 3 26 1,aM 26 33]))))))) (iS [aO 2 true] .ret)))
theorem ji3:fnC Tryz.prog Tryz.f30=some (vd,[.t 2],34):=by kernel_rfl
def zK (n:Int):Bool:=decide (0<=n/\n<=1000000000)
theorem qs (n:Int):kg Tryz.prog 186 [.c (.val (.int .i64 n))] (.c (.val (.bool (zK n)))):=by
 refine pf_ jiC ?_;unfold jgx;simp only [go_sem];refine jx (jJ n 0 1000000000) λη=>?_
 simp only [go_sem];rfl
def jb5 (p:Pl):Bool:=p.aMC==0&&p.aMG==0&&p.aMF==0&&p.aLT==0&&((p.aLY.length:Int)==0)
theorem za (p:Pl):kg Tryz.prog 188 [.agg (ja p)] (.c (.val (.bool (jb5 p)))):=by
 refine pf_ jfc ?_;unfold jco;cases h1:p.aMC==0<;>cases h2:p.aMG==0<;>cases h3:p.aMF==0<;>cases h4:p.aLT==0
 all_goals
  simp only [go_sem,ja,h1,h2,h3,h4];intros;simp [jb5,h1,h2,h3,h4]
def edB (e:Ed):Bool:=zK e.src&&zK e.dst
def jhe (p:Pl):Bool:=zK p.aMC&&zK p.aMG&&zK p.aMF&&zK p.aLT&&decide (p.aLY.length<=31)&&p.aLY.all edB
theorem jsb {α:Type} {f:α->Bool} {l:List α} {k:Nat} {x:α} (h:l[k]?=some x) (ht:(l.take k).all f=true) (hx:f x=true):(l.take (k+1)).all f=true:=by
 rw [aMT,h];simp only [List.all_append,ht,Option.toList_some,List.all_cons,hx,List.all_nil,Bool.and_self]
theorem jwC {α:Type} {f:α->Bool} {l:List α} {k:Nat} {x:α} (h:l[k]?=some x) (hx:f x=false):l.all f=false:=by
 rw [List.all_eq_false];exact ⟨x,aMJ h,by simp [hx]⟩
theorem ju2 (p:Pl) (hb:p.aLY.length<=4000000):kg Tryz.prog 187 [.agg (ja p)] (.c (.val (.bool (jhe p)))):=by
 refine pf_ jhp ?_;unfold jem;simp only [go_sem,ja];intros;refine jx (qs p.aMC) λη=>?_
 cases h1:zK p.aMC
 ·simp only [go_sem,h1]
  simp [jhe,h1]
 simp only [go_sem,h1];refine jx (qs p.aMG) λη=>?_
 cases h2:zK p.aMG
 ·simp only [go_sem,h1,h2]
  simp [jhe,h1,h2]
 simp only [go_sem,h1,h2];refine jx (qs p.aMF) λη=>?_
 cases h3:zK p.aMF
 ·simp only [go_sem,h1,h2,h3]
  simp [jhe,h1,h2,h3]
 simp only [go_sem,h1,h2,h3];refine jx (qs p.aLT) λη=>?_
 cases h4:zK p.aLT
 ·simp only [go_sem,h1,h2,h3,h4]
  simp [jhe,h1,h2,h3,h4]
 by_cases h5:p.aLY.length<=31
 ·have mD:¬(31:Int)<p.aLY.length:=by omega
  simp only [go_sem,h1,h2,h3,h4,mD];refine vV (λs=>∃(k b:Nat) (ty:Nat),k<=p.aLY.length/\(p.aLY.take k).all edB=true/\s.t 3=.c (.v (.int .i64 k))/\s.t 1=.c (.bp 100 0 b)/\s.o 100=.box b ty [.a (.v (.int .i64 p.aMC)),.a (.v (.int .i64 p.aMG)),.a (.v (.int .i64 p.aMF)),.a (.v (.int .i64 p.aLT)),.a (.ro (jv p.aLY))]) (λs=>p.aLY.length-s.n 3) ?_ ?_
  ·exact ⟨0,_,_,aNE _,rfl,by simp only [go_sem]<;>rfl,by simp only [go_sem]<;>rfl,by simp only [go_sem]<;>rfl⟩
  ·rintro s ⟨k,b,ty,hk,ha,m8,uR,bL⟩
   by_cases aB:k<p.aLY.length
   ·have aA:(k:Int)<p.aLY.length:=by omega
    obtain ⟨x,hx⟩:=jd aB;have hw:=kX k;simp only [go_sem,m8,uR,bL,aB,aA,ju hx,jR];refine jx (qs x.src) λη=>?_
    cases h6:zK x.src
    ·simp only [go_sem,m8,uR,bL,h6]
     have:=jwC (f:=edB) hx (by simp [edB,h6])
     simp [jhe,this]
    simp only [go_sem,m8,uR,bL,aB,aA,ju hx,jR,h6];refine jx (qs x.dst) λη=>?_
    cases h7:zK x.dst
    ·simp only [go_sem,m8,uR,bL,h6,h7]
     have:=jwC (f:=edB) hx (by simp [edB,h6,h7])
     simp [jhe,this]
    simp only [go_sem,m8,uR,bL,h6,h7,hw];refine ⟨⟨k+1,b,ty,?_⟩,?_⟩
    ·and_intros<;>first|rfl|omega|exact jsb hx ha (by simp [edB,h6,h7])
    ·rw [je1 (k:=.i64) (n:=((k+1:Nat):Int)) (by simp only [go_sem]),je1 m8];omega
   ·have aA:¬(k:Int)<p.aLY.length:=by omega
    rw [aMO (by omega)] at ha
    simp only [go_sem,m8,uR,bL,aA];simp [jhe,h1,h2,h3,h4,h5,ha]
 ·have mD:(31:Int)<p.aLY.length:=by omega
  simp only [go_sem,h1,h2,h3,h4,mD];simp [jhe,h5]
def kb (d:Dd):Bool:=
 if d.aMD=1 then zK d.run&&d.aMA==0&&d.tri==0&&d.aLZ==0&&d.aMB==0&&jhe d.aLW
 else if d.aMD=2 then d.run==0&&d.aMA==0&&d.tri==0&&zK d.aLZ&&zK d.aMB&&jb5 d.aLW
 else if d.aMD=3\/d.aMD=4 then zK d.run&&zK d.aMA&&zK d.tri&&d.aLZ==0&&d.aMB==0&&jb5 d.aLW
 else if d.aMD=5\/d.aMD=8 then d.run==0&&d.aMA==0&&d.tri==0&&d.aLZ==0&&d.aMB==0&&jb5 d.aLW
 else if d.aMD=6\/d.aMD=7 then zK d.run&&d.aMA==0&&d.tri==0&&d.aLZ==0&&d.aMB==0&&jb5 d.aLW
 else false
theorem jmR (d:Dd) (hb:jbX d<=2000000):kg Tryz.prog 147 [.agg (jj d)] (.c (.val (.bool (kb d)))):=by
 refine pf_ jiN ?_;unfold jgI;obtain ⟨aMD,run,aLW,aMA,tri,aLZ,aMB⟩:=d;have hp:aLW.aLY.length<=4000000:=by simp only [jbX,jeZ] at hb;omega
 by_cases hk:1<=aMD/\aMD<=8
 ·have:aMD=1\/aMD=2\/aMD=3\/aMD=4\/aMD=5\/aMD=6\/aMD=7\/aMD=8:=by omega
  simp only [go_sem,jj,ja];intros;refine jx (jJ aMD 1 8) λη=>?_
  rcases this with rfl|rfl|rfl|rfl|rfl|rfl|rfl|rfl
  ·simp only [go_sem,jj,ja]
   refine jx (qs run) λη=>?_
   cases g0:zK run
   ·simp only [go_sem,jj,ja,g0]
    simp [kb,g0]
   simp only [go_sem,jj,ja,g0];by_cases e1:aMA=0;rotate_left
   ·have g1:(aMA !=0)=true:=by simpa using e1
    simp only [go_sem,jj,ja,g0,g1];simp [kb,e1,g0]
   subst e1;simp only [go_sem,jj,ja,g0];by_cases e2:tri=0;rotate_left
   ·have g2:(tri !=0)=true:=by simpa using e2
    simp only [go_sem,jj,ja,g0,g2];simp [kb,e2,g0]
   subst e2;simp only [go_sem,jj,ja,g0];by_cases e3:aLZ=0;rotate_left
   ·have g3:(aLZ !=0)=true:=by simpa using e3
    simp only [go_sem,jj,ja,g0,g3];simp [kb,e3,g0]
   subst e3;simp only [go_sem,jj,ja,g0];by_cases e4:aMB=0;rotate_left
   ·have g4:(aMB !=0)=true:=by simpa using e4
    simp only [go_sem,jj,ja,g0,g4];simp [kb,e4,g0]
   subst e4;simp only [go_sem,jj,ja,g0];refine jx (ju2 aLW hp) λη=>?_
   simp only [go_sem,jj,ja,g0];simp [kb,g0]
  ·simp only [go_sem,jj,ja]
   by_cases e0:run=0;rotate_left
   ·have g0:(run !=0)=true:=by simpa using e0
    simp only [go_sem,jj,ja,g0];simp [kb,e0]
   subst e0;simp only [go_sem,jj,ja];by_cases e1:aMA=0;rotate_left
   ·have g1:(aMA !=0)=true:=by simpa using e1
    simp only [go_sem,jj,ja,g1];simp [kb,e1]
   subst e1;simp only [go_sem,jj,ja];by_cases e2:tri=0;rotate_left
   ·have g2:(tri !=0)=true:=by simpa using e2
    simp only [go_sem,jj,ja,g2];simp [kb,e2]
   subst e2;simp only [go_sem,jj,ja];refine jx (qs aLZ) λη=>?_
   cases g3:zK aLZ
   ·simp only [go_sem,jj,ja,g3]
    simp [kb,g3]
   simp only [go_sem,jj,ja,g3];refine jx (qs aMB) λη=>?_
   cases g4:zK aMB
   ·simp only [go_sem,jj,ja,g3,g4]
    simp [kb,g3,g4]
   simp only [go_sem,jj,ja,g3,g4];refine jx (za aLW) λη=>?_
   simp only [go_sem,jj,ja,g3,g4];simp [kb,g3,g4]
  ·simp only [go_sem,jj,ja]
   refine jx (qs run) λη=>?_
   cases g0:zK run
   ·simp only [go_sem,jj,ja,g0]
    simp [kb,g0]
   simp only [go_sem,jj,ja,g0];refine jx (qs aMA) λη=>?_
   cases g1:zK aMA
   ·simp only [go_sem,jj,ja,g0,g1]
    simp [kb,g0,g1]
   simp only [go_sem,jj,ja,g0,g1];refine jx (qs tri) λη=>?_
   cases g2:zK tri
   ·simp only [go_sem,jj,ja,g0,g1,g2]
    simp [kb,g0,g1,g2]
   simp only [go_sem,jj,ja,g0,g1,g2];by_cases e3:aLZ=0;rotate_left
   ·have g3:(aLZ !=0)=true:=by simpa using e3
    simp only [go_sem,jj,ja,g0,g1,g2,g3];simp [kb,e3,g0,g1,g2]
   subst e3;simp only [go_sem,jj,ja,g0,g1,g2];by_cases e4:aMB=0;rotate_left
   ·have g4:(aMB !=0)=true:=by simpa using e4
    simp only [go_sem,jj,ja,g0,g1,g2,g4];simp [kb,e4,g0,g1,g2]
   subst e4;simp only [go_sem,jj,ja,g0,g1,g2];refine jx (za aLW) λη=>?_
   simp only [go_sem,jj,ja,g0,g1,g2];simp [kb,g0,g1,g2]
  ·simp only [go_sem,jj,ja]
   refine jx (qs run) λη=>?_
   cases g0:zK run
   ·simp only [go_sem,jj,ja,g0]
    simp [kb,g0]
   simp only [go_sem,jj,ja,g0];refine jx (qs aMA) λη=>?_
   cases g1:zK aMA
   ·simp only [go_sem,jj,ja,g0,g1]
    simp [kb,g0,g1]
   simp only [go_sem,jj,ja,g0,g1];refine jx (qs tri) λη=>?_
   cases g2:zK tri
   ·simp only [go_sem,jj,ja,g0,g1,g2]
    simp [kb,g0,g1,g2]
   simp only [go_sem,jj,ja,g0,g1,g2];by_cases e3:aLZ=0;rotate_left
   ·have g3:(aLZ !=0)=true:=by simpa using e3
    simp only [go_sem,jj,ja,g0,g1,g2,g3];simp [kb,e3,g0,g1,g2]
   subst e3;simp only [go_sem,jj,ja,g0,g1,g2];by_cases e4:aMB=0;rotate_left
   ·have g4:(aMB !=0)=true:=by simpa using e4
    simp only [go_sem,jj,ja,g0,g1,g2,g4];simp [kb,e4,g0,g1,g2]
   subst e4;simp only [go_sem,jj,ja,g0,g1,g2];refine jx (za aLW) λη=>?_
   simp only [go_sem,jj,ja,g0,g1,g2];simp [kb,g0,g1,g2]
  ·simp only [go_sem,jj,ja]
   by_cases e0:run=0;rotate_left
   ·have g0:(run !=0)=true:=by simpa using e0
    simp only [go_sem,jj,ja,g0];simp [kb,e0]
   subst e0;simp only [go_sem,jj,ja];by_cases e1:aMA=0;rotate_left
   ·have g1:(aMA !=0)=true:=by simpa using e1
    simp only [go_sem,jj,ja,g1];simp [kb,e1]
   subst e1;simp only [go_sem,jj,ja];by_cases e2:tri=0;rotate_left
   ·have g2:(tri !=0)=true:=by simpa using e2
    simp only [go_sem,jj,ja,g2];simp [kb,e2]
   subst e2;simp only [go_sem,jj,ja];by_cases e3:aLZ=0;rotate_left
   ·have g3:(aLZ !=0)=true:=by simpa using e3
    simp only [go_sem,jj,ja,g3];simp [kb,e3]
   subst e3;simp only [go_sem,jj,ja];by_cases e4:aMB=0;rotate_left
   ·have g4:(aMB !=0)=true:=by simpa using e4
    simp only [go_sem,jj,ja,g4];simp [kb,e4]
   subst e4;simp only [go_sem,jj,ja];refine jx (za aLW) λη=>?_
   simp only [go_sem,jj,ja];simp [kb]
  ·simp only [go_sem,jj,ja]
   refine jx (qs run) λη=>?_
   cases g0:zK run
   ·simp only [go_sem,jj,ja,g0]
    simp [kb,g0]
   simp only [go_sem,jj,ja,g0];by_cases e1:aMA=0;rotate_left
   ·have g1:(aMA !=0)=true:=by simpa using e1
    simp only [go_sem,jj,ja,g0,g1];simp [kb,e1,g0]
   subst e1;simp only [go_sem,jj,ja,g0];by_cases e2:tri=0;rotate_left
   ·have g2:(tri !=0)=true:=by simpa using e2
    simp only [go_sem,jj,ja,g0,g2];simp [kb,e2,g0]
   subst e2;simp only [go_sem,jj,ja,g0];by_cases e3:aLZ=0;rotate_left
   ·have g3:(aLZ !=0)=true:=by simpa using e3
    simp only [go_sem,jj,ja,g0,g3];simp [kb,e3,g0]
   subst e3;simp only [go_sem,jj,ja,g0];by_cases e4:aMB=0;rotate_left
   ·have g4:(aMB !=0)=true:=by simpa using e4
    simp only [go_sem,jj,ja,g0,g4];simp [kb,e4,g0]
   subst e4;simp only [go_sem,jj,ja,g0];refine jx (za aLW) λη=>?_
   simp only [go_sem,jj,ja,g0];simp [kb,g0]
  ·simp only [go_sem,jj,ja]
   refine jx (qs run) λη=>?_
   cases g0:zK run
   ·simp only [go_sem,jj,ja,g0]
    simp [kb,g0]
   simp only [go_sem,jj,ja,g0];by_cases e1:aMA=0;rotate_left
   ·have g1:(aMA !=0)=true:=by simpa using e1
    simp only [go_sem,jj,ja,g0,g1];simp [kb,e1,g0]
   subst e1;simp only [go_sem,jj,ja,g0];by_cases e2:tri=0;rotate_left
   ·have g2:(tri !=0)=true:=by simpa using e2
    simp only [go_sem,jj,ja,g0,g2];simp [kb,e2,g0]
   subst e2;simp only [go_sem,jj,ja,g0];by_cases e3:aLZ=0;rotate_left
   ·have g3:(aLZ !=0)=true:=by simpa using e3
    simp only [go_sem,jj,ja,g0,g3];simp [kb,e3,g0]
   subst e3;simp only [go_sem,jj,ja,g0];by_cases e4:aMB=0;rotate_left
   ·have g4:(aMB !=0)=true:=by simpa using e4
    simp only [go_sem,jj,ja,g0,g4];simp [kb,e4,g0]
   subst e4;simp only [go_sem,jj,ja,g0];refine jx (za aLW) λη=>?_
   simp only [go_sem,jj,ja,g0];simp [kb,g0]
  ·simp only [go_sem,jj,ja]
   by_cases e0:run=0;rotate_left
   ·have g0:(run !=0)=true:=by simpa using e0
    simp only [go_sem,jj,ja,g0];simp [kb,e0]
   subst e0;simp only [go_sem,jj,ja];by_cases e1:aMA=0;rotate_left
   ·have g1:(aMA !=0)=true:=by simpa using e1
    simp only [go_sem,jj,ja,g1];simp [kb,e1]
   subst e1;simp only [go_sem,jj,ja];by_cases e2:tri=0;rotate_left
   ·have g2:(tri !=0)=true:=by simpa using e2
    simp only [go_sem,jj,ja,g2];simp [kb,e2]
   subst e2;simp only [go_sem,jj,ja];by_cases e3:aLZ=0;rotate_left
   ·have g3:(aLZ !=0)=true:=by simpa using e3
    simp only [go_sem,jj,ja,g3];simp [kb,e3]
   subst e3;simp only [go_sem,jj,ja];by_cases e4:aMB=0;rotate_left
   ·have g4:(aMB !=0)=true:=by simpa using e4
    simp only [go_sem,jj,ja,g4];simp [kb,e4]
   subst e4;simp only [go_sem,jj,ja];refine jx (za aLW) λη=>?_
   simp only [go_sem,jj,ja];simp [kb]
 ·simp only [go_sem,jj,ja]
  intros;refine jx (jJ aMD 1 8) λη=>?_
  simp only [go_sem,hk];have h1:aMD≠1:=by omega
  have h2:aMD≠2:=by omega
  have h3:aMD≠3:=by omega
  have h4:aMD≠4:=by omega
  have h5:aMD≠5:=by omega
  have h6:aMD≠6:=by omega
  have h7:aMD≠7:=by omega
  have h8:aMD≠8:=by omega
  simp [kb,h1,h2,h3,h4,h5,h6,h7,h8]
theorem ze (x y:Dd):kg Tryz.prog 92 [.agg (jj x),.agg (jj y)] (.c (.val (.bool (decide (x=y))))):=jpV ⟨_,Tryz.func92,by kernel_rfl,by kernel_rfl⟩ λw a b ⟨S,ha⟩ ⟨S2,hb⟩=>jql x y a b S S2 w false false ha hb
def ja7 (d:Dd):List Int:=
 if d.aMD=1 then [d.run,d.aLW.aMC,d.aLW.aMG,d.aLW.aMF,d.aLW.aLT,d.aLW.aLY.length]++d.aLW.aLY.flatMap λe=>[e.src,e.dst]
 else if d.aMD=2 then [d.aLZ,d.aMB]
 else if d.aMD=3\/d.aMD=4 then [d.run,d.aMA,d.tri]
 else if d.aMD=6\/d.aMD=7 then [d.run]
 else []
theorem jyY (l:List Ed):(l.flatMap λe=>[e.src,e.dst]).length=2*l.length:=by
 induction l with
 |nil=>rfl
 |cons x l ih=>simp only [aNL,aMR,ih,aNG,aOM];omega
theorem jm3 (d:Dd) (hb:jbX d<=2000000):kg Tryz.prog 94 [.agg (jj d)] (.c (je (ja7 d))):=by
 refine pf_ jdb ?_;unfold jbn;obtain ⟨aMD,run,aLW,aMA,tri,aLZ,aMB⟩:=d;have hp:aLW.aLY.length<=4000000:=by simp only [jbX,jeZ] at hb;omega
 by_cases k1:aMD=1
 ·subst k1
  simp only [go_sem,jj,ja];intro b0 fG
  refine vV (λs=>∃(k g:Nat) (η:jm),k<=aLW.aLY.length/\(g=2800\/g=4300)/\s.t 31=.c (.ro (jv aLW.aLY))/\s.t 32=.c (.v (.int .i64 aLW.aLY.length))/\s.t 33=.c (.v (.int .i64 k))/\s.t 3=.c (.h g 0 [] (η []))/\
   s.o g=.loose (je ([run,aLW.aMC,aLW.aMG,aLW.aMF,aLW.aLT,(aLW.aLY.length:Int)]++(aLW.aLY.take k).flatMap λe=>[e.src,e.dst])) η) (λs=>aLW.aLY.length-s.n 33) ?_ ?_
  ·exact ⟨0,2800,fG,aNE _,.inl rfl,by simp only [go_sem]<;>rfl,by simp only [go_sem]<;>rfl,by simp only [go_sem]<;>rfl,by simp only [go_sem]<;>rfl,by simp only [go_sem]<;>rfl⟩
  ·rintro s ⟨k,g,η,hk,hg,h31,h32,z5,h3,bL⟩
   by_cases aB:k<aLW.aLY.length
   ·have aA:(k:Int)<aLW.aLY.length:=by omega
    obtain ⟨x,hx⟩:=jd aB;have hw:=kX k;generalize hl:[run,aLW.aMC,aLW.aMG,aLW.aMF,aLW.aLT,(aLW.aLY.length:Int)]++(aLW.aLY.take k).flatMap (λe=>[e.src,e.dst])=l at bL
    have eV:l.length=6+2*k:=by rw [<-hl,aMR,jyY,aMP,aNZ hk];rfl
    have dN:l.length+2<=maxLen:=by unfold maxLen;omega
    have bI:(l.length+2)*8<=140737488355328:=by omega
    have oL:l++[x.src,x.dst]=[run,aLW.aMC,aLW.aMG,aLW.aMF,aLW.aLT,(aLW.aLY.length:Int)]++(aLW.aLY.take (k+1)).flatMap (λe=>[e.src,e.dst]):=by
     rw [<-hl,aMT,hx];simp
    rcases hg with rfl|rfl
    all_goals
     simp only [go_sem,h31,h32,z5,h3,bL,aB,aA,ju hx,jR,dN,bI,hw,jth];intro b1 dB aV;refine ⟨⟨k+1,4300,aV,?_⟩,?_⟩
     ·and_intros<;>first|rfl|omega|exact .inr rfl|(rw [oL];rfl)
     ·rw [je1 (k:=.i64) (n:=((k+1:Nat):Int)) (by simp only [go_sem]),je1 z5];omega
   ·have aA:¬(k:Int)<aLW.aLY.length:=by omega
    rw [aMO (by omega)] at bL
    rcases hg with rfl|rfl
    ·simp only [go_sem,h31,h32,z5,h3,bL,aA]
     rfl
    ·simp only [go_sem,h31,h32,z5,h3,bL,aA]
     rfl
 ·have g1:(aMD==1)=false:=by simpa using k1
  by_cases k2:aMD=2
  ·subst k2
   simp only [go_sem,jj,ja];intros;rfl
  ·have g2:(aMD==2)=false:=by simpa using k2
   by_cases k3:aMD=3
   ·subst k3
    simp only [go_sem,jj,ja];intros;rfl
   ·have g3:(aMD==3)=false:=by simpa using k3
    by_cases k4:aMD=4
    ·subst k4
     simp only [go_sem,jj,ja];intros;rfl
    ·have g4:(aMD==4)=false:=by simpa using k4
     by_cases k6:aMD=6
     ·subst k6
      simp only [go_sem,jj,ja];intros;rfl
     ·have g6:(aMD==6)=false:=by simpa using k6
      by_cases k7:aMD=7
      ·subst k7
       simp only [go_sem,jj,ja];intros;rfl
      ·have g7:(aMD==7)=false:=by simpa using k7
       have e:ja7 ⟨aMD,run,aLW,aMA,tri,aLZ,aMB⟩=[]:=by simp [ja7,k1,k2,k3,k4,k6,k7]
       simp only [go_sem,jj,ja,g1,g2,g3,g4,g6,g7,e]
def zeroPl:Pl:=⟨0,0,0,0,[]⟩
def zg (d:Dd):Dd:=
 if d.aMD=1 then ⟨1,d.run,d.aLW,0,0,0,0⟩
 else if d.aMD=2 then ⟨2,0,zeroPl,0,0,d.aLZ,d.aMB⟩
 else if d.aMD=3\/d.aMD=4 then ⟨d.aMD,d.run,zeroPl,d.aMA,d.tri,0,0⟩
 else if d.aMD=6\/d.aMD=7 then ⟨d.aMD,d.run,zeroPl,0,0,0,0⟩
 else ⟨d.aMD,0,zeroPl,0,0,0,0⟩
def okI (d:Dd):Bool:=decide (1<=d.aMD/\d.aMD<=8)&&decide (d.aLW.aLY.length<=31)&&decide (d=zg d)&&(ja7 d).all zK
def jwj:C:=match vd with
 |.seq _ (.seq _ c)=>c
 |c=>c
theorem jnJ (d:Dd) (hb:jbX d<=2000000) {s:St} {b ty:Nat} (h1:s.t 1=.c (.bp 100 0 b)) (ho:s.o 100=.box b ty ((jj d).map λx=>.a x.toRo)):wpC Tryz.prog 0 jwj (jxj [.t 2] (.c (.val (.bool ((ja7 d).all zK))))) s:=by
 unfold jwj vd
 have hn:(ja7 d).length<=20000000:=by
  have hp:d.aLW.aLY.length<=2000000:=hb;unfold ja7;split
  ·rw [aMR,jyY];simp;omega
  ·split
   ·simp
   ·split
    ·simp
    ·split<;>simp
 simp only [go_sem,h1,ho,jj,ja];refine jn (jm3 d hb) (by simp only [go_sem,h1,ho,jj,ja]) λη=>?_
 generalize ja7 d=l at*;simp only [go_sem,h1,ho];refine vV (λs=>∃(k:Nat) (η:jm),k<=l.length/\(l.take k).all zK=true/\s.t 24=.c (.h 2400 0 [] (η []))/\s.t 25=.c (.v (.int .i64 l.length))/\s.t 26=.c (.v (.int .i64 k))/\s.o 2400=.loose (je l) η) (λs=>l.length-s.n 26) ?_ ?_
 ·exact ⟨0,η 0,aNE _,rfl,by simp only [go_sem]<;>rfl,by simp only [go_sem]<;>rfl,by simp only [go_sem]<;>rfl,by simp only [go_sem]<;>rfl⟩
 ·rintro s ⟨k,uN,hk,ha,h24,h25,z6,bL⟩
  by_cases aB:k<l.length
  ·have aA:(k:Int)<l.length:=by omega
   obtain ⟨x,hx⟩:=jd aB;have hw:=kX k;simp only [go_sem,h24,h25,z6,bL,aB,aA,jg hx,jf aB];refine jx (jE x 0 1000000000) λη=>?_
   have hd:decide (0<=x/\x<=1000000000)=zK x:=rfl;cases h6:zK x
   ·simp only [go_sem,hd,h6]
    simp [jwC (f:=zK) hx h6]
   simp only [go_sem,h24,h25,z6,bL,hd,h6,hw];refine ⟨⟨k+1,uN,?_⟩,?_⟩
   ·and_intros<;>first|rfl|omega|exact jsb hx ha h6
   ·rw [je1 (k:=.i64) (n:=((k+1:Nat):Int)) (by simp only [go_sem]),je1 z6];omega
  ·have aA:¬(k:Int)<l.length:=by omega
   rw [aMO (by omega)] at ha
   simp only [go_sem,h24,h25,z6,bL,aA];simp [ha]
def c_dA:C:=match vd with
 |.seq c _=>c
 |c=>c
def c_dB:C:=match vd with
 |.seq _ (.seq c _)=>c
 |c=>c
set_option maxRecDepth 1000000 in
theorem jk7 (d:Dd) (hb:jbX d<=2000000):kg Tryz.prog 30 [.agg (jj d)] (.c (.val (.bool (okI d)))):=by
 refine pf_ ji3 ?_;have cG:=λ(s:St) (b ty:Nat)=>jnJ d hb (s:=s) (b:=b) (ty:=ty)
 rw [show vd=.seq c_dA (.seq c_dB jwj) from rfl]
 unfold c_dA c_dB vd;obtain ⟨aMD,run,aLW,aMA,tri,aLZ,aMB⟩:=d;by_cases hk:1<=aMD/\aMD<=8
 ·by_cases hl:aLW.aLY.length<=31
  ·have oS:¬(31:Int)<aLW.aLY.length:=by omega
   simp only [go_sem,jj,ja];intro b;refine jx (jE aMD 1 8) λη=>?_
   simp only [go_sem,hk,oS];have:aMD=1\/aMD=2\/aMD=3\/aMD=4\/aMD=5\/aMD=6\/aMD=7\/aMD=8:=by omega
   rcases this with rfl|rfl|rfl|rfl|rfl|rfl|rfl|rfl
   ·refine qe (qv (β:=7000000) Tryz.func93 kM (by simp) ?_)
    unfold qf;simp only [go_sem];intros;have hu:zg ⟨1,run,aLW,aMA,tri,aLZ,aMB⟩=⟨1,run,aLW,0,0,0,0⟩:=by simp [zg,zeroPl]
    refine jx (ze ⟨1,run,aLW,aMA,tri,aLZ,aMB⟩ ⟨1,run,aLW,0,0,0,0⟩) λaV=>?_
    simp only [<-hu];cases hs:decide ((⟨1,run,aLW,aMA,tri,aLZ,aMB⟩:Dd)=zg ⟨1,run,aLW,aMA,tri,aLZ,aMB⟩)
    ·simp only [go_sem,hs]
     simp [okI,hs]
    ·have e:okI ⟨1,run,aLW,aMA,tri,aLZ,aMB⟩=(ja7 ⟨1,run,aLW,aMA,tri,aLZ,aMB⟩).all zK:=by simp only [okI,hs];simp [hl]
     rw [e];simp only [go_sem,hs];exact cG _ b _ (by simp only [go_sem]) (by simp only [go_sem,jj,ja]<;>rfl)
   ·refine qe (qv (β:=7000000) Tryz.func93 kM (by simp) ?_)
    unfold qf;simp only [go_sem];intros;have hu:zg ⟨2,run,aLW,aMA,tri,aLZ,aMB⟩=⟨2,0,⟨0,0,0,0,[]⟩,0,0,aLZ,aMB⟩:=by simp [zg,zeroPl]
    refine jx (ze ⟨2,run,aLW,aMA,tri,aLZ,aMB⟩ ⟨2,0,⟨0,0,0,0,[]⟩,0,0,aLZ,aMB⟩) λaV=>?_
    simp only [<-hu];cases hs:decide ((⟨2,run,aLW,aMA,tri,aLZ,aMB⟩:Dd)=zg ⟨2,run,aLW,aMA,tri,aLZ,aMB⟩)
    ·simp only [go_sem,hs]
     simp [okI,hs]
    ·have e:okI ⟨2,run,aLW,aMA,tri,aLZ,aMB⟩=(ja7 ⟨2,run,aLW,aMA,tri,aLZ,aMB⟩).all zK:=by simp only [okI,hs];simp [hl]
     rw [e];simp only [go_sem,hs];exact cG _ b _ (by simp only [go_sem]) (by simp only [go_sem,jj,ja]<;>rfl)
   ·refine qe (qv (β:=7000000) Tryz.func93 kM (by simp) ?_)
    unfold qf;simp only [go_sem];intros;have hu:zg ⟨3,run,aLW,aMA,tri,aLZ,aMB⟩=⟨3,run,⟨0,0,0,0,[]⟩,aMA,tri,0,0⟩:=by simp [zg,zeroPl]
    refine jx (ze ⟨3,run,aLW,aMA,tri,aLZ,aMB⟩ ⟨3,run,⟨0,0,0,0,[]⟩,aMA,tri,0,0⟩) λaV=>?_
    simp only [<-hu];cases hs:decide ((⟨3,run,aLW,aMA,tri,aLZ,aMB⟩:Dd)=zg ⟨3,run,aLW,aMA,tri,aLZ,aMB⟩)
    ·simp only [go_sem,hs]
     simp [okI,hs]
    ·have e:okI ⟨3,run,aLW,aMA,tri,aLZ,aMB⟩=(ja7 ⟨3,run,aLW,aMA,tri,aLZ,aMB⟩).all zK:=by simp only [okI,hs];simp [hl]
     rw [e];simp only [go_sem,hs];exact cG _ b _ (by simp only [go_sem]) (by simp only [go_sem,jj,ja]<;>rfl)
   ·refine qe (qv (β:=7000000) Tryz.func93 kM (by simp) ?_)
    unfold qf;simp only [go_sem];intros;have hu:zg ⟨4,run,aLW,aMA,tri,aLZ,aMB⟩=⟨4,run,⟨0,0,0,0,[]⟩,aMA,tri,0,0⟩:=by simp [zg,zeroPl]
    refine jx (ze ⟨4,run,aLW,aMA,tri,aLZ,aMB⟩ ⟨4,run,⟨0,0,0,0,[]⟩,aMA,tri,0,0⟩) λaV=>?_
    simp only [<-hu];cases hs:decide ((⟨4,run,aLW,aMA,tri,aLZ,aMB⟩:Dd)=zg ⟨4,run,aLW,aMA,tri,aLZ,aMB⟩)
    ·simp only [go_sem,hs]
     simp [okI,hs]
    ·have e:okI ⟨4,run,aLW,aMA,tri,aLZ,aMB⟩=(ja7 ⟨4,run,aLW,aMA,tri,aLZ,aMB⟩).all zK:=by simp only [okI,hs];simp [hl]
     rw [e];simp only [go_sem,hs];exact cG _ b _ (by simp only [go_sem]) (by simp only [go_sem,jj,ja]<;>rfl)
   ·refine qe (qv (β:=7000000) Tryz.func93 kM (by simp) ?_)
    unfold qf;simp only [go_sem];intros;have hu:zg ⟨5,run,aLW,aMA,tri,aLZ,aMB⟩=⟨5,0,⟨0,0,0,0,[]⟩,0,0,0,0⟩:=by simp [zg,zeroPl]
    refine jx (ze ⟨5,run,aLW,aMA,tri,aLZ,aMB⟩ ⟨5,0,⟨0,0,0,0,[]⟩,0,0,0,0⟩) λaV=>?_
    simp only [<-hu];cases hs:decide ((⟨5,run,aLW,aMA,tri,aLZ,aMB⟩:Dd)=zg ⟨5,run,aLW,aMA,tri,aLZ,aMB⟩)
    ·simp only [go_sem,hs]
     simp [okI,hs]
    ·have e:okI ⟨5,run,aLW,aMA,tri,aLZ,aMB⟩=(ja7 ⟨5,run,aLW,aMA,tri,aLZ,aMB⟩).all zK:=by simp only [okI,hs];simp [hl]
     rw [e];simp only [go_sem,hs];exact cG _ b _ (by simp only [go_sem]) (by simp only [go_sem,jj,ja]<;>rfl)
   ·refine qe (qv (β:=7000000) Tryz.func93 kM (by simp) ?_)
    unfold qf;simp only [go_sem];intros;have hu:zg ⟨6,run,aLW,aMA,tri,aLZ,aMB⟩=⟨6,run,⟨0,0,0,0,[]⟩,0,0,0,0⟩:=by simp [zg,zeroPl]
    refine jx (ze ⟨6,run,aLW,aMA,tri,aLZ,aMB⟩ ⟨6,run,⟨0,0,0,0,[]⟩,0,0,0,0⟩) λaV=>?_
    simp only [<-hu];cases hs:decide ((⟨6,run,aLW,aMA,tri,aLZ,aMB⟩:Dd)=zg ⟨6,run,aLW,aMA,tri,aLZ,aMB⟩)
    ·simp only [go_sem,hs]
     simp [okI,hs]
    ·have e:okI ⟨6,run,aLW,aMA,tri,aLZ,aMB⟩=(ja7 ⟨6,run,aLW,aMA,tri,aLZ,aMB⟩).all zK:=by simp only [okI,hs];simp [hl]
     rw [e];simp only [go_sem,hs];exact cG _ b _ (by simp only [go_sem]) (by simp only [go_sem,jj,ja]<;>rfl)
   ·refine qe (qv (β:=7000000) Tryz.func93 kM (by simp) ?_)
    unfold qf;simp only [go_sem];intros;have hu:zg ⟨7,run,aLW,aMA,tri,aLZ,aMB⟩=⟨7,run,⟨0,0,0,0,[]⟩,0,0,0,0⟩:=by simp [zg,zeroPl]
    refine jx (ze ⟨7,run,aLW,aMA,tri,aLZ,aMB⟩ ⟨7,run,⟨0,0,0,0,[]⟩,0,0,0,0⟩) λaV=>?_
    simp only [<-hu];cases hs:decide ((⟨7,run,aLW,aMA,tri,aLZ,aMB⟩:Dd)=zg ⟨7,run,aLW,aMA,tri,aLZ,aMB⟩)
    ·simp only [go_sem,hs]
     simp [okI,hs]
    ·have e:okI ⟨7,run,aLW,aMA,tri,aLZ,aMB⟩=(ja7 ⟨7,run,aLW,aMA,tri,aLZ,aMB⟩).all zK:=by simp only [okI,hs];simp [hl]
     rw [e];simp only [go_sem,hs];exact cG _ b _ (by simp only [go_sem]) (by simp only [go_sem,jj,ja]<;>rfl)
   ·refine qe (qv (β:=7000000) Tryz.func93 kM (by simp) ?_)
    unfold qf;simp only [go_sem];intros;have hu:zg ⟨8,run,aLW,aMA,tri,aLZ,aMB⟩=⟨8,0,⟨0,0,0,0,[]⟩,0,0,0,0⟩:=by simp [zg,zeroPl]
    refine jx (ze ⟨8,run,aLW,aMA,tri,aLZ,aMB⟩ ⟨8,0,⟨0,0,0,0,[]⟩,0,0,0,0⟩) λaV=>?_
    simp only [<-hu];cases hs:decide ((⟨8,run,aLW,aMA,tri,aLZ,aMB⟩:Dd)=zg ⟨8,run,aLW,aMA,tri,aLZ,aMB⟩)
    ·simp only [go_sem,hs]
     simp [okI,hs]
    ·have e:okI ⟨8,run,aLW,aMA,tri,aLZ,aMB⟩=(ja7 ⟨8,run,aLW,aMA,tri,aLZ,aMB⟩).all zK:=by simp only [okI,hs];simp [hl]
     rw [e];simp only [go_sem,hs];exact cG _ b _ (by simp only [go_sem]) (by simp only [go_sem,jj,ja]<;>rfl)
  ·have oS:(31:Int)<aLW.aLY.length:=by omega
   simp only [go_sem,jj,ja];intro b;refine jx (jE aMD 1 8) λη=>?_
   simp only [go_sem,hk,oS];simp [okI,hl]
 ·simp only [go_sem,jj,ja]
  intro b;refine jx (jE aMD 1 8) λη=>?_
  simp only [go_sem,hk];have:decide (1<=aMD/\aMD<=8)=false:=decide_eq_false hk;simp only [okI,this,Bool.false_and]
theorem jdI (p:Pl):jb5 p=decide (p=zeroPl):=by
 obtain ⟨a,b,c,d,e⟩:=p;rw [Bool.eq_iff_iff];simp only [jb5,zeroPl,aMY,aOO,aNC,Pl.mk.injEq];constructor
 ·rintro ⟨⟨⟨⟨h1,h2⟩,h3⟩,h4⟩,h5⟩
  exact ⟨h1,h2,h3,h4,aNF (by omega)⟩
 ·rintro ⟨h1,h2,h3,h4,rfl⟩
  exact ⟨⟨⟨⟨h1,h2⟩,h3⟩,h4⟩,rfl⟩
theorem jDg (l:List Ed):(l.flatMap λe=>[e.src,e.dst]).all zK=l.all edB:=by
 induction l with
 |nil=>rfl
 |cons x l ih=>simp [aNL,List.all_append,ih,edB,Bool.and_assoc]
theorem jvb (d:Dd):okI d=kb d:=by
 have hz:zeroPl.aLY.length=0:=rfl;obtain ⟨aMD,run,aLW,aMA,tri,aLZ,aMB⟩:=d;by_cases h1:aMD=1
 ·subst h1
  have e:(ja7 ⟨1,run,aLW,aMA,tri,aLZ,aMB⟩).all zK=(zK run&&zK aLW.aMC&&zK aLW.aMG&&zK aLW.aMF&&zK aLW.aLT&&zK aLW.aLY.length&&aLW.aLY.all edB):=by
   simp only [ja7,if_true,List.all_append,jDg];simp [Bool.and_assoc]
  have e2:decide (aLW.aLY.length<=31)=true->zK (aLW.aLY.length:Int)=true:=by
   intro h;have h:=aNS h;exact decide_eq_true (by omega)
  rw [okI,e,kb];simp only [zg,jhe,if_true,Dd.mk.injEq,true_and];rw [Bool.eq_iff_iff];simp only [aMY,aNC,aOO] at e2⊢;constructor
  ·rintro ⟨⟨⟨_,h2⟩,h3⟩,h4⟩
   grind
  ·intro h
   have h5:aLW.aLY.length<=31:=by grind
   have:=e2 h5
   grind
 ·by_cases h2:aMD=2
  ·subst h2
   rw [Bool.eq_iff_iff];simp only [okI,kb,zg,ja7,jdI,aMY,aNC,aOO,Dd.mk.injEq,List.all_cons,List.all_nil,Int.reduceEq,if_false,if_true,true_and,and_true];constructor
   ·rintro h;grind
   ·rintro ⟨⟨⟨⟨⟨a,b⟩,c⟩,d⟩,e⟩,f⟩
    subst f;exact ⟨⟨⟨by omega,by rw [hz];omega⟩,a,rfl,b,c⟩,d,e⟩
  ·by_cases z4:aMD=3\/aMD=4
   ·rw [Bool.eq_iff_iff]
    simp only [okI,kb,zg,ja7,jdI,h1,h2,z4,aMY,aNC,aOO,Dd.mk.injEq,List.all_cons,List.all_nil,if_false,if_true,true_and,and_true];constructor
    ·rintro h;grind
    ·rintro ⟨⟨⟨⟨⟨a,b⟩,c⟩,d⟩,e⟩,f⟩
     subst f;exact ⟨⟨⟨by omega,by rw [hz];omega⟩,rfl,d,e⟩,a,b,c⟩
   ·by_cases h67:aMD=6\/aMD=7
    ·have z1:¬(aMD=5\/aMD=8):=by omega
     rw [Bool.eq_iff_iff];simp only [okI,kb,zg,ja7,jdI,h1,h2,z4,h67,z1,aMY,aNC,aOO,Dd.mk.injEq,List.all_cons,List.all_nil,if_false,if_true,true_and,and_true];constructor
     ·rintro h;grind
     ·rintro ⟨⟨⟨⟨⟨a,b⟩,c⟩,d⟩,e⟩,f⟩
      subst f;exact ⟨⟨⟨by omega,by rw [hz];omega⟩,rfl,b,c,d,e⟩,a⟩
    ·by_cases z1:aMD=5\/aMD=8
     ·rw [Bool.eq_iff_iff]
      simp only [okI,kb,zg,ja7,jdI,h1,h2,z4,h67,z1,aMY,aNC,aOO,Dd.mk.injEq,List.all_cons,List.all_nil,if_false,if_true,true_and,and_true];constructor
      ·rintro h;grind
      ·rintro ⟨⟨⟨⟨⟨a,b⟩,c⟩,d⟩,e⟩,f⟩
       subst f;exact ⟨⟨by omega,by rw [hz];omega⟩,a,rfl,b,c,d,e⟩
     ·have hk:¬(1<=aMD/\aMD<=8):=by omega
      simp [okI,kb,h1,h2,z4,h67,z1,hk]
theorem jfN (d:Dd) (hb:jbX d<=2000000):kg Tryz.prog 30 [.agg (jj d)] (.c (.val (.bool (kb d)))):=by
 rw [<-jvb];exact jk7 d hb
abbrev jaU (l:List UInt8):D:=.sl 1 5 (l.map vt)
theorem jaQ (l:List UInt8):(jaU l).len=l.length:=by simp [D.len,D.cells,D.size]
noncomputable def vG (r:Rn):Rn:=if (kO r&&r.aLV==1)=true then ⟨r.id,r.aLW,4,vn jA r.aLT r.aLT.length⟩ else r
theorem jjj {r:Rn} (h:(kO r&&r.aLV==1)=false):vG r=r:=by simp [vG,h]
theorem jj1 {r:Rn} (h:(kO r&&r.aLV==1)=true):vG r=⟨r.id,r.aLW,4,vn jA r.aLT r.aLT.length⟩:=by simp [vG,h]
theorem jCp {r:Rn} (h:RunOkP r) (h1:r.aLV=1):cS 5 r.aLT=0:=by
 have h2:=h.aLV;rw [h1] at h2;unfold jg4 at h2;split at h2
 ·omega
 split at h2
 ·omega
 split at h2
 ·omega
 split at h2
 ·rename_i h3;exact h3.1
 ·omega
theorem jtb {ts:List Tk} (h:cS 5 ts=0) (k:Nat):vn (qu (-1)) ts k=vn jA ts k:=by
 refine jlV (λj y hy=>?_) k
 have h5:y.aLV≠5:=jr1 h hy;have hj:(j:Int)≠-1:=by omega
 simp [qu,jA,h5,hj]
theorem jvm (r:Rn):kQ (vG r)=kQ r:=by
 unfold vG;split
 ·simp only [kQ,vX]
 ·rfl
def jcf (y:Yd) (k:Nat) (r:Rn):Yd:=⟨y.now,y.seq,y.aLU,y.aLX.set k r⟩
theorem jwQ {α:Type} {f:α->Nat} {l:List α} {k:Nat} {x v:α} (h:l[k]?=some x) (hv:f v=f x):qN f (l.set k v)=qN f l:=by
 obtain ⟨hk,hx⟩:=aMI.1 h;have e:l=l.take k++x::l.drop (k+1):=by rw [<-hx,<-aOC hk,aNW]
 have e2:l.set k v=l.take k++v::l.drop (k+1):=by rw [List.set_eq_take_append_cons_drop,if_pos hk]
 rw [e2]
 conv=>rhs;rw [e]
 rw [jaD,jaD];simp only [qN,aNQ,aOW,hv]
theorem jsw {y:Yd} {k:Nat} {r r':Rn} (h:y.aLX[k]?=some r) (hr:kQ r'=kQ r):jt (jcf y k r')=jt y:=by
 simp only [jt,jac,jcf,aMU,jwQ h hr]
noncomputable def kK (y:Yd) (id:Int):Int:=if jw y=false then 8 else if runAt y id<0 then 10 else if ((y.aLX[(runAt y id).toNat]?).getD default).aLV=1 then 0 else 12
noncomputable def jX (y:Yd) (id:Int):Yd:=if kK y id=0 then jcf y (runAt y id).toNat (vG ((y.aLX[(runAt y id).toNat]?).getD default)) else y
def jeE:C:=iS [iA 1 (.box 52 8 (.t 0)),iA 2 wAL] (iS [aT 4 8 1,iA 5 (iK 133 [4]),iA 3 wAL,wAC 3 5] (.seq (iS [aT 6 8 1,iA 7 (iK 130 [6]),aU 8 7,aM 9 8,iB 10 9 false (iF 6 1),iB 11 9 false (iL 10),iB 12 9 false (iQ .neq 3 11 1),iA 13 (iY 9 (oT) (.t 12))] (iD 13 (iS [aT 14 8 3,wAC 2 14] .ret) .skip)) (iS [aT 15 8 3,iA 16 (.call 173 [.t 15,oI 4]),wAC 2 16] .ret)))
theorem jhH:fnC Tryz.prog Tryz.f191=some (jeE,[.cell 2 true 8],17):=by kernel_rfl
def jeR:C:=iS [iA 1 (.box 52 8 (.t 0)),iA 2 wAL] (iS [aT 4 8 1,iA 5 (iK 127 [4]),iA 3 wAL,wAC 3 5] (.seq (iS [aT 6 8 1,iA 7 (iK 81 [6]),aM 8 7,iB 9 8 true (iF 6 1),iB 10 8 true (iL 9),iB 11 8 true (iQ .eql 3 10 1),iA 12 (iY 8 (.t 11) (oF))] (iD 12 (iS [iA 13 (.call 171 [.t 3,.c (.int .i64 (-1))])] (.reg [aF 14 6 3,iC (.st 1 [none] (.t 14) (oI 4))])) .skip)) (iS [aT 15 8 3,wAC 2 15] .ret)))
theorem jhU:fnC Tryz.prog Tryz.f143=some (jeR,[.cell 2 true 8],16):=by kernel_rfl
def jgJ:C:=iS [iA 2 (.box 27 4 (.t 0)),iA 4 wAK,aN 5 0] (iS [aT 8 4 2,iA 9 (iK 67 [8]),iA 6 wAK,wAA 6 9] (iS [aT 10 4 2,aM 11 1,iA 12 (iK 26 [10,11]),aM 7 12] (.seq (.blk 0 (iS [aT 14 4 2,iA 15 (iK 66 [14]),aU 16 15,aM 13 16] (iD 13 (iS [aT 17 4 6,wAA 4 17,aN 5 8] .ret) (iS [aM 19 7,aQ 20 .lss 3 19 0,aM 18 20] (iD 18 (iS [aT 21 4 6,wAA 4 21,aN 5 10] .ret) (iS [aF 23 3 2,aL 24 23,aM 25 7,aI 26 8 24 25,aF 27 6 26,aL 28 27,aQ 29 .neq 3 28 1,aM 22 29] (iD 22 (iS [aT 30 4 6,wAA 4 30,aN 5 12] .ret) .skip))))))) (.seq (.dreg (tA 0 31 (iF 3 6) (tA 1 32 (iL 31) (tA 2 33 (iM 7) (tA 3 34 (iF 3 6) (tA 4 35 (iL 34) (tA 5 36 (iM 7) (tA 6 37 (iI 8 35 36) (tA 7 38 (iT 8 37) (tC 39 (iK 191 [38]) [2,1,0] (tA 9 40 (iI 8 32 33) (.alt (wAC 40 39) [] .done .stop)) .stop)))))))))) (iS [aT 41 4 6,wAA 4 41,aN 5 0] .ret)))))
theorem jiO:fnC Tryz.prog Tryz.f150=some (jgJ,[.cell 4 true 4,.t 5],42):=by kernel_rfl
def jgY:C:=iS [iA 2 (.box 27 4 (.t 0)),iA 4 wAK,aN 5 0] (iS [aT 8 4 2,iA 9 (iK 61 [8]),iA 6 wAK,wAA 6 9] (iS [aT 10 4 2,aM 11 1,iA 12 (iK 25 [10,11]),aM 7 12] (.seq (.blk 0 (iS [aT 14 4 2,iA 15 (iK 18 [14]),aU 16 15,aM 13 16] (iD 13 (iS [aT 17 4 6,wAA 4 17,aN 5 8] .ret) (iS [aM 19 7,aQ 20 .lss 3 19 0,aM 18 20] (iD 18 (iS [aT 21 4 6,wAA 4 21,aN 5 10] .ret) (iS [aF 23 3 2,aL 24 23,aM 25 7,aI 26 8 24 25,aF 27 6 26,aL 28 27,aQ 29 .neq 3 28 1,aM 22 29] (iD 22 (iS [aT 30 4 6,wAA 4 30,aN 5 12] .ret) .skip))))))) (.seq (.dreg (tA 0 31 (iF 3 6) (tA 1 32 (iL 31) (tA 2 33 (iM 7) (tA 3 34 (iF 3 2) (tA 4 35 (iL 34) (tA 5 36 (iM 7) (tA 6 37 (iI 8 35 36) (tA 7 38 (iT 8 37) (tC 39 (iK 143 [38]) [2,1,0] (tA 9 40 (iI 8 32 33) (.alt (wAC 40 39) [] .done .stop)) .stop)))))))))) (iS [aT 41 4 6,wAA 4 41,aN 5 0] .ret)))))
theorem ji4:fnC Tryz.prog Tryz.f90=some (jgY,[.cell 4 true 4,.t 5],42):=by kernel_rfl
theorem jkX (r:Rn) (cR:r.aLW.aLY.length<=4000000) (ht:r.aLT.length<=4000000):kg Tryz.prog 191 [.agg (jc r)] (.agg (jc (vG r))):=by
 refine pf_ jhH ?_;unfold jeE;simp only [go_sem,jc,ja];intro b1 b2;refine jx (vM r cR ht) λbC=>?_
 simp only [go_sem,jc,ja];intro b3;refine jx (jcV r) λη=>?_
 simp only [go_sem,jc,ja];cases h:kO r
 ·have hb:vG r=r:=jjj (by simp [h])
  simp only [go_sem,jc,ja,h,hb]
 cases h1:r.aLV !=1;rotate_left
 ·have dN:(r.aLV==1)=false:=by have:=h1;simp only [bne,Bool.not_eq_true'] at this;exact this
  have hb:vG r=r:=jjj (by simp [h,dN])
  simp only [go_sem,jc,ja,h,h1,hb]
 have dN:(r.aLV==1)=true:=by have:=h1;simp only [bne,Bool.not_eq_false'] at this;exact this
 have hb:vG r=⟨r.id,r.aLW,4,vn jA r.aLT r.aLT.length⟩:=jj1 (by simp [h,dN])
 rw [hb];simp only [go_sem,jc,ja,h,h1];generalize gA:r.aLT=ts0 at*;refine qe (qv (β:=7000000) Tryz.func173 jbk (by simp) ?_)
 unfold jaX;simp only [go_sem,jc,ja];intro b72 b74;refine vo (λi:Nat=>St.of [(1,Ni 4),(2,Bx 2 b72),(4,Bx 4 b74),(5,Ni i)] [(200,ZRn b2 tRn),(2,ja1 b72 tRn ⟨r.id,r.aLW,r.aLV,vn jA ts0 i⟩ (bC 5) (bC 7)),(4,ZRn b74 tRn)]) (λi=>i<=ts0.length) (λi=>ts0.length-i) 0 (jy [200,700000200,700000400] (by simp only [go_sem,jc,ja,jrt]<;>trivial)) ?_
 rintro j hj;have d9:=vX (f:=jA) (ts:=ts0) (k:=j);by_cases aB:j<ts0.length
 ·have aA:(j:Int)<ts0.length:=by omega
  have dU:=qT j;obtain ⟨y,hy⟩:=jd aB;have eE:=jfP (f:=jA) hy;have cJ:=jfO (f:=jA) hy;generalize vn jA ts0 j=M at*;have iX:j<M.length:=by omega
  have hw:=kX j;simp only [go_sem,jc,ja,d9,aA,dU,aB,jtG eE,jix eE,jk];intro b6;cases eX:y.aLV !=4
  ·have lE:y.aLV=4:=by simpa using eX
   have nF:jA j y=y:=by simp [jA,lE]
   have hg:jA j y=⟨y.aLV,y.aME,y.tri,y.til⟩:=nF;rw [hg] at cJ;simp only [go_sem,jc,ja,aMX,d9,aA,dU,aB,eX,jb2 y.aLV y.aME y.tri y.til iX,cJ,jix eE,hw];exact ql (j+1) (jy [200,2,4] (by simp only [go_sem,jc,ja]<;>trivial))
  cases rH:y.aLV !=5
  ·have tE:y.aLV=5:=by simpa using rH
   have nF:jA j y=y:=by simp [jA,tE]
   have hg:jA j y=⟨y.aLV,y.aME,y.tri,y.til⟩:=nF;rw [hg] at cJ;simp only [go_sem,jc,ja,aMX,d9,aA,dU,aB,eX,rH,jb2 y.aLV y.aME y.tri y.til iX,cJ,jix eE,hw];exact ql (j+1) (jy [200,2,4] (by simp only [go_sem,jc,ja]<;>trivial))
  ·have hg:jA j y=⟨6,y.aME,y.tri,0⟩:=by
    have h1:¬y.aLV=4:=by simpa using eX
    have h2:¬y.aLV=5:=by simpa using rH
    simp [jA,h1,h2]
   rw [hg] at cJ;simp only [go_sem,jc,ja,aMX,d9,aA,dU,aB,eX,rH,jb2 6 y.aME y.tri 0 iX,cJ,jix eE,hw];exact ql (j+1) (jy [200,2,4] (by simp only [go_sem,jc,ja]<;>trivial))
 have aA:¬(j:Int)<ts0.length:=by omega
 obtain rfl:j=ts0.length:=by omega
 generalize vn jA ts0 ts0.length=M at*;simp only [go_sem,jc,ja,aMX,d9,aA]
theorem jk4 (r:Rn) (cR:r.aLW.aLY.length<=4000000) (ht:r.aLT.length<=4000000):kg Tryz.prog 143 [.agg (jc r)] (.agg (jc (vG r))):=by
 refine pf_ jhU ?_;unfold jeR;simp only [go_sem,jc,ja];intro b1 b2;refine jx (jeh r cR ht) λbC=>?_
 simp only [go_sem,jc,ja];intro b3;refine jx (jia r cR) λη=>?_
 simp only [go_sem,jc,ja];cases h:kO r
 ·have hb:vG r=r:=jjj (by simp [h])
  simp only [go_sem,jc,ja,h,hb]
 cases h1:r.aLV==1
 ·have hb:vG r=r:=jjj (by simp [h,h1])
  simp only [go_sem,jc,ja,h,h1,hb]
 have hb:vG r=⟨r.id,r.aLW,4,vn jA r.aLT r.aLT.length⟩:=jj1 (by simp [h,h1])
 have h5:=jCp (runOk_iff.1 h) (by simpa using h1)
 rw [hb,<-jtb h5];simp only [go_sem,jc,ja,h,h1];generalize gA:r.aLT=ts0 at*;refine qe (qv (β:=8000000) Tryz.func171 jda (by simp) ?_)
 unfold jdq;simp only [go_sem,jc,ja,aMX];refine vo (λi:Nat=>St.of [(0,Bx 300 b3),(1,Ni (-1)),(10,Ni ts0.length),(11,Ni i)] [(200,ZRn b2 tRn),(300,ja1 b3 tRn ⟨r.id,r.aLW,r.aLV,vn (qu (-1)) ts0 i⟩ (bC 5) (bC 7))]) (λi=>i<=ts0.length) (λi=>ts0.length-i) 0 (jy [200,300] (by simp only [go_sem,jc,ja,jrt]<;>trivial)) ?_
 rintro j hj;have d9:=vX (f:=qu (-1)) (ts:=ts0) (k:=j);by_cases aB:j<ts0.length
 ·have aA:(j:Int)<ts0.length:=by omega
  have dU:=qT j;obtain ⟨y,hy⟩:=jd aB;have eE:=jfP (f:=qu (-1)) hy;have cJ:=jfO (f:=qu (-1)) hy;have mK:=joA (f:=qu (-1)) hy;generalize vn (qu (-1)) ts0 j=M at*;have hw:=kX j;have iX:j<M.length:=by omega
  have bO:¬(j:Int)=-1:=by omega
  have aR:((j:Int) !=-1)=true:=by simp only [bne,Bool.not_eq_true',beq_eq_false_iff_ne];exact bO
  cases eX:y.aLV !=4
  ·have hg:qu (-1) j y=y:=by have:y.aLV=4:=by simpa using eX
                             simp [qu,this]
   have hq:=mK hg;simp only [go_sem,jc,ja,aMX,d9,aA,dU,aB,aR,zF eE,zx eE,vi eE,qK eE,eX,hw];exact ql (j+1) (jy [200,300] (by simp only [go_sem,jc,ja,hq]<;>trivial))
  ·have hg:qu (-1) j y=⟨6,y.aME,y.tri,0⟩:=by
    have h1:¬y.aLV=4:=by simpa using eX
    simp [qu,h1,bO]
   rw [hg] at cJ;have mX:(M.set j ⟨6,y.aME,y.tri,y.til⟩)[j]?=some ⟨6,y.aME,y.tri,y.til⟩:=aML iX;simp only [go_sem,jc,ja,aMX,d9,aA,dU,aB,aR,zF eE,zx eE,vi eE,qK eE,eX,jbp eE,zX eE,je4 mX,jj6 mX,aNP,cJ,hw];exact ql (j+1) (jy [200,300] (by simp only [go_sem,jc,ja]<;>trivial))
 have aA:¬(j:Int)<ts0.length:=by omega
 obtain rfl:j=ts0.length:=by omega
 generalize vn (qu (-1)) ts0 ts0.length=M at*;simp only [go_sem,jc,ja,aMX,d9,aA]
theorem jmS (y:Yd) (id:Int) (ht:jt y<=2000000):kg Tryz.prog 150 [.agg (jb y),.c (.val (.int .i64 id))] (.tup [(true,jb (jX y id)),(false,[.val (.int .i64 (kK y id))])]):=by
 refine pf_ jiO ?_;unfold jgJ;simp only [go_sem,jb];intro b2 b4;refine jx (kp y ht) λbC=>?_
 simp only [go_sem,jb];intro b6;refine jx (qr y id) λη=>?_
 simp only [go_sem,jb];refine jx (qq y ht) λη=>?_
 simp only [go_sem,jb];cases aC:jw y
 ·have hc:kK y id=8:=by simp [kK,aC]
  have hy:jX y id=y:=by simp [jX,hc]
  simp only [go_sem,jb,aC,hc,hy];refine qm _ _ _ _ _ ?_;simp only [go_sem,jb]
 by_cases aK:runAt y id<0
 ·have hc:kK y id=10:=by simp [kK,aC,aK]
  have hy:jX y id=y:=by simp [jX,hc]
  simp only [go_sem,jb,aC,aK,hc,hy];refine qm _ _ _ _ _ ?_;simp only [go_sem,jb]
 obtain ⟨k,r,bT,hr,hid,h8⟩:=kU aK;have hk:=(aMI.1 hr).1;have bD:=qT k;have cD:¬(k:Int)<0:=by omega
 have eB:(y.aLX[(runAt y id).toNat]?).getD default=r:=by rw [bT,aMQ,hr];rfl
 cases aJ:r.aLV !=1;rotate_left
 ·have eH:¬r.aLV=1:=by simpa using aJ
  have hc:kK y id=12:=by unfold kK;rw [if_neg (by simp [aC]),if_neg aK,eB,if_neg eH]
  have hy:jX y id=y:=by simp [jX,hc]
  simp only [go_sem,jb,aC,bT,cD,bD,hk,jU hr,jc,ja,aJ,hc,hy];refine qm _ _ _ _ _ ?_;simp only [go_sem,jb]
 have eH:r.aLV=1:=by simpa using aJ
 have hc:kK y id=0:=by unfold kK;rw [if_neg (by simp [aC]),if_neg aK,eB,if_pos eH]
 have hy:jX y id=jcf y k (vG r):=by rw [jX,if_pos hc,eB,bT,aMQ]
 have fK:=jcT ht (aMJ hr);rw [hc,hy,jcf];simp only [go_sem,jb,aC,bT,cD,bD,hk,jU hr,jkJ hr,je9 hr,jc,ja,aJ];refine jn (jkX r fK.1 fK.2) (by simp only [go_sem,jb,jc,ja,kj hr,kz hr]) λη=>?_
 simp only [go_sem,jb,jc,ja,kj hr,kz hr];simp only [go_sem,hk,jpU (vG r) hk];refine ⟨je9 hr,λaH hη=>qm _ _ _ _ _ ?_⟩
 simp only [go_sem,jb]
theorem jm2 (y:Yd) (id:Int) (ht:jt y<=2000000):kg Tryz.prog 90 [.agg (jb y),.c (.val (.int .i64 id))] (.tup [(true,jb (jX y id)),(false,[.val (.int .i64 (kK y id))])]):=by
 refine pf_ ji4 ?_;unfold jgY;simp only [go_sem,jb];intro b2 b4;refine jx (ke y ht) λbC=>?_
 simp only [go_sem,jb];intro b6;refine jx (qg y id) λη=>?_
 simp only [go_sem,jb];refine jx (kJ y ht) λη=>?_
 simp only [go_sem,jb];cases aC:jw y
 ·have hc:kK y id=8:=by simp [kK,aC]
  have hy:jX y id=y:=by simp [jX,hc]
  simp only [go_sem,jb,aC,hc,hy];refine qm _ _ _ _ _ ?_;simp only [go_sem,jb]
 by_cases aK:runAt y id<0
 ·have hc:kK y id=10:=by simp [kK,aC,aK]
  have hy:jX y id=y:=by simp [jX,hc]
  simp only [go_sem,jb,aC,aK,hc,hy];refine qm _ _ _ _ _ ?_;simp only [go_sem,jb]
 obtain ⟨k,r,bT,hr,hid,h8⟩:=kU aK;have hk:=(aMI.1 hr).1;have bD:=qT k;have cD:¬(k:Int)<0:=by omega
 have eB:(y.aLX[(runAt y id).toNat]?).getD default=r:=by rw [bT,aMQ,hr];rfl
 cases aJ:r.aLV !=1;rotate_left
 ·have eH:¬r.aLV=1:=by simpa using aJ
  have hc:kK y id=12:=by unfold kK;rw [if_neg (by simp [aC]),if_neg aK,eB,if_neg eH]
  have hy:jX y id=y:=by simp [jX,hc]
  simp only [go_sem,jb,aC,bT,cD,bD,hk,jU hr,jc,ja,aJ,hc,hy];refine qm _ _ _ _ _ ?_;simp only [go_sem,jb]
 have eH:r.aLV=1:=by simpa using aJ
 have hc:kK y id=0:=by unfold kK;rw [if_neg (by simp [aC]),if_neg aK,eB,if_pos eH]
 have hy:jX y id=jcf y k (vG r):=by rw [jX,if_pos hc,eB,bT,aMQ]
 have fK:=jcT ht (aMJ hr);rw [hc,hy,jcf];simp only [go_sem,jb,aC,bT,cD,bD,hk,jU hr,jkJ hr,je9 hr,jc,ja,aJ];refine jn (jk4 r fK.1 fK.2) (by simp only [go_sem,jb,jc,ja,kj hr,kz hr]) λη=>?_
 simp only [go_sem,jb,jc,ja,kj hr,kz hr];simp only [go_sem,hk,jpU (vG r) hk];refine ⟨je9 hr,λaH hη=>qm _ _ _ _ _ ?_⟩
 simp only [go_sem,jb]
section
variable {s:St} {K:St->Prop}
theorem jzo (g c sz lo n:Nat) (p:List Nat) (x:Value) (l:List A0) (R:List Cell->St->Prop):qM s (.hs g c p x sz lo n::l) R=qM s l (λcs s'=>R (.a (.hs g c p x sz lo n)::cs) s'):=by simp [qM,A0.one]
theorem jqU {w:World} {d:D} {u:Value} {S:List Nat} (hd:d.isSl=true) (hs:0<d.size) (h:Rep w true d u S):jjb u d.size 0 d.len=u:=by
 cases d with
 |val _=>cases hd
 |sl size ty cs=>
  obtain ⟨vs,T,S',hr,hl,_⟩:=h;have aD:=RepL.length _ hl;rcases qJ hr with ⟨rfl,rfl⟩|⟨g,n,c,rfl,_,h3,_⟩
  ·have:cs=[]:=aNF (by simpa using aD.symm)
   subst this;simp [jjb,D.len,D.cells,D.size]
  ·have e:(D.sl size ty cs).len=n:=by
    simp only [D.len,D.cells,D.size];rw [<-aD,h3];exact aNN _ hs
   rw [e];simp only [jjb,Nat.zero_mul,Nat.sub_zero];split
   ·rfl
   ·simp [Addr.add_lit]
theorem jkF {B:Nat} {w:World} {a a':A0} (h:∀u,A0Rel B w a u->A0Rel B w a' u):∀{c:Nat} {l:List Cell} {us:List Value} {S:List Nat},CRel B w l us S->l[c]?=some (.a a)->CRel B w (l.set c (.a a')) us S
 |_,[],_,_,_,hc=>by simp at hc
 |0,.a x::l,_,S,⟨v,us',e,h1,h2⟩,hc=>by
  simp at hc;subst hc;exact ⟨v,us',e,h _ h1,h2⟩
 |0,.own e ε::l,_,_,_,hc=>by simp at hc
 |c+1,.a x::l,_,S,⟨v,us',e,h1,h2⟩,hc=>by
  simp at hc;exact ⟨v,us',e,h1,jkF h h2 hc⟩
 |c+1,.own e ε::l,_,_,⟨v,us',T1,T2,e1,e2,h1,h2,h3,h4⟩,hc=>by
  simp at hc;exact ⟨v,us',T1,T2,e1,e2,h1,h2,h3,jkF h h4 hc⟩
theorem jnE (g c:Nat) {b ty:Nat} {cs:List Cell} {a a':A0} (hb:s.o g=.box b ty cs) (hc:cs[c]?=some (.a a)) (h:∀(B N:Nat) (w0 w:World) (act:Act) (F:Nat->List Nat),RelF B w0 N s act w F->∀u,A0Rel B w a u->A0Rel B w a' u) (hk:WkK (s.setO g (.box b ty (cs.set c (.a a')))) K):WkK s K:=by
 intro B N w0 w act F hr;have h4:=hr.ob g;rw [hb] at h4;obtain ⟨us,S1,q1,q2,q3⟩:=h4;refine hk _ _ _ _ _ _ (hr.setO (g:=g) (ob:=.box b ty (cs.set c (.a a'))) (S:=F g) ⟨us,S1,q1,jkF (h _ _ _ _ _ _ hr) q2 hc,q3⟩ (hr.fr g) λg' cV x hx bQ=>hr.dj g' g cV x bQ hx)
theorem jg6 (g c g2:Nat) {b ty:Nat} {cs:List Cell} {d:D} {η:jm} (hb:s.o g=.box b ty cs) (hc:cs[c]?=some (.own d η)) (h2:s.o g2=.none) (aR:g2≠g) (cR:0<d.size)
 (hk:WkK (((s.rm g c).setO g2 (.loose d η)).setO g (.box b ty (cs.set c (.a (.hs g2 0 [] (η []) d.size 0 d.len))))) K):WkK s K:=by
 have dG:=(aMI.1 hc).1;have ho:(s.o g).own c=some (d,η):=by rw [hb];simp [Ob.own,hc]
 refine qY g c g2 ho h2 aR λeZ=>?_
 have pW:(s.rm g c).o g=.box b ty (cs.set c (.a (.v (η [])))):=by
  show (if g=g then (s.o g).rm c else _)=_
  rw [if_pos rfl,hb];simp only [Ob.rm,hc,rmC]
 refine jnE g c (a:=.v (η [])) (b:=b) (ty:=ty) (cs:=cs.set c (.a (.v (η [])))) (by
  show (if g=g2 then _ else (s.rm g c).o g)=_
  rw [if_neg (Ne.symm aR)];exact pW) (aML dG) (a':=.hs g2 0 [] (η []) d.size 0 d.len) (λB N w0 w act F hr u hu=>?_) ?_
 ·have h3:=hr.ob g2
  have e:((s.rm g c).setO g2 (.loose d η)).o g2=.loose d η:=by show (if g2=g2 then _ else _)=_;rw [if_pos rfl]
  rw [e] at h3;obtain ⟨k1,u',k2,k3⟩:=h3;have e2:η []=u':=by rw [k3,jao k1]
  have hu':u=η []:=hu;rw [hu'];exact ⟨.inl (by rw [e2,jqU k1 cR k2]),eZ⟩
 ·rw [aNP];exact hk
theorem jbu (g c g2:Nat) {g3 sz n b ty:Nat} {cs:List Cell} {d:D} {η:jm} {x:Value} (hb:s.o g=.box b ty cs) (hc:cs[c]?=some (.a (.hs g3 0 [] x sz 0 n))) (hx:x=η []) (hs:sz=d.size) (hn:n=d.len) (h2:s.o g2=.loose d η) (cR:0<d.size)
 (hk:WkK (((s.setO g (.box b ty (cs.set c (.a (.v (η [])))))).setO g2 .none).setO g (.box b ty (cs.set c (.own d η)))) K):WkK s K:=by
 have dG:=(aMI.1 hc).1;have aR:g2≠g:=λe=>by rw [e,hb] at h2;cases h2
 subst hx hs hn;refine jnE g c (a:=.hs g3 0 [] (η []) d.size 0 d.len) hb hc (a':=.v (η [])) (λB N w0 w act F hr u hu=>?_) ?_
 ·have h3:=hr.ob g2
  rw [h2] at h3;obtain ⟨k1,u',k2,k3⟩:=h3;have e2:η []=u':=by rw [k3,jao k1]
  obtain ⟨h5,_⟩:=hu;have h5:=h5.resolve_right λh=>absurd h.1 (Nat.lt_irrefl 0)
  show u=η [];rw [h5,e2,jqU k1 cR k2]
 ·refine ve g c g2 (b:=b) (ty:=ty) (cs:=cs.set c (.a (.v (η [])))) (d:=d) (η:=η) (by show (if g=g then _ else _)=_;rw [if_pos rfl]) (aML dG) (by show (if g2=g then _ else s.o g2)=_;rw [if_neg aR];exact h2) ?_
  rw [aNP];exact hk
end
attribute [go_sem] jzo
theorem jy3 (u:UInt8):IntKind.i64.wrap (u.toNat:Int)=u.toNat:=qE (by omega) (by have:=u.toNat_lt;omega)
section
variable {P:Program} {β N B:Nat} {s:St} {K:St->Prop} {d:Option Nat} {gd:Option (Nat×Bool)} {a:Act} {w w0:World} {F:Nat->List Nat}
def jyx (o' o:Nat->Ob):Prop:=∀g,o' g=o g\/o' g=.none
open Classical in
theorem RelF.less (h:RelF B w0 N s a w F) {o':Nat->Ob} (ho:jyx o' s.o):∃F':Nat->List Nat,RelF B w0 N ⟨s.t,o'⟩ a w F'/\∀g,∀b∈F' g,b∈F g:=by
 have hs:∀g,∀b∈(if o' g=s.o g then F g else []),b∈F g:=λg b hb=>by
  split at hb
  ·exact hb
  ·simp at hb
 refine ⟨λg=>if o' g=s.o g then F g else [],⟨h.below,h.hB,h.df,h.sz,h.sl,λg=>?_,λg=>?_,λg g' aR b hb bA=>h.dj g g' aR b (hs g b hb) (hs g' b bA)⟩,hs⟩
 ·show ORel B w (o' g) _
  by_cases e:o' g=s.o g
  ·rw [if_pos e,e];exact h.ob g
  ·rw [if_neg e,(ho g).resolve_left e];rfl
 ·by_cases e:o' g=s.o g
  ·rw [if_pos e];exact h.fr g
  ·rw [if_neg e];exact Fresh.nil _
def jDl (P:Program) (f:FuncId) (args:List AV) (o:Nat->Ob) (A:AV) (o':Nat->Ob):Prop:=Inl P f args o λav o2=>av=A/\o2=o'
theorem jqi {f:FuncId} {args:List AV} {o o':Nat->Ob} {A:AV} (h:Inl P f args o λav o2=>av=A/\jyx o' o2):jDl P f args o A o':=
 ⟨h.1,λB w F xs h1 h2=>(h.2 B w F xs h1 h2).mono λe w' ⟨v,av,o2,F',k1,k2,k3,k4,k5⟩=>by
  obtain ⟨F2,r,_⟩:=k2.less (o':=o') k5;exact ⟨v,av,o',F2,k1,r,k3,k4,rfl⟩⟩
theorem kh {f:Nat} {args:List X} {vs:List AV} {A:AV} {o':Nat->Ob} (h:jDl P f vs s.o A o') (ha:args.map s.ev=vs) (hk:K (St.put ⟨s.t,o'⟩ d A)):vv P β ⟨d,gd,.call f args⟩ s K:=by
 subst ha;exact jlF h λav o2 ⟨h1,h2⟩=>by subst h1 h2;exact hk
theorem jB {g M:Nat} (h:g<M) (n:Nat) (hn:M<=n):(g=n)=False:=eq_false (by omega)
end
def jA7 (o:Nat->Ob) (g:Nat) (ob:Ob):Nat->Ob:=λk=>if k=g then ob else o k
theorem jA6 (o:Nat->Ob) (g:Nat) (ob:Ob) (k:Nat):jA7 o g ob k=if k=g then ob else o k:=(rfl)
theorem jbJ {g:Nat} {o o2:Nat->Ob} {ob:Ob} (h1:o2 g=ob) (h2:∀k,k≠g->o2 k=o k):jyx (jA7 o g ob) o2:=λk=>by
 rw [jA6];by_cases e:k=g
 ·rw [if_pos e,e];exact .inl h1.symm
 ·rw [if_neg e];exact .inl (h2 k e).symm
attribute [go_sem] jA6
def St.ofB (T:List (Nat×AV)) (O:List (Nat×Ob)) (M:Nat) (ob:Nat->Ob):St:=⟨lkT T,λj=>if j<M then ob j else lkO O j⟩
theorem ofB_t (T:List (Nat×AV)) (O:List (Nat×Ob)) (M:Nat) (ob:Nat->Ob) (n:Nat):(St.ofB T O M ob).t n=lkT T n:=(rfl)
theorem ofB_o (T:List (Nat×AV)) (O:List (Nat×Ob)) (M:Nat) (ob:Nat->Ob) (n:Nat):(St.ofB T O M ob).o n=if n<M then ob n else lkO O n:=(rfl)
attribute [go_sem] ofB_t ofB_o
theorem qc {s:St} {T:List (Nat×AV)} {O:List (Nat×Ob)} {M:Nat} {ob:Nat->Ob} (ks:List (Option Nat)) (h:jxY s T/\jqs s ks O) (hf:∀j,j<M->s.o j=ob j) (hk:∀k∈jqZ ks,M<=k) (hn:jiq (jqZ ks)=true:=by decide):Wk s (St.ofB T O M ob):=λB N w0 w a F hr=>by
 have bL:=jvI hr.ob h.2;have nT:=jxT (ks:=ks) (O:=O) hr.dj (jce hn);refine ⟨λj=>if j<M then F j else fp F ks O j,⟨hr.below,hr.hB,hr.df,hr.sz,jxW hr.sl h.1,λg=>?_,λg=>?_,λg g' aR x hx bQ=>?_⟩,λg x hx=>?_⟩
 ·by_cases c:g<M
  ·simp only [St.ofB,if_pos c];rw [<-hf g c];exact hr.ob g
  ·simp only [St.ofB,if_neg c];exact bL g
 ·by_cases c:g<M
  ·simp only [if_pos c];exact hr.fr g
  ·simp only [if_neg c];exact jxS hr.fr ks O g
 ·by_cases c:g<M
  ·simp only [if_pos c] at hx
   by_cases c':g'<M
   ·simp only [if_pos c'] at bQ;exact hr.dj g g' aR x hx bQ
   ·simp only [if_neg c'] at bQ
    obtain ⟨k,h1,h2⟩:=jf3 bQ;exact hr.dj g k (by have:=hk k h1;omega) x hx h2
  ·simp only [if_neg c] at hx
   by_cases c':g'<M
   ·simp only [if_pos c'] at bQ
    obtain ⟨k,h1,h2⟩:=jf3 hx;exact hr.dj k g' (by have:=hk k h1;omega) x h2 bQ
   ·simp only [if_neg c'] at bQ;exact nT g g' aR x hx bQ
 ·by_cases c:g<M
  ·simp only [if_pos c] at hx;exact ⟨g,hx⟩
  ·simp only [if_neg c] at hx
   obtain ⟨k,_,h2⟩:=jf3 hx;exact ⟨k,h2⟩
abbrev jyw (b ty:Nat) (p m w t:Int) (E:List Ed) (η:jm):Ob:=.box b ty [.a (.v (.int .i64 p)),.a (.v (.int .i64 m)),.a (.v (.int .i64 w)),.a (.v (.int .i64 t)),.own (jv E) η]
abbrev ZPl (b ty:Nat):Ob:=.box b ty [.a (.v (.int .i64 0)),.a (.v (.int .i64 0)),.a (.v (.int .i64 0)),.a (.v (.int .i64 0)),.a (.v (.slice none 0 0))]
abbrev DdR (b ty:Nat) (d:Dd) (η:jm):Ob:=.box b ty [.a (.v (.int .i64 d.aMD)),.a (.v (.int .i64 d.run)),.a (.v (.int .i64 d.aLW.aMC)),.a (.v (.int .i64 d.aLW.aMG)),.a (.v (.int .i64 d.aLW.aMF)),.a (.v (.int .i64 d.aLW.aLT)),.own (jv d.aLW.aLY) η,.a (.v (.int .i64 d.aMA)),.a (.v (.int .i64 d.tri)),.a (.v (.int .i64 d.aLZ)),.a (.v (.int .i64 d.aMB))]
open Go.RowKit Go.ChangeShapes Go.WideShapes Go.Deep Go.ChangeAt
theorem rByte:ReadsAs Tryz.prog 5 (λu:UInt8=>[vt u]) (λ_=>True):=by
 intro H enc w base spare held n cs y hy;obtain ⟨i,rfl,_,hw⟩:=DataW.trod_int (k:=.u8) (by kernel_rfl) hy
 have hi:0<=i/\i<=255:=by simpa [Lit.wf,IntKind.min,IntKind.max,IntKind.signed,IntKind.bits] using hw
 refine ⟨UInt8.ofNat i.toNat,trivial,[],?_⟩
 have he:((UInt8.ofNat i.toNat).toNat:Int)=i:=by
  rw [UInt8.toNat_ofNat'];omega
 have hb:vt (UInt8.ofNat i.toNat)=D.val (.int .u8 i):=by simp only [vt];rw [he]
 dsimp only;rw [hb];exact RepL.val_ RepL.nil_
theorem jyL:ReadsAs Tryz.prog 22 (λl=>[jaU l]) (λl=>∀e∈l,True):=by
 have h:=jxo (size:=1) (ty:=5) (P:=Tryz.prog) (t:=22) (e:=5) (by kernel_rfl) rByte (by kernel_rfl) (λ_=>rfl) (by decide)
 refine h.map id (λl=>?_) (λ_ h=>h)
 have e:l.flatMap (λu=>[vt u])=l.map vt:=by
  induction l with
  |nil=>rfl
  |cons x l ih=>simp only [aNL,aNQ,ih];rfl
 simp only [jaU,id];rw [e]
