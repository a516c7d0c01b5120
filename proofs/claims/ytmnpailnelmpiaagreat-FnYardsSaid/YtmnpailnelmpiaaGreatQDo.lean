/- Parts. -/
import Derived.Test.YtmnpailnelmpiaaGreatQCancel
set_option linter.unusedSimpArgs false
set_option linter.unusedVariables false
set_option maxHeartbeats 8000000
set_option maxRecDepth 100000
namespace Go.Proofs.YtmnpailnelmpiaaGreat
open Go.RowKit Go.Sort
def jnX:C:=iS [iA 2 (.box 37 4 (.t 0)),iA 3 (.box 73 11 (.t 1)),iA 4 (.alloc 37 [.int .i64 0,.int .i64 0,.slice none 0 0,.slice none 0 0]),iA 5 (.alloc 65 [.int .i64 0,.int .i64 0,.int .i64 0,.int .i64 0])] (.seq (iS [iA 8 (iT 11 3),iA 9 (.call 117 [.t 8]),iA 10 (iU 9)] (iD 10 (iS [iA 11 (iT 4 2),iA 12 (.call 118 [.t 11]),iA 13 (.bld [.int .i64 0,.int .i64 0,.int .i64 0,.int .i64 0] [(0,1,.c (.int .i64 5))]),iC (.st 4 [none,none,some (1,102),some (8,108)] (.t 4) (.t 12)),iC (.st 4 [none,none,none,none] (.t 5) (.t 13))] .ret) .skip)) (iS [iA 6 (.alloc 37 [.int .i64 0,.int .i64 0,.slice none 0 0,.slice none 0 0])] (iS [iA 7 (.alloc 65 [.int .i64 0,.int .i64 0,.int .i64 0,.int .i64 0])] (.seq (iS [iA 14 (iF 0 3),iA 15 (iL 14)] (.blk 0 (iS [iA 23 (iQ .eql 3 15 1),iA 22 (iM 23)] (iD 22 (.reg [iA 25 (iT 4 2),iA 26 (iF 1 3),iA 27 (iL 26),iA 28 (iF 2 3),iA 29 (iT 5 28),iA 30 (.call 119 [.t 25,.t 27,.t 29]),iA 24 (iM 30),iA 31 (iE 24 0),iA 32 (iE 24 1),iC (.st 4 [none,none,some (1,102),some (8,108)] (.t 6) (.t 31)),iA 33 (iF 0 7),iC (.st 1 [none] (.t 33) (.t 32))]) (iS [iA 35 (iQ .eql 3 15 2),iA 34 (iM 35)] (iD 34 (iS [iA 36 (iT 4 2),iA 37 (iF 9 3),iA 38 (iL 37),iA 39 (iF 10 3),iA 40 (iL 39),iA 41 (.call 120 [.t 36,.t 38,.t 40]),iA 42 (iE 41 0),iA 43 (iE 41 1),iC (.st 4 [none,none,some (1,102),some (8,108)] (.t 4) (.t 42)),iC (.st 4 [none,none,none,none] (.t 5) (.t 43))] .ret) (iS [iA 45 (iQ .eql 3 15 3),iA 44 (iM 45)] (iD 44 (.reg [iA 47 (iT 4 2),iA 48 (iF 1 3),iA 49 (iL 48),iA 50 (iF 7 3),iA 51 (iL 50),iA 52 (iF 8 3),iA 53 (iL 52),iA 54 (.call 121 [.t 47,.t 49,.t 51,.t 53]),iA 46 (iM 54),iA 55 (iE 46 0),iA 56 (iE 46 1),iC (.st 4 [none,none,some (1,102),some (8,108)] (.t 6) (.t 55)),iA 57 (iF 0 7),iC (.st 1 [none] (.t 57) (.t 56))]) (iS [iA 59 (iQ .eql 3 15 4),iA 58 (iM 59)] (iD 58 (.reg [iA 61 (iT 4 2),iA 62 (iF 1 3),iA 63 (iL 62),iA 64 (iF 7 3),iA 65 (iL 64),iA 66 (iF 8 3),iA 67 (iL 66),iA 68 (.call 122 [.t 61,.t 63,.t 65,.t 67]),iA 60 (iM 68),iA 69 (iE 60 0),iA 70 (iE 60 1),iC (.st 4 [none,none,some (1,102),some (8,108)] (.t 6) (.t 69)),iA 71 (iF 0 7),iC (.st 1 [none] (.t 71) (.t 70))]) (iS [iA 73 (iQ .eql 3 15 5),iA 72 (iM 73)] (iD 72 (.reg [iA 75 (iT 4 2),iA 76 (.call 123 [.t 75]),iA 74 (iM 76),iA 77 (iE 74 0),iA 78 (iE 74 1),iC (.st 4 [none,none,some (1,102),some (8,108)] (.t 6) (.t 77)),iA 79 (iF 0 7),iC (.st 1 [none] (.t 79) (.t 78))]) (iS [iA 81 (iQ .eql 3 15 6),iA 80 (iM 81)] (iD 80 (.reg [iA 83 (iT 4 2),iA 84 (iF 1 3),iA 85 (iL 84),iA 86 (.call 67 [.t 83,.t 85]),iA 82 (iM 86),iA 87 (iE 82 0),iA 88 (iE 82 1),iC (.st 4 [none,none,some (1,102),some (8,108)] (.t 6) (.t 87)),iA 89 (iF 0 7),iC (.st 1 [none] (.t 89) (.t 88))]) (iS [iA 91 (iQ .eql 3 15 7),iA 90 (iM 91)] (iD 90 (.reg [iA 93 (iT 4 2),iA 94 (iF 1 3),iA 95 (iL 94),iA 96 (.call 68 [.t 93,.t 95]),iA 92 (iM 96),iA 97 (iE 92 0),iA 98 (iE 92 1),iC (.st 4 [none,none,some (1,102),some (8,108)] (.t 6) (.t 97)),iA 99 (iF 0 7),iC (.st 1 [none] (.t 99) (.t 98))]) (iS [iA 16 (iT 4 2),iA 17 (.call 124 [.t 16]),iC (.st 4 [none,none,some (1,102),some (8,108)] (.t 6) (.t 17))] (iS [iA 18 (iT 4 2),iA 19 (.call 59 [.t 18]),iA 20 (iU 19)] (iD 20 (.reg [iA 21 (iF 0 7),iC (.st 1 [none] (.t 21) (.c (.int .i64 8)))]) .skip))))))))))))))))))) (.seq (.dreg (T.pure 0 (iA 100 (iT 4 6)) (T.pure 1 (iA 101 (iT 4 7)) (T.alt (iC (.st 4 [none,none,some (1,102),some (8,108)] (.t 4) (.t 100))) [1] (T.alt (iC (.st 4 [none,none,none,none] (.t 5) (.t 101))) [] T.done T.stop) T.stop)))) .ret)))))
theorem jnM:fnC Tryz.prog Tryz.f33=some (jnX,[.cell 4 true 4,.cell 5 true 4],102):=by kernel_rfl
def jnV:C:=iS [iA 2 (.box 37 4 (.t 0)),iA 3 (.box 73 11 (.t 1)),iA 4 (.alloc 37 [.int .i64 0,.int .i64 0,.slice none 0 0,.slice none 0 0]),iA 5 (.alloc 65 [.int .i64 0,.int .i64 0,.int .i64 0,.int .i64 0])] (iS [iA 6 (iN 0)] (iS [iA 8 (.bld [.int .i64 0,.int .i64 0,.slice none 0 0,.slice none 0 0] []),iA 7 (.alloc 37 [.int .i64 0,.int .i64 0,.slice none 0 0,.slice none 0 0]),iC (.st 4 [none,none,some (1,102),some (8,108)] (.t 7) (.t 8))] (.seq (iS [iA 9 (iT 11 3),iA 10 (.call 104 [.t 9]),iA 11 (iU 10)] (iD 11 (iS [iA 12 (iT 4 2),iA 13 (.call 105 [.t 12]),iA 14 (.bld [.int .i64 0,.int .i64 0,.int .i64 0,.int .i64 0] [(0,1,.c (.int .i64 5))]),iC (.st 4 [none,none,some (1,102),some (8,108)] (.t 4) (.t 13)),iC (.st 4 [none,none,none,none] (.t 5) (.t 14))] .ret) .skip)) (.seq (iS [iA 15 (iF 0 3),iA 16 (iL 15)] (.blk 0 (iS [iA 23 (iQ .eql 3 16 1),iA 22 (iM 23)] (iD 22 (.reg [iA 25 (iT 4 2),iA 26 (iF 1 3),iA 27 (iL 26),iA 28 (iF 2 3),iA 29 (iT 5 28),iA 30 (.call 106 [.t 25,.t 27,.t 29]),iA 24 (iM 30),iA 31 (iE 24 0),iA 32 (iE 24 1),iC (.st 4 [none,none,some (1,102),some (8,108)] (.t 7) (.t 31)),iA 6 (iM 32)]) (iS [iA 34 (iQ .eql 3 16 2),iA 33 (iM 34)] (iD 33 (iS [iA 35 (iT 4 2),iA 36 (iF 9 3),iA 37 (iL 36),iA 38 (iF 10 3),iA 39 (iL 38),iA 40 (.call 107 [.t 35,.t 37,.t 39]),iA 41 (iE 40 0),iA 42 (iE 40 1),iC (.st 4 [none,none,some (1,102),some (8,108)] (.t 4) (.t 41)),iC (.st 4 [none,none,none,none] (.t 5) (.t 42))] .ret) (iS [iA 44 (iQ .eql 3 16 3),iA 43 (iM 44)] (iD 43 (.reg [iA 46 (iT 4 2),iA 47 (iF 1 3),iA 48 (iL 47),iA 49 (iF 7 3),iA 50 (iL 49),iA 51 (iF 8 3),iA 52 (iL 51),iA 53 (.call 108 [.t 46,.t 48,.t 50,.t 52]),iA 45 (iM 53),iA 54 (iE 45 0),iA 55 (iE 45 1),iC (.st 4 [none,none,some (1,102),some (8,108)] (.t 7) (.t 54)),iA 6 (iM 55)]) (iS [iA 57 (iQ .eql 3 16 4),iA 56 (iM 57)] (iD 56 (.reg [iA 59 (iT 4 2),iA 60 (iF 1 3),iA 61 (iL 60),iA 62 (iF 7 3),iA 63 (iL 62),iA 64 (iF 8 3),iA 65 (iL 64),iA 66 (.call 109 [.t 59,.t 61,.t 63,.t 65]),iA 58 (iM 66),iA 67 (iE 58 0),iA 68 (iE 58 1),iC (.st 4 [none,none,some (1,102),some (8,108)] (.t 7) (.t 67)),iA 6 (iM 68)]) (iS [iA 70 (iQ .eql 3 16 5),iA 69 (iM 70)] (iD 69 (.reg [iA 72 (iT 4 2),iA 73 (.call 110 [.t 72]),iA 71 (iM 73),iA 74 (iE 71 0),iA 75 (iE 71 1),iC (.st 4 [none,none,some (1,102),some (8,108)] (.t 7) (.t 74)),iA 6 (iM 75)]) (iS [iA 77 (iQ .eql 3 16 6),iA 76 (iM 77)] (iD 76 (.reg [iA 79 (iT 4 2),iA 80 (iF 1 3),iA 81 (iL 80),iA 82 (.call 111 [.t 79,.t 81]),iA 78 (iM 82),iA 83 (iE 78 0),iA 84 (iE 78 1),iC (.st 4 [none,none,some (1,102),some (8,108)] (.t 7) (.t 83)),iA 6 (iM 84)]) (iS [iA 86 (iQ .eql 3 16 7),iA 85 (iM 86)] (iD 85 (.reg [iA 88 (iT 4 2),iA 89 (iF 1 3),iA 90 (iL 89),iA 91 (.call 112 [.t 88,.t 90]),iA 87 (iM 91),iA 92 (iE 87 0),iA 93 (iE 87 1),iC (.st 4 [none,none,some (1,102),some (8,108)] (.t 7) (.t 92)),iA 6 (iM 93)]) (iS [iA 17 (iT 4 2),iA 18 (.call 113 [.t 17]),iC (.st 4 [none,none,some (1,102),some (8,108)] (.t 7) (.t 18))] (iS [iA 19 (iT 4 2),iA 20 (.call 72 [.t 19]),iA 21 (iU 20)] (iD 21 (.reg [iA 6 (iN 8)]) .skip))))))))))))))))))) (iS [iA 94 (iT 4 7),iA 95 (iM 6),iA 96 (.bld [.int .i64 0,.int .i64 0,.int .i64 0,.int .i64 0] [(0,1,.t 95)]),iC (.st 4 [none,none,some (1,102),some (8,108)] (.t 4) (.t 94)),iC (.st 4 [none,none,none,none] (.t 5) (.t 96))] .ret)))))
theorem jnL:fnC Tryz.prog Tryz.f30=some (jnV,[.cell 4 true 4,.cell 5 true 4],97):=by kernel_rfl
theorem jAe (y:Yd) (d:Dd) (ht:jK y≤1900000) (hd:jhu d≤2000000):kp Tryz.prog 33 [.agg (jb y),.agg (jo d)] (.tup [(true,jb (doY y d)),(true,jgq (doQ y d))]):=by
 refine js Tryz.func33 jnM (by simp) ?_
 unfold jnX;have ht2:jK y≤2000000:=by omega
 have ht3:jK y≤1990000:=by omega
 have hpl:d.plan.edges.length≤4000000:=by simp only [jhu,jjN] at hd;omega
 simp only [go_sem,jb,jo,ja];intro b2 b3 b4 b5;refine jc (jlP d hd) (by simp only [go_sem,jb,jo,ja,List.cons_append,List.nil_append]) fun η=>?_
 simp only [go_sem,jb,jo,ja,List.cons_append,List.nil_append];cases hk:kf d
 ·have hy:doY y d=y:=by rw [doY,if_pos hk]
  have hq:doQ y d=⟨5,0,0,0⟩:=by rw [doQ,if_pos hk]
  rw [hy,hq];simp only [go_sem,Bool.not_false,jb,jo,ja];refine jc (kj y ht2) (by simp only [go_sem,jb,jo,ja]) fun η=>?_
  simp only [go_sem,jb,jo,ja];simp only [vh];refine jt _ _ _ _ _ ?_;simp only [go_sem,jB,true_or];refine jt _ _ _ _ _ ?_;simp only [go_sem,jB,jV,jM,true_or,jb]
 have hk0:¬kf d=false:=by rw [hk];decide
 simp only [go_sem,Bool.not_true,jb,jo,ja];intro b6 b7;by_cases h1:d.kind=1
 ·have hy:doY y d=jeK y d.run d.plan:=by rw [doY,if_neg hk0,if_pos h1]
  have hq:doQ y d=⟨jdB y d.run d.plan,0,0,0⟩:=by rw [doQ,if_neg hk0,if_pos h1]
  have e1:(d.kind==1)=true:=by simp [h1]
  rw [hy,hq];simp only [go_sem,jb,jo,ja,e1];refine jc (jlJ y d.run d.plan ht2 hpl) (by simp only [go_sem,jb,jo,ja,e1]) fun η=>?_
  simp only [go_sem,jb,jo,ja,e1];simp only [vh];refine jt _ _ _ _ _ ?_;simp only [go_sem,jB,true_or];refine jt _ _ _ _ _ ?_;simp only [go_sem,jB,jV,jM,true_or,jb]
 have e1:(d.kind==1)=false:=by simp [h1]
 by_cases h2:d.kind=2
 ·have hy:doY y d=zV y d.worker d.draw:=by rw [doY,if_neg hk0,if_neg h1,if_pos h2]
  have hq:doQ y d=joy y d.worker d.draw:=by rw [doQ,if_neg hk0,if_neg h1,if_pos h2]
  have e2:(d.kind==2)=true:=by simp [h2]
  rw [hy,hq];simp only [go_sem,jb,jo,ja,e1,e2];refine jc (joD y d.worker d.draw ht2) (by simp only [go_sem,jb,jo,ja,e1,e2,jgq]) fun η=>?_
  simp only [go_sem,jb,jo,ja,e1,e2,jgq];simp only [vh];refine jt _ _ _ _ _ ?_;simp only [go_sem,jB,true_or];refine jt _ _ _ _ _ ?_;simp only [go_sem,jB,jV,jM,true_or,jb]
 have e2:(d.kind==2)=false:=by simp [h2]
 by_cases h3:d.kind=3
 ·have hy:doY y d=jdo y d.run d.task d.tri:=by rw [doY,if_neg hk0,if_neg h1,if_neg h2,if_pos h3]
  have hq:doQ y d=⟨jaO y d.run d.task d.tri,0,0,0⟩:=by rw [doQ,if_neg hk0,if_neg h1,if_neg h2,if_pos h3]
  have e3:(d.kind==3)=true:=by simp [h3]
  rw [hy,hq];simp only [go_sem,jb,jo,ja,e1,e2,e3];refine jc (jiV y d.run d.task d.tri ht2) (by simp only [go_sem,jb,jo,ja,e1,e2,e3]) fun η=>?_
  simp only [go_sem,jb,jo,ja,e1,e2,e3];simp only [vh];refine jt _ _ _ _ _ ?_;simp only [go_sem,jB,true_or];refine jt _ _ _ _ _ ?_;simp only [go_sem,jB,jV,jM,true_or,jb]
 have e3:(d.kind==3)=false:=by simp [h3]
 by_cases h4:d.kind=4
 ·have hy:doY y d=jdn y d.run d.task d.tri:=by rw [doY,if_neg hk0,if_neg h1,if_neg h2,if_neg h3,if_pos h4]
  have hq:doQ y d=⟨jaO y d.run d.task d.tri,0,0,0⟩:=by rw [doQ,if_neg hk0,if_neg h1,if_neg h2,if_neg h3,if_pos h4]
  have e4:(d.kind==4)=true:=by simp [h4]
  rw [hy,hq];simp only [go_sem,jb,jo,ja,e1,e2,e3,e4];refine jc (joE y d.run d.task d.tri ht2) (by simp only [go_sem,jb,jo,ja,e1,e2,e3,e4]) fun η=>?_
  simp only [go_sem,jb,jo,ja,e1,e2,e3,e4];simp only [vh];refine jt _ _ _ _ _ ?_;simp only [go_sem,jB,true_or];refine jt _ _ _ _ _ ?_;simp only [go_sem,jB,jV,jM,true_or,jb]
 have e4:(d.kind==4)=false:=by simp [h4]
 by_cases h5:d.kind=5
 ·have hy:doY y d=jb1 y:=by rw [doY,if_neg hk0,if_neg h1,if_neg h2,if_neg h3,if_neg h4,if_pos h5]
  have hq:doQ y d=⟨ja1 y,0,0,0⟩:=by rw [doQ,if_neg hk0,if_neg h1,if_neg h2,if_neg h3,if_neg h4,if_pos h5]
  have e5:(d.kind==5)=true:=by simp [h5]
  rw [hy,hq];simp only [go_sem,jb,jo,ja,e1,e2,e3,e4,e5];refine jc (joC y ht3) (by simp only [go_sem,jb,jo,ja,e1,e2,e3,e4,e5]) fun η=>?_
  simp only [go_sem,jb,jo,ja,e1,e2,e3,e4,e5];simp only [vh];refine jt _ _ _ _ _ ?_;simp only [go_sem,jB,true_or];refine jt _ _ _ _ _ ?_;simp only [go_sem,jB,jV,jM,true_or,jb]
 have e5:(d.kind==5)=false:=by simp [h5]
 by_cases h6:d.kind=6
 ·have hy:doY y d=kT y d.run:=by rw [doY,if_neg hk0,if_neg h1,if_neg h2,if_neg h3,if_neg h4,if_neg h5,if_pos h6]
  have hq:doQ y d=⟨qb y d.run,0,0,0⟩:=by rw [doQ,if_neg hk0,if_neg h1,if_neg h2,if_neg h3,if_neg h4,if_neg h5,if_pos h6]
  have e6:(d.kind==6)=true:=by simp [h6]
  rw [hy,hq];simp only [go_sem,jb,jo,ja,e1,e2,e3,e4,e5,e6];refine jc (jlQ y d.run ht2) (by simp only [go_sem,jb,jo,ja,e1,e2,e3,e4,e5,e6]) fun η=>?_
  simp only [go_sem,jb,jo,ja,e1,e2,e3,e4,e5,e6];simp only [vh];refine jt _ _ _ _ _ ?_;simp only [go_sem,jB,true_or];refine jt _ _ _ _ _ ?_;simp only [go_sem,jB,jV,jM,true_or,jb]
 have e6:(d.kind==6)=false:=by simp [h6]
 by_cases h7:d.kind=7
 ·have hy:doY y d=jaw y d.run:=by rw [doY,if_neg hk0,if_neg h1,if_neg h2,if_neg h3,if_neg h4,if_neg h5,if_neg h6,if_pos h7]
  have hq:doQ y d=⟨jal y d.run,0,0,0⟩:=by rw [doQ,if_neg hk0,if_neg h1,if_neg h2,if_neg h3,if_neg h4,if_neg h5,if_neg h6,if_pos h7]
  have e7:(d.kind==7)=true:=by simp [h7]
  rw [hy,hq];simp only [go_sem,jb,jo,ja,e1,e2,e3,e4,e5,e6,e7];refine jc (jlO y d.run ht2) (by simp only [go_sem,jb,jo,ja,e1,e2,e3,e4,e5,e6,e7]) fun η=>?_
  simp only [go_sem,jb,jo,ja,e1,e2,e3,e4,e5,e6,e7];simp only [vh];refine jt _ _ _ _ _ ?_;simp only [go_sem,jB,true_or];refine jt _ _ _ _ _ ?_;simp only [go_sem,jB,jV,jM,true_or,jb]
 have e7:(d.kind==7)=false:=by simp [h7]
 have hy:doY y d=jdj y:=by rw [doY,if_neg hk0,if_neg h1,if_neg h2,if_neg h3,if_neg h4,if_neg h5,if_neg h6,if_neg h7]
 rw [hy];simp only [go_sem,jb,jo,ja,e1,e2,e3,e4,e5,e6,e7];refine jc (jj2 y ht3) (by simp only [go_sem,jb,jo,ja,e1,e2,e3,e4,e5,e6,e7]) fun η=>?_
 simp only [go_sem,jb,jo,ja,e1,e2,e3,e4,e5,e6,e7];refine jc (kI y ht2) (by simp only [go_sem,jb,jo,ja,e1,e2,e3,e4,e5,e6,e7]) fun η=>?_
 simp only [go_sem,jb,jo,ja,e1,e2,e3,e4,e5,e6,e7];cases hok:jC y
 ·have hq:doQ y d=⟨8,0,0,0⟩:=by rw [doQ,if_neg hk0,if_neg h1,if_neg h2,if_neg h3,if_neg h4,if_neg h5,if_neg h6,if_neg h7,if_neg (by rw [hok];decide)]
  rw [hq];simp only [go_sem,Bool.not_false,jb];simp only [vh];refine jt _ _ _ _ _ ?_;simp only [go_sem,jB,true_or];refine jt _ _ _ _ _ ?_;simp only [go_sem,jB,jV,jM,true_or,jb]
 ·have hq:doQ y d=⟨0,0,0,0⟩:=by rw [doQ,if_neg hk0,if_neg h1,if_neg h2,if_neg h3,if_neg h4,if_neg h5,if_neg h6,if_neg h7,if_pos hok]
  rw [hq];simp only [go_sem,Bool.not_true,jb];simp only [vh];refine jt _ _ _ _ _ ?_;simp only [go_sem,jB,true_or];refine jt _ _ _ _ _ ?_;simp only [go_sem,jB,jV,jM,true_or,jb]
theorem jtj (y:Yd) (d:Dd) (ht:jK y≤1900000) (hd:jhu d≤2000000):kp Tryz.prog 30 [.agg (jb y),.agg (jo d)] (.tup [(true,jb (doY y d)),(true,jgq (doQ y d))]):=by
 refine js Tryz.func30 jnL (by simp) ?_
 unfold jnV;have ht2:jK y≤2000000:=by omega
 have ht3:jK y≤1990000:=by omega
 have hpl:d.plan.edges.length≤4000000:=by simp only [jhu,jjN] at hd;omega
 simp only [go_sem,jb,jo,ja];intro b2 b3 b4 b5 b7;refine jc (jlE d hd) (by simp only [go_sem,jb,jo,ja,List.cons_append,List.nil_append]) fun η=>?_
 simp only [go_sem,jb,jo,ja,List.cons_append,List.nil_append];cases hk:kf d
 ·have hy:doY y d=y:=by rw [doY,if_pos hk]
  have hq:doQ y d=⟨5,0,0,0⟩:=by rw [doQ,if_pos hk]
  rw [hy,hq];simp only [go_sem,Bool.not_false,jb,jo,ja];refine jc (ku y ht2) (by simp only [go_sem,jb,jo,ja]) fun η=>?_
  simp only [go_sem,jb,jo,ja];simp only [vh];refine jt _ _ _ _ _ ?_;simp only [go_sem,jB,true_or];refine jt _ _ _ _ _ ?_;simp only [go_sem,jB,jV,jM,true_or,jb]
 have hk0:¬kf d=false:=by rw [hk];decide
 simp only [go_sem,Bool.not_true,jb,jo,ja];by_cases h1:d.kind=1
 ·have hy:doY y d=jeK y d.run d.plan:=by rw [doY,if_neg hk0,if_pos h1]
  have hq:doQ y d=⟨jdB y d.run d.plan,0,0,0⟩:=by rw [doQ,if_neg hk0,if_pos h1]
  have e1:(d.kind==1)=true:=by simp [h1]
  rw [hy,hq];simp only [go_sem,jb,jo,ja,e1];refine jc (jly y d.run d.plan ht2 hpl) (by simp only [go_sem,jb,jo,ja,e1]) fun η=>?_
  simp only [go_sem,jb,jo,ja,e1];simp only [vh];refine jt _ _ _ _ _ ?_;simp only [go_sem,jB,true_or];refine jt _ _ _ _ _ ?_;simp only [go_sem,jB,jV,jM,true_or,jb]
 have e1:(d.kind==1)=false:=by simp [h1]
 by_cases h2:d.kind=2
 ·have hy:doY y d=zV y d.worker d.draw:=by rw [doY,if_neg hk0,if_neg h1,if_pos h2]
  have hq:doQ y d=joy y d.worker d.draw:=by rw [doQ,if_neg hk0,if_neg h1,if_pos h2]
  have e2:(d.kind==2)=true:=by simp [h2]
  rw [hy,hq];simp only [go_sem,jb,jo,ja,e1,e2];refine jc (joA y d.worker d.draw ht2) (by simp only [go_sem,jb,jo,ja,e1,e2,jgq]) fun η=>?_
  simp only [go_sem,jb,jo,ja,e1,e2,jgq];simp only [vh];refine jt _ _ _ _ _ ?_;simp only [go_sem,jB,true_or];refine jt _ _ _ _ _ ?_;simp only [go_sem,jB,jV,jM,true_or,jb]
 have e2:(d.kind==2)=false:=by simp [h2]
 by_cases h3:d.kind=3
 ·have hy:doY y d=jdo y d.run d.task d.tri:=by rw [doY,if_neg hk0,if_neg h1,if_neg h2,if_pos h3]
  have hq:doQ y d=⟨jaO y d.run d.task d.tri,0,0,0⟩:=by rw [doQ,if_neg hk0,if_neg h1,if_neg h2,if_pos h3]
  have e3:(d.kind==3)=true:=by simp [h3]
  rw [hy,hq];simp only [go_sem,jb,jo,ja,e1,e2,e3];refine jc (jiS y d.run d.task d.tri ht2) (by simp only [go_sem,jb,jo,ja,e1,e2,e3]) fun η=>?_
  simp only [go_sem,jb,jo,ja,e1,e2,e3];simp only [vh];refine jt _ _ _ _ _ ?_;simp only [go_sem,jB,true_or];refine jt _ _ _ _ _ ?_;simp only [go_sem,jB,jV,jM,true_or,jb]
 have e3:(d.kind==3)=false:=by simp [h3]
 by_cases h4:d.kind=4
 ·have hy:doY y d=jdn y d.run d.task d.tri:=by rw [doY,if_neg hk0,if_neg h1,if_neg h2,if_neg h3,if_pos h4]
  have hq:doQ y d=⟨jaO y d.run d.task d.tri,0,0,0⟩:=by rw [doQ,if_neg hk0,if_neg h1,if_neg h2,if_neg h3,if_pos h4]
  have e4:(d.kind==4)=true:=by simp [h4]
  rw [hy,hq];simp only [go_sem,jb,jo,ja,e1,e2,e3,e4];refine jc (joB y d.run d.task d.tri ht2) (by simp only [go_sem,jb,jo,ja,e1,e2,e3,e4]) fun η=>?_
  simp only [go_sem,jb,jo,ja,e1,e2,e3,e4];simp only [vh];refine jt _ _ _ _ _ ?_;simp only [go_sem,jB,true_or];refine jt _ _ _ _ _ ?_;simp only [go_sem,jB,jV,jM,true_or,jb]
 have e4:(d.kind==4)=false:=by simp [h4]
 by_cases h5:d.kind=5
 ·have hy:doY y d=jb1 y:=by rw [doY,if_neg hk0,if_neg h1,if_neg h2,if_neg h3,if_neg h4,if_pos h5]
  have hq:doQ y d=⟨ja1 y,0,0,0⟩:=by rw [doQ,if_neg hk0,if_neg h1,if_neg h2,if_neg h3,if_neg h4,if_pos h5]
  have e5:(d.kind==5)=true:=by simp [h5]
  rw [hy,hq];simp only [go_sem,jb,jo,ja,e1,e2,e3,e4,e5];refine jc (joz y ht3) (by simp only [go_sem,jb,jo,ja,e1,e2,e3,e4,e5]) fun η=>?_
  simp only [go_sem,jb,jo,ja,e1,e2,e3,e4,e5];simp only [vh];refine jt _ _ _ _ _ ?_;simp only [go_sem,jB,true_or];refine jt _ _ _ _ _ ?_;simp only [go_sem,jB,jV,jM,true_or,jb]
 have e5:(d.kind==5)=false:=by simp [h5]
 by_cases h6:d.kind=6
 ·have hy:doY y d=kT y d.run:=by rw [doY,if_neg hk0,if_neg h1,if_neg h2,if_neg h3,if_neg h4,if_neg h5,if_pos h6]
  have hq:doQ y d=⟨qb y d.run,0,0,0⟩:=by rw [doQ,if_neg hk0,if_neg h1,if_neg h2,if_neg h3,if_neg h4,if_neg h5,if_pos h6]
  have e6:(d.kind==6)=true:=by simp [h6]
  rw [hy,hq];simp only [go_sem,jb,jo,ja,e1,e2,e3,e4,e5,e6];refine jc (jlF y d.run ht2) (by simp only [go_sem,jb,jo,ja,e1,e2,e3,e4,e5,e6]) fun η=>?_
  simp only [go_sem,jb,jo,ja,e1,e2,e3,e4,e5,e6];simp only [vh];refine jt _ _ _ _ _ ?_;simp only [go_sem,jB,true_or];refine jt _ _ _ _ _ ?_;simp only [go_sem,jB,jV,jM,true_or,jb]
 have e6:(d.kind==6)=false:=by simp [h6]
 by_cases h7:d.kind=7
 ·have hy:doY y d=jaw y d.run:=by rw [doY,if_neg hk0,if_neg h1,if_neg h2,if_neg h3,if_neg h4,if_neg h5,if_neg h6,if_pos h7]
  have hq:doQ y d=⟨jal y d.run,0,0,0⟩:=by rw [doQ,if_neg hk0,if_neg h1,if_neg h2,if_neg h3,if_neg h4,if_neg h5,if_neg h6,if_pos h7]
  have e7:(d.kind==7)=true:=by simp [h7]
  rw [hy,hq];simp only [go_sem,jb,jo,ja,e1,e2,e3,e4,e5,e6,e7];refine jc (jlD y d.run ht2) (by simp only [go_sem,jb,jo,ja,e1,e2,e3,e4,e5,e6,e7]) fun η=>?_
  simp only [go_sem,jb,jo,ja,e1,e2,e3,e4,e5,e6,e7];simp only [vh];refine jt _ _ _ _ _ ?_;simp only [go_sem,jB,true_or];refine jt _ _ _ _ _ ?_;simp only [go_sem,jB,jV,jM,true_or,jb]
 have e7:(d.kind==7)=false:=by simp [h7]
 have hy:doY y d=jdj y:=by rw [doY,if_neg hk0,if_neg h1,if_neg h2,if_neg h3,if_neg h4,if_neg h5,if_neg h6,if_neg h7]
 rw [hy];simp only [go_sem,jb,jo,ja,e1,e2,e3,e4,e5,e6,e7];refine jc (jjW y ht3) (by simp only [go_sem,jb,jo,ja,e1,e2,e3,e4,e5,e6,e7]) fun η=>?_
 simp only [go_sem,jb,jo,ja,e1,e2,e3,e4,e5,e6,e7];refine jc (qh y ht2) (by simp only [go_sem,jb,jo,ja,e1,e2,e3,e4,e5,e6,e7]) fun η=>?_
 simp only [go_sem,jb,jo,ja,e1,e2,e3,e4,e5,e6,e7];cases hok:jC y
 ·have hq:doQ y d=⟨8,0,0,0⟩:=by rw [doQ,if_neg hk0,if_neg h1,if_neg h2,if_neg h3,if_neg h4,if_neg h5,if_neg h6,if_neg h7,if_neg (by rw [hok];decide)]
  rw [hq];simp only [go_sem,Bool.not_false,jb];simp only [vh];refine jt _ _ _ _ _ ?_;simp only [go_sem,jB,true_or];refine jt _ _ _ _ _ ?_;simp only [go_sem,jB,jV,jM,true_or,jb]
 ·have hq:doQ y d=⟨0,0,0,0⟩:=by rw [doQ,if_neg hk0,if_neg h1,if_neg h2,if_neg h3,if_neg h4,if_neg h5,if_neg h6,if_neg h7,if_pos hok]
  rw [hq];simp only [go_sem,Bool.not_true,jb];simp only [vh];refine jt _ _ _ _ _ ?_;simp only [go_sem,jB,true_or];refine jt _ _ _ _ _ ?_;simp only [go_sem,jB,jV,jM,true_or,jb]
end Go.Proofs.YtmnpailnelmpiaaGreat
